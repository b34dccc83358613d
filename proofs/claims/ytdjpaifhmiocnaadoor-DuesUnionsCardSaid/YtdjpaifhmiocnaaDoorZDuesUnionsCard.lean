/- Proved: for every input the law DuesUnions returns true, and each argument reads afterwards as it read before. The card says it where the package variables that the law reads hold what their initialization left. -/
import Derived.Test.YtdjpaifhmiocnaaDoorRows
import Derived.WalkKit
import Derived.ProofKit
import Derived.OpenShut
import Derived.ShutString
import Derived.ChangeOld
import Derived.Below
import Derived.Carry
import Derived.Test.YtdjpaifhmiocnaaDoorCards
import Derived.Test.YtdjpaifhmiocnaaDoorTie
import Derived.SevenTiedAt
import Derived.Handed
import Derived.Test.YtdjpaifhmiocnaaDoorA04
set_option linter.unusedSimpArgs false
set_option linter.unusedVariables false
namespace Go.Ab.Dues
open Go.Ab.V
set_option maxRecDepth 100000
/-- The memory after several questions. -/
def memoL (c : Can) (M : List (Nat × Int)) (l : List Nat) : List (Nat × Int) := l.foldl (memo c) M
theorem memoL_ok {c : Can} : ∀ {l : List Nat} {M : List (Nat × Int)}, okM c M → okM c (memoL c M l)
  | [], _, h => h
  | x :: l, _, h => memoL_ok (l := l) (okM_memo h x)
theorem memoL_snoc (c : Can) (M : List (Nat × Int)) (l : List Nat) (i : Nat) (h : i < l.length) : memoL c M (l.take (i + 1)) = memo c (memoL c M (l.take i)) l[i] := fold_take _ _ _ _ h
def ownC (c : Can) (l : List Nat) : List Int := l.map fun s => costS c (2 ^ s)
def gainS (c : Can) (S : Nat) : Int := sumL (ownC c (bitsN S)) - costS c S
theorem sumL_pos : ∀ (l : List Int) (m : Nat), (∀ x ∈ l, 0 ≤ x ∧ x ≤ m) → 0 ≤ sumL l ∧ sumL l ≤ ((l.length * m : Nat) : Int) := fun l m h => by
  have key : ∀ i, i ≤ l.length → 0 ≤ sumL (l.take i) ∧ sumL (l.take i) ≤ ((i * m : Nat) : Int) := by
    intro i
    induction i with
    | zero => intro _; simp [sumL]
    | succ i ih =>
      intro hi
      have := ih (by omega)
      have hx := h _ (List.getElem_mem (show i < l.length by omega))
      rw [sumL_take (show i < l.length by omega), Nat.succ_mul]
      omega
  have := key l.length (Nat.le_refl _)
  rw [List.take_length] at this; exact this
theorem costS_bd {c : Can} (h : okC c) (S : Nat) : 0 ≤ costS c S ∧ costS c S ≤ 10000 := by
  have := sumL_pos ((bitsN (pieces (needK c c.ships.length) S)).map fun p => c.cost.getD p 0) 1000 (fun x hx => by
    obtain ⟨p, _, rfl⟩ := List.mem_map.1 hx
    exact cost_getD h p)
  rw [List.length_map] at this
  have hl := bitsN_len (pieces (needK c c.ships.length) S)
  have h2 : (bitsN (pieces (needK c c.ships.length) S)).length * 1000 ≤ 10 * 1000 := Nat.mul_le_mul_right _ hl
  unfold costS costP
  omega
set_option maxHeartbeats 4000000 in
theorem Gain_ok (c : Can) (h : okC c) (S : Nat) (hS : S < 2 ^ c.ships.length) : VCall cfg 37 [canV c, vi S] [] [] (.tup [vi (gainS c S), vi 0]) [] := by
  have k1 := openSet_ok c h S hS
  have h7 := h.s7
  have hS7 : S < 1024 := Nat.lt_of_lt_of_le hS (show 2 ^ c.ships.length ≤ 2 ^ 10 from Nat.pow_le_pow_right (by decide) (by omega))
  have hk := members_ok S hS7
  have kc := fun M hM s hs => cost_ok c h M hM s hs
  have hbl : (bitsL S).length = (bitsN S).length := by simp [bitsL]
  have hb10 := bitsN_len S
  have hg := bitsL_get S
  have hmem : ∀ i (h : i < (bitsN S).length), (bitsN S)[i] < c.ships.length := fun i hi => bit_lt hS (bitsN_mem.1 (List.getElem_mem hi)).2
  have hcb := fun S => costS_bd h S
  have hl1 : ∀ i, i ≤ (bitsN S).length → (ownC c ((bitsN S).take i)).length = i := fun i hi => by rw [ownC, List.length_map, List.length_take]; omega
  have hl2 : ∀ i (h : i < (bitsN S).length), ownC c ((bitsN S).take (i + 1)) = ownC c ((bitsN S).take i) ++ [costS c (2 ^ (bitsN S)[i])] := fun i hi => by unfold ownC; rw [List.take_add_one, List.getElem?_eq_getElem hi, List.map_append]; rfl
  have hnm := fl_nm c (needK c c.ships.length) p14
  have hfz := fl_frz c (needK c c.ships.length) p14
  generalize flC c (needK c c.ships.length) p14 = FL at *
  have he : esM [] = [] := rfl
  unfold canV at k1 ⊢
  (refine VCall.mk (fn := a37) rfl rfl rfl ?_; simp only [a37, inV, mkB, nmsL, PT.set])
  (repeat (first | refine VC.seq ?_ | refine VC.block ?_ | refine VC.kill ?_ | refine VC.skip ?_ | refine VC.exit ?_ | refine VC.regA ?_ | refine VC.condT ?_ | refine VC.condF ?_))
  refine VC.regCA ?_
  refine VO.moreA ?_
  refine VO.callN (no_orc 70 (by decide)) k1 rfl rfl rfl rfl rfl rfl ?_
  (simp only [filtN, filtNB, mkB, PT.set, VSt.put, PT.filt, noref, norefB, nos, nm, nmL, nmB, nmL_vi, nmL_map_p, nmE_ag, flV_nm, List.nil_append, List.append_nil, Pa.eqb, cond_true, cond_false, Bool.and_true, Bool.not_false, Bool.not_true])
  refine VO.endA ?_
  (repeat (first | refine VC.seq ?_ | refine VC.block ?_ | refine VC.kill ?_ | refine VC.skip ?_ | refine VC.exit ?_ | refine VC.regA ?_ | refine VC.condT ?_ | refine VC.condF ?_))
  (refine VC.regCA ?_; refine VO.moreA ?_; refine VO.call0A (no_orc _ (by decide)) hk ?_; refine VO.endA ?_; (repeat (first | refine VC.seq ?_ | refine VC.block ?_ | refine VC.kill ?_ | refine VC.skip ?_ | refine VC.exit ?_ | refine VC.regA ?_ | refine VC.condT ?_ | refine VC.condF ?_)))
  refine VC.loopG (fun (i : Nat) => ⟨inV [p1, p6, p8, p21, p22, p23] [vi S, .op 0 p16 0, .os 1 p34 i, sl1 (bitsL S), vi (bitsL S).length, vi i] .lf, mkB [(p16, .cells FL), (p14, .map (esM (memoL c [] (((bitsN S).take i).map (2 ^ ·))))), (p34, .cells ((ownC c ((bitsN S).take i)).map vi))] .lf, [], none⟩) (fun n i => n = (bitsN S).length - i ∧ i ≤ (bitsN S).length) (x := 0) ?_ ⟨rfl, Nat.zero_le _⟩ ?_
  · refine G.adoptA (p := p8) 1 p34 ?_
    have e1 : ownC c ((bitsN S).take 0) = [] := rfl
    have e2 : memoL c [] (((bitsN S).take 0).map (2 ^ ·)) = [] := rfl
    (apply Go.Ab.V.G.weak; constructor <;> simp (config := {decide := true}) only [PT.Le, inV, mkB, PT.set, VSt.kill, VSt.adopt, VSt.alloc, PT.filt, PT.map, List.map_cons, List.map_nil, noref, norefB, deadB, deadV, nos, nm, nmL, nmB, nmE, Pa.eqb, cond_true, cond_false, Bool.not_true, Bool.not_false, Bool.and_true, Bool.true_and, nmL_vi, flV_len, flP_len, flV_nm, flV_ok, flV_pv, flP_map, drop_flP, drop_flV, putC_flV, eqV2, eqV3, bneT, bneF, decide_true, decide_false, frzL_vi, frzL_flV, nmE_ag, nmE_at, frzE_ag, frzE_at, ofAg_len, ofAt_len, atL_vi, nmL_map_p, frzL_map_p, okL_p, toPVs_p, repsZ, nmL_reps, putC_vi, get_flV0, get_flV1, Int.toNat_zero, Int.toNat_one, Int.reduceToNat, eqV_slice, eqV_ptr, eqV_func, nilS, nilP, nilF, nmL_append, true_or, or_true, and_self, true_and, and_true, Option.some.injEq, reduceCtorEq, false_or, or_false, VV.p.injEq, PV.at.injEq, Value.int.injEq, sl1, vi, bl1, vb, nilV, e1, e2, he, hnm, sl1])
    (all_goals first | rfl | omega | exact ⟨rfl, by omega⟩)
  rintro n i ⟨hn, hi⟩
  simp only [inV, PT.set, mkB]
  have hli := hl1 i hi
  have hpi := hl2 i
  have hMo : okM c (memoL c [] (((bitsN S).take i).map (2 ^ ·))) := memoL_ok fun q hq => by cases hq
  have hMs : ∀ h : i < (bitsN S).length, memoL c [] (((bitsN S).take (i + 1)).map (2 ^ ·)) = memo c (memoL c [] (((bitsN S).take i).map (2 ^ ·))) (2 ^ (bitsN S)[i]) := fun h => by
    have := memoL_snoc c [] ((bitsN S).map (2 ^ ·)) i (by simpa using h)
    rw [List.map_take, List.map_take, this, List.getElem_map]
  have hend : i = (bitsN S).length → ownC c ((bitsN S).take i) = ownC c (bitsN S) := fun e => by rw [e, List.take_length]
  generalize memoL c [] (((bitsN S).take i).map (2 ^ ·)) = M at *
  generalize ownC c ((bitsN S).take i) = P at *
  (repeat (first | refine VC.seq ?_ | refine VC.block ?_ | refine VC.kill ?_ | refine VC.skip ?_ | refine VC.exit ?_ | refine VC.regA ?_ | refine VC.condT ?_ | refine VC.condF ?_))
  refine VC.condA ?_ ?_ <;> intro h' <;> (simp only [decide_eq_true_eq, decide_eq_false_iff_not, bne_iff_ne, ne_eq, bne_eq_false_iff_eq, beq_iff_eq, beq_eq_false_iff_ne, Bool.not_eq_true', Bool.not_eq_false', Bool.and_eq_true, Bool.or_eq_true, Int.natCast_inj] at h')
  · have h' : i < (bitsN S).length := by omega
    have h'' : i < (bitsL S).length := by omega
    have hpi := hpi h'
    have hMs := hMs h'
    have hgi := hg i h''
    have hm := hmem i h'
    generalize (bitsN S)[i] = s at *
    have k2 := kc M hMo (2 ^ s) (Nat.pow_lt_pow_right (by decide) hm)
    have hes := es_nm M
    have hmod : (s : Int) % 18446744073709551616 = s := by omega
    have hs1 := shl_one (n := s) (by omega)
    generalize hES : esM M = ES at *
    generalize hES2 : esM (memo c M (2 ^ s)) = ES2 at *
    generalize costS c (2 ^ s) = u at *
    (repeat (first | refine VC.seq ?_ | refine VC.block ?_ | refine VC.kill ?_ | refine VC.skip ?_ | refine VC.exit ?_ | refine VC.regA ?_ | refine VC.condT ?_ | refine VC.condF ?_))
    simp only [hgi]
    apply VC.regC
    · (simp (config := {decide := false, maxSteps := 1000000}) (disch := omega) only [vev_call, putC_c0, putC_n0, putC_cs, ble0, List.getElem?_cons_zero, List.getElem?_cons_succ, runU, isCall, wantV, vev, evV, ofVal, ofAtom, atomB, cond_true, cond_false, PT.get, PT.set, PT.filt, PT.map, Option.getD_some, Option.getD_none, ret1V, ret1X, v_ld, v_ias, v_iad, v_fad, v_slsl, v_slarr, v_st, v_app, v_cpy, v_clr, v_len, v_look, v_mset, elsV, partV, newV, free, atV, atI, atL, toVal, cellsV, okV, VSt.put, VSt.kill, VSt.alloc, VSt.frz, VSt.adopt, noref, norefB, deadB, deadV, nos, nm, nmL, nmB, nmE, Pa.eqb, Bool.not_false, Bool.not_true, Bool.and_true, Bool.true_and, Bool.false_and, Bool.and_false, bin, intOps, intBin, cvt, un, goInt, bndsV, bndV, Option.map_some, Option.map_none, List.map_cons, List.map_nil, Int.toNat_natCast, Nat.mul_one, Nat.zero_add, beq_true, beq_false, beq_self_eq_true, List.length_map, List.length_cons, List.length_nil, List.length_append, fillV, pEvV, repsV, List.append_nil, List.nil_append, if_pos, if_neg, reduceIte, List.getElem?_map, List.getElem?_drop, Nat.add_zero, List.getElem?_eq_getElem, Go.IntWalk.i64_in, wrap_u64, tmod_pos, eq_self, true_and, and_true, and_self, List.all_cons, List.all_nil, nmL_vi, flV_len, flP_len, flV_nm, flV_ok, flV_pv, flP_map, drop_flP, drop_flV, putC_flV, eqV2, eqV3, bneT, bneF, decide_true, decide_false, frzL_vi, frzL_flV, nmE_ag, nmE_at, frzE_ag, frzE_at, ofAg_len, ofAt_len, atL_vi, nmL_map_p, frzL_map_p, okL_p, toPVs_p, repsZ, nmL_reps, putC_vi, get_flV0, get_flV1, Int.toNat_zero, Int.toNat_one, Int.reduceToNat, eqV_slice, eqV_ptr, eqV_func, nilS, nilP, nilF, nmL_append, okL_vi, toPVs_vi, toPVs, toPV, frzV, frzL, frzB, resVV, vi, vb, nilV, sl1, bl1, pi, foldV, max2, min2, max_eq, min_eq, Int.tdiv_eq_ediv_of_nonneg, Int.cast_ofNat_Int, Option.isSome_none, Option.isSome_some, Option.isNone_none, Option.isNone_some, and_false, false_and, sl2, sl1P, slP, min_cast, take_map_pi, map_pi, Nat.sub_zero, Nat.zero_mul, List.length_take, decide_eq_true, decide_eq_false, Bool.true_eq_false, Bool.false_eq_true, beqT, beqF, ibeq, ibne, List.take_zero, List.take_succ_cons, List.drop_zero, List.drop_succ_cons, List.drop_nil, List.take_nil, List.cons_append, Bool.not_true, Bool.not_false, hmod, hs1])
      rfl
    have hes2 : nmE ES2 = [] := by rw [← hES2]; exact es_nm _
    refine VO.call [] [(p16, .cells FL), (p14, .map ES)] (mkB [(p34, .cells (P.map vi))] .lf) rfl rfl (no_orc 68 (by decide)) k2 trivial ?_ ?_ rfl rfl rfl rfl rfl rfl rfl ?_
    · simp [mkB, PT.set, PT.Le, VSt.kill]
    · simp [mkB, PT.set, PT.Le, VSt.kill]
    (simp only [filtN, filtNB, mkB, PT.set, VSt.put, PT.filt, noref, norefB, nos, nm, nmL, nmB, nmL_vi, nmL_map_p, nmE_ag, flV_nm, List.nil_append, List.append_nil, Pa.eqb, cond_true, cond_false, Bool.and_true, Bool.not_false, Bool.not_true])
    refine VO.endA ?_
    (repeat (first | refine VC.seq ?_ | refine VC.block ?_ | refine VC.kill ?_ | refine VC.skip ?_ | refine VC.exit ?_ | refine VC.regA ?_ | refine VC.condT ?_ | refine VC.condF ?_))
    refine ⟨_, i + 1, ?_, ⟨rfl, by omega⟩, ?_⟩
    · omega
    · (apply Go.Ab.V.G.weak; constructor <;> simp (config := {decide := true}) only [PT.Le, inV, mkB, PT.set, VSt.kill, VSt.adopt, VSt.alloc, PT.filt, PT.map, List.map_cons, List.map_nil, noref, norefB, deadB, deadV, nos, nm, nmL, nmB, nmE, Pa.eqb, cond_true, cond_false, Bool.not_true, Bool.not_false, Bool.and_true, Bool.true_and, nmL_vi, flV_len, flP_len, flV_nm, flV_ok, flV_pv, flP_map, drop_flP, drop_flV, putC_flV, eqV2, eqV3, bneT, bneF, decide_true, decide_false, frzL_vi, frzL_flV, nmE_ag, nmE_at, frzE_ag, frzE_at, ofAg_len, ofAt_len, atL_vi, nmL_map_p, frzL_map_p, okL_p, toPVs_p, repsZ, nmL_reps, putC_vi, get_flV0, get_flV1, Int.toNat_zero, Int.toNat_one, Int.reduceToNat, eqV_slice, eqV_ptr, eqV_func, nilS, nilP, nilF, nmL_append, true_or, or_true, and_self, true_and, and_true, Option.some.injEq, reduceCtorEq, false_or, or_false, VV.p.injEq, PV.at.injEq, Value.int.injEq, sl1, vi, bl1, vb, nilV, hpi, List.map_append, hnm, hes, hes2, hMs, hES2, sl1])
      (all_goals first | rfl | omega | exact ⟨rfl, by omega⟩)
  · have h' : i = (bitsN S).length := by omega
    have hfin := hend h'
    clear hMs hpi
    have hsum := sum_ok P (by omega) (fun x hx => by
      rw [hfin] at hx
      obtain ⟨s, _, rfl⟩ := List.mem_map.1 hx
      have := hcb (2 ^ s)
      omega)
    have hsb := sumL_pos P 10000 (fun x hx => by
      rw [hfin] at hx
      obtain ⟨s, _, rfl⟩ := List.mem_map.1 hx
      exact hcb (2 ^ s))
    have hll : P.length * 10000 ≤ 10 * 10000 := Nat.mul_le_mul_right _ (by omega)
    have hgv : gainS c S = sumL P - costS c S := by rw [hfin]; rfl
    have hcS := hcb S
    have k2 := kc M hMo S hS
    rw [hgv]
    have hez := fun a cs => es_frz a cs M
    generalize hES : esM M = ES at *
    have hes : nmE ES = [] := by rw [← hES]; exact es_nm _
    generalize hES2 : esM (memo c M S) = ES2 at *
    generalize costS c S = u at *
    generalize sumL P = sp at *
    (repeat (first | refine VC.seq ?_ | refine VC.block ?_ | refine VC.kill ?_ | refine VC.skip ?_ | refine VC.exit ?_ | refine VC.regA ?_ | refine VC.condT ?_ | refine VC.condF ?_))
    refine VC.regCA ?_
    refine VO.moreA ?_
    refine VO.frzA p34 (hb := rfl) (hc := toPVs_vi P) ?_
    simp only [VSt.frz, PT.map, frzL, frzV, frzB, Option.map_some, Option.map_none, hfz, hez, PT.set, PT.filt, VSt.kill, Pa.eqb, cond_true, cond_false, Bool.and_true, Bool.and_false, Bool.false_and, Bool.true_and]
    refine VO.call0A (no_orc 71 (by decide)) hsum ?_ (hl := ?_)
    rotate_left
    · (simp (config := {decide := false, maxSteps := 1000000}) (disch := omega) only [vev_call, putC_c0, putC_n0, putC_cs, ble0, List.getElem?_cons_zero, List.getElem?_cons_succ, runU, isCall, wantV, vev, evV, ofVal, ofAtom, atomB, cond_true, cond_false, PT.get, PT.set, PT.filt, PT.map, Option.getD_some, Option.getD_none, ret1V, ret1X, v_ld, v_ias, v_iad, v_fad, v_slsl, v_slarr, v_st, v_app, v_cpy, v_clr, v_len, v_look, v_mset, elsV, partV, newV, free, atV, atI, atL, toVal, cellsV, okV, VSt.put, VSt.kill, VSt.alloc, VSt.frz, VSt.adopt, noref, norefB, deadB, deadV, nos, nm, nmL, nmB, nmE, Pa.eqb, Bool.not_false, Bool.not_true, Bool.and_true, Bool.true_and, Bool.false_and, Bool.and_false, bin, intOps, intBin, cvt, un, goInt, bndsV, bndV, Option.map_some, Option.map_none, List.map_cons, List.map_nil, Int.toNat_natCast, Nat.mul_one, Nat.zero_add, beq_true, beq_false, beq_self_eq_true, List.length_map, List.length_cons, List.length_nil, List.length_append, fillV, pEvV, repsV, List.append_nil, List.nil_append, if_pos, if_neg, reduceIte, List.getElem?_map, List.getElem?_drop, Nat.add_zero, List.getElem?_eq_getElem, Go.IntWalk.i64_in, wrap_u64, tmod_pos, eq_self, true_and, and_true, and_self, List.all_cons, List.all_nil, nmL_vi, flV_len, flP_len, flV_nm, flV_ok, flV_pv, flP_map, drop_flP, drop_flV, putC_flV, eqV2, eqV3, bneT, bneF, decide_true, decide_false, frzL_vi, frzL_flV, nmE_ag, nmE_at, frzE_ag, frzE_at, ofAg_len, ofAt_len, atL_vi, nmL_map_p, frzL_map_p, okL_p, toPVs_p, repsZ, nmL_reps, putC_vi, get_flV0, get_flV1, Int.toNat_zero, Int.toNat_one, Int.reduceToNat, eqV_slice, eqV_ptr, eqV_func, nilS, nilP, nilF, nmL_append, okL_vi, toPVs_vi, toPVs, toPV, frzV, frzL, frzB, resVV, vi, vb, nilV, sl1, bl1, pi, foldV, max2, min2, max_eq, min_eq, Int.tdiv_eq_ediv_of_nonneg, Int.cast_ofNat_Int, Option.isSome_none, Option.isSome_some, Option.isNone_none, Option.isNone_some, and_false, false_and, sl2, sl1P, slP, min_cast, take_map_pi, map_pi, Nat.sub_zero, Nat.zero_mul, List.length_take, decide_eq_true, decide_eq_false, Bool.true_eq_false, Bool.false_eq_true, beqT, beqF, ibeq, ibne, List.take_zero, List.take_succ_cons, List.drop_zero, List.drop_succ_cons, List.drop_nil, List.take_nil, List.cons_append, Bool.not_true, Bool.not_false, sl1, hli])
    refine VO.moreA ?_
    refine VO.call [] [(p16, .cells FL), (p14, .map ES)] .lf rfl rfl (no_orc 68 (by decide)) k2 trivial ?_ (by trivial) rfl rfl rfl rfl rfl rfl rfl ?_
    · simp [mkB, PT.set, PT.Le, VSt.kill]
    (simp only [filtN, filtNB, mkB, PT.set, VSt.put, PT.filt, noref, norefB, nos, nm, nmL, nmB, nmL_vi, nmL_map_p, nmE_ag, flV_nm, List.nil_append, List.append_nil, Pa.eqb, cond_true, cond_false, Bool.and_true, Bool.not_false, Bool.not_true])
    refine VO.endA ?_
    (repeat (first | refine VC.seq ?_ | refine VC.block ?_ | refine VC.kill ?_ | refine VC.skip ?_ | refine VC.exit ?_ | refine VC.regA ?_ | refine VC.condT ?_ | refine VC.condF ?_))
    exact VC.ret (Fin.A rfl)
end Go.Ab.Dues

namespace Go.Ab.Dues
open Go.Ab.V
set_option maxRecDepth 100000
end Go.Ab.Dues

namespace Go.Ab.Dues
open Go.Ab.V
set_option maxRecDepth 100000
theorem sumL_snoc (l : List Int) (x : Int) : sumL (l ++ [x]) = sumL l + x := by unfold sumL; rw [List.foldl_append]; rfl
end Go.Ab.Dues

namespace Go.Ab.Dues
open Go.Ab.V
set_option maxRecDepth 100000
end Go.Ab.Dues

namespace Go.Ab.Dues
open Go.Ab.V
set_option maxRecDepth 100000
end Go.Ab.Dues

namespace Go.Ab.Dues
open Go.Ab.V
set_option maxRecDepth 100000
def tn (c : Can) : Nat := max 1 (min c.up.length 10)
def upT (c : Can) (i : Nat) : List Int := (List.range i).map fun (k : Nat) => if k = 0 then -1 else c.up.getD k 0 % 18446744073709551616 % k
def costT (c : Can) (i : Nat) : List Int := (List.range i).map fun k => if k < c.cost.length then c.cost.getD k 0 % 18446744073709551616 % 1001 else 1
def shipT (c : Can) (i : Nat) : List Int := (c.ships.take i).map fun x => x % 18446744073709551616 % (tn c : Nat)
def tameC (c : Can) (m : Nat) : Can := ⟨upT c (tn c), costT c (tn c), shipT c m⟩
theorem upT_len (c : Can) (i : Nat) : (upT c i).length = i := by simp [upT]
theorem costT_len (c : Can) (i : Nat) : (costT c i).length = i := by simp [costT]
theorem upT_succ (c : Can) (i : Nat) : upT c (i + 1) = upT c i ++ [if i = 0 then -1 else c.up.getD i 0 % 18446744073709551616 % i] := by simp [upT, List.range_succ]
theorem costT_succ (c : Can) (i : Nat) : costT c (i + 1) = costT c i ++ [if i < c.cost.length then c.cost.getD i 0 % 18446744073709551616 % 1001 else 1] := by simp [costT, List.range_succ]
theorem shipT_succ (c : Can) (i : Nat) (h : i < c.ships.length) : shipT c (i + 1) = shipT c i ++ [c.ships[i] % 18446744073709551616 % (tn c : Nat)] := by
  unfold shipT; rw [List.take_add_one, List.getElem?_eq_getElem h, List.map_append]; rfl
theorem shipT_len (c : Can) (i : Nat) : (shipT c i).length = min i c.ships.length := by simp [shipT]
theorem tame_okC (c : Can) (m : Nat) (hm : m ≤ 7) : okC (tameC c m) := by
  have hn : 1 ≤ tn c ∧ tn c ≤ 10 := by unfold tn; omega
  refine ⟨?_, ?_, ?_, ?_, ?_, ?_, ?_, ?_⟩
  · simp only [tameC, upT_len]; omega
  · simp only [tameC, upT_len]; omega
  · simp only [tameC, upT_len, costT_len]
  · simp only [tameC, shipT_len]; omega
  · intro h; simp [tameC, upT]
  · intro i h hi
    simp only [tameC, upT, List.getElem_map, List.getElem_range, if_neg (show ¬i = 0 by omega)]
    exact ⟨Int.emod_nonneg _ (by omega), Int.emod_lt_of_pos _ (by omega)⟩
  · intro i h
    simp only [tameC, costT, List.getElem_map, List.getElem_range]
    split <;> omega
  · intro x hx
    simp only [tameC, shipT, List.mem_map] at hx
    obtain ⟨y, _, rfl⟩ := hx
    simp only [tameC, upT_len]
    exact ⟨Int.emod_nonneg _ (by omega), Int.emod_lt_of_pos _ (by omega)⟩
set_option maxHeartbeats 8000000 in
theorem tame_ok (c : Can) (m : Nat) (hm : m ≤ 7) (h1 : c.up.length ≤ 9223372036854775807) (h2 : c.cost.length ≤ 9223372036854775807) (h3 : c.ships.length ≤ 9223372036854775807) : VCall cfg 15 [canV c, vi m] [] [] (canV (tameC c m)) [] := by
  have hn : 1 ≤ tn c ∧ tn c ≤ 10 := by unfold tn; omega
  have hnc : max 1 (min (c.up.length : Int) 10) = (tn c : Int) := by unfold tn; omega
  have hnup : ∀ i, i < tn c → 0 < i → i < c.up.length := fun i h0 h1 => by unfold tn at h0; omega
  have hul := upT_len c
  have hcl := costT_len c
  have hus := upT_succ c
  have hcs := costT_succ c
  unfold canV tameC
  generalize hNN : tn c = N at *
  (refine VCall.mk (fn := a15) rfl rfl rfl ?_; simp only [a15, inV, mkB, nmsL, PT.set])
  (repeat (first | refine VC.seq ?_ | refine VC.block ?_ | refine VC.kill ?_ | refine VC.skip ?_ | refine VC.exit ?_ | refine VC.regA ?_ | refine VC.condT ?_ | refine VC.condF ?_))
  simp only [hnc]
  refine VC.ghost (G.adoptBA (p := p5) 0 1 p56 G.refl) ?_
  (simp only [List.nil_append, List.append_nil, VSt.kill, VSt.osob, VSt.adoptB, VSt.adopt, VSt.alloc, PT.filt, norefB, deadB, deadV, PT.map, Option.map_some, Option.map_none, List.map_cons, List.map_nil, noref, nos, nm, nmL, nmB, nmE, Pa.eqb, PT.set, mkB, inV, cond_true, cond_false, Bool.and_true, Bool.not_false, Bool.not_true, List.set_cons_zero, List.set_cons_succ])
  refine VC.ghost (G.adoptBA (p := p5) 1 1 p61 G.refl) ?_
  (simp only [List.nil_append, List.append_nil, VSt.kill, VSt.osob, VSt.adoptB, VSt.adopt, VSt.alloc, PT.filt, norefB, deadB, deadV, PT.map, Option.map_some, Option.map_none, List.map_cons, List.map_nil, noref, nos, nm, nmL, nmB, nmE, Pa.eqb, PT.set, mkB, inV, cond_true, cond_false, Bool.and_true, Bool.not_false, Bool.not_true, List.set_cons_zero, List.set_cons_succ])
  refine VC.ghost (G.adoptBA (p := p5) 2 1 p89 G.refl) ?_
  (simp only [List.nil_append, List.append_nil, VSt.kill, VSt.osob, VSt.adoptB, VSt.adopt, VSt.alloc, PT.filt, norefB, deadB, deadV, PT.map, Option.map_some, Option.map_none, List.map_cons, List.map_nil, noref, nos, nm, nmL, nmB, nmE, Pa.eqb, PT.set, mkB, inV, cond_true, cond_false, Bool.and_true, Bool.not_false, Bool.not_true, List.set_cons_zero, List.set_cons_succ])
  refine VC.loopG (fun (i : Nat) => ⟨inV [p1, p2, p4, p5, p6, p7] [vi m, .op 0 p2 0, .op 0 p4 0, .op 0 p5 0, vi N, vi i] .lf, mkB [(p2, .cells [sl1 c.up, sl1 c.cost, sl1 c.ships]), (p4, .cells [nilV, nilV, nilV]), (p5, .cells [.os 1 p56 i, .os 1 p61 i, .os 1 p89 0]), (p56, .cells ((upT c i).map vi)), (p61, .cells ((costT c i).map vi)), (p89, .cells [])] .lf, [], none⟩) (fun n i => n = N - i ∧ i ≤ N) (x := 0) ?_ ⟨rfl, Nat.zero_le _⟩ ?_
  · have e1 : upT c 0 = [] := rfl
    have e2 : costT c 0 = [] := rfl
    (apply Go.Ab.V.G.weak; constructor <;> simp (config := {decide := true}) only [PT.Le, inV, mkB, PT.set, VSt.kill, VSt.adopt, VSt.alloc, PT.filt, PT.map, List.map_cons, List.map_nil, noref, norefB, deadB, deadV, nos, nm, nmL, nmB, nmE, Pa.eqb, cond_true, cond_false, Bool.not_true, Bool.not_false, Bool.and_true, Bool.true_and, nmL_vi, flV_len, flP_len, flV_nm, flV_ok, flV_pv, flP_map, drop_flP, drop_flV, putC_flV, eqV2, eqV3, bneT, bneF, decide_true, decide_false, frzL_vi, frzL_flV, nmE_ag, nmE_at, frzE_ag, frzE_at, ofAg_len, ofAt_len, atL_vi, nmL_map_p, frzL_map_p, okL_p, toPVs_p, repsZ, nmL_reps, putC_vi, get_flV0, get_flV1, Int.toNat_zero, Int.toNat_one, Int.reduceToNat, eqV_slice, eqV_ptr, eqV_func, nilS, nilP, nilF, nmL_append, true_or, or_true, and_self, true_and, and_true, Option.some.injEq, reduceCtorEq, false_or, or_false, VV.p.injEq, PV.at.injEq, Value.int.injEq, sl1, vi, bl1, vb, nilV, sl1, e1, e2])
    (all_goals first | rfl | omega | exact ⟨rfl, by omega⟩)
  rintro n i ⟨hn', hi⟩
  simp only [inV, PT.set, mkB]
  have hui := hus i
  have hci := hcs i
  have hul1 := hul i
  have hcl1 := hcl i
  have hfin : i = N → upT c i = upT c N ∧ costT c i = costT c N := fun e => by rw [e]; exact ⟨rfl, rfl⟩
  generalize hU : upT c i = U at *
  generalize hC : costT c i = T at *
  (repeat (first | refine VC.seq ?_ | refine VC.block ?_ | refine VC.kill ?_ | refine VC.skip ?_ | refine VC.exit ?_ | refine VC.regA ?_ | refine VC.condT ?_ | refine VC.condF ?_))
  refine VC.condA ?_ ?_ <;> intro h' <;> (simp only [decide_eq_true_eq, decide_eq_false_iff_not, bne_iff_ne, ne_eq, bne_eq_false_iff_eq, beq_iff_eq, beq_eq_false_iff_ne, Bool.not_eq_true', Bool.not_eq_false', Bool.and_eq_true, Bool.or_eq_true, Int.natCast_inj] at h')
  · have h' : i < N := by omega
    have key : ∀ (u k : Int), u = (if i = 0 then -1 else c.up.getD i 0 % 18446744073709551616 % i) → k = (if i < c.cost.length then c.cost.getD i 0 % 18446744073709551616 % 1001 else 1) → upT c (i + 1) = U ++ [u] ∧ costT c (i + 1) = T ++ [k] := fun u k e1 e2 => by rw [hui, hci, e1, e2]; exact ⟨rfl, rfl⟩
    by_cases hi0 : i = 0
    · subst hi0
      by_cases hcc : 0 < c.cost.length
      · have hgd : c.cost.getD 0 0 = c.cost[0] := by rw [List.getD_eq_getElem?_getD, List.getElem?_eq_getElem hcc]; rfl
        obtain ⟨k1, k2⟩ := key (-1) (c.cost[0] % 18446744073709551616 % 1001) (by simp) (by rw [if_pos hcc, hgd])
        (repeat (first | refine VC.seq ?_ | refine VC.block ?_ | refine VC.kill ?_ | refine VC.skip ?_ | refine VC.exit ?_ | refine VC.regA ?_ | refine VC.condT ?_ | refine VC.condF ?_))
        refine ⟨_, 1, ?_, ⟨rfl, by omega⟩, ?_⟩
        · omega
        · (apply Go.Ab.V.G.weak; constructor <;> simp (config := {decide := true}) only [PT.Le, inV, mkB, PT.set, VSt.kill, VSt.adopt, VSt.alloc, PT.filt, PT.map, List.map_cons, List.map_nil, noref, norefB, deadB, deadV, nos, nm, nmL, nmB, nmE, Pa.eqb, cond_true, cond_false, Bool.not_true, Bool.not_false, Bool.and_true, Bool.true_and, nmL_vi, flV_len, flP_len, flV_nm, flV_ok, flV_pv, flP_map, drop_flP, drop_flV, putC_flV, eqV2, eqV3, bneT, bneF, decide_true, decide_false, frzL_vi, frzL_flV, nmE_ag, nmE_at, frzE_ag, frzE_at, ofAg_len, ofAt_len, atL_vi, nmL_map_p, frzL_map_p, okL_p, toPVs_p, repsZ, nmL_reps, putC_vi, get_flV0, get_flV1, Int.toNat_zero, Int.toNat_one, Int.reduceToNat, eqV_slice, eqV_ptr, eqV_func, nilS, nilP, nilF, nmL_append, true_or, or_true, and_self, true_and, and_true, Option.some.injEq, reduceCtorEq, false_or, or_false, VV.p.injEq, PV.at.injEq, Value.int.injEq, sl1, vi, bl1, vb, nilV, sl1, k1, k2, List.map_append])
          (all_goals first | rfl | omega | exact ⟨rfl, by omega⟩)
      · obtain ⟨k1, k2⟩ := key (-1) 1 (by simp) (by rw [if_neg hcc])
        (repeat (first | refine VC.seq ?_ | refine VC.block ?_ | refine VC.kill ?_ | refine VC.skip ?_ | refine VC.exit ?_ | refine VC.regA ?_ | refine VC.condT ?_ | refine VC.condF ?_))
        refine ⟨_, 1, ?_, ⟨rfl, by omega⟩, ?_⟩
        · omega
        · (apply Go.Ab.V.G.weak; constructor <;> simp (config := {decide := true}) only [PT.Le, inV, mkB, PT.set, VSt.kill, VSt.adopt, VSt.alloc, PT.filt, PT.map, List.map_cons, List.map_nil, noref, norefB, deadB, deadV, nos, nm, nmL, nmB, nmE, Pa.eqb, cond_true, cond_false, Bool.not_true, Bool.not_false, Bool.and_true, Bool.true_and, nmL_vi, flV_len, flP_len, flV_nm, flV_ok, flV_pv, flP_map, drop_flP, drop_flV, putC_flV, eqV2, eqV3, bneT, bneF, decide_true, decide_false, frzL_vi, frzL_flV, nmE_ag, nmE_at, frzE_ag, frzE_at, ofAg_len, ofAt_len, atL_vi, nmL_map_p, frzL_map_p, okL_p, toPVs_p, repsZ, nmL_reps, putC_vi, get_flV0, get_flV1, Int.toNat_zero, Int.toNat_one, Int.reduceToNat, eqV_slice, eqV_ptr, eqV_func, nilS, nilP, nilF, nmL_append, true_or, or_true, and_self, true_and, and_true, Option.some.injEq, reduceCtorEq, false_or, or_false, VV.p.injEq, PV.at.injEq, Value.int.injEq, sl1, vi, bl1, vb, nilV, sl1, k1, k2, List.map_append])
          (all_goals first | rfl | omega | exact ⟨rfl, by omega⟩)
    · have hup := hnup i h' (by omega)
      have hgu : c.up.getD i 0 = c.up[i] := by rw [List.getD_eq_getElem?_getD, List.getElem?_eq_getElem hup]; rfl
      have hb0 : 0 ≤ c.up[i] % 18446744073709551616 % (i : Int) := Int.emod_nonneg _ (by omega)
      have hb1 : c.up[i] % 18446744073709551616 % (i : Int) < i := Int.emod_lt_of_pos _ (by omega)
      have hi64 : (i : Int) % 18446744073709551616 = i := by omega
      have hb2 : 0 ≤ c.up[i] % 18446744073709551616 % ((i : Int) % 18446744073709551616) ∧ c.up[i] % 18446744073709551616 % ((i : Int) % 18446744073709551616) < i := by rw [hi64]; exact ⟨hb0, hb1⟩
      by_cases hcc : i < c.cost.length
      · have hgd : c.cost.getD i 0 = c.cost[i] := by rw [List.getD_eq_getElem?_getD, List.getElem?_eq_getElem hcc]; rfl
        obtain ⟨k1, k2⟩ := key (c.up[i] % 18446744073709551616 % i) (c.cost[i] % 18446744073709551616 % 1001) (by rw [if_neg hi0, hgu]) (by rw [if_pos hcc, hgd])
        (repeat (first | refine VC.seq ?_ | refine VC.block ?_ | refine VC.kill ?_ | refine VC.skip ?_ | refine VC.exit ?_ | refine VC.regA ?_ | refine VC.condT ?_ | refine VC.condF ?_))
        simp only [hi64]
        refine ⟨_, i + 1, ?_, ⟨rfl, by omega⟩, ?_⟩
        · omega
        · (apply Go.Ab.V.G.weak; constructor <;> simp (config := {decide := true}) only [PT.Le, inV, mkB, PT.set, VSt.kill, VSt.adopt, VSt.alloc, PT.filt, PT.map, List.map_cons, List.map_nil, noref, norefB, deadB, deadV, nos, nm, nmL, nmB, nmE, Pa.eqb, cond_true, cond_false, Bool.not_true, Bool.not_false, Bool.and_true, Bool.true_and, nmL_vi, flV_len, flP_len, flV_nm, flV_ok, flV_pv, flP_map, drop_flP, drop_flV, putC_flV, eqV2, eqV3, bneT, bneF, decide_true, decide_false, frzL_vi, frzL_flV, nmE_ag, nmE_at, frzE_ag, frzE_at, ofAg_len, ofAt_len, atL_vi, nmL_map_p, frzL_map_p, okL_p, toPVs_p, repsZ, nmL_reps, putC_vi, get_flV0, get_flV1, Int.toNat_zero, Int.toNat_one, Int.reduceToNat, eqV_slice, eqV_ptr, eqV_func, nilS, nilP, nilF, nmL_append, true_or, or_true, and_self, true_and, and_true, Option.some.injEq, reduceCtorEq, false_or, or_false, VV.p.injEq, PV.at.injEq, Value.int.injEq, sl1, vi, bl1, vb, nilV, sl1, k1, k2, List.map_append])
          (all_goals first | rfl | omega | exact ⟨rfl, by omega⟩)
      · obtain ⟨k1, k2⟩ := key (c.up[i] % 18446744073709551616 % i) 1 (by rw [if_neg hi0, hgu]) (by rw [if_neg hcc])
        (repeat (first | refine VC.seq ?_ | refine VC.block ?_ | refine VC.kill ?_ | refine VC.skip ?_ | refine VC.exit ?_ | refine VC.regA ?_ | refine VC.condT ?_ | refine VC.condF ?_))
        simp only [hi64]
        refine ⟨_, i + 1, ?_, ⟨rfl, by omega⟩, ?_⟩
        · omega
        · (apply Go.Ab.V.G.weak; constructor <;> simp (config := {decide := true}) only [PT.Le, inV, mkB, PT.set, VSt.kill, VSt.adopt, VSt.alloc, PT.filt, PT.map, List.map_cons, List.map_nil, noref, norefB, deadB, deadV, nos, nm, nmL, nmB, nmE, Pa.eqb, cond_true, cond_false, Bool.not_true, Bool.not_false, Bool.and_true, Bool.true_and, nmL_vi, flV_len, flP_len, flV_nm, flV_ok, flV_pv, flP_map, drop_flP, drop_flV, putC_flV, eqV2, eqV3, bneT, bneF, decide_true, decide_false, frzL_vi, frzL_flV, nmE_ag, nmE_at, frzE_ag, frzE_at, ofAg_len, ofAt_len, atL_vi, nmL_map_p, frzL_map_p, okL_p, toPVs_p, repsZ, nmL_reps, putC_vi, get_flV0, get_flV1, Int.toNat_zero, Int.toNat_one, Int.reduceToNat, eqV_slice, eqV_ptr, eqV_func, nilS, nilP, nilF, nmL_append, true_or, or_true, and_self, true_and, and_true, Option.some.injEq, reduceCtorEq, false_or, or_false, VV.p.injEq, PV.at.injEq, Value.int.injEq, sl1, vi, bl1, vb, nilV, sl1, k1, k2, List.map_append])
          (all_goals first | rfl | omega | exact ⟨rfl, by omega⟩)
  · obtain ⟨f1, f2⟩ := hfin (by omega)
    have hiN : i = N := by omega
    subst hiN
    rw [← f1, ← f2]
    have hsl := fun k => shipT_len c k
    clear hui hci hus hcs hfin f1 f2
    (repeat (first | refine VC.seq ?_ | refine VC.block ?_ | refine VC.kill ?_ | refine VC.skip ?_ | refine VC.exit ?_ | refine VC.regA ?_ | refine VC.condT ?_ | refine VC.condF ?_))
    refine VC.loopG (fun (k : Nat) => ⟨inV [p1, p2, p4, p5, p6, p12] [vi m, .op 0 p2 0, .op 0 p4 0, .op 0 p5 0, vi i, vi k] .lf, mkB [(p2, .cells [sl1 c.up, sl1 c.cost, sl1 c.ships]), (p4, .cells [nilV, nilV, nilV]), (p5, .cells [.os 1 p56 i, .os 1 p61 i, .os 1 p89 k]), (p56, .cells (U.map vi)), (p61, .cells (T.map vi)), (p89, .cells ((shipT c k).map vi))] .lf, [], none⟩) (fun n k => n = c.ships.length - k ∧ k ≤ c.ships.length ∧ k ≤ m) (x := 0) ?_ ⟨rfl, Nat.zero_le _, Nat.zero_le _⟩ ?_
    · have e1 : shipT c 0 = [] := rfl
      (apply Go.Ab.V.G.weak; constructor <;> simp (config := {decide := true}) only [PT.Le, inV, mkB, PT.set, VSt.kill, VSt.adopt, VSt.alloc, PT.filt, PT.map, List.map_cons, List.map_nil, noref, norefB, deadB, deadV, nos, nm, nmL, nmB, nmE, Pa.eqb, cond_true, cond_false, Bool.not_true, Bool.not_false, Bool.and_true, Bool.true_and, nmL_vi, flV_len, flP_len, flV_nm, flV_ok, flV_pv, flP_map, drop_flP, drop_flV, putC_flV, eqV2, eqV3, bneT, bneF, decide_true, decide_false, frzL_vi, frzL_flV, nmE_ag, nmE_at, frzE_ag, frzE_at, ofAg_len, ofAt_len, atL_vi, nmL_map_p, frzL_map_p, okL_p, toPVs_p, repsZ, nmL_reps, putC_vi, get_flV0, get_flV1, Int.toNat_zero, Int.toNat_one, Int.reduceToNat, eqV_slice, eqV_ptr, eqV_func, nilS, nilP, nilF, nmL_append, true_or, or_true, and_self, true_and, and_true, Option.some.injEq, reduceCtorEq, false_or, or_false, VV.p.injEq, PV.at.injEq, Value.int.injEq, sl1, vi, bl1, vb, nilV, sl1, e1])
      (all_goals first | rfl | omega | exact ⟨rfl, by omega⟩)
    rintro n2 k ⟨hn2, hk, hkm⟩
    simp only [inV, PT.set, mkB]
    have hlk := hsl k
    rw [Nat.min_eq_left hk] at hlk
    have hss := shipT_succ c k
    have hfin2 : (k = m ∨ k = c.ships.length) → shipT c m = shipT c k := fun e => by
      unfold shipT
      rcases e with rfl | rfl
      · rfl
      · rw [List.take_of_length_le (by omega), List.take_of_length_le (by omega)]
    rw [hNN] at hss
    have hi64 : (i : Int) % 18446744073709551616 = i := by omega
    generalize hP : shipT c k = P at *
    by_cases hk1 : k < c.ships.length
    · by_cases hk2 : k < m
      · have hss := hss hk1
        have hb0 : 0 ≤ c.ships[k] % 18446744073709551616 % (i : Int) := Int.emod_nonneg _ (by omega)
        have hb1 : c.ships[k] % 18446744073709551616 % (i : Int) < i := Int.emod_lt_of_pos _ (by omega)
        have hb2 : 0 ≤ c.ships[k] % 18446744073709551616 % ((i : Int) % 18446744073709551616) ∧ c.ships[k] % 18446744073709551616 % ((i : Int) % 18446744073709551616) < i := by rw [hi64]; exact ⟨hb0, hb1⟩
        clear hfin2
        (repeat (first | refine VC.seq ?_ | refine VC.block ?_ | refine VC.kill ?_ | refine VC.skip ?_ | refine VC.exit ?_ | refine VC.regA ?_ | refine VC.condT ?_ | refine VC.condF ?_))
        simp only [hi64]
        refine ⟨_, k + 1, ?_, ⟨rfl, by omega, by omega⟩, ?_⟩
        · omega
        · (apply Go.Ab.V.G.weak; constructor <;> simp (config := {decide := true}) only [PT.Le, inV, mkB, PT.set, VSt.kill, VSt.adopt, VSt.alloc, PT.filt, PT.map, List.map_cons, List.map_nil, noref, norefB, deadB, deadV, nos, nm, nmL, nmB, nmE, Pa.eqb, cond_true, cond_false, Bool.not_true, Bool.not_false, Bool.and_true, Bool.true_and, nmL_vi, flV_len, flP_len, flV_nm, flV_ok, flV_pv, flP_map, drop_flP, drop_flV, putC_flV, eqV2, eqV3, bneT, bneF, decide_true, decide_false, frzL_vi, frzL_flV, nmE_ag, nmE_at, frzE_ag, frzE_at, ofAg_len, ofAt_len, atL_vi, nmL_map_p, frzL_map_p, okL_p, toPVs_p, repsZ, nmL_reps, putC_vi, get_flV0, get_flV1, Int.toNat_zero, Int.toNat_one, Int.reduceToNat, eqV_slice, eqV_ptr, eqV_func, nilS, nilP, nilF, nmL_append, true_or, or_true, and_self, true_and, and_true, Option.some.injEq, reduceCtorEq, false_or, or_false, VV.p.injEq, PV.at.injEq, Value.int.injEq, sl1, vi, bl1, vb, nilV, sl1, hss, List.map_append])
          (all_goals first | rfl | omega | exact ⟨rfl, by omega⟩)
      · have hf := hfin2 (.inl (by omega))
        rw [hf]
        clear hfin2 hss
        (repeat (first | refine VC.seq ?_ | refine VC.block ?_ | refine VC.kill ?_ | refine VC.skip ?_ | refine VC.exit ?_ | refine VC.regA ?_ | refine VC.condT ?_ | refine VC.condF ?_))
        refine VC.ret (Fin.frzA (cs := P.map pi) p89 (hb := rfl) (hc := toPVs_vi _) (Fin.frzA (cs := T.map pi) p61 (hb := rfl) (hc := by rw [frzL_vi]; exact toPVs_vi T) (Fin.frzA (cs := U.map pi) p56 (hb := rfl) (hc := by rw [frzL_vi, frzL_vi]; exact toPVs_vi U) (Fin.A ?_))))
        simp only [sl1, hul1, hcl1, hlk]; rfl
    · have hf := hfin2 (.inr (by omega))
      rw [hf]
      clear hfin2 hss
      (repeat (first | refine VC.seq ?_ | refine VC.block ?_ | refine VC.kill ?_ | refine VC.skip ?_ | refine VC.exit ?_ | refine VC.regA ?_ | refine VC.condT ?_ | refine VC.condF ?_))
      refine VC.ret (Fin.frzA (cs := P.map pi) p89 (hb := rfl) (hc := toPVs_vi _) (Fin.frzA (cs := T.map pi) p61 (hb := rfl) (hc := by rw [frzL_vi]; exact toPVs_vi T) (Fin.frzA (cs := U.map pi) p56 (hb := rfl) (hc := by rw [frzL_vi, frzL_vi]; exact toPVs_vi U) (Fin.A ?_))))
      simp only [sl1, hul1, hcl1, hlk]; rfl
end Go.Ab.Dues

namespace Go.Ab.Dues
open Go.Ab.V
set_option maxRecDepth 100000
theorem shlu_one {n : Nat} (h : n < 62) : shlA .u64 1 (n : Int) = some (.int .u64 ((2 ^ n : Nat) : Int)) := by
  have hp : 2 ^ n < 2 ^ 62 := Nat.pow_lt_pow_right (by decide) h
  have hp : 2 ^ n < 4611686018427387904 := hp
  unfold shlA
  rw [if_neg (by omega), bits_u64, Int.toNat_natCast, Nat.min_eq_left (by omega), Int.one_mul]
  have e : ((2 : Int) ^ n) = ((2 ^ n : Nat) : Int) := by simp
  rw [e]
  generalize 2 ^ n = m at *
  rw [wrapU (by omega) (by omega)]
end Go.Ab.Dues

namespace Go.Ab.Dues
open Go.Ab.V
set_option maxRecDepth 100000
theorem sum_sq (f : Nat → Int) (q : Nat → Bool) : ∀ n, sumL (((List.range n).filter q).map f) = sq f q n
  | 0 => rfl
  | n + 1 => by
    have ih := sum_sq f q n
    rw [List.range_succ, List.filter_append, List.map_append]
    simp only [sq]
    cases hq : q n
    · rw [show List.filter q [n] = [] from by simp [hq], List.map_nil, List.append_nil, ih, cond_false]; omega
    · rw [show List.filter q [n] = [n] from by simp [hq], List.map_cons, List.map_nil, sumL_snoc, ih, cond_true]
def nbC (c : Can) (s i : Nat) : Bool := ((needK c c.ships.length).getD s 0).testBit i
def ftC (c : Can) (p : Nat) : Int := c.cost.getD p 0
def ownQ (c : Can) (s : Nat) : Int := sq (ftC c) (nbC c s) 10
theorem pieces_un (c : Can) (S i : Nat) : (pieces (needK c c.ships.length) S).testBit i = unB (nbC c) (fun s => S.testBit s) 10 i := by
  rw [Bool.eq_iff_iff, pieces_bit]
  unfold unB
  rw [List.any_eq_true]
  constructor
  · rintro ⟨s, hs, e⟩
    obtain ⟨h1, h2⟩ := bitsN_mem.1 hs
    exact ⟨s, List.mem_range.2 h1, by rw [Bool.and_eq_true]; exact ⟨h2, e⟩⟩
  · rintro ⟨s, hs, e⟩
    rw [Bool.and_eq_true] at e
    exact ⟨s, bitsN_mem.2 ⟨List.mem_range.1 hs, e.1⟩, e.2⟩
theorem costS_sq (c : Can) (S : Nat) : costS c S = sq (ftC c) (unB (nbC c) (fun s => S.testBit s) 10) 10 := by
  unfold costS costP bitsN
  rw [sum_sq (fun p => c.cost.getD p 0)]
  exact sq_congr (fun i => pieces_un c S i) 10
theorem costS_own (c : Can) {s : Nat} (hs : s < 10) : costS c (2 ^ s) = ownQ c s := by
  rw [costS_sq]
  refine sq_congr (fun i => ?_) 10
  unfold unB
  rw [Bool.eq_iff_iff, List.any_eq_true]
  constructor
  · rintro ⟨t, ht, e⟩
    rw [Bool.and_eq_true] at e
    have e1 : (2 ^ s).testBit t = true := e.1
    rw [Nat.testBit_two_pow, decide_eq_true_eq] at e1
    rw [e1]; exact e.2
  · intro e
    exact ⟨s, List.mem_range.2 hs, by rw [Bool.and_eq_true]; exact ⟨by show (2 ^ s).testBit s = true; rw [Nat.testBit_two_pow]; simp, e⟩⟩
theorem gainS_sq (c : Can) (S : Nat) : gainS c S = sq (ownQ c) (fun s => S.testBit s) 10 - sq (ftC c) (unB (nbC c) (fun s => S.testBit s) 10) 10 := by
  unfold gainS
  rw [costS_sq]
  congr 1
  unfold ownC
  rw [show (bitsN S).map (fun s => costS c (2 ^ s)) = (bitsN S).map (ownQ c) from List.map_congr_left fun s hs => costS_own c (bitsN_mem.1 hs).1]
  exact sum_sq (ownQ c) (fun s => S.testBit s) 10
theorem ft_pos {c : Can} (h : okC c) (i : Nat) : 0 ≤ ftC c i := (cost_getD h i).1
theorem unions {c : Can} (h : okC c) (x y : Nat) :
    costS c (x ||| y) + costS c (x &&& y) ≤ costS c x + costS c y ∧ costS c x ≤ costS c (x ||| y) ∧ costS c (x &&& y) ≤ costS c y ∧
    0 ≤ gainS c (x &&& y) ∧ gainS c (x &&& y) ≤ gainS c x ∧ gainS c x ≤ gainS c (x ||| y) := by
  have eo : (fun s => (x ||| y).testBit s) = fun s => x.testBit s || y.testBit s := funext fun s => Nat.testBit_or ..
  have ea : (fun s => (x &&& y).testBit s) = fun s => x.testBit s && y.testBit s := funext fun s => Nat.testBit_and ..
  have hf := ft_pos h
  have ho : ∀ s, ownQ c s = sq (ftC c) (nbC c s) 10 := fun s => rfl
  simp only [costS_sq, gainS_sq, eo, ea]
  have h1 := cost_sub hf (nbC c) (fun s => x.testBit s) (fun s => y.testBit s) 10 10
  have h2 := cost_mono hf (nbC c) (q := fun s => x.testBit s) (q' := fun s => x.testBit s || y.testBit s) (fun i hi => by rw [hi]; rfl) 10 10
  have h3 := cost_mono hf (nbC c) (q := fun s => x.testBit s && y.testBit s) (q' := fun s => y.testBit s) (fun i hi => (Bool.and_eq_true _ _ ▸ hi).2) 10 10
  have h4 := cost_own hf (nbC c) (ownQ c) 10 ho (fun s => x.testBit s && y.testBit s) 10
  have h5 := gain_mono hf (nbC c) (ownQ c) 10 ho (q := fun s => x.testBit s && y.testBit s) (q' := fun s => x.testBit s) (fun i hi => (Bool.and_eq_true _ _ ▸ hi).1) 10
  have h6 := gain_mono hf (nbC c) (ownQ c) 10 ho (q := fun s => x.testBit s) (q' := fun s => x.testBit s || y.testBit s) (fun i hi => by rw [hi]; rfl) 10
  exact ⟨h1, h2, h3, by omega, h5, h6⟩
end Go.Ab.Dues

namespace Go.Ab.Dues
open Go.Ab.V
set_option maxRecDepth 100000
set_option maxHeartbeats 16000000 in
theorem unions_law (c0 : Can) (a b : Int) (h1 : c0.up.length ≤ 9223372036854775807) (h2 : c0.cost.length ≤ 9223372036854775807) (h3 : c0.ships.length ≤ 9223372036854775807) : VCall cfg 9 [canV c0, .agg [vi a, vi b]] [] [] (vb true) [] := by
  have k1 := tame_ok c0 7 (by decide) h1 h2 h3
  have h := tame_okC c0 7 (by decide)
  generalize tameC c0 7 = c at *
  have h7 := h.s7
  have h10 := h.n10
  have hcl := h.cl
  have k2 := given_ok c (by omega) (by omega) (by omega)
  have hshl := shlu_one (n := c.ships.length) (by omega)
  have hpw : 2 ^ c.ships.length ≤ 2 ^ 7 := Nat.pow_le_pow_right (by decide) h7
  have hpw : 2 ^ c.ships.length ≤ 128 := hpw
  have hpw0 : 0 < 2 ^ c.ships.length := Nat.pow_pos (by decide)
  have hE := fun n : Int => Int.emod_nonneg (n % 18446744073709551616) (show ((2 ^ c.ships.length : Nat) : Int) ≠ 0 by omega)
  have hF := fun n : Int => Int.emod_lt_of_pos (n % 18446744073709551616) (show 0 < ((2 ^ c.ships.length : Nat) : Int) by omega)
  obtain ⟨x, hx⟩ := Int.eq_ofNat_of_zero_le (hE a)
  obtain ⟨y, hy⟩ := Int.eq_ofNat_of_zero_le (hE b)
  have hx0 := hE a
  have hx1 := hF a
  have hy0 := hE b
  have hy1 := hF b
  have hxw : x < 2 ^ c.ships.length := by omega
  have hyw : y < 2 ^ c.ships.length := by omega
  have how : x ||| y < 2 ^ c.ships.length := Nat.or_lt_two_pow hxw hyw
  have haw : x &&& y < 2 ^ c.ships.length := Nat.lt_of_le_of_lt Nat.and_le_left hxw
  have hor1 := or_i64 (a := x) (b := y) (by omega) (by omega)
  have hand1 := and_i64 (a := x) (b := y) (by omega) (by omega)
  have u := unions h x y
  have q1 := CostOf_ok c h x hxw
  have q2 := CostOf_ok c h y hyw
  have q3 := CostOf_ok c h _ how
  have q4 := CostOf_ok c h _ haw
  have g1 := Gain_ok c h x hxw
  have g2 := Gain_ok c h _ haw
  have g3 := Gain_ok c h _ how
  have b1 := costS_bd h x
  have b2 := costS_bd h y
  have b3 := costS_bd h (x ||| y)
  have b4 := costS_bd h (x &&& y)
  clear hE hF
  generalize 2 ^ c.ships.length = W at *
  generalize costS c (x ||| y) = co at *
  generalize costS c (x &&& y) = ca at *
  generalize costS c x = cx at *
  generalize costS c y = cy at *
  generalize gainS c (x ||| y) = go at *
  generalize gainS c (x &&& y) = ga at *
  generalize gainS c x = gx at *
  generalize (x ||| y) = o at *
  generalize (x &&& y) = d at *
  obtain ⟨u1, u2, u3, u4, u5, u6⟩ := u
  unfold canV at *
  (refine VCall.mk (fn := a9) rfl rfl rfl ?_; simp only [a9, inV, mkB, nmsL, PT.set])
  (repeat (first | refine VC.seq ?_ | refine VC.block ?_ | refine VC.kill ?_ | refine VC.skip ?_ | refine VC.exit ?_ | refine VC.regA ?_ | refine VC.condT ?_ | refine VC.condF ?_))
  (refine VC.regCA ?_; refine VO.moreA ?_; refine VO.call0A (no_orc _ (by decide)) k1 ?_; refine VO.endA ?_; (repeat (first | refine VC.seq ?_ | refine VC.block ?_ | refine VC.kill ?_ | refine VC.skip ?_ | refine VC.exit ?_ | refine VC.regA ?_ | refine VC.condT ?_ | refine VC.condF ?_)))
  (refine VC.regCA ?_; refine VO.moreA ?_; refine VO.call0A (no_orc _ (by decide)) k2 ?_)
  refine VO.endA ?_
  refine VC.kill ?_
  refine VC.seq ?_
  ((try (apply VC.regU; · ((simp (config := {decide := false, maxSteps := 1000000}) (disch := omega) only [vev_call, putC_c0, putC_n0, putC_cs, ble0, List.getElem?_cons_zero, List.getElem?_cons_succ, runU, isCall, wantV, vev, evV, ofVal, ofAtom, atomB, cond_true, cond_false, PT.get, PT.set, PT.filt, PT.map, Option.getD_some, Option.getD_none, ret1V, ret1X, v_ld, v_ias, v_iad, v_fad, v_slsl, v_slarr, v_st, v_app, v_cpy, v_clr, v_len, v_look, v_mset, elsV, partV, newV, free, atV, atI, atL, toVal, cellsV, okV, VSt.put, VSt.kill, VSt.alloc, VSt.frz, VSt.adopt, noref, norefB, deadB, deadV, nos, nm, nmL, nmB, nmE, Pa.eqb, Bool.not_false, Bool.not_true, Bool.and_true, Bool.true_and, Bool.false_and, Bool.and_false, bin, intOps, intBin, cvt, un, goInt, bndsV, bndV, Option.map_some, Option.map_none, List.map_cons, List.map_nil, Int.toNat_natCast, Nat.mul_one, Nat.zero_add, beq_true, beq_false, beq_self_eq_true, List.length_map, List.length_cons, List.length_nil, List.length_append, fillV, pEvV, repsV, List.append_nil, List.nil_append, if_pos, if_neg, reduceIte, List.getElem?_map, List.getElem?_drop, Nat.add_zero, List.getElem?_eq_getElem, Go.IntWalk.i64_in, wrap_u64, tmod_pos, eq_self, true_and, and_true, and_self, List.all_cons, List.all_nil, nmL_vi, flV_len, flP_len, flV_nm, flV_ok, flV_pv, flP_map, drop_flP, drop_flV, putC_flV, eqV2, eqV3, bneT, bneF, decide_true, decide_false, frzL_vi, frzL_flV, nmE_ag, nmE_at, frzE_ag, frzE_at, ofAg_len, ofAt_len, atL_vi, nmL_map_p, frzL_map_p, okL_p, toPVs_p, repsZ, nmL_reps, putC_vi, get_flV0, get_flV1, Int.toNat_zero, Int.toNat_one, Int.reduceToNat, eqV_slice, eqV_ptr, eqV_func, nilS, nilP, nilF, nmL_append, okL_vi, toPVs_vi, toPVs, toPV, frzV, frzL, frzB, resVV, vi, vb, nilV, sl1, bl1, pi, foldV, max2, min2, max_eq, min_eq, Int.tdiv_eq_ediv_of_nonneg, Int.cast_ofNat_Int, Option.isSome_none, Option.isSome_some, Option.isNone_none, Option.isNone_some, and_false, false_and, sl2, sl1P, slP, min_cast, take_map_pi, map_pi, Nat.sub_zero, Nat.zero_mul, List.length_take, decide_eq_true, decide_eq_false, Bool.true_eq_false, Bool.false_eq_true, beqT, beqF, ibeq, ibne, List.take_zero, List.take_succ_cons, List.drop_zero, List.drop_succ_cons, List.drop_nil, List.take_nil, List.cons_append, Bool.not_true, Bool.not_false, hshl]); rfl))); (repeat (first | refine VC.seq ?_ | refine VC.block ?_ | refine VC.kill ?_ | refine VC.skip ?_ | refine VC.exit ?_ | refine VC.regA ?_ | refine VC.condT ?_ | refine VC.condF ?_)))
  rw [hx, hy]
  (refine VC.regCA ?_; refine VO.moreA ?_; refine VO.call0A (no_orc _ (by decide)) q1 ?_; refine VO.endA ?_; (repeat (first | refine VC.seq ?_ | refine VC.block ?_ | refine VC.kill ?_ | refine VC.skip ?_ | refine VC.exit ?_ | refine VC.regA ?_ | refine VC.condT ?_ | refine VC.condF ?_)))
  (refine VC.regCA ?_; refine VO.moreA ?_; refine VO.call0A (no_orc _ (by decide)) q2 ?_; refine VO.endA ?_; (repeat (first | refine VC.seq ?_ | refine VC.block ?_ | refine VC.kill ?_ | refine VC.skip ?_ | refine VC.exit ?_ | refine VC.regA ?_ | refine VC.condT ?_ | refine VC.condF ?_)))
  have d1 : decide (co + ca ≤ cx + cy) = true := decide_eq_true u1
  have d2 : decide (cx ≤ co) = true := decide_eq_true u2
  have d3 : decide (ca ≤ cy) = true := decide_eq_true u3
  have d4 : decide (0 ≤ ga) = true := decide_eq_true u4
  have d5 : decide (ga ≤ gx) = true := decide_eq_true u5
  have d6 : decide (gx ≤ go) = true := decide_eq_true u6
  refine VC.regCA ?_
  refine VO.moreA ?_
  rw [hor1]
  refine VO.call0A (no_orc _ (by decide)) q3 ?_
  refine VO.endA ?_
  (repeat (first | refine VC.seq ?_ | refine VC.block ?_ | refine VC.kill ?_ | refine VC.skip ?_ | refine VC.exit ?_ | refine VC.regA ?_ | refine VC.condT ?_ | refine VC.condF ?_))
  refine VC.regCA ?_
  refine VO.moreA ?_
  rw [hand1]
  refine VO.call0A (no_orc _ (by decide)) q4 ?_
  refine VO.endA ?_
  (repeat (first | refine VC.seq ?_ | refine VC.block ?_ | refine VC.kill ?_ | refine VC.skip ?_ | refine VC.exit ?_ | refine VC.regA ?_ | refine VC.condT ?_ | refine VC.condF ?_))
  (refine VC.regCA ?_; refine VO.moreA ?_; refine VO.call0A (no_orc _ (by decide)) g1 ?_; refine VO.endA ?_; (repeat (first | refine VC.seq ?_ | refine VC.block ?_ | refine VC.kill ?_ | refine VC.skip ?_ | refine VC.exit ?_ | refine VC.regA ?_ | refine VC.condT ?_ | refine VC.condF ?_)))
  refine VC.regCA ?_
  refine VO.moreA ?_
  rw [hand1]
  refine VO.call0A (no_orc _ (by decide)) g2 ?_
  refine VO.endA ?_
  (repeat (first | refine VC.seq ?_ | refine VC.block ?_ | refine VC.kill ?_ | refine VC.skip ?_ | refine VC.exit ?_ | refine VC.regA ?_ | refine VC.condT ?_ | refine VC.condF ?_))
  refine VC.regCA ?_
  refine VO.moreA ?_
  rw [hor1]
  refine VO.call0A (no_orc _ (by decide)) g3 ?_
  refine VO.endA ?_
  (repeat (first | refine VC.seq ?_ | refine VC.block ?_ | refine VC.kill ?_ | refine VC.skip ?_ | refine VC.exit ?_ | refine VC.regA ?_ | refine VC.condT ?_ | refine VC.condF ?_))
  refine VC.regCA ?_
  refine VO.moreA ?_
  refine VO.knownA (.bool true) rfl ?_
  refine VO.endA ?_
  (repeat (first | refine VC.seq ?_ | refine VC.block ?_ | refine VC.kill ?_ | refine VC.skip ?_ | refine VC.exit ?_ | refine VC.regA ?_ | refine VC.condT ?_ | refine VC.condF ?_))
  exact VC.ret (Fin.A rfl)
end Go.Ab.Dues

namespace Go.Proofs.YtdjpaifhmiocnaaDoor.duesUnions
open Go.ChangeShapes Go.WideShapes Go.ChangeAt Go.RowKit
open Go.ChangeMaps (open_string shut_string)
open Go.Ab Go.Ab.V Go.Ab.Dues
set_option linter.unusedVariables false
theorem own : ownKnob Tryd.prog.godebug = none := by kernel_rfl
theorem laidOut : laidOutB Tryd.prog = true := by kernel_rfl
theorem orc : OrcOK Tryd.prog cfg := orcOK mixed tab0 (fun h => by cases h) rfl awake_closed
theorem tab : TabOK Tryd.prog cfg := tab0
set_option maxRecDepth 100000 in
theorem lifted (os : Os) (started : os.Started) (H : Type) (enc : TypeId × Value → H) :
    ReturnsInHanded {} Tryd.checked os 9 .any (fun w args => (Rows.duesUnionsSpec.pre enc Tryd.prog Tryd.f9 Rows.duesUnionsRow.domain false w args ∧ laidMetH Tryd.prog Rows.duesUnionsRow.laid w) ∧ sizedMet enc Tryd.prog Tryd.f9 (OpenSpec.ofChange Rows.duesUnionsSpec) false w args) (Rows.duesUnionsSpec.post enc Tryd.prog Tryd.f9 false true false false) := by
  refine returnsInHanded_of_change_and (C := Tryd.checked) (X := fun w _ => laidMetH Tryd.prog Rows.duesUnionsRow.laid w) (fun _ _ _ hh h => h.of_heap hh) own started (by kernel_rfl) Tryd.func9
    (ChangeSpec.witness_at (enc := enc) (C := Tryd.checked) (os := os) (X := fun w _ => laidMetH Tryd.prog Rows.duesUnionsRow.laid w) false (laidWorld os) #[.agg #[.slice none 0 0, .slice none 0 0, .slice none 0 0], .agg #[.int .i64 0, .int .i64 0]] 8 rfl (by kernel_rfl) (by kernel_rfl) (by kernel_rfl) (by kernel_rfl) (by kernel_rfl) (laidWorld_met os _)) ?_
  intro W base args ds gs before hval0 hW hcnd _ hL _
  have hval : ∀ (j : Nat) t v, Tryd.f9.params[j]? = some t → args[j]? = some v → Value.okWide Tryd.prog W .any base t v := hval0
  have hW' := hW
  obtain ⟨p, q, hA0, hV, rfl, hfz, hnd⟩ := hW
  have hA : DataW.TrodAll enc Tryd.prog W 0 (fun _ => true) true Tryd.f9.params.toList args.toList ds p := hA0
  rw [Tryd.params9] at hA hval
  obtain ⟨v0, vs0, d0, ds0, p0, q0, hargs, rfl, rfl, h0, r0⟩ := trodAll_cons hA
  obtain ⟨v1, vs1, d1, ds1, p1, q1, rfl, rfl, rfl, h1, r1⟩ := trodAll_cons r0
  obtain ⟨rfl, rfl, rfl⟩ := trodAll_nil r1
  obtain rfl : args = #[v0, v1] := by cases args; simp_all
  obtain ⟨rfl, rfl⟩ := trodVars_none hV
  obtain ⟨c0, rfl⟩ := V.okWide_st Tryd.underlying24 (hval 0 24 v0 rfl rfl)
  have k0 := h0
  have lt0 : ∀ x ∈ p0, x.block < W.heap.size := by obtain ⟨m, hm⟩ := k0; exact DataW.trod_lt m _ _ _ hm
  have lv0 : V.Leaves Tryd.prog 24 [.sl [.int .i64], .sl [.int .i64], .sl [.int .i64]] := (.st Tryd.underlying24 (.cons rfl (.sl Tryd.underlying22 (.int Tryd.underlying3) (by kernel_rfl) (by simp)) (by kernel_rfl) (.cons rfl (.sl Tryd.underlying22 (.int Tryd.underlying3) (by kernel_rfl) (by simp)) (by kernel_rfl) (.cons rfl (.sl Tryd.underlying22 (.int Tryd.underlying3) (by kernel_rfl) (by simp)) (by kernel_rfl) .nil))) (by kernel_rfl))
  obtain ⟨ds0_0, wt0_0, zr0, zv0⟩ := V.arg_agg (show V.OpenR W [.sl [.int .i64], .sl [.int .i64], .sl [.int .i64]] c0.toList from by obtain ⟨fuel, hf⟩ := h0; exact V.open_all lv0 hf)
  obtain ⟨z0_0, ds0_1, eq0_0, zl0_0, zb0_0, wt0_1⟩ := V.wt_sl1 wt0_0
  obtain ⟨z0_1, ds0_2, eq0_1, zl0_1, zb0_1, wt0_2⟩ := V.wt_sl1 wt0_1
  obtain ⟨z0_2, ds0_3, eq0_2, zl0_2, zb0_2, wt0_3⟩ := V.wt_sl1 wt0_2
  rw [eq0_0, eq0_1, eq0_2, V.wt_nil wt0_3] at zv0
  obtain ⟨c1, rfl⟩ := V.okWide_arr Tryd.underlying58 (hval 1 58 v1 rfl rfl)
  have k1 := h1
  have lt1 : ∀ x ∈ p1, x.block < W.heap.size := by obtain ⟨m, hm⟩ := k1; exact DataW.trod_lt m _ _ _ hm
  have lv1 : V.Leaves Tryd.prog 58 [.int .i64, .int .i64] := (.arr Tryd.underlying58 (.int Tryd.underlying3) (by kernel_rfl) (by kernel_rfl))
  obtain ⟨ds1_0, wt1_0, zr1, zv1⟩ := V.arg_agg (show V.OpenR W [.int .i64, .int .i64] c1.toList from by obtain ⟨fuel, hf⟩ := h1; exact V.open_all lv1 hf)
  obtain ⟨z1_0, ds1_1, eq1_0, zb1_0, wt1_1⟩ := V.wt_int wt1_0
  obtain ⟨z1_1, ds1_2, eq1_1, zb1_1, wt1_2⟩ := V.wt_int wt1_1
  rw [eq1_0, eq1_1, V.wt_nil wt1_2] at zv1
  clear hA0 hval0
  refine (calls_true mixed tab orc (unions_law ⟨_, _, _⟩ _ _ zl0_0 zl0_1 zl0_2) (hgl := glob_of_laid hL) (All2.cons zv0 (All2.cons zv1 .nil)) (LR.cons zr0 (LR.cons zr1 (LR.nil _)))).mono fun e W' ⟨he, bel⟩ => ?_
  subst he
  exact ⟨_, rfl, _, _, _, [], _, [], hW', trodAll_mk1 (shut_bool Tryd.underlying4 _), (trodAll_cons_mk (Below.trod laidOut (by kernel_rfl) (of_decide_eq_true (by kernel_rfl)) k0 bel lt0) (trodAll_cons_mk (Below.trod laidOut (by kernel_rfl) (of_decide_eq_true (by kernel_rfl)) k1 bel lt1) trodAll_mk0)), rfl, bel.frame _, fun h => by cases h⟩
theorem over : Rows.duesUnionsRow.holds Tryd.pinned (OpenSpec.ofChange Rows.duesUnionsSpec) :=
  OpenClaim.holds_of_wide 9 Tryd.f9 rfl rfl rfl rfl rfl rfl rfl ⟨rfl, rfl, rfl, rfl, rfl⟩ rfl rfl rfl rfl rfl (by kernel_rfl) Tryd.func9 (by kernel_rfl)
    (of_decide_eq_true (by kernel_rfl)) (by unfold Func.isWrapper; first | (rw [if_pos (by decide +kernel)]; kernel_rfl) | (rw [if_neg (by decide +kernel)]; exact ⟨rfl, rfl⟩))
    (fun os started H enc _ => lifted os started H enc)
theorem card : Rows.DuesUnionsCardSaid :=
  Claim7.holds_tied_plain_at .later [] Rows.duesUnionsCard.laidKinds true Rows.duesUnionsCard.stood.harness false
    over (fun _ h => by cases h) (by kernel_rfl) (fun _ h => by cases h) duesUnions_row_tie rfl ⟨rfl, rfl⟩ (by kernel_rfl) rfl
    (fun f fn hf hfn => by
      obtain rfl : f = 9 := Option.some.inj ((show Tryd.prog.funcNamed Rows.duesUnionsRow.func = some 9 by kernel_rfl).symm.trans hf) |>.symm
      obtain rfl : fn = Tryd.f9 := (Option.some.inj (Tryd.func9.symm.trans hfn)).symm
      exact ⟨by kernel_rfl, fun j t ht => by
        rw [Tryd.params9] at ht
        have h3 : t = 24 ∨ t = 58 := by
          have hm : t ∈ [24, 58] := List.mem_of_getElem? (by simpa using ht)
          simpa using hm
        rcases h3 with rfl | rfl
        · exact (show Tryd.prog.wantsStandIn 24 = false by kernel_rfl)
        · exact (show Tryd.prog.wantsStandIn 58 = false by kernel_rfl)⟩)
    (by kernel_rfl)
theorem proved : Rows.DuesUnionsCardSaid := card
end Go.Proofs.YtdjpaifhmiocnaaDoor.duesUnions
namespace Go.Proofs.YtdjpaifhmiocnaaDoor
/-- The row, under a short name, for the claim. -/
theorem duesUnions_holds : Rows.DuesUnionsCardSaid := duesUnions.proved
end Go.Proofs.YtdjpaifhmiocnaaDoor
