/- Proved: for every input the law JugLower returns true, and each argument reads afterwards as it read before. No condition. -/
import Derived.Test.YtcbhobkfffgfdaaRows
import Derived.WalkKit
import Derived.ProofKit
import Derived.OpenShut
import Derived.ShutString
import Derived.ChangeOld
import Derived.Below
import Derived.Carry
import Derived.Test.YtcbhobkfffgfdaaA03
set_option linter.unusedSimpArgs false
set_option linter.unusedVariables false
namespace Go.Ab.Jug
open Go.Ab.V
set_option maxRecDepth 100000
@[reducible] def kV (g : List Int) : Value := .agg ((pad4 g).map (Value.int .i64)).toArray
def entP (e : En) : List PV := (pad4 e.par).map pi ++ [pi e.st.1, pi e.st.2, pi e.d]
def esP (L : List En) : List (Value × List PV) := L.map fun e => (kV e.g, entP e)
def k4 : List CK := [.int, .int, .int, .int]
theorem keyK {g h : List Int} (hg : g.length ≤ 4) (hh : h.length ≤ 4) : keyEq k4 (kV g) (kV h) = some (decide (pad4 g = pad4 h)) := by
  obtain ⟨a0, a1, a2, a3, hA⟩ := four (pad4_len g hg)
  obtain ⟨b0, b1, b2, b3, hB⟩ := four (pad4_len h hh)
  simp only [kV]
  rw [hA, hB]
  show some ((a0 == b0) && ((a1 == b1) && ((a2 == b2) && ((a3 == b3) && true)))) = _
  congr 1
  rw [Bool.eq_iff_iff]
  simp
theorem findV_es {x : List Int} (hx : x.length ≤ 4) {g : List Int} (hg : fillB x g = true) : ∀ {L : List En}, (∀ e ∈ L, fillB x e.g = true) → findV k4 (kV g) (ofAg (esP L)) = some ((L.find? fun e => decide (e.g = g)).map fun e => .agg ((entP e).map .p))
  | [], _ => rfl
  | e :: L, h => by
    have lg := ((fillB_iff x g).1 hg).1
    have le := ((fillB_iff x e.g).1 (h e (by simp))).1
    have hk := keyK (g := g) (h := e.g) (by omega) (by omega)
    have ih := findV_es hx hg (L := L) fun e he => h e (List.mem_cons_of_mem _ he)
    show (match keyEq k4 (kV g) (kV e.g) with
      | some true => some (some (VV.agg ((entP e).map .p)))
      | some false => findV k4 (kV g) (ofAg (esP L))
      | none => none) = _
    rw [hk]
    by_cases he : e.g = g
    · rw [decide_eq_true (by rw [he]), List.find?_cons_of_pos (by simpa using he)]; rfl
    · rw [decide_eq_false (fun e1 => he (pad4_inj (by omega) e1).symm), List.find?_cons_of_neg (by simpa using he)]; exact ih
theorem setE_es {x : List Int} (hx : x.length ≤ 4) {g : List Int} (hg : fillB x g = true) (v : VV) : ∀ {L : List En}, (∀ e ∈ L, fillB x e.g = true) → hasE L g = false → setE2 k4 (kV g) v (ofAg (esP L)) = ofAg (esP L) ++ [(kV g, v)]
  | [], _, _ => rfl
  | e :: L, h, hn => by
    have lg := ((fillB_iff x g).1 hg).1
    have le := ((fillB_iff x e.g).1 (h e (by simp))).1
    have hk := keyK (g := g) (h := e.g) (by omega) (by omega)
    have hne : e.g ≠ g := fun e1 => by
      have : hasE (e :: L) g = true := hasE_iff.2 ⟨e, by simp, e1⟩
      rw [hn] at this; cases this
    have hnL : hasE L g = false := by
      cases hb : hasE L g with
      | false => rfl
      | true =>
        obtain ⟨e', h1, h2⟩ := hasE_iff.1 hb
        have : hasE (e :: L) g = true := hasE_iff.2 ⟨e', List.mem_cons_of_mem _ h1, h2⟩
        rw [hn] at this; cases this
    have ih := setE_es hx hg v (L := L) (fun e he => h e (List.mem_cons_of_mem _ he)) hnL
    show (match keyEq k4 (kV g) (kV e.g) with
      | some true => (kV g, v) :: ofAg (esP L)
      | _ => (kV e.g, VV.agg ((entP e).map .p)) :: setE2 k4 (kV g) v (ofAg (esP L))) = _
    rw [hk, decide_eq_false (fun e1 => hne (pad4_inj (by omega) e1).symm), ih]; rfl
theorem find_none {L : List En} {g : List Int} (h : hasE L g = false) : (L.find? fun e => decide (e.g = g)) = none := by
  rw [List.find?_eq_none]
  intro e he hk
  have : hasE L g = true := hasE_iff.2 ⟨e, he, by simpa using hk⟩
  rw [h] at this; cases this
theorem find_some {L : List En} (hn : (L.map En.g).Nodup) {k : Nat} {e : En} (he : L[k]? = some e) : (L.find? fun e' => decide (e'.g = e.g)) = some e := by
  cases h : L.find? fun e' => decide (e'.g = e.g) with
  | none =>
    rw [List.find?_eq_none] at h
    exact absurd (by simp) (h e (List.mem_of_getElem? he))
  | some e' =>
    have h1 := List.find?_some h
    have h2 := List.mem_of_find?_eq_some h
    obtain ⟨j, hj, hje⟩ := List.mem_iff_getElem.1 h2
    obtain ⟨hk, hke⟩ := List.getElem?_eq_some_iff.1 he
    have : j = k := (List.getElem_inj (h₀ := by simpa using hj) (h₁ := by simpa using hk) hn).1 (by simp [hje, hke]; simpa using h1)
    subst this
    rw [← hje, ← hke]
/-- The fillings that wait, in a row. -/
def qP (L : List En) : List PV := L.flatMap fun e => (pad4 e.g).map pi
theorem qP_cons (e : En) (L : List En) : qP (e :: L) = (pad4 e.g).map pi ++ qP L := rfl
theorem qP_append (L M : List En) : qP (L ++ M) = qP L ++ qP M := by simp [qP]
theorem qP_len : ∀ {L : List En}, (∀ e ∈ L, e.g.length ≤ 4) → (qP L).length = L.length * 4
  | [], _ => rfl
  | e :: L, h => by
    rw [qP_cons, List.length_append, List.length_map, pad4_len _ (h e (by simp)), qP_len fun e he => h e (List.mem_cons_of_mem _ he), List.length_cons]; omega
theorem pad4_zero (n : Nat) (h : n ≤ 4) : pad4 (List.replicate n 0) = [0, 0, 0, 0] := by
  have : n = 0 ∨ n = 1 ∨ n = 2 ∨ n = 3 ∨ n = 4 := by omega
  rcases this with rfl | rfl | rfl | rfl | rfl <;> rfl
theorem Good.par_len {x f0 : List Int} {c : Bool} {L : List En} (G : Good x c f0 L) {e : En} (he : e ∈ L) : e.par.length = x.length := by
  rcases G.fill e he with h | h
  · exact ((fillB_iff x _).1 h.2).1
  · rw [h]; simp [Go.Ab.Jug.root]
theorem entP_len {e : En} (h : e.par.length ≤ 4) : (entP e).length = 7 := by simp [entP, pad4_len _ h]
set_option maxHeartbeats 8000000 in
theorem reached_ok (x f : List Int) (c : Bool) (hx : okJ x) (hf : fillB x f = true) (k : Nat) (hk : k ≠ 20) (pc : List PV) (P : List Int → Bool) (hP : ∀ g, fillB x g = true → VCall cfg k (.agg ((pad4 g).map vi) :: pc.map .p) [] [] (vb (P g)) [])
    (M : Nat) (fb : Bool) (out : List Int) (hM : ∀ j, j < M → ∃ e, (bf x f c j)[j]? = some e ∧ P e.g = false) (h1 : fb = true → ∃ e, (bf x f c M)[M]? = some e ∧ P e.g = true ∧ out = e.g) (h0 : fb = false → M = (bf x f c M).length ∧ out = List.replicate x.length 0) :
    VCall cfg 66 [jugP x c, .agg ((pad4 f).map vi), .clos k [] (pc.map .p)] [] [p18] (.tup [.om p18, .agg ((pad4 out).map vi), vb fb]) [(p18, .map (ofAg (esP (bf x f c M))))] := by
  have hx4 : x.length ≤ 4 := hx.2.1
  have hlf : f.length = x.length := ((fillB_iff x f).1 hf).1
  obtain ⟨f0, f1, f2, f3, hF⟩ := four (pad4_len f (by omega))
  have hk4 : [CK.int, .int, .int, .int] = k4 := rfl
  have hroot : ofAg (esP [root x f]) = [(.agg [Value.int .i64 f0, .int .i64 f1, .int .i64 f2, .int .i64 f3].toArray, .agg [vi 0, vi 0, vi 0, vi 0, vi 0, vi 0, vi 0])] := by
    simp only [esP, root, List.map_cons, List.map_nil, kV, entP, hF, pad4_zero _ hx4]; rfl
  have hq0 : qP [root x f] = [pi f0, pi f1, pi f2, pi f3] := by simp only [qP, root, List.flatMap_cons, List.flatMap_nil, hF]; rfl
  have hself := keyK (g := f) (h := f) (by omega) (by omega)
  rw [decide_eq_true rfl] at hself
  simp only [kV, hF, List.map_cons, List.map_nil] at hself
  unfold jugP
  (refine VCall.mk (fn := a66) rfl rfl rfl ?_; simp only [a66, inV, mkB, nmsL, PT.set])
  (repeat (first | refine VC.seq ?_ | refine VC.block ?_ | refine VC.kill ?_ | refine VC.skip ?_ | refine VC.exit ?_ | refine VC.regA ?_ | refine VC.condT ?_ | refine VC.condF ?_))
  ((try (apply VC.regU; · ((simp (config := {decide := false, maxSteps := 1000000}) (disch := omega) only [vev_call, putC_c0, putC_n0, putC_cs, ble0, List.getElem?_cons_zero, List.getElem?_cons_succ, runU, isCall, wantV, vev, evV, ofVal, ofAtom, atomB, cond_true, cond_false, PT.get, PT.set, PT.filt, PT.map, Option.getD_some, Option.getD_none, ret1V, ret1X, v_ld, v_ias, v_iad, v_fad, v_slsl, v_slarr, v_st, v_app, v_cpy, v_len, v_look, v_mset, elsV, partV, newV, free, atV, atI, atL, toVal, cellsV, okV, VSt.put, VSt.kill, VSt.alloc, VSt.frz, VSt.adopt, noref, norefB, deadB, deadV, nos, nm, nmL, nmB, nmE, Pa.eqb, Bool.not_false, Bool.not_true, Bool.and_true, Bool.true_and, Bool.false_and, Bool.and_false, bin, intOps, intBin, cvt, un, goInt, bndsV, bndV, Option.map_some, Option.map_none, List.map_cons, List.map_nil, Int.toNat_natCast, Nat.mul_one, Nat.zero_add, beq_true, beq_false, beq_self_eq_true, List.length_map, List.length_cons, List.length_nil, List.length_append, fillV, pEvV, repsV, List.append_nil, List.nil_append, if_pos, if_neg, reduceIte, List.getElem?_map, List.getElem?_drop, Nat.add_zero, List.getElem?_eq_getElem, Go.IntWalk.i64_in, wrap_u64, tmod_pos, eq_self, true_and, and_true, and_self, List.all_cons, List.all_nil, nmL_vi, flV_len, flP_len, flV_nm, flV_ok, flV_pv, flP_map, drop_flP, drop_flV, putC_flV, eqV2, eqV3, bneT, bneF, decide_true, decide_false, frzL_vi, frzL_flV, nmE_ag, nmE_at, frzE_ag, frzE_at, ofAg_len, ofAt_len, atL_vi, nmL_map_p, frzL_map_p, okL_p, toPVs_p, repsZ, nmL_reps, putC_vi, get_flV0, get_flV1, Int.toNat_zero, Int.toNat_one, Int.reduceToNat, eqV_slice, eqV_ptr, eqV_func, nilS, nilP, nilF, nmL_append, okL_vi, toPVs_vi, toPVs, toPV, frzV, frzL, frzB, resVV, vi, vb, nilV, sl1, bl1, pi, foldV, max2, min2, max_eq, min_eq, Int.tdiv_eq_ediv_of_nonneg, Int.cast_ofNat_Int, Option.isSome_none, Option.isSome_some, Option.isNone_none, Option.isNone_some, and_false, false_and, sl2, sl1P, slP, min_cast, take_map_pi, map_pi, Nat.sub_zero, Nat.zero_mul, List.length_take, decide_eq_true, decide_eq_false, Bool.true_eq_false, Bool.false_eq_true, beqT, beqF, ibeq, ibne, List.take_zero, List.take_succ_cons, List.drop_zero, List.drop_succ_cons, List.drop_nil, List.take_nil, List.cons_append, Bool.not_true, Bool.not_false, hF, hk4, hself, findV, setE2]); rfl))); (repeat (first | refine VC.seq ?_ | refine VC.block ?_ | refine VC.kill ?_ | refine VC.skip ?_ | refine VC.exit ?_ | refine VC.regA ?_ | refine VC.condT ?_ | refine VC.condF ?_)))
  refine VC.ghost (G.osobA (p := p10) (n := 1) 0 G.refl (by decide)) ?_
  (simp only [VSt.kill, VSt.osob, VSt.adoptB, VSt.adopt, VSt.alloc, PT.filt, norefB, deadB, deadV, PT.map, Option.map_some, Option.map_none, List.map_cons, List.map_nil, noref, nos, nm, nmL, nmB, nmE, Pa.eqb, PT.set, mkB, inV, cond_true, cond_false, Bool.and_true, Bool.not_false, Bool.not_true, List.set_cons_zero, List.set_cons_succ])
  refine VC.loopG (fun (q : Nat × Nat × List PV) => ⟨inV [p0, p2, p7, p9, p10, p11, p12] [.p (.fp 0 (jugC x c)), .clos k [] (pc.map .p), .op 0 p7 0, .op 0 p9 0, .op 0 p10 0, .op 0 p11 0, vb false] .lf,
    mkB [(p7, .cells [vi 0, vi 0, vi 0, vi 0]), (p9, .cells [.om p18]), (p18, .map (ofAg (esP (bf x f c q.1)))), (p10, .cells [.ob 4 p23 q.2.1 ((bf x f c q.1).length - q.1) ((bf x f c q.1).length - q.1)]), (p23, .cells (q.2.2.map .p)), (p11, .cells [vi 0, vi 0, vi 0, vi 0])] .lf, [], none⟩)
    (fun n q => n = M - q.1 ∧ q.1 ≤ M ∧ q.2.2.drop q.2.1 = qP ((bf x f c q.1).drop q.1) ∧ q.2.1 ≤ q.2.2.length) (x := (0, 0, qP [root x f])) ?_ ⟨rfl, Nat.zero_le _, rfl, Nat.zero_le _⟩ ?_
  · have e1 : bf x f c 0 = [root x f] := rfl
    have e2 : ([root x f] : List En).length - 0 = 1 := rfl
    (apply Go.Ab.V.G.weak; constructor <;> simp (config := {decide := true}) only [PT.Le, inV, mkB, PT.set, VSt.kill, VSt.adopt, VSt.alloc, PT.filt, PT.map, List.map_cons, List.map_nil, noref, norefB, deadB, deadV, nos, nm, nmL, nmB, nmE, Pa.eqb, cond_true, cond_false, Bool.not_true, Bool.not_false, Bool.and_true, Bool.true_and, nmL_vi, flV_len, flP_len, flV_nm, flV_ok, flV_pv, flP_map, drop_flP, drop_flV, putC_flV, eqV2, eqV3, bneT, bneF, decide_true, decide_false, frzL_vi, frzL_flV, nmE_ag, nmE_at, frzE_ag, frzE_at, ofAg_len, ofAt_len, atL_vi, nmL_map_p, frzL_map_p, okL_p, toPVs_p, repsZ, nmL_reps, putC_vi, get_flV0, get_flV1, Int.toNat_zero, Int.toNat_one, Int.reduceToNat, eqV_slice, eqV_ptr, eqV_func, nilS, nilP, nilF, nmL_append, true_or, or_true, and_self, true_and, and_true, Option.some.injEq, reduceCtorEq, false_or, or_false, VV.p.injEq, PV.at.injEq, Value.int.injEq, sl1, vi, bl1, vb, nilV, e1, e2, hroot, hq0, pi, List.map_cons, List.map_nil])
  rintro n ⟨i, off, C⟩ ⟨hn, hi, hC, hoff⟩
  simp only at hn hi hC hoff
  have hG := bf_good (x := x) (f0 := f) (c := c) hf i
  have hbl := bf_len (c := c) hx hf i
  generalize hL : bf x f c i = L at *
  simp only [inV, PT.set, mkB]
  cases hLi : L[i]? with
  | none =>
    have hlen : L.length ≤ i := List.getElem?_eq_none_iff.1 hLi
    have hiM : i = M := by
      rcases Nat.lt_or_ge i M with h | h
      · obtain ⟨e, he, _⟩ := hM i h
        rw [hL, hLi] at he; cases he
      · omega
    subst hiM
    cases hfb : fb with
    | true =>
      obtain ⟨e, he, _⟩ := h1 hfb
      rw [hL, hLi] at he; cases he
    | false =>
      obtain ⟨_, rfl⟩ := h0 hfb
      have hn0 : L.length - i = 0 := by omega
      rw [hn0, pad4_zero _ hx4]
      (repeat (first | refine VC.seq ?_ | refine VC.block ?_ | refine VC.kill ?_ | refine VC.skip ?_ | refine VC.exit ?_ | refine VC.regA ?_ | refine VC.condT ?_ | refine VC.condF ?_))
      rw [hL]
      refine VC.ret (Fin.of rfl rfl ?_ rfl rfl ?_)
      · simp [mkB, PT.set, PT.Le, p18]
      · simp [subs, nm, nmL, nmsB, nmB, nmE_ag, nos, Pa.eqb, vi, vb]
  | some e =>
    have hil := (List.getElem?_eq_some_iff.1 hLi).1
    have hfe := hG.gfill hf (List.mem_of_getElem? hLi)
    have hle : e.g.length = x.length := ((fillB_iff x _).1 hfe).1
    obtain ⟨a0, a1, a2, a3, hA⟩ := four (pad4_len e.g (by omega))
    have hdr : L.drop i = e :: L.drop (i + 1) := by rw [List.drop_eq_getElem_cons hil, (List.getElem?_eq_some_iff.1 hLi).2]
    have hn1 : L.length - i = (L.drop (i + 1)).length + 1 := by simp; omega
    have hC2 : C.drop off = [pi a0, pi a1, pi a2, pi a3] ++ qP (L.drop (i + 1)) := by rw [hC, hdr, qP_cons, hA]; rfl
    have hqr : (qP (L.drop (i + 1))).length = (L.drop (i + 1)).length * 4 := qP_len fun e' he' => by
      have := ((fillB_iff x _).1 (hG.gfill hf (List.mem_of_mem_drop he'))).1
      omega
    have hCl : C.length = off + 4 + (L.drop (i + 1)).length * 4 := by
      have := congrArg List.length hC2
      rw [List.length_drop, List.length_append, hqr] at this
      simp at this; omega
    have hCm : List.drop off (C.map VV.p) = .p (pi a0) :: .p (pi a1) :: .p (pi a2) :: .p (pi a3) :: (qP (L.drop (i + 1))).map .p := by rw [← List.map_drop, hC2]; rfl
    have hPe := hP e.g hfe
    rw [hA] at hPe
    simp only [List.map_cons, List.map_nil] at hPe
    rw [hn1]
    generalize hR : (L.drop (i + 1)).length = r at *
    (repeat (first | refine VC.seq ?_ | refine VC.block ?_ | refine VC.kill ?_ | refine VC.skip ?_ | refine VC.exit ?_ | refine VC.regA ?_ | refine VC.condT ?_ | refine VC.condF ?_))
    ((try (apply VC.regU; · ((simp (config := {decide := false, maxSteps := 1000000}) (disch := omega) only [vev_call, putC_c0, putC_n0, putC_cs, ble0, List.getElem?_cons_zero, List.getElem?_cons_succ, runU, isCall, wantV, vev, evV, ofVal, ofAtom, atomB, cond_true, cond_false, PT.get, PT.set, PT.filt, PT.map, Option.getD_some, Option.getD_none, ret1V, ret1X, v_ld, v_ias, v_iad, v_fad, v_slsl, v_slarr, v_st, v_app, v_cpy, v_len, v_look, v_mset, elsV, partV, newV, free, atV, atI, atL, toVal, cellsV, okV, VSt.put, VSt.kill, VSt.alloc, VSt.frz, VSt.adopt, noref, norefB, deadB, deadV, nos, nm, nmL, nmB, nmE, Pa.eqb, Bool.not_false, Bool.not_true, Bool.and_true, Bool.true_and, Bool.false_and, Bool.and_false, bin, intOps, intBin, cvt, un, goInt, bndsV, bndV, Option.map_some, Option.map_none, List.map_cons, List.map_nil, Int.toNat_natCast, Nat.mul_one, Nat.zero_add, beq_true, beq_false, beq_self_eq_true, List.length_map, List.length_cons, List.length_nil, List.length_append, fillV, pEvV, repsV, List.append_nil, List.nil_append, if_pos, if_neg, reduceIte, List.getElem?_map, List.getElem?_drop, Nat.add_zero, List.getElem?_eq_getElem, Go.IntWalk.i64_in, wrap_u64, tmod_pos, eq_self, true_and, and_true, and_self, List.all_cons, List.all_nil, nmL_vi, flV_len, flP_len, flV_nm, flV_ok, flV_pv, flP_map, drop_flP, drop_flV, putC_flV, eqV2, eqV3, bneT, bneF, decide_true, decide_false, frzL_vi, frzL_flV, nmE_ag, nmE_at, frzE_ag, frzE_at, ofAg_len, ofAt_len, atL_vi, nmL_map_p, frzL_map_p, okL_p, toPVs_p, repsZ, nmL_reps, putC_vi, get_flV0, get_flV1, Int.toNat_zero, Int.toNat_one, Int.reduceToNat, eqV_slice, eqV_ptr, eqV_func, nilS, nilP, nilF, nmL_append, okL_vi, toPVs_vi, toPVs, toPV, frzV, frzL, frzB, resVV, vi, vb, nilV, sl1, bl1, pi, foldV, max2, min2, max_eq, min_eq, Int.tdiv_eq_ediv_of_nonneg, Int.cast_ofNat_Int, Option.isSome_none, Option.isSome_some, Option.isNone_none, Option.isNone_some, and_false, false_and, sl2, sl1P, slP, min_cast, take_map_pi, map_pi, Nat.sub_zero, Nat.zero_mul, List.length_take, decide_eq_true, decide_eq_false, Bool.true_eq_false, Bool.false_eq_true, beqT, beqF, ibeq, ibne, List.take_zero, List.take_succ_cons, List.drop_zero, List.drop_succ_cons, List.drop_nil, List.take_nil, List.cons_append, Bool.not_true, Bool.not_false, hCm, hCl]); rfl))); (repeat (first | refine VC.seq ?_ | refine VC.block ?_ | refine VC.kill ?_ | refine VC.skip ?_ | refine VC.exit ?_ | refine VC.regA ?_ | refine VC.condT ?_ | refine VC.condF ?_)))
    simp only [Nat.one_mul, Nat.add_sub_cancel]
    refine VC.regCA ?_
    refine VO.moreA ?_
    refine VO.call0A (no_orc k hk) hPe ?_
    refine VO.endA ?_
    rcases Nat.lt_or_ge i M with hiM | hiM
    · have hPf : P e.g = false := by
        obtain ⟨e', he', hp⟩ := hM i hiM
        rw [hL, hLi] at he'; cases he'; exact hp
      rw [hPf]
      (repeat (first | refine VC.seq ?_ | refine VC.block ?_ | refine VC.kill ?_ | refine VC.skip ?_ | refine VC.exit ?_ | refine VC.regA ?_ | refine VC.condT ?_ | refine VC.condF ?_))
      have kst := stepsJ_ok x e.g c hx4 hle
      have hit := stepsIt x e.g c hx4 (okJ_mem hx) hfe
      unfold jugP at kst
      rw [hA] at kst hit
      simp only [List.map_cons, List.map_nil] at kst hit
      refine VC.regCA ?_
      refine VO.moreA ?_
      refine VO.call0A (no_orc 47 (by decide)) kst ?_
      refine VO.endA ?_
      (repeat (first | refine VC.seq ?_ | refine VC.block ?_ | refine VC.kill ?_ | refine VC.skip ?_ | refine VC.exit ?_ | refine VC.regA ?_ | refine VC.condT ?_ | refine VC.condF ?_))
      (simp only [VSt.kill, VSt.osob, VSt.adoptB, VSt.adopt, VSt.alloc, PT.filt, norefB, deadB, deadV, PT.map, Option.map_some, Option.map_none, List.map_cons, List.map_nil, noref, nos, nm, nmL, nmB, nmE, Pa.eqb, PT.set, mkB, inV, cond_true, cond_false, Bool.and_true, Bool.not_false, Bool.not_true, List.set_cons_zero, List.set_cons_succ])
      have hjt : itemsJ x e.g c = (succs x c e.g).map fun s => encI (s.1, pad4 s.2) := by simp only [itemsJ, succs, List.map_map]; rfl
      rw [hjt] at hit
      refine VC.rangeFA (fun (q : List En × Nat × List PV) => mkB [(p7, .cells [vi 0, vi 0, vi 0, vi 0]), (p9, .cells [.om p18]), (p18, .map (ofAg (esP q.1))), (p10, .cells [.ob 4 p23 q.2.1 (q.1.length - (i + 1)) (q.1.length - (i + 1))]), (p23, .cells (q.2.2.map .p)), (p11, .cells [vi 0, vi 0, vi 0, vi 0]), (p13, .cells [vi a0, vi a1, vi a2, vi a3])] .lf)
        (fun j q => q.1 = addAll e.g e.d L ((succs x c e.g).take j) ∧ q.2.2.drop q.2.1 = qP (q.1.drop (i + 1)) ∧ q.2.1 ≤ q.2.2.length) (x0 := (L, off + 4, C)) [p7, p9, p10, p11, p13] (no_orc 65 (by decide)) hit ?_ ?_ ?_ ?_ ?_ ?_
      · simp [NmOk, nm, nmL, nmL_map_p, VSt.kill, PT.set]
      · have hlr : L.length - (i + 1) = r := by rw [← hR, List.length_drop]
        simp [mkB, PT.set, PT.Le, VSt.kill, hlr, vi, p7, p9, p10, p11, p13, p18, p23]
      · refine ⟨rfl, ?_, by simp only; omega⟩
        simp only
        rw [← List.drop_drop, hC2, List.drop_append_of_le_length (by simp)]
        simp
      · intro y hy
        obtain ⟨s, _, rfl⟩ := List.mem_map.1 hy
        rfl
      · rintro j ⟨L', off', C'⟩ hlt ⟨hL', hC', hoff'⟩
        simp only at hL' hC' hoff'
        have hj : j < (succs x c e.g).length := by simpa using hlt
        rw [List.getElem_map]
        generalize hs : (succs x c e.g)[j] = s
        have hsm : s ∈ succs x c e.g := by rw [← hs]; exact List.getElem_mem hj
        have hfg := succ_fill hsm hfe
        have hlg : s.2.length = x.length := ((fillB_iff x _).1 hfg).1
        have hG' : Good x c f L' := by rw [hL']; exact Good.all hf _ hG hLi fun s hs => List.mem_of_mem_take hs
        have hlL' : L'.length ≤ 28561 := by have := good_len hG' hf; have := sizeF_le x 1 4 (okJ_mem hx) hx4; omega
        have hpre : L <+: L' := by rw [hL']; exact addAll_pre _ _ _ _
        have he' : L'[i]? = some e := by
          obtain ⟨t, ht⟩ := hpre
          rw [← ht, List.getElem?_append_left hil]; exact hLi
        have hil' := (List.getElem?_eq_some_iff.1 he').1
        have hf' : ∀ e ∈ L', fillB x e.g = true := fun e he => hG'.gfill hf he
        have hqr' : (qP (L'.drop (i + 1))).length = (L'.drop (i + 1)).length * 4 := qP_len fun e' he' => by
          have := ((fillB_iff x _).1 (hf' _ (List.mem_of_mem_drop he'))).1
          omega
        have hnx : addAll e.g e.d L ((succs x c e.g).take (j + 1)) = addOne e.g e.d L' s := by
          rw [List.take_add_one, List.getElem?_eq_getElem hj, hs]
          show addAll e.g e.d L ((succs x c e.g).take j ++ [s]) = _
          rw [addAll_snoc, ← hL']
        have hfs := findV_es hx4 hfg hf'
        have hfe2 := findV_es hx4 hfe hf'
        rw [find_some hG'.nodup he'] at hfe2
        have hks := keyK (g := s.2) (h := s.2) (by omega) (by omega)
        have hke := keyK (g := e.g) (h := e.g) (by omega) (by omega)
        rw [decide_eq_true rfl] at hks hke
        have hse := fun v => setE_es hx4 hfg v hf'
        have hed := good_d hG' i e he'
        obtain ⟨b0, b1, b2, b3, hB⟩ := four (pad4_len s.2 (by omega))
        simp only [kV, hA, hB, List.map_cons, List.map_nil] at hfs hfe2 hks hke hse
        obtain ⟨⟨s1, s2⟩, g⟩ := s
        simp only at hfg hlg hnx hfs hks hse hB
        rw [hB]
        simp only [encI, ag2, List.map_cons, List.map_nil]
        have hn' : L'.length - (i + 1) = (L'.drop (i + 1)).length := by rw [List.length_drop]
        have hCl' : C'.length = off' + (L'.drop (i + 1)).length * 4 := by
          have := congrArg List.length hC'
          rw [List.length_drop, hqr'] at this; omega
        have hrl : (L'.drop (i + 1)).length ≤ 28561 := by rw [List.length_drop]; omega
        (simp only [VSt.kill, VSt.osob, VSt.adoptB, VSt.adopt, VSt.alloc, PT.filt, norefB, deadB, deadV, PT.map, Option.map_some, Option.map_none, List.map_cons, List.map_nil, noref, nos, nm, nmL, nmB, nmE, Pa.eqb, PT.set, mkB, inV, cond_true, cond_false, Bool.and_true, Bool.not_false, Bool.not_true, List.set_cons_zero, List.set_cons_succ])
        rw [hn']
        generalize hR' : (L'.drop (i + 1)).length = r' at *
        cases hh : hasE L' g with
        | true =>
          have hLs : addOne e.g e.d L' ((s1, s2), g) = L' := by unfold addOne; rw [if_pos hh]
          obtain ⟨e2, he2⟩ : ∃ e2, (L'.find? fun e => decide (e.g = g)) = some e2 := by
            cases hq : L'.find? fun e => decide (e.g = g) with
            | some e2 => exact ⟨e2, rfl⟩
            | none =>
              rw [List.find?_eq_none] at hq
              obtain ⟨e3, h3, h4⟩ := hasE_iff.1 hh
              exact absurd (by simpa using h4) (hq e3 h3)
          rw [he2] at hfs
          simp only [Option.map_some] at hfs
          have h7 := entP_len (e := e2) (by have := hG'.par_len (List.mem_of_find?_eq_some he2); omega)
          (repeat (first | refine VC.seq ?_ | refine VC.block ?_ | refine VC.kill ?_ | refine VC.skip ?_ | refine VC.exit ?_ | refine VC.regA ?_ | refine VC.condT ?_ | refine VC.condF ?_))
          apply VC.regU
          · (simp (config := {decide := false, maxSteps := 1000000}) (disch := omega) only [vev_call, putC_c0, putC_n0, putC_cs, ble0, List.getElem?_cons_zero, List.getElem?_cons_succ, runU, isCall, wantV, vev, evV, ofVal, ofAtom, atomB, cond_true, cond_false, PT.get, PT.set, PT.filt, PT.map, Option.getD_some, Option.getD_none, ret1V, ret1X, v_ld, v_ias, v_iad, v_fad, v_slsl, v_slarr, v_st, v_app, v_cpy, v_len, v_look, v_mset, elsV, partV, newV, free, atV, atI, atL, toVal, cellsV, okV, VSt.put, VSt.kill, VSt.alloc, VSt.frz, VSt.adopt, noref, norefB, deadB, deadV, nos, nm, nmL, nmB, nmE, Pa.eqb, Bool.not_false, Bool.not_true, Bool.and_true, Bool.true_and, Bool.false_and, Bool.and_false, bin, intOps, intBin, cvt, un, goInt, bndsV, bndV, Option.map_some, Option.map_none, List.map_cons, List.map_nil, Int.toNat_natCast, Nat.mul_one, Nat.zero_add, beq_true, beq_false, beq_self_eq_true, List.length_map, List.length_cons, List.length_nil, List.length_append, fillV, pEvV, repsV, List.append_nil, List.nil_append, if_pos, if_neg, reduceIte, List.getElem?_map, List.getElem?_drop, Nat.add_zero, List.getElem?_eq_getElem, Go.IntWalk.i64_in, wrap_u64, tmod_pos, eq_self, true_and, and_true, and_self, List.all_cons, List.all_nil, nmL_vi, flV_len, flP_len, flV_nm, flV_ok, flV_pv, flP_map, drop_flP, drop_flV, putC_flV, eqV2, eqV3, bneT, bneF, decide_true, decide_false, frzL_vi, frzL_flV, nmE_ag, nmE_at, frzE_ag, frzE_at, ofAg_len, ofAt_len, atL_vi, nmL_map_p, frzL_map_p, okL_p, toPVs_p, repsZ, nmL_reps, putC_vi, get_flV0, get_flV1, Int.toNat_zero, Int.toNat_one, Int.reduceToNat, eqV_slice, eqV_ptr, eqV_func, nilS, nilP, nilF, nmL_append, okL_vi, toPVs_vi, toPVs, toPV, frzV, frzL, frzB, resVV, vi, vb, nilV, sl1, bl1, pi, foldV, max2, min2, max_eq, min_eq, Int.tdiv_eq_ediv_of_nonneg, Int.cast_ofNat_Int, Option.isSome_none, Option.isSome_some, Option.isNone_none, Option.isNone_some, and_false, false_and, sl2, sl1P, slP, min_cast, take_map_pi, map_pi, Nat.sub_zero, Nat.zero_mul, List.length_take, decide_eq_true, decide_eq_false, Bool.true_eq_false, Bool.false_eq_true, beqT, beqF, ibeq, ibne, List.take_zero, List.take_succ_cons, List.drop_zero, List.drop_succ_cons, List.drop_nil, List.take_nil, List.cons_append, Bool.not_true, Bool.not_false, hk4, hks, hfs, h7])
            rfl
          (repeat (first | refine VC.seq ?_ | refine VC.block ?_ | refine VC.kill ?_ | refine VC.skip ?_ | refine VC.exit ?_ | refine VC.regA ?_ | refine VC.condT ?_ | refine VC.condF ?_))
          refine ⟨by simp, (L', off', C'), ⟨by rw [hnx, hLs], hC', hoff'⟩, ?_⟩
          (apply Go.Ab.V.G.weak; constructor <;> simp (config := {decide := true}) only [PT.Le, inV, mkB, PT.set, VSt.kill, VSt.adopt, VSt.alloc, PT.filt, PT.map, List.map_cons, List.map_nil, noref, norefB, deadB, deadV, nos, nm, nmL, nmB, nmE, Pa.eqb, cond_true, cond_false, Bool.not_true, Bool.not_false, Bool.and_true, Bool.true_and, nmL_vi, flV_len, flP_len, flV_nm, flV_ok, flV_pv, flP_map, drop_flP, drop_flV, putC_flV, eqV2, eqV3, bneT, bneF, decide_true, decide_false, frzL_vi, frzL_flV, nmE_ag, nmE_at, frzE_ag, frzE_at, ofAg_len, ofAt_len, atL_vi, nmL_map_p, frzL_map_p, okL_p, toPVs_p, repsZ, nmL_reps, putC_vi, get_flV0, get_flV1, Int.toNat_zero, Int.toNat_one, Int.reduceToNat, eqV_slice, eqV_ptr, eqV_func, nilS, nilP, nilF, nmL_append, true_or, or_true, and_self, true_and, and_true, Option.some.injEq, reduceCtorEq, false_or, or_false, VV.p.injEq, PV.at.injEq, Value.int.injEq, sl1, vi, bl1, vb, nilV, hn', hR'])
          (all_goals first | rfl | omega | exact ⟨rfl, by omega⟩)
        | false =>
          obtain ⟨E, hE⟩ : ∃ E : En, E = ⟨g, e.g, (s1, s2), e.d + 1⟩ := ⟨_, rfl⟩
          have hLs : addOne e.g e.d L' ((s1, s2), g) = L' ++ [E] := by unfold addOne; rw [if_neg (by rw [hh]; simp), hE]
          rw [find_none hh] at hfs
          simp only [Option.map_none, Option.map_some] at hfs hfe2
          obtain ⟨c0, c1, c2, c3, hCp⟩ := four (pad4_len e.par (by have := hG'.par_len (List.mem_of_getElem? he'); omega))
          have hen : entP e = [pi c0, pi c1, pi c2, pi c3, pi e.st.1, pi e.st.2, pi e.d] := by simp only [entP, hCp]; rfl
          rw [hen] at hfe2
          have hne : ofAg (esP (L' ++ [E])) = ofAg (esP L') ++ [(.agg [Value.int .i64 b0, .int .i64 b1, .int .i64 b2, .int .i64 b3].toArray, .agg [vi a0, vi a1, vi a2, vi a3, vi s1, vi s2, vi (e.d + 1)])] := by
            subst hE
            simp only [ofAg, esP, List.map_append, List.map_cons, List.map_nil, kV, hB, entP, hA]; rfl
          have hse := (hse (.agg [vi a0, vi a1, vi a2, vi a3, vi s1, vi s2, vi (e.d + 1)]) hh).trans hne.symm
          simp only [vi] at hse
          have hcm : ((C'.drop off').take (r' * 4) ++ [pi b0, pi b1, pi b2, pi b3]).map VV.p = List.take (r' * 4) (List.drop off' (C'.map VV.p)) ++ [.p (pi b0), .p (pi b1), .p (pi b2), .p (pi b3)] := by
            rw [List.map_append, List.map_take, List.map_drop]; rfl
          have hqe : (C'.drop off').take (r' * 4) ++ [pi b0, pi b1, pi b2, pi b3] = qP ((L' ++ [E]).drop (i + 1)) := by
            rw [List.drop_append_of_le_length (by omega), qP_append, ← hC', List.take_of_length_le (by rw [hC', hqr']; exact Nat.le_refl _)]
            subst hE
            simp only [qP, List.flatMap_cons, List.flatMap_nil, hB]; rfl
          have hnl : (L' ++ [E]).length - (i + 1) = r' + 1 := by
            rw [List.length_append, ← hR', List.length_drop]; simp; omega
          have htd : nmL (List.take (r' * 4) (List.drop off' (C'.map VV.p))) = [] := by rw [← List.map_drop, ← List.map_take]; exact nmL_map_p _
          (repeat (first | refine VC.seq ?_ | refine VC.block ?_ | refine VC.kill ?_ | refine VC.skip ?_ | refine VC.exit ?_ | refine VC.regA ?_ | refine VC.condT ?_ | refine VC.condF ?_))
          apply VC.regU
          · (simp (config := {decide := false, maxSteps := 1000000}) (disch := omega) only [vev_call, putC_c0, putC_n0, putC_cs, ble0, List.getElem?_cons_zero, List.getElem?_cons_succ, runU, isCall, wantV, vev, evV, ofVal, ofAtom, atomB, cond_true, cond_false, PT.get, PT.set, PT.filt, PT.map, Option.getD_some, Option.getD_none, ret1V, ret1X, v_ld, v_ias, v_iad, v_fad, v_slsl, v_slarr, v_st, v_app, v_cpy, v_len, v_look, v_mset, elsV, partV, newV, free, atV, atI, atL, toVal, cellsV, okV, VSt.put, VSt.kill, VSt.alloc, VSt.frz, VSt.adopt, noref, norefB, deadB, deadV, nos, nm, nmL, nmB, nmE, Pa.eqb, Bool.not_false, Bool.not_true, Bool.and_true, Bool.true_and, Bool.false_and, Bool.and_false, bin, intOps, intBin, cvt, un, goInt, bndsV, bndV, Option.map_some, Option.map_none, List.map_cons, List.map_nil, Int.toNat_natCast, Nat.mul_one, Nat.zero_add, beq_true, beq_false, beq_self_eq_true, List.length_map, List.length_cons, List.length_nil, List.length_append, fillV, pEvV, repsV, List.append_nil, List.nil_append, if_pos, if_neg, reduceIte, List.getElem?_map, List.getElem?_drop, Nat.add_zero, List.getElem?_eq_getElem, Go.IntWalk.i64_in, wrap_u64, tmod_pos, eq_self, true_and, and_true, and_self, List.all_cons, List.all_nil, nmL_vi, flV_len, flP_len, flV_nm, flV_ok, flV_pv, flP_map, drop_flP, drop_flV, putC_flV, eqV2, eqV3, bneT, bneF, decide_true, decide_false, frzL_vi, frzL_flV, nmE_ag, nmE_at, frzE_ag, frzE_at, ofAg_len, ofAt_len, atL_vi, nmL_map_p, frzL_map_p, okL_p, toPVs_p, repsZ, nmL_reps, putC_vi, get_flV0, get_flV1, Int.toNat_zero, Int.toNat_one, Int.reduceToNat, eqV_slice, eqV_ptr, eqV_func, nilS, nilP, nilF, nmL_append, okL_vi, toPVs_vi, toPVs, toPV, frzV, frzL, frzB, resVV, vi, vb, nilV, sl1, bl1, pi, foldV, max2, min2, max_eq, min_eq, Int.tdiv_eq_ediv_of_nonneg, Int.cast_ofNat_Int, Option.isSome_none, Option.isSome_some, Option.isNone_none, Option.isNone_some, and_false, false_and, sl2, sl1P, slP, min_cast, take_map_pi, map_pi, Nat.sub_zero, Nat.zero_mul, List.length_take, decide_eq_true, decide_eq_false, Bool.true_eq_false, Bool.false_eq_true, beqT, beqF, ibeq, ibne, List.take_zero, List.take_succ_cons, List.drop_zero, List.drop_succ_cons, List.drop_nil, List.take_nil, List.cons_append, Bool.not_true, Bool.not_false, hk4, hks, hfs])
            rfl
          (repeat (first | refine VC.seq ?_ | refine VC.block ?_ | refine VC.kill ?_ | refine VC.skip ?_ | refine VC.exit ?_ | refine VC.regA ?_ | refine VC.condT ?_ | refine VC.condF ?_))
          apply VC.regU
          · (simp (config := {decide := false, maxSteps := 1000000}) (disch := omega) only [vev_call, putC_c0, putC_n0, putC_cs, ble0, List.getElem?_cons_zero, List.getElem?_cons_succ, runU, isCall, wantV, vev, evV, ofVal, ofAtom, atomB, cond_true, cond_false, PT.get, PT.set, PT.filt, PT.map, Option.getD_some, Option.getD_none, ret1V, ret1X, v_ld, v_ias, v_iad, v_fad, v_slsl, v_slarr, v_st, v_app, v_cpy, v_len, v_look, v_mset, elsV, partV, newV, free, atV, atI, atL, toVal, cellsV, okV, VSt.put, VSt.kill, VSt.alloc, VSt.frz, VSt.adopt, noref, norefB, deadB, deadV, nos, nm, nmL, nmB, nmE, Pa.eqb, Bool.not_false, Bool.not_true, Bool.and_true, Bool.true_and, Bool.false_and, Bool.and_false, bin, intOps, intBin, cvt, un, goInt, bndsV, bndV, Option.map_some, Option.map_none, List.map_cons, List.map_nil, Int.toNat_natCast, Nat.mul_one, Nat.zero_add, beq_true, beq_false, beq_self_eq_true, List.length_map, List.length_cons, List.length_nil, List.length_append, fillV, pEvV, repsV, List.append_nil, List.nil_append, if_pos, if_neg, reduceIte, List.getElem?_map, List.getElem?_drop, Nat.add_zero, List.getElem?_eq_getElem, Go.IntWalk.i64_in, wrap_u64, tmod_pos, eq_self, true_and, and_true, and_self, List.all_cons, List.all_nil, nmL_vi, flV_len, flP_len, flV_nm, flV_ok, flV_pv, flP_map, drop_flP, drop_flV, putC_flV, eqV2, eqV3, bneT, bneF, decide_true, decide_false, frzL_vi, frzL_flV, nmE_ag, nmE_at, frzE_ag, frzE_at, ofAg_len, ofAt_len, atL_vi, nmL_map_p, frzL_map_p, okL_p, toPVs_p, repsZ, nmL_reps, putC_vi, get_flV0, get_flV1, Int.toNat_zero, Int.toNat_one, Int.reduceToNat, eqV_slice, eqV_ptr, eqV_func, nilS, nilP, nilF, nmL_append, okL_vi, toPVs_vi, toPVs, toPV, frzV, frzL, frzB, resVV, vi, vb, nilV, sl1, bl1, pi, foldV, max2, min2, max_eq, min_eq, Int.tdiv_eq_ediv_of_nonneg, Int.cast_ofNat_Int, Option.isSome_none, Option.isSome_some, Option.isNone_none, Option.isNone_some, and_false, false_and, sl2, sl1P, slP, min_cast, take_map_pi, map_pi, Nat.sub_zero, Nat.zero_mul, List.length_take, decide_eq_true, decide_eq_false, Bool.true_eq_false, Bool.false_eq_true, beqT, beqF, ibeq, ibne, List.take_zero, List.take_succ_cons, List.drop_zero, List.drop_succ_cons, List.drop_nil, List.take_nil, List.cons_append, Bool.not_true, Bool.not_false, hk4, hks, hfs, hke, hfe2, hse])
            rfl
          (repeat (first | refine VC.seq ?_ | refine VC.block ?_ | refine VC.kill ?_ | refine VC.skip ?_ | refine VC.exit ?_ | refine VC.regA ?_ | refine VC.condT ?_ | refine VC.condF ?_))
          refine ⟨by simp, (L' ++ [E], 0, (C'.drop off').take (r' * 4) ++ [pi b0, pi b1, pi b2, pi b3]), ⟨by rw [hnx, hLs], by rw [List.drop_zero]; exact hqe, Nat.zero_le _⟩, ?_⟩
          refine G.osobA (p := p10) (n := r' + 1) 0 ?_ (by omega)
          (simp only [VSt.kill, VSt.osob, VSt.adoptB, VSt.adopt, VSt.alloc, PT.filt, norefB, deadB, deadV, PT.map, Option.map_some, Option.map_none, List.map_cons, List.map_nil, noref, nos, nm, nmL, nmB, nmE, Pa.eqb, PT.set, mkB, inV, cond_true, cond_false, Bool.and_true, Bool.not_false, Bool.not_true, List.set_cons_zero, List.set_cons_succ])
          (apply Go.Ab.V.G.weak; constructor <;> simp (config := {decide := true}) only [PT.Le, inV, mkB, PT.set, VSt.kill, VSt.adopt, VSt.alloc, PT.filt, PT.map, List.map_cons, List.map_nil, noref, norefB, deadB, deadV, nos, nm, nmL, nmB, nmE, Pa.eqb, cond_true, cond_false, Bool.not_true, Bool.not_false, Bool.and_true, Bool.true_and, nmL_vi, flV_len, flP_len, flV_nm, flV_ok, flV_pv, flP_map, drop_flP, drop_flV, putC_flV, eqV2, eqV3, bneT, bneF, decide_true, decide_false, frzL_vi, frzL_flV, nmE_ag, nmE_at, frzE_ag, frzE_at, ofAg_len, ofAt_len, atL_vi, nmL_map_p, frzL_map_p, okL_p, toPVs_p, repsZ, nmL_reps, putC_vi, get_flV0, get_flV1, Int.toNat_zero, Int.toNat_one, Int.reduceToNat, eqV_slice, eqV_ptr, eqV_func, nilS, nilP, nilF, nmL_append, true_or, or_true, and_self, true_and, and_true, Option.some.injEq, reduceCtorEq, false_or, or_false, VV.p.injEq, PV.at.injEq, Value.int.injEq, sl1, vi, bl1, vb, nilV, hcm, hnl, pi])
          exact congrArg VB.cells hcm
      · rintro _ ⟨L', off', C'⟩ ⟨hL', hC', hoff'⟩
        simp only at hL' hC' hoff'
        have hnext : bf x f c (i + 1) = L' := by
          show (match (bf x f c i)[i]? with
            | some e => addAll e.g e.d (bf x f c i) (succs x c e.g)
            | none => bf x f c i) = _
          rw [hL, hLi, hL', List.length_map, List.take_length]
        (simp only [VSt.kill, VSt.osob, VSt.adoptB, VSt.adopt, VSt.alloc, PT.filt, norefB, deadB, deadV, PT.map, Option.map_some, Option.map_none, List.map_cons, List.map_nil, noref, nos, nm, nmL, nmB, nmE, Pa.eqb, PT.set, mkB, inV, cond_true, cond_false, Bool.and_true, Bool.not_false, Bool.not_true, List.set_cons_zero, List.set_cons_succ])
        (repeat (first | refine VC.seq ?_ | refine VC.block ?_ | refine VC.kill ?_ | refine VC.skip ?_ | refine VC.exit ?_ | refine VC.regA ?_ | refine VC.condT ?_ | refine VC.condF ?_))
        refine ⟨_, (i + 1, off', C'), ?_, ⟨rfl, by simp only; omega, by simp only; rw [hnext]; exact hC', hoff'⟩, ?_⟩
        · simp only; omega
        · simp only [hnext]
          (apply Go.Ab.V.G.weak; constructor <;> simp (config := {decide := true}) only [PT.Le, inV, mkB, PT.set, VSt.kill, VSt.adopt, VSt.alloc, PT.filt, PT.map, List.map_cons, List.map_nil, noref, norefB, deadB, deadV, nos, nm, nmL, nmB, nmE, Pa.eqb, cond_true, cond_false, Bool.not_true, Bool.not_false, Bool.and_true, Bool.true_and, nmL_vi, flV_len, flP_len, flV_nm, flV_ok, flV_pv, flP_map, drop_flP, drop_flV, putC_flV, eqV2, eqV3, bneT, bneF, decide_true, decide_false, frzL_vi, frzL_flV, nmE_ag, nmE_at, frzE_ag, frzE_at, ofAg_len, ofAt_len, atL_vi, nmL_map_p, frzL_map_p, okL_p, toPVs_p, repsZ, nmL_reps, putC_vi, get_flV0, get_flV1, Int.toNat_zero, Int.toNat_one, Int.reduceToNat, eqV_slice, eqV_ptr, eqV_func, nilS, nilP, nilF, nmL_append, true_or, or_true, and_self, true_and, and_true, Option.some.injEq, reduceCtorEq, false_or, or_false, VV.p.injEq, PV.at.injEq, Value.int.injEq, sl1, vi, bl1, vb, nilV])
          (all_goals first | rfl | omega | exact ⟨rfl, by omega⟩)
    · have hiM : i = M := by omega
      subst hiM
      cases hfb : fb with
      | false =>
        have := (h0 hfb).1
        rw [hL] at this; omega
      | true =>
        obtain ⟨e', he', hp, rfl⟩ := h1 hfb
        rw [hL, hLi] at he'; cases he'
        rw [hp, hA]
        (repeat (first | refine VC.seq ?_ | refine VC.block ?_ | refine VC.kill ?_ | refine VC.skip ?_ | refine VC.exit ?_ | refine VC.regA ?_ | refine VC.condT ?_ | refine VC.condF ?_))
        rw [hL]
        simp only [List.map_cons, List.map_nil]
        refine VC.ret (Fin.of rfl rfl ?_ rfl rfl ?_)
        · simp [mkB, PT.set, PT.Le, p18]
        · simp [subs, nm, nmL, nmsB, nmB, nmE_ag, nos, Pa.eqb, vi, vb]
end Go.Ab.Jug

namespace Go.Ab.Jug
open Go.Ab.V
set_option maxRecDepth 100000
/-! ### The way back -/
def pathTo (L : List En) : Nat → List Int → List (Int × Int)
  | 0, _ => []
  | d + 1, g => match L.find? fun e => decide (e.g = g) with
    | some e => pathTo L d e.par ++ [e.st]
    | none => []
def swapTo (O : List (Int × Int)) (i : Nat) : List (Int × Int) := (List.range O.length).map fun m => if m < i ∨ O.length < m + 1 + i then O.getD (O.length - 1 - m) (0, 0) else O.getD m (0, 0)
theorem swapTo_len (O : List (Int × Int)) (i : Nat) : (swapTo O i).length = O.length := by simp [swapTo]
theorem swapTo_get (O : List (Int × Int)) (i m : Nat) (h : m < (swapTo O i).length) : (swapTo O i)[m] = if m < i ∨ O.length < m + 1 + i then O.getD (O.length - 1 - m) (0, 0) else O.getD m (0, 0) := by simp [swapTo]
theorem swapTo_0 (O : List (Int × Int)) : swapTo O 0 = O := by
  refine List.ext_getElem (swapTo_len O 0) fun m h1 h2 => ?_
  rw [swapTo_get, if_neg (by omega), List.getD_eq_getElem?_getD, List.getElem?_eq_getElem h2]; rfl
theorem swapTo_end (O : List (Int × Int)) (i : Nat) (h : O.length ≤ 2 * i + 1) : swapTo O i = O.reverse := by
  refine List.ext_getElem (by rw [swapTo_len, List.length_reverse]) fun m h1 h2 => ?_
  rw [swapTo_get, List.getElem_reverse]
  rw [swapTo_len] at h1
  split
  · rw [List.getD_eq_getElem?_getD, List.getElem?_eq_getElem (by omega)]; rfl
  · have : m = O.length - 1 - m := by omega
    rw [List.getD_eq_getElem?_getD, List.getElem?_eq_getElem (by omega), Option.getD_some]
    congr 1
theorem swapTo_step (O : List (Int × Int)) (i : Nat) (h : 2 * i + 1 < O.length) (h1 : i < (swapTo O i).length) (h2 : O.length - 1 - i < (swapTo O i).length) : ((swapTo O i).set i (swapTo O i)[O.length - 1 - i]).set (O.length - 1 - i) (swapTo O i)[i] = swapTo O (i + 1) := by
  have ha : (swapTo O i)[i] = O.getD i (0, 0) := by rw [swapTo_get, if_neg (by omega)]
  have hb : (swapTo O i)[O.length - 1 - i] = O.getD (O.length - 1 - i) (0, 0) := by rw [swapTo_get, if_neg (by omega)]
  rw [ha, hb]
  refine List.ext_getElem (by simp [swapTo]) fun m h3 h4 => ?_
  rw [List.getElem_set, List.getElem_set, swapTo_get, swapTo_get]
  rw [swapTo_len] at h4
  by_cases e1 : O.length - 1 - i = m
  · subst e1
    rw [if_pos rfl, if_pos (by omega)]
    congr 1; omega
  · rw [if_neg e1]
    by_cases e2 : i = m
    · subst e2
      rw [if_pos rfl, if_pos (by omega)]
    · rw [if_neg e2]
      by_cases e3 : m < i ∨ O.length < m + 1 + i
      · rw [if_pos e3, if_pos (by omega)]
      · rw [if_neg e3, if_neg (by omega)]
set_option maxHeartbeats 4000000 in
theorem Reverse_ok (O : List (Int × Int)) (hO : O.length ≤ 1000000) : VCall cfg 67 [.os 2 p38 O.length] [(p38, .cells (flV O))] [] (.tup []) [(p38, .cells (flV O.reverse))] := by
  (refine VCall.mk (fn := a67) rfl rfl rfl ?_; simp only [a67, inV, mkB, nmsL, PT.set])
  (repeat (first | refine VC.seq ?_ | refine VC.block ?_ | refine VC.kill ?_ | refine VC.skip ?_ | refine VC.exit ?_ | refine VC.regA ?_ | refine VC.condT ?_ | refine VC.condF ?_))
  refine VC.loopG (fun (i : Nat) => ⟨inV [p0, p2, p3] [.os 2 p38 O.length, vi i, vi ((O.length : Int) - 1 - i)] .lf, mkB [(p38, .cells (flV (swapTo O i)))] .lf, [p38], none⟩) (fun n i => n = O.length - i ∧ 2 * i ≤ O.length + 1) (x := 0) ?_ ⟨rfl, by omega⟩ ?_
  · have := swapTo_0 O
    (apply Go.Ab.V.G.weak; constructor <;> simp (config := {decide := true}) only [PT.Le, inV, mkB, PT.set, VSt.kill, VSt.adopt, VSt.alloc, PT.filt, PT.map, List.map_cons, List.map_nil, noref, norefB, deadB, deadV, nos, nm, nmL, nmB, nmE, Pa.eqb, cond_true, cond_false, Bool.not_true, Bool.not_false, Bool.and_true, Bool.true_and, nmL_vi, flV_len, flP_len, flV_nm, flV_ok, flV_pv, flP_map, drop_flP, drop_flV, putC_flV, eqV2, eqV3, bneT, bneF, decide_true, decide_false, frzL_vi, frzL_flV, nmE_ag, nmE_at, frzE_ag, frzE_at, ofAg_len, ofAt_len, atL_vi, nmL_map_p, frzL_map_p, okL_p, toPVs_p, repsZ, nmL_reps, putC_vi, get_flV0, get_flV1, Int.toNat_zero, Int.toNat_one, Int.reduceToNat, eqV_slice, eqV_ptr, eqV_func, nilS, nilP, nilF, nmL_append, true_or, or_true, and_self, true_and, and_true, Option.some.injEq, reduceCtorEq, false_or, or_false, VV.p.injEq, PV.at.injEq, Value.int.injEq, sl1, vi, bl1, vb, nilV, this, pi])
    (all_goals first | rfl | omega | exact ⟨rfl, by omega⟩)
  rintro n i ⟨hn, hi⟩
  simp only [inV, PT.set, mkB]
  have hl := swapTo_len O i
  (repeat (first | refine VC.seq ?_ | refine VC.block ?_ | refine VC.kill ?_ | refine VC.skip ?_ | refine VC.exit ?_ | refine VC.regA ?_ | refine VC.condT ?_ | refine VC.condF ?_))
  refine VC.condA ?_ ?_ <;> intro h <;> (simp only [decide_eq_true_eq, decide_eq_false_iff_not, bne_iff_ne, ne_eq, bne_eq_false_iff_eq, beq_iff_eq, beq_eq_false_iff_ne, Bool.not_eq_true', Bool.not_eq_false', Bool.and_eq_true, Bool.or_eq_true, Int.natCast_inj] at h)
  · have h1 : i < (swapTo O i).length := by omega
    have h2 : O.length - 1 - i < (swapTo O i).length := by omega
    have hst := swapTo_step O i (by omega) h1 h2
    have hji : (O.length : Int) - 1 - i = ((O.length - 1 - i : Nat) : Int) := by omega
    rw [hji]
    generalize hJ : O.length - 1 - i = J at *
    have hl2 : ((swapTo O i).set i ((swapTo O i)[J].1, (swapTo O i)[J].2)).length = O.length := by rw [List.length_set]; exact hl
    have hst : ((swapTo O i).set i ((swapTo O i)[J].1, (swapTo O i)[J].2)).set J ((swapTo O i)[i].1, (swapTo O i)[i].2) = swapTo O (i + 1) := hst
    (repeat (first | refine VC.seq ?_ | refine VC.block ?_ | refine VC.kill ?_ | refine VC.skip ?_ | refine VC.exit ?_ | refine VC.regA ?_ | refine VC.condT ?_ | refine VC.condF ?_))
    refine ⟨_, i + 1, ?_, ⟨rfl, by omega⟩, ?_⟩
    · omega
    · (apply Go.Ab.V.G.weak; constructor <;> simp (config := {decide := true}) only [PT.Le, inV, mkB, PT.set, VSt.kill, VSt.adopt, VSt.alloc, PT.filt, PT.map, List.map_cons, List.map_nil, noref, norefB, deadB, deadV, nos, nm, nmL, nmB, nmE, Pa.eqb, cond_true, cond_false, Bool.not_true, Bool.not_false, Bool.and_true, Bool.true_and, nmL_vi, flV_len, flP_len, flV_nm, flV_ok, flV_pv, flP_map, drop_flP, drop_flV, putC_flV, eqV2, eqV3, bneT, bneF, decide_true, decide_false, frzL_vi, frzL_flV, nmE_ag, nmE_at, frzE_ag, frzE_at, ofAg_len, ofAt_len, atL_vi, nmL_map_p, frzL_map_p, okL_p, toPVs_p, repsZ, nmL_reps, putC_vi, get_flV0, get_flV1, Int.toNat_zero, Int.toNat_one, Int.reduceToNat, eqV_slice, eqV_ptr, eqV_func, nilS, nilP, nilF, nmL_append, true_or, or_true, and_self, true_and, and_true, Option.some.injEq, reduceCtorEq, false_or, or_false, VV.p.injEq, PV.at.injEq, Value.int.injEq, sl1, vi, bl1, vb, nilV, hst])
      (all_goals first | rfl | omega | exact ⟨rfl, by omega⟩)
  · (repeat (first | refine VC.seq ?_ | refine VC.block ?_ | refine VC.kill ?_ | refine VC.skip ?_ | refine VC.exit ?_ | refine VC.regA ?_ | refine VC.condT ?_ | refine VC.condF ?_))
    rw [swapTo_end O i (by omega)]
    refine Fin.of (ys := []) rfl rfl ?_ rfl rfl ?_
    · simp [mkB, PT.set, PT.Le, VSt.kill]
    · simp [subs, nm, nmL, nmsB, nmB, flV_nm, nos, Pa.eqb]
theorem path_last {x f0 : List Int} {c : Bool} {L : List En} (G : Good x c f0 L) {k : Nat} {e : En} (he : L[k]? = some e) (hk : 0 < k) : ∃ j e', j < k ∧ L[j]? = some e' ∧ e'.g = e.par ∧ e.d = e'.d + 1 ∧ (e.st, e.g) ∈ succs x c e'.g ∧ pathTo L e.d e.g = pathTo L e'.d e'.g ++ [e.st] := by
  obtain ⟨j, e', h1, h2, h3, h4, h5⟩ := G.par k e he hk
  refine ⟨j, e', h1, h2, h3, h4, h5, ?_⟩
  rw [h4]
  show (match L.find? fun e' => decide (e'.g = e.g) with
    | some e => pathTo L e'.d e.par ++ [e.st]
    | none => []) = _
  rw [find_some G.nodup he, h3]
theorem path_len {x f0 : List Int} {c : Bool} {L : List En} (G : Good x c f0 L) : ∀ (k : Nat) (e : En), L[k]? = some e → (pathTo L e.d e.g).length = e.d := by
  intro k
  induction k using Nat.strongRecOn with
  | _ k ih =>
    intro e he
    rcases Nat.eq_zero_or_pos k with h | h
    · subst h
      rw [G.root] at he; cases he; rfl
    · obtain ⟨j, e', h1, h2, _, h4, _, h6⟩ := path_last G he h
      rw [h6, List.length_append, ih j h1 e' h2, h4]; rfl
theorem pourR_append (x : List Int) : ∀ (w : List (Int × Int)) (f : List Int) (s : Int × Int), (pourR x f w).2 = w.length → pourR x f (w ++ [s]) = if isR x.length s.1 s.2 = true then (stepR x (pourR x f w).1 s.1 s.2, w.length + 1) else ((pourR x f w).1, w.length)
  | [], f, s, _ => by simp [pourR]
  | p :: w, f, s, h => by
    by_cases hp : isR x.length p.1 p.2 = true
    · simp only [pourR, hp, if_true, List.length_cons, Nat.add_right_cancel_iff] at h
      simp only [List.cons_append, pourR, hp, if_true]
      rw [pourR_append x w _ s h]
      split <;> simp
    · simp [pourR, hp] at h
/-- The way leads there, without the sea if closed. -/
theorem path_pour {x f0 : List Int} {c : Bool} {L : List En} (G : Good x c f0 L) : ∀ (k : Nat) (e : En), L[k]? = some e → pourR x f0 (pathTo L e.d e.g) = (e.g, e.d) ∧ ∀ s ∈ pathTo L e.d e.g, isR x.length s.1 s.2 = true ∧ (c = true → s.1 ≠ -1 ∧ s.2 ≠ -1) := by
  intro k
  induction k using Nat.strongRecOn with
  | _ k ih =>
    intro e he
    rcases Nat.eq_zero_or_pos k with h | h
    · subst h
      rw [G.root] at he; cases he
      exact ⟨rfl, fun s hs => by simp [pathTo, root] at hs⟩
    · obtain ⟨j, e', h1, h2, h3, h4, h5, h6⟩ := path_last G he h
      obtain ⟨i1, i2⟩ := ih j h1 e' h2
      obtain ⟨s1, s2, _, s4⟩ := succ_mem h5
      have hl := path_len G j e' h2
      rw [h6, pourR_append x _ f0 e.st (by rw [i1, hl]), i1, hl, if_pos s1, h4]
      refine ⟨by rw [show stepR x e'.g e.st.1 e.st.2 = e.g from s2.symm], fun s hs => ?_⟩
      rcases List.mem_append.1 hs with hs | hs
      · exact i2 s hs
      · rw [List.mem_singleton.1 hs]; exact ⟨s1, s4⟩
/-- Of a search: what is found at its end, if anything. -/
structure Srch (x f : List Int) (c : Bool) (P : List Int → Bool) (M : Nat) (fb : Bool) (out : List Int) : Prop where
  no : ∀ j, j < M → ∃ e, (bf x f c j)[j]? = some e ∧ P e.g = false
  yes : fb = true → ∃ e, (bf x f c M)[M]? = some e ∧ P e.g = true ∧ out = e.g
  none : fb = false → M = (bf x f c M).length ∧ out = List.replicate x.length 0
def wayOf (x f : List Int) (c : Bool) (M : Nat) (fb : Bool) : List (Int × Int) := if fb = true then (match (bf x f c M)[M]? with
  | some e => pathTo (bf x f c M) e.d e.g
  | none => []) else []
set_option maxHeartbeats 8000000 in
theorem way_ok (x f : List Int) (c : Bool) (hx : okJ x) (hf : fillB x f = true) (k : Nat) (hk : k ≠ 20) (pc : List PV) (P : List Int → Bool) (hP : ∀ g, fillB x g = true → VCall cfg k (.agg ((pad4 g).map vi) :: pc.map .p) [] [] (vb (P g)) [])
    (M : Nat) (fb : Bool) (out : List Int) (hS : Srch x f c P M fb out) : VCall cfg 51 [jugP x c, .agg ((pad4 f).map vi), .clos k [] (pc.map .p)] [] [] (.tup [slP (wayOf x f c M fb), vb fb]) [] := by
  have hx4 : x.length ≤ 4 := hx.2.1
  have hlf : f.length = x.length := ((fillB_iff x f).1 hf).1
  have kr := reached_ok x f c hx hf k hk pc P hP M fb out hS.no hS.yes hS.none
  obtain ⟨f0, f1, f2, f3, hF⟩ := four (pad4_len f (by omega))
  have hk4 : [CK.int, CK.int, CK.int, CK.int] = k4 := rfl
  have hG := bf_good (x := x) (f0 := f) (c := c) hf M
  have hbl := bf_len (c := c) hx hf M
  rw [hF] at kr ⊢
  unfold jugP at kr ⊢
  (refine VCall.mk (fn := a51) rfl rfl rfl ?_; simp only [a51, inV, mkB, nmsL, PT.set])
  simp only [List.map_cons, List.map_nil] at kr ⊢
  (repeat (first | refine VC.seq ?_ | refine VC.block ?_ | refine VC.kill ?_ | refine VC.skip ?_ | refine VC.exit ?_ | refine VC.regA ?_ | refine VC.condT ?_ | refine VC.condF ?_))
  refine VC.regCA ?_
  refine VO.call [] [] (mkB [(p4, .cells [vi f0, vi f1, vi f2, vi f3])] .lf) rfl rfl (no_orc 66 (by decide)) kr trivial (by trivial) ?_ rfl rfl rfl rfl rfl rfl rfl ?_
  · simp [mkB, PT.set, PT.Le, vi]
  (simp only [filtN, filtNB, mkB, PT.set, VSt.put, PT.filt, noref, norefB, nos, nm, nmL, nmB, nmL_vi, nmL_map_p, nmE_ag, flV_nm, List.nil_append, List.append_nil, Pa.eqb, cond_true, cond_false, Bool.and_true, Bool.not_false, Bool.not_true])
  have hpl : (pad4 out).length = 4 := by
    cases hfb : fb with
    | true =>
      obtain ⟨e, he, _, rfl⟩ := hS.yes hfb
      exact pad4_len _ (by rw [((fillB_iff x _).1 (hG.gfill hf (List.mem_of_getElem? he))).1]; exact hx4)
    | false =>
      obtain ⟨_, rfl⟩ := hS.none hfb
      rw [pad4_zero _ hx4]; rfl
  obtain ⟨o0, o1, o2, o3, hO⟩ := four hpl
  rw [hO]
  simp only [List.map_cons, List.map_nil]
  refine VO.endA ?_
  (repeat (first | refine VC.seq ?_ | refine VC.block ?_ | refine VC.kill ?_ | refine VC.skip ?_ | refine VC.exit ?_ | refine VC.regA ?_ | refine VC.condT ?_ | refine VC.condF ?_))
  cases hfb : fb with
  | false =>
    (repeat (first | refine VC.seq ?_ | refine VC.block ?_ | refine VC.kill ?_ | refine VC.skip ?_ | refine VC.exit ?_ | refine VC.regA ?_ | refine VC.condT ?_ | refine VC.condF ?_))
    have : wayOf x f c M false = [] := rfl
    rw [this]
    refine VC.ghost (G.adoptA (p := p6) 2 p38 G.refl) ?_
    (simp only [VSt.kill, VSt.osob, VSt.adoptB, VSt.adopt, VSt.alloc, PT.filt, norefB, deadB, deadV, PT.map, Option.map_some, Option.map_none, List.map_cons, List.map_nil, noref, nos, nm, nmL, nmB, nmE, Pa.eqb, PT.set, mkB, inV, cond_true, cond_false, Bool.and_true, Bool.not_false, Bool.not_true, List.set_cons_zero, List.set_cons_succ])
    refine VC.ret (Fin.frzA p38 (hb := rfl) (hc := rfl) (Fin.A rfl))
  | true =>
    obtain ⟨e0, he0, _, rfl⟩ := hS.yes hfb
    have hw : wayOf x f c M true = pathTo (bf x f c M) e0.d e0.g := by unfold wayOf; rw [if_pos rfl, he0]
    rw [hw]
    generalize hL : bf x f c M = L at *
    have hpath := path_len hG M e0 he0
    have hd0 := good_d hG M e0 he0
    have hMl := (List.getElem?_eq_some_iff.1 he0).1
    (repeat (first | refine VC.seq ?_ | refine VC.block ?_ | refine VC.kill ?_ | refine VC.skip ?_ | refine VC.exit ?_ | refine VC.regA ?_ | refine VC.condT ?_ | refine VC.condF ?_))
    refine VC.ghost (G.adoptA (p := p11) 2 p38 G.refl) ?_
    (simp only [VSt.kill, VSt.osob, VSt.adoptB, VSt.adopt, VSt.alloc, PT.filt, norefB, deadB, deadV, PT.map, Option.map_some, Option.map_none, List.map_cons, List.map_nil, noref, nos, nm, nmL, nmB, nmE, Pa.eqb, PT.set, mkB, inV, cond_true, cond_false, Bool.and_true, Bool.not_false, Bool.not_true, List.set_cons_zero, List.set_cons_succ])
    refine VC.loopG (fun (q : En × List (Int × Int)) => ⟨inV [p4, p8, p9, p11] [.op 0 p4 0, .om p18, .op 0 p9 0, .os 2 p38 q.2.length] .lf, mkB [(p4, .cells [vi f0, vi f1, vi f2, vi f3]), (p18, .map (ofAg (esP L))), (p9, .cells ((pad4 q.1.g).map vi)), (p38, .cells (flV q.2))] .lf, [], none⟩)
      (fun n q => n = q.1.d ∧ (∃ idx, L[idx]? = some q.1) ∧ q.2 ++ (pathTo L q.1.d q.1.g).reverse = (pathTo L e0.d e0.g).reverse) (x := (e0, [])) ?_ ⟨rfl, ⟨M, he0⟩, rfl⟩ ?_
    · have hz : flV [] = [] := rfl
      (apply Go.Ab.V.G.weak; constructor <;> simp (config := {decide := true}) only [PT.Le, inV, mkB, PT.set, VSt.kill, VSt.adopt, VSt.alloc, PT.filt, PT.map, List.map_cons, List.map_nil, noref, norefB, deadB, deadV, nos, nm, nmL, nmB, nmE, Pa.eqb, cond_true, cond_false, Bool.not_true, Bool.not_false, Bool.and_true, Bool.true_and, nmL_vi, flV_len, flP_len, flV_nm, flV_ok, flV_pv, flP_map, drop_flP, drop_flV, putC_flV, eqV2, eqV3, bneT, bneF, decide_true, decide_false, frzL_vi, frzL_flV, nmE_ag, nmE_at, frzE_ag, frzE_at, ofAg_len, ofAt_len, atL_vi, nmL_map_p, frzL_map_p, okL_p, toPVs_p, repsZ, nmL_reps, putC_vi, get_flV0, get_flV1, Int.toNat_zero, Int.toNat_one, Int.reduceToNat, eqV_slice, eqV_ptr, eqV_func, nilS, nilP, nilF, nmL_append, true_or, or_true, and_self, true_and, and_true, Option.some.injEq, reduceCtorEq, false_or, or_false, VV.p.injEq, PV.at.injEq, Value.int.injEq, sl1, vi, bl1, vb, nilV, hO, List.map_cons, List.map_nil, hz, List.nil_append, List.length_nil])
    rintro n ⟨e, O⟩ ⟨hn, ⟨idx, hidx⟩, hpe⟩
    simp only at hn hidx hpe
    have hfe := hG.gfill hf (List.mem_of_getElem? hidx)
    have hle : e.g.length = x.length := ((fillB_iff x _).1 hfe).1
    obtain ⟨a0, a1, a2, a3, hA⟩ := four (pad4_len e.g (by omega))
    have e4 := eqV4 (a0 := a0) (a1 := a1) (a2 := a2) (a3 := a3) (b0 := f0) (b1 := f1) (b2 := f2) (b3 := f3)
    simp only [inV, PT.set, mkB, hA, List.map_cons, List.map_nil]
    have hOl : O.length ≤ 28561 := by
      have := congrArg List.length hpe
      rw [List.length_append, List.length_reverse, List.length_reverse, hpath] at this
      omega
    rcases Nat.eq_zero_or_pos idx with hi | hi
    · subst hi
      rw [hG.root] at hidx
      cases hidx
      have hA' : [f0, f1, f2, f3] = [a0, a1, a2, a3] := hF.symm.trans hA
      have e5 : (decide (a0 = f0) && (decide (a1 = f1) && (decide (a2 = f2) && decide (a3 = f3)))) = true := by
        simp only [List.cons.injEq] at hA'
        simp [hA'.1, hA'.2.1, hA'.2.2.1, hA'.2.2.2.1]
      (repeat (first | refine VC.seq ?_ | refine VC.block ?_ | refine VC.kill ?_ | refine VC.skip ?_ | refine VC.exit ?_ | refine VC.regA ?_ | refine VC.condT ?_ | refine VC.condF ?_))
      (simp (config := {decide := false, maxSteps := 1000000}) (disch := omega) only [vev_call, putC_c0, putC_n0, putC_cs, ble0, List.getElem?_cons_zero, List.getElem?_cons_succ, runU, isCall, wantV, vev, evV, ofVal, ofAtom, atomB, cond_true, cond_false, PT.get, PT.set, PT.filt, PT.map, Option.getD_some, Option.getD_none, ret1V, ret1X, v_ld, v_ias, v_iad, v_fad, v_slsl, v_slarr, v_st, v_app, v_cpy, v_len, v_look, v_mset, elsV, partV, newV, free, atV, atI, atL, toVal, cellsV, okV, VSt.put, VSt.kill, VSt.alloc, VSt.frz, VSt.adopt, noref, norefB, deadB, deadV, nos, nm, nmL, nmB, nmE, Pa.eqb, Bool.not_false, Bool.not_true, Bool.and_true, Bool.true_and, Bool.false_and, Bool.and_false, bin, intOps, intBin, cvt, un, goInt, bndsV, bndV, Option.map_some, Option.map_none, List.map_cons, List.map_nil, Int.toNat_natCast, Nat.mul_one, Nat.zero_add, beq_true, beq_false, beq_self_eq_true, List.length_map, List.length_cons, List.length_nil, List.length_append, fillV, pEvV, repsV, List.append_nil, List.nil_append, if_pos, if_neg, reduceIte, List.getElem?_map, List.getElem?_drop, Nat.add_zero, List.getElem?_eq_getElem, Go.IntWalk.i64_in, wrap_u64, tmod_pos, eq_self, true_and, and_true, and_self, List.all_cons, List.all_nil, nmL_vi, flV_len, flP_len, flV_nm, flV_ok, flV_pv, flP_map, drop_flP, drop_flV, putC_flV, eqV2, eqV3, bneT, bneF, decide_true, decide_false, frzL_vi, frzL_flV, nmE_ag, nmE_at, frzE_ag, frzE_at, ofAg_len, ofAt_len, atL_vi, nmL_map_p, frzL_map_p, okL_p, toPVs_p, repsZ, nmL_reps, putC_vi, get_flV0, get_flV1, Int.toNat_zero, Int.toNat_one, Int.reduceToNat, eqV_slice, eqV_ptr, eqV_func, nilS, nilP, nilF, nmL_append, okL_vi, toPVs_vi, toPVs, toPV, frzV, frzL, frzB, resVV, vi, vb, nilV, sl1, bl1, pi, foldV, max2, min2, max_eq, min_eq, Int.tdiv_eq_ediv_of_nonneg, Int.cast_ofNat_Int, Option.isSome_none, Option.isSome_some, Option.isNone_none, Option.isNone_some, and_false, false_and, sl2, sl1P, slP, min_cast, take_map_pi, map_pi, Nat.sub_zero, Nat.zero_mul, List.length_take, decide_eq_true, decide_eq_false, Bool.true_eq_false, Bool.false_eq_true, beqT, beqF, ibeq, ibne, List.take_zero, List.take_succ_cons, List.drop_zero, List.drop_succ_cons, List.drop_nil, List.take_nil, List.cons_append, Bool.not_true, Bool.not_false, e5])
      (repeat (first | refine VC.seq ?_ | refine VC.block ?_ | refine VC.kill ?_ | refine VC.skip ?_ | refine VC.exit ?_ | refine VC.regA ?_ | refine VC.condT ?_ | refine VC.condF ?_))
      have hO2 : O = (pathTo L e0.d e0.g).reverse := by simpa [pathTo, root] using hpe
      have kv := Reverse_ok O (by omega)
      refine VC.regCA ?_
      refine VO.call [] [(p38, .cells (flV O))] .lf rfl rfl (no_orc 67 (by decide)) kv trivial ?_ (by trivial) rfl rfl rfl rfl rfl rfl rfl ?_
      · simp [mkB, PT.set, PT.Le, VSt.kill]
      (simp only [filtN, filtNB, mkB, PT.set, VSt.put, PT.filt, noref, norefB, nos, nm, nmL, nmB, nmL_vi, nmL_map_p, nmE_ag, flV_nm, List.nil_append, List.append_nil, Pa.eqb, cond_true, cond_false, Bool.and_true, Bool.not_false, Bool.not_true])
      refine VO.nil ?_
      (repeat (first | refine VC.seq ?_ | refine VC.block ?_ | refine VC.kill ?_ | refine VC.skip ?_ | refine VC.exit ?_ | refine VC.regA ?_ | refine VC.condT ?_ | refine VC.condF ?_))
      rw [hO2, List.reverse_reverse]
      refine VC.ret (Fin.frzA p38 (hb := rfl) (hc := flV_pv _) (Fin.A ?_))
      simp [slP, resX, vb, List.length_reverse]
    · obtain ⟨j, e', h1, h2, h3, h4, h5, h6⟩ := path_last hG hidx hi
      have hne : [a0, a1, a2, a3] ≠ [f0, f1, f2, f3] := by
        intro h
        have hgf : e.g = f := pad4_inj (by omega) (by rw [hA, hF, h])
        have h0l : (0 : Nat) < L.length := by omega
        obtain ⟨hk, hke⟩ := List.getElem?_eq_some_iff.1 hidx
        obtain ⟨_, hr⟩ := List.getElem?_eq_some_iff.1 hG.root
        have : idx = 0 := (List.getElem_inj (h₀ := by simpa using hk) (h₁ := by simpa using h0l) hG.nodup).1 (by simp [hke, hr, root, hgf])
        omega
      have e5 : (decide (a0 = f0) && (decide (a1 = f1) && (decide (a2 = f2) && decide (a3 = f3)))) = false := by
        rw [← Bool.not_eq_true]
        intro h
        simp at h
        exact hne (by rw [h.1, h.2.1, h.2.2.1, h.2.2.2])
      have hfs := findV_es hx4 hfe (L := L) fun e he => hG.gfill hf he
      rw [find_some hG.nodup hidx] at hfs
      have hke := keyK (g := e.g) (h := e.g) (by omega) (by omega)
      rw [decide_eq_true rfl] at hke
      simp only [kV, hA, List.map_cons, List.map_nil, Option.map_some] at hfs hke
      obtain ⟨c0, c1, c2, c3, hCp⟩ := four (pad4_len e.par (by have := hG.par_len (List.mem_of_getElem? hidx); omega))
      have hen : entP e = [pi c0, pi c1, pi c2, pi c3, pi e.st.1, pi e.st.2, pi e.d] := by simp only [entP, hCp]; rfl
      rw [hen] at hfs
      (repeat (first | refine VC.seq ?_ | refine VC.block ?_ | refine VC.kill ?_ | refine VC.skip ?_ | refine VC.exit ?_ | refine VC.regA ?_ | refine VC.condT ?_ | refine VC.condF ?_))
      (simp (config := {decide := false, maxSteps := 1000000}) (disch := omega) only [vev_call, putC_c0, putC_n0, putC_cs, ble0, List.getElem?_cons_zero, List.getElem?_cons_succ, runU, isCall, wantV, vev, evV, ofVal, ofAtom, atomB, cond_true, cond_false, PT.get, PT.set, PT.filt, PT.map, Option.getD_some, Option.getD_none, ret1V, ret1X, v_ld, v_ias, v_iad, v_fad, v_slsl, v_slarr, v_st, v_app, v_cpy, v_len, v_look, v_mset, elsV, partV, newV, free, atV, atI, atL, toVal, cellsV, okV, VSt.put, VSt.kill, VSt.alloc, VSt.frz, VSt.adopt, noref, norefB, deadB, deadV, nos, nm, nmL, nmB, nmE, Pa.eqb, Bool.not_false, Bool.not_true, Bool.and_true, Bool.true_and, Bool.false_and, Bool.and_false, bin, intOps, intBin, cvt, un, goInt, bndsV, bndV, Option.map_some, Option.map_none, List.map_cons, List.map_nil, Int.toNat_natCast, Nat.mul_one, Nat.zero_add, beq_true, beq_false, beq_self_eq_true, List.length_map, List.length_cons, List.length_nil, List.length_append, fillV, pEvV, repsV, List.append_nil, List.nil_append, if_pos, if_neg, reduceIte, List.getElem?_map, List.getElem?_drop, Nat.add_zero, List.getElem?_eq_getElem, Go.IntWalk.i64_in, wrap_u64, tmod_pos, eq_self, true_and, and_true, and_self, List.all_cons, List.all_nil, nmL_vi, flV_len, flP_len, flV_nm, flV_ok, flV_pv, flP_map, drop_flP, drop_flV, putC_flV, eqV2, eqV3, bneT, bneF, decide_true, decide_false, frzL_vi, frzL_flV, nmE_ag, nmE_at, frzE_ag, frzE_at, ofAg_len, ofAt_len, atL_vi, nmL_map_p, frzL_map_p, okL_p, toPVs_p, repsZ, nmL_reps, putC_vi, get_flV0, get_flV1, Int.toNat_zero, Int.toNat_one, Int.reduceToNat, eqV_slice, eqV_ptr, eqV_func, nilS, nilP, nilF, nmL_append, okL_vi, toPVs_vi, toPVs, toPV, frzV, frzL, frzB, resVV, vi, vb, nilV, sl1, bl1, pi, foldV, max2, min2, max_eq, min_eq, Int.tdiv_eq_ediv_of_nonneg, Int.cast_ofNat_Int, Option.isSome_none, Option.isSome_some, Option.isNone_none, Option.isNone_some, and_false, false_and, sl2, sl1P, slP, min_cast, take_map_pi, map_pi, Nat.sub_zero, Nat.zero_mul, List.length_take, decide_eq_true, decide_eq_false, Bool.true_eq_false, Bool.false_eq_true, beqT, beqF, ibeq, ibne, List.take_zero, List.take_succ_cons, List.drop_zero, List.drop_succ_cons, List.drop_nil, List.take_nil, List.cons_append, Bool.not_true, Bool.not_false, e5])
      (repeat (first | refine VC.seq ?_ | refine VC.block ?_ | refine VC.kill ?_ | refine VC.skip ?_ | refine VC.exit ?_ | refine VC.regA ?_ | refine VC.condT ?_ | refine VC.condF ?_))
      apply VC.regU
      · (simp (config := {decide := false, maxSteps := 1000000}) (disch := omega) only [vev_call, putC_c0, putC_n0, putC_cs, ble0, List.getElem?_cons_zero, List.getElem?_cons_succ, runU, isCall, wantV, vev, evV, ofVal, ofAtom, atomB, cond_true, cond_false, PT.get, PT.set, PT.filt, PT.map, Option.getD_some, Option.getD_none, ret1V, ret1X, v_ld, v_ias, v_iad, v_fad, v_slsl, v_slarr, v_st, v_app, v_cpy, v_len, v_look, v_mset, elsV, partV, newV, free, atV, atI, atL, toVal, cellsV, okV, VSt.put, VSt.kill, VSt.alloc, VSt.frz, VSt.adopt, noref, norefB, deadB, deadV, nos, nm, nmL, nmB, nmE, Pa.eqb, Bool.not_false, Bool.not_true, Bool.and_true, Bool.true_and, Bool.false_and, Bool.and_false, bin, intOps, intBin, cvt, un, goInt, bndsV, bndV, Option.map_some, Option.map_none, List.map_cons, List.map_nil, Int.toNat_natCast, Nat.mul_one, Nat.zero_add, beq_true, beq_false, beq_self_eq_true, List.length_map, List.length_cons, List.length_nil, List.length_append, fillV, pEvV, repsV, List.append_nil, List.nil_append, if_pos, if_neg, reduceIte, List.getElem?_map, List.getElem?_drop, Nat.add_zero, List.getElem?_eq_getElem, Go.IntWalk.i64_in, wrap_u64, tmod_pos, eq_self, true_and, and_true, and_self, List.all_cons, List.all_nil, nmL_vi, flV_len, flP_len, flV_nm, flV_ok, flV_pv, flP_map, drop_flP, drop_flV, putC_flV, eqV2, eqV3, bneT, bneF, decide_true, decide_false, frzL_vi, frzL_flV, nmE_ag, nmE_at, frzE_ag, frzE_at, ofAg_len, ofAt_len, atL_vi, nmL_map_p, frzL_map_p, okL_p, toPVs_p, repsZ, nmL_reps, putC_vi, get_flV0, get_flV1, Int.toNat_zero, Int.toNat_one, Int.reduceToNat, eqV_slice, eqV_ptr, eqV_func, nilS, nilP, nilF, nmL_append, okL_vi, toPVs_vi, toPVs, toPV, frzV, frzL, frzB, resVV, vi, vb, nilV, sl1, bl1, pi, foldV, max2, min2, max_eq, min_eq, Int.tdiv_eq_ediv_of_nonneg, Int.cast_ofNat_Int, Option.isSome_none, Option.isSome_some, Option.isNone_none, Option.isNone_some, and_false, false_and, sl2, sl1P, slP, min_cast, take_map_pi, map_pi, Nat.sub_zero, Nat.zero_mul, List.length_take, decide_eq_true, decide_eq_false, Bool.true_eq_false, Bool.false_eq_true, beqT, beqF, ibeq, ibne, List.take_zero, List.take_succ_cons, List.drop_zero, List.drop_succ_cons, List.drop_nil, List.take_nil, List.cons_append, Bool.not_true, Bool.not_false, hk4, hke, hfs])
        rfl
      (repeat (first | refine VC.seq ?_ | refine VC.block ?_ | refine VC.kill ?_ | refine VC.skip ?_ | refine VC.exit ?_ | refine VC.regA ?_ | refine VC.condT ?_ | refine VC.condF ?_))
      have hfl := flV_snoc O e.st.1 e.st.2
      have hle2 : (O ++ [(e.st.1, e.st.2)]).length = O.length + 1 := by simp
      refine ⟨_, (e', O ++ [(e.st.1, e.st.2)]), ?_, ⟨rfl, ⟨j, h2⟩, ?_⟩, ?_⟩
      · simp only; omega
      · rw [h6, List.reverse_append] at hpe
        rw [← hpe]; simp
      · rw [← h3] at hCp
        (apply Go.Ab.V.G.weak; constructor <;> simp (config := {decide := true}) only [PT.Le, inV, mkB, PT.set, VSt.kill, VSt.adopt, VSt.alloc, PT.filt, PT.map, List.map_cons, List.map_nil, noref, norefB, deadB, deadV, nos, nm, nmL, nmB, nmE, Pa.eqb, cond_true, cond_false, Bool.not_true, Bool.not_false, Bool.and_true, Bool.true_and, nmL_vi, flV_len, flP_len, flV_nm, flV_ok, flV_pv, flP_map, drop_flP, drop_flV, putC_flV, eqV2, eqV3, bneT, bneF, decide_true, decide_false, frzL_vi, frzL_flV, nmE_ag, nmE_at, frzE_ag, frzE_at, ofAg_len, ofAt_len, atL_vi, nmL_map_p, frzL_map_p, okL_p, toPVs_p, repsZ, nmL_reps, putC_vi, get_flV0, get_flV1, Int.toNat_zero, Int.toNat_one, Int.reduceToNat, eqV_slice, eqV_ptr, eqV_func, nilS, nilP, nilF, nmL_append, true_or, or_true, and_self, true_and, and_true, Option.some.injEq, reduceCtorEq, false_or, or_false, VV.p.injEq, PV.at.injEq, Value.int.injEq, sl1, vi, bl1, vb, nilV, hfl, hle2, hCp, List.map_cons, List.map_nil])
        (all_goals first | rfl | omega | exact ⟨rfl, by omega⟩)
end Go.Ab.Jug

namespace Go.Ab.Jug
open Go.Ab.V
set_option maxRecDepth 100000
end Go.Ab.Jug

namespace Go.Ab.Jug
open Go.Ab.V
set_option maxRecDepth 100000
theorem Way1_ok (x g t : List Int) (hx4 : x.length ≤ 4) (hg : fillB x g = true) (ht : fillB x t = true) : VCall cfg 52 [.agg ((pad4 g).map vi), .p (.fp 0 ((pad4 t).map pi))] [] [] (vb (decide (g = t))) [] := by
  have hlg : g.length = x.length := ((fillB_iff x g).1 hg).1
  have hlt : t.length = x.length := ((fillB_iff x t).1 ht).1
  obtain ⟨a0, a1, a2, a3, hA⟩ := four (pad4_len g (by omega))
  obtain ⟨b0, b1, b2, b3, hB⟩ := four (pad4_len t (by omega))
  have e4 := eqV4 (a0 := a0) (a1 := a1) (a2 := a2) (a3 := a3) (b0 := b0) (b1 := b1) (b2 := b2) (b3 := b3)
  have hd : decide (g = t) = decide ([a0, a1, a2, a3] = [b0, b1, b2, b3]) := by
    rw [decide_eq_decide, ← hA, ← hB]
    exact ⟨fun h => by rw [h], fun h => pad4_inj (by omega) h⟩
  rw [hA, hB, hd]
  (refine VCall.mk (fn := a52) rfl rfl rfl ?_; simp only [a52, inV, mkB, nmsL, PT.set])
  simp only [List.map_cons, List.map_nil]
  have e5 : (decide (a0 = b0) && (decide (a1 = b1) && (decide (a2 = b2) && decide (a3 = b3)))) = decide ([a0, a1, a2, a3] = [b0, b1, b2, b3]) := by
    rw [Bool.eq_iff_iff]; simp
  (repeat (first | refine VC.seq ?_ | refine VC.block ?_ | refine VC.kill ?_ | refine VC.skip ?_ | refine VC.exit ?_ | refine VC.regA ?_ | refine VC.condT ?_ | refine VC.condF ?_))
  (simp (config := {decide := false, maxSteps := 1000000}) (disch := omega) only [vev_call, putC_c0, putC_n0, putC_cs, ble0, List.getElem?_cons_zero, List.getElem?_cons_succ, runU, isCall, wantV, vev, evV, ofVal, ofAtom, atomB, cond_true, cond_false, PT.get, PT.set, PT.filt, PT.map, Option.getD_some, Option.getD_none, ret1V, ret1X, v_ld, v_ias, v_iad, v_fad, v_slsl, v_slarr, v_st, v_app, v_cpy, v_len, v_look, v_mset, elsV, partV, newV, free, atV, atI, atL, toVal, cellsV, okV, VSt.put, VSt.kill, VSt.alloc, VSt.frz, VSt.adopt, noref, norefB, deadB, deadV, nos, nm, nmL, nmB, nmE, Pa.eqb, Bool.not_false, Bool.not_true, Bool.and_true, Bool.true_and, Bool.false_and, Bool.and_false, bin, intOps, intBin, cvt, un, goInt, bndsV, bndV, Option.map_some, Option.map_none, List.map_cons, List.map_nil, Int.toNat_natCast, Nat.mul_one, Nat.zero_add, beq_true, beq_false, beq_self_eq_true, List.length_map, List.length_cons, List.length_nil, List.length_append, fillV, pEvV, repsV, List.append_nil, List.nil_append, if_pos, if_neg, reduceIte, List.getElem?_map, List.getElem?_drop, Nat.add_zero, List.getElem?_eq_getElem, Go.IntWalk.i64_in, wrap_u64, tmod_pos, eq_self, true_and, and_true, and_self, List.all_cons, List.all_nil, nmL_vi, flV_len, flP_len, flV_nm, flV_ok, flV_pv, flP_map, drop_flP, drop_flV, putC_flV, eqV2, eqV3, bneT, bneF, decide_true, decide_false, frzL_vi, frzL_flV, nmE_ag, nmE_at, frzE_ag, frzE_at, ofAg_len, ofAt_len, atL_vi, nmL_map_p, frzL_map_p, okL_p, toPVs_p, repsZ, nmL_reps, putC_vi, get_flV0, get_flV1, Int.toNat_zero, Int.toNat_one, Int.reduceToNat, eqV_slice, eqV_ptr, eqV_func, nilS, nilP, nilF, nmL_append, okL_vi, toPVs_vi, toPVs, toPV, frzV, frzL, frzB, resVV, vi, vb, nilV, sl1, bl1, pi, foldV, max2, min2, max_eq, min_eq, Int.tdiv_eq_ediv_of_nonneg, Int.cast_ofNat_Int, Option.isSome_none, Option.isSome_some, Option.isNone_none, Option.isNone_some, and_false, false_and, sl2, sl1P, slP, min_cast, take_map_pi, map_pi, Nat.sub_zero, Nat.zero_mul, List.length_take, decide_eq_true, decide_eq_false, Bool.true_eq_false, Bool.false_eq_true, beqT, beqF, ibeq, ibne, List.take_zero, List.take_succ_cons, List.drop_zero, List.drop_succ_cons, List.drop_nil, List.take_nil, List.cons_append, Bool.not_true, Bool.not_false, bneF])
  refine VC.ret (Fin.A ?_)
  rw [← e5]; rfl
/-- A search ends, and finds or does not. -/
theorem search_ends {x f : List Int} {c : Bool} (hx : okJ x) (hf : fillB x f = true) (P : List Int → Bool) : ∃ M fb out, Srch x f c P M fb out := by
  obtain ⟨N, hN, hj⟩ := bf_end (c := c) hx hf
  have : ∀ n, n ≤ N → (∃ M, M < n ∧ (∀ j, j < M → ∃ e, (bf x f c j)[j]? = some e ∧ P e.g = false) ∧ ∃ e, (bf x f c M)[M]? = some e ∧ P e.g = true) ∨ ∀ j, j < n → ∃ e, (bf x f c j)[j]? = some e ∧ P e.g = false := by
    intro n
    induction n with
    | zero => exact fun _ => .inr fun j hj => absurd hj (Nat.not_lt_zero j)
    | succ n ih =>
      intro hn
      rcases ih (by omega) with ⟨M, h1, h2⟩ | h
      · exact .inl ⟨M, by omega, h2⟩
      · have hl := hj n (by omega)
        cases hP : P (bf x f c n)[n].g with
        | true => exact .inl ⟨n, by omega, h, _, List.getElem?_eq_getElem hl, hP⟩
        | false =>
          refine .inr fun j hj' => ?_
          rcases Nat.lt_or_ge j n with h1 | h1
          · exact h j h1
          · have : j = n := by omega
            subst this
            exact ⟨_, List.getElem?_eq_getElem hl, hP⟩
  rcases this N (Nat.le_refl N) with ⟨M, _, h1, e, h2, h3⟩ | h
  · exact ⟨M, true, e.g, h1, fun _ => ⟨e, h2, h3, rfl⟩, fun h => by cases h⟩
  · exact ⟨N, false, _, h, (fun h => by cases h), fun _ => ⟨hN, rfl⟩⟩
set_option maxHeartbeats 4000000 in
theorem Way_ok (x f t : List Int) (c : Bool) (hx : okJ x) (hf : fillB x f = true) (ht : fillB x t = true) (M : Nat) (fb : Bool) (out : List Int) (hS : Srch x f c (fun g => decide (g = t)) M fb out) :
    VCall cfg 22 [sl1 x, sl1 f, sl1 t, vb c] [] [] (.tup [slP (wayOf x f c M fb), vb fb, vi 0]) [] := by
  have hx4 : x.length ≤ 4 := hx.2.1
  have hl : x.length ≤ 9223372036854775807 := by omega
  have hlf : f.length = x.length := ((fillB_iff x f).1 hf).1
  have hlt : t.length = x.length := ((fillB_iff x t).1 ht).1
  have ho := opens x c [f, t] hl (by intro q hq; simp at hq; rcases hq with rfl | rfl <;> omega) (by simp)
  have hv : openV x [f, t] = 0 := by unfold openV; rw [if_pos hx, if_pos (by simp [hf, ht])]
  rw [openJ, hv, if_pos rfl] at ho
  have k1 := of_ok t (by omega)
  have k2 := of_ok f (by omega)
  have k3 := way_ok x f c hx hf 52 (by decide) [.fp 0 ((pad4 t).map pi)] (fun g => decide (g = t)) (fun g hg => Way1_ok x g t hx4 hg ht) M fb out hS
  obtain ⟨b0, b1, b2, b3, hB⟩ := four (pad4_len t (by omega))
  unfold jugP at ho k3
  rw [hB] at k1 k3
  simp only [List.map_cons, List.map_nil] at k1 k3
  (refine VCall.mk (fn := a22) rfl rfl rfl ?_; simp only [a22, inV, mkB, nmsL, PT.set])
  (repeat (first | refine VC.seq ?_ | refine VC.block ?_ | refine VC.kill ?_ | refine VC.skip ?_ | refine VC.exit ?_ | refine VC.regA ?_ | refine VC.condT ?_ | refine VC.condF ?_))
  refine VC.regCA ?_
  refine VO.moreA ?_
  refine VO.frzA p21 ?_
  refine VO.call0A (no_orc 46 (by decide)) ho ?_
  refine VO.endA ?_
  (repeat (first | refine VC.seq ?_ | refine VC.block ?_ | refine VC.kill ?_ | refine VC.skip ?_ | refine VC.exit ?_ | refine VC.regA ?_ | refine VC.condT ?_ | refine VC.condF ?_))
  (refine VC.regCA ?_; refine VO.moreA ?_; refine VO.call0A (no_orc _ (by decide)) k1 ?_; refine VO.endA ?_; (repeat (first | refine VC.seq ?_ | refine VC.block ?_ | refine VC.kill ?_ | refine VC.skip ?_ | refine VC.exit ?_ | refine VC.regA ?_ | refine VC.condT ?_ | refine VC.condF ?_)))
  refine VC.regCA ?_
  refine VO.moreA ?_
  refine VO.call0A (no_orc 48 (by decide)) k2 ?_
  refine VO.moreA ?_
  refine VO.frzA p13 ?_
  refine VO.call0A (no_orc 51 (by decide)) k3 ?_
  refine VO.endA ?_
  (repeat (first | refine VC.seq ?_ | refine VC.block ?_ | refine VC.kill ?_ | refine VC.skip ?_ | refine VC.exit ?_ | refine VC.regA ?_ | refine VC.condT ?_ | refine VC.condF ?_))
  exact VC.ret (Fin.A rfl)
/-- What the search tells of the list of all. -/
theorem srch_all {x f t : List Int} {c : Bool} (hx : okJ x) (hf : fillB x f = true) (ht : fillB x t = true) {N : Nat} (hN : N = (bf x f c N).length) (hj : ∀ j, j < N → j < (bf x f c j).length) {M : Nat} {fb : Bool} {out : List Int} (hS : Srch x f c (fun g => decide (g = t)) M fb out) :
    (fb = true → distE x (bf x f c N) (code x t) = (wayOf x f c M fb).length ∧ pourR x f (wayOf x f c M fb) = (t, (wayOf x f c M fb).length) ∧ (∀ s ∈ wayOf x f c M fb, isR x.length s.1 s.2 = true ∧ (c = true → s.1 ≠ -1 ∧ s.2 ≠ -1)) ∧ (wayOf x f c M fb).length ≤ 28561) ∧
    (fb = false → distE x (bf x f c N) (code x t) = -1 ∧ wayOf x f c M fb = []) := by
  have hMN : M ≤ N := by
    rcases Nat.lt_or_ge N M with h | h
    · obtain ⟨e, he, _⟩ := hS.no N h
      have := (List.getElem?_eq_some_iff.1 he).1
      omega
    · exact h
  have G := bf_good (c := c) hf N
  have hbl := bf_len (c := c) hx hf M
  have hgf : ∀ e ∈ bf x f c N, fillB x e.g = true := fun e he => G.gfill hf he
  constructor
  · intro hfb
    obtain ⟨e, he, hP, _⟩ := hS.yes hfb
    have GM := bf_good (c := c) hf M
    have hP : e.g = t := by simpa using hP
    have hw : wayOf x f c M fb = pathTo (bf x f c M) e.d e.g := by unfold wayOf; rw [if_pos hfb, he]
    obtain ⟨h1, h2⟩ := path_pour GM M e he
    have hl := path_len GM M e he
    have hd := good_d GM M e he
    have := (List.getElem?_eq_some_iff.1 he).1
    refine ⟨?_, ?_, ?_, ?_⟩
    · rw [hw, hl, ← hP]; exact distE_get hgf G.nodup (bf_get hMN he)
    · rw [hw, h1, hl, hP]
    · rw [hw]; exact h2
    · rw [hw, hl]; omega
  · intro hfb
    obtain ⟨hM, _⟩ := hS.none hfb
    have hNM : M = N := by
      rcases Nat.lt_or_ge M N with h | h
      · have := hj M h; omega
      · omega
    refine ⟨distE_none hgf ht ?_, by unfold wayOf; rw [if_neg (by rw [hfb]; simp)]⟩
    cases hh : hasE (bf x f c N) t with
    | false => rfl
    | true =>
      obtain ⟨e, he, hg⟩ := hasE_iff.1 hh
      obtain ⟨j, hjl, hje⟩ := List.mem_iff_getElem.1 he
      obtain ⟨e', he', hP⟩ := hS.no j (by omega)
      have := bf_get (j := N) (by omega) he'
      rw [List.getElem?_eq_getElem hjl, hje] at this
      cases this
      simp at hP
      exact absurd hg hP
end Go.Ab.Jug

namespace Go.Ab.Jug
set_option maxRecDepth 1000000
theorem awake_runs : (match run true cfg0 400 (.call 20 [] ⟨fun _ => none, .lf, 0, 0⟩) with
  | some (_, .nd (.bool true) _ _, _) => true
  | _ => false) = true := by decide +kernel
theorem awake_closed : ClosedAns cfg0 20 (.bool true) := by
  have h := awake_runs
  split at h
  · rename_i e l r h' he; exact ⟨400, e, l, r, h', he⟩
  · cases h
end Go.Ab.Jug

namespace Go.Ab.Jug
open Go.Ab.V
set_option maxRecDepth 100000
theorem tameJ_ok (l : List Int) (m : Nat) (hm : 1 ≤ m ∧ m ≤ 4) : okJ (tameJ l m) := by
  unfold tameJ
  split
  · rw [okJ_iff]; simp
  · rw [okJ_iff]
    refine ⟨fun x hx => ?_, ?_, ?_⟩
    · obtain ⟨y, _, rfl⟩ := List.mem_map.1 hx
      exact red12_bd y
    · rw [List.length_map]; omega
    · rw [List.length_map, List.length_take]; omega
theorem fillF_ok (x l : List Int) (hq : ∀ i ∈ x, 1 ≤ i ∧ i ≤ 12) : fillB x (fillF x l) = true := by
  rw [fillB_iff]
  refine ⟨by simp [fillF], fun i h h' => ?_⟩
  simp only [fillF, List.getElem_map, List.getElem_range, fillE]
  have hx := hq _ (List.getElem_mem h')
  rw [show x.getD i 0 = x[i] from by rw [List.getD_eq_getElem?_getD, List.getElem?_eq_getElem h', Option.getD_some]]
  split
  · exact ⟨Int.emod_nonneg _ (by omega), by have := Int.emod_lt_of_pos (l.getD i 0 % 18446744073709551616) (b := x[i] + 1) (by omega); omega⟩
  · omega
end Go.Ab.Jug

/- Regions in which a read may come before or behind a call. -/
namespace Go.Ab.V
section
variable {C : Cfg}
theorem states_head (self : Task → Option Res) (A : List AOper) (s : Slots) (h : AHeap) : (states false C self A s h)[0]? = some (s, h) := by
  cases A <;> rfl
theorem states_get (self : Task → Option Res) : ∀ (A X : List AOper) (s s1 : Slots) (h h1 : AHeap), runOps false C self A s h = some (s1, h1) → (states false C self (A ++ X) s h)[A.length]? = some (s1, h1)
  | [], X, s, s1, h, h1, he => by cases he; exact states_head self X s h
  | o :: A, X, s, s1, h, h1, he => by
    have he : (match wantedA s o.guard with
      | none => none
      | some t => Bool.casesOn t (setO o.dst s skipV fun s => runOps false C self A s h)
        (match aev o.op false C self s h with
          | some (v, h') => frcV false v fun v => frcH false h' fun h' => setO o.dst s v fun s => runOps false C self A s h'
          | none => none)) = some (s1, h1) := he
    show ((s, h) :: (match wantedA s o.guard with
      | none => []
      | some true => match aev o.op false C self s h with
        | some (v, h') => states false C self (A ++ X) (setO o.dst s v fun s => s) h'
        | none => []
      | some false => states false C self (A ++ X) (setO o.dst s skipV fun s => s) h))[A.length + 1]? = _
    rw [List.getElem?_cons_succ]
    cases hw : wantedA s o.guard with
    | none => rw [hw] at he; cases he
    | some t =>
      rw [hw] at he
      cases t with
      | false =>
        have he : setO o.dst s skipV (fun s => runOps false C self A s h) = some (s1, h1) := he
        rw [setO_eq] at he
        exact states_get self A X _ s1 h h1 he
      | true =>
        cases hv : aev o.op false C self s h with
        | none => simp only [hv] at he; cases he
        | some r =>
          obtain ⟨v, h'⟩ := r
          simp only [hv] at he
          have he : frcV false v (fun v => frcH false h' fun h' => setO o.dst s v fun s => runOps false C self A s h') = some (s1, h1) := he
          simp only [frcV_eq, frcH_eq] at he
          rw [setO_eq] at he
          exact states_get self A X _ s1 h' h1 he
theorem runOps_append (self : Task → Option Res) : ∀ (A X : List AOper) (s s1 : Slots) (h h1 : AHeap), runOps false C self A s h = some (s1, h1) → runOps false C self (A ++ X) s h = runOps false C self X s1 h1
  | [], X, s, s1, h, h1, he => by cases he; rfl
  | o :: A, X, s, s1, h, h1, he => by
    have he : (match wantedA s o.guard with
      | none => none
      | some t => Bool.casesOn t (setO o.dst s skipV fun s => runOps false C self A s h)
        (match aev o.op false C self s h with
          | some (v, h') => frcV false v fun v => frcH false h' fun h' => setO o.dst s v fun s => runOps false C self A s h'
          | none => none)) = some (s1, h1) := he
    show (match wantedA s o.guard with
      | none => none
      | some t => Bool.casesOn t (setO o.dst s skipV fun s => runOps false C self (A ++ X) s h)
        (match aev o.op false C self s h with
          | some (v, h') => frcV false v fun v => frcH false h' fun h' => setO o.dst s v fun s => runOps false C self (A ++ X) s h'
          | none => none)) = _
    cases hw : wantedA s o.guard with
    | none => rw [hw] at he; cases he
    | some t =>
      rw [hw] at he
      cases t with
      | false =>
        have he : setO o.dst s skipV (fun s => runOps false C self A s h) = some (s1, h1) := he
        rw [setO_eq] at he
        show setO o.dst s skipV (fun s => runOps false C self (A ++ X) s h) = _
        rw [setO_eq]
        exact runOps_append self A X _ s1 h h1 he
      | true =>
        cases hv : aev o.op false C self s h with
        | none => simp only [hv] at he; cases he
        | some r =>
          obtain ⟨v, h'⟩ := r
          simp only [hv] at he
          have he : frcV false v (fun v => frcH false h' fun h' => setO o.dst s v fun s => runOps false C self A s h') = some (s1, h1) := he
          simp only [frcV_eq, frcH_eq] at he
          rw [setO_eq] at he
          show frcV false v (fun v => frcH false h' fun h' => setO o.dst s v fun s => runOps false C self (A ++ X) s h') = _
          simp only [frcV_eq, frcH_eq]
          rw [setO_eq]
          exact runOps_append self A X _ s1 h' h1 he
theorem runOps_step (self : Task → Option Res) {c : AOper} {X : List AOper} {s : Slots} {h h' : AHeap} {v : Value} (hw : wantedA s c.guard = some true) (hv : aev c.op false C self s h = some (v, h')) : runOps false C self (c :: X) s h = runOps false C self X (setO c.dst s v fun s => s) h' := by
  show (match wantedA s c.guard with
      | none => none
      | some t => Bool.casesOn t (setO c.dst s skipV fun s => runOps false C self X s h)
        (match aev c.op false C self s h with
          | some (v, h') => frcV false v fun v => frcH false h' fun h' => setO c.dst s v fun s => runOps false C self X s h'
          | none => none)) = _
  rw [hw, hv]
  show frcV false v (fun v => frcH false h' fun h' => setO c.dst s v fun s => runOps false C self X s h') = _
  simp only [frcV_eq, frcH_eq]
  rw [setO_eq]
theorem codeE_plan {ops A B R : List AOper} {c : AOper} {d : Option Pa} {n : Option Nat} {a : Opd} {j p : Nat} (hops : ops = A ++ c :: (B ++ ⟨d, none, .ld n a⟩ :: R)) (hp : p = A.length) (hj : j = A.length + 1 + B.length) {s s1 s3 s' : Slots} {h h1 h2 h' : AHeap} {v x : Value}
    (hA : OpsE C A s h s1 h1) (hw : wantedA s1 c.guard = some true) (hc : OpE C c.op s1 h1 v h2) (hB : ∀ self, runOps false C self B (setO c.dst s1 v fun s => s) h2 = some (s3, h2))
    (hx1 : ldP n (evA s3 a) h1 = some x) (hx2 : ldP n (evA s3 a) h2 = some x) (hv : veq x x = true) (hR : OpsE C R (setO d s3 x fun s => s) h2 s' h') : CodeE C (.reg ops [(j, [p])]) s h .normal s' h' := by
  obtain ⟨nA, eA⟩ := hA
  obtain ⟨nc, ec⟩ := hc
  obtain ⟨nR, eR⟩ := hR
  have lA : nA ≤ nA + nc + nR := by omega
  have lc : nc ≤ nA + nc + nR := by omega
  have lR : nR ≤ nA + nc + nR := by omega
  have eA := (runOps_mono (run_mono (b := false) (C := C) lA) A eA).1
  have ec := aev_mono (run_mono (b := false) (C := C) lc) c.op ec
  have eR := (runOps_mono (run_mono (b := false) (C := C) lR) R eR).1
  generalize nA + nc + nR = m at eA ec eR
  refine ⟨m, ?_⟩
  have eB := hB (run false C m)
  have e2 : runOps false C (run false C m) (A ++ c :: B) s h = some (s3, h2) := by rw [runOps_append _ _ _ _ _ _ _ eA, runOps_step _ hw ec, eB]
  have eo : aev (.ld n a) false C (run false C m) s3 h2 = some (x, h2) := by rw [aev_ld, hx2]; rfl
  have eo1 : aev (.ld n a) false C (run false C m) s3 h1 = some (x, h1) := by rw [aev_ld, hx1]; rfl
  have hops2 : ops = (A ++ c :: B) ++ ⟨d, none, .ld n a⟩ :: R := by rw [hops]; simp
  have e3 : runOps false C (run false C m) ops s h = some (s', h') := by
    rw [hops2, runOps_append _ _ _ _ _ _ _ e2, runOps_step (c := ⟨d, none, .ld n a⟩) _ rfl eo]; exact eR
  have gp : (states false C (run false C m) ops s h)[p]? = some (s1, h1) := by rw [hops, hp]; exact states_get _ _ _ _ _ _ _ eA
  have gj : (states false C (run false C m) ops s h)[j]? = some (s3, h2) := by
    have := states_get (C := C) (run false C m) (A ++ c :: B) (⟨d, none, .ld n a⟩ :: R) s s3 h h2 e2
    rw [← hops2] at this
    rw [hj, show A.length + 1 + B.length = (A ++ c :: B).length from by simp; omega]; exact this
  have go : ops[j]? = some ⟨d, none, .ld n a⟩ := by
    rw [hops2, hj, List.getElem?_append_right (by simp; omega), show A.length + 1 + B.length - (A ++ c :: B).length = 0 from by simp; omega]; rfl
  show (match regA false C (run false C m) ops [(j, [p])] s h with
    | some (s, h) => some (Ex.normal, s, h)
    | none => none) = _
  have hpl : planOk1 false C (run false C m) ops (states false C (run false C m) ops s h) j p = true := by
    unfold planOk1
    rw [go, gj, gp]
    simp only [wantedA, eo, eo1, hv]
  have hreg : regA false C (run false C m) ops [(j, [p])] s h = some (s', h') := by
    unfold regA
    simp only [List.all_cons, List.all_nil, Bool.and_true, hpl, if_true]
    exact e3
  rw [hreg]
def sil : AOp → Bool
  | .mov _ => true
  | .iad .. => true
  | _ => false
theorem sil_sound {X : Ctx} {S S1 : VSt} {s : Slots} {h : AHeap} {ids : Pa → Option Nat} {F : Nat → Prop} {o : AOp} {d : Option Pa} {x : VV} (t : St X S s h ids F) (hs : sil o = true) (he : vev o d S = some (x, S1)) :
    S1 = S ∧ ∃ v, (∀ self, aev o false C self s h = some (v, h)) ∧ Vr (RdF h F) ids v x := by
  cases o with
  | mov y => cases he; exact ⟨rfl, _, fun _ => rfl, evV_sound t _⟩
  | iad m n y i =>
    have he : ret1X S (v_iad m n (evV S y) (evV S i)) = some (x, S1) := he
    cases hv : v_iad m n (evV S y) (evV S i) with
    | none => rw [hv] at he; cases he
    | some z =>
      rw [hv] at he; cases he
      obtain ⟨w, h1, h2⟩ := iad_sound' (evV_sound t y) (evV_sound t i) hv
      exact ⟨rfl, w, fun self => by rw [aev_iad, h1]; rfl, h2⟩
  | _ => cases hs
/-- Operations that only look. -/
def runS : List AOper → VSt → Option VSt
  | [], S => some S
  | o :: r, S => match o.guard with
    | some _ => none
    | none => bif sil o.op then (match vev o.op o.dst S with
      | some (x, S1) => runS r (S1.put o.dst x)
      | none => none) else none
theorem runS_sound {X : Ctx} {h : AHeap} {ids : Pa → Option Nat} {F : Nat → Prop} : ∀ {B : List AOper} {S S3 : VSt} {s : Slots}, St X S s h ids F → runS B S = some S3 → ∃ s3, (∀ self, runOps false C self B s h = some (s3, h)) ∧ St X S3 s3 h ids F
  | [], S, S3, s, t, he => by cases he; exact ⟨s, fun _ => rfl, t⟩
  | ⟨d, gd, op⟩ :: B, S, S3, s, t, he => by
    simp only [runS] at he
    split at he
    · cases he
    · cases hs : sil op with
      | false => rw [hs] at he; cases he
      | true =>
        rw [hs] at he
        simp only [cond_true] at he
        split at he
        · rename_i x S1 hv
          obtain ⟨rfl, v, h1, h2⟩ := sil_sound (C := C) t hs hv
          obtain ⟨s3, h3, h4⟩ := runS_sound (t.put h2 d) he
          exact ⟨s3, fun self => by rw [runOps_step (c := ⟨d, none, op⟩) self rfl (h1 self)]; exact h3 self, h4⟩
        · cases he
def okPl : VV → Bool
  | .p (.sl ..) => true
  | .p (.at (.int ..)) => true
  | .p (.at (.bool _)) => true
  | .p (.at (.string _)) => true
  | _ => false
theorem okPl_veq {rd : Addr → List Value → Prop} {ids : Pa → Option Nat} {v : Value} {x : VV} (r : Vr rd ids v x) (hx : okPl x = true) : veq v v = true := by
  unfold okPl at hx
  split at hx
  · cases r with
    | p r => cases r <;> simp [veq, veq1]
  · cases r with
    | p r => cases r; simp [veq, veq1]
  · cases r with
    | p r => cases r; simp [veq, veq1]
  · cases r with
    | p r => cases r; simp [veq, veq1]
  · cases hx
/-- A region in which a read behind a pure call may come before it. -/
theorem VC.plan {Q : Ex → VSt → Prop} {S : VSt} {ops A B R : List AOper} {dc d : Option Pa} {gd : Option (Pa × Bool)} {g : Opd} {args : List Opd} {n : Option Nat} {a : Opd} {j p : Nat}
    (hops : ops = A ++ ⟨dc, gd, .call g args⟩ :: (B ++ ⟨d, none, .ld n a⟩ :: R)) (hp : p = A.length) (hj : j = A.length + 1 + B.length)
    (hA : VO C A S (fun S1 => ∃ f first cap y S3 u q off cs x, wantV S1 gd = some true ∧ evV S1 g = .clos f first cap ∧ (∀ l, C.orc f l = none) ∧ VCall C f (first ++ args.map (evV S1) ++ cap) [] [] y [] ∧ runS B (S1.put dc y) = some S3 ∧
      evV S3 a = .op u q off ∧ PT.get q S3.B = some (.cells cs) ∧ PT.get q S1.B = some (.cells cs) ∧ partV n cs off = some x ∧ okPl x = true ∧ VO C R (S3.put d x) (Q .normal))) : VC C (.reg ops [(j, [p])]) S Q := by
  intro E s h ids F t
  obtain ⟨s1, h1, eA, S1, ids1, F1, ⟨f, first, cap, y, S3, u, q, off, cs, x, hw, hg, ho, hc, hB, ha, hb3, hb1, hx, hpl, hR⟩, X, hE, t1⟩ := hA E s h ids F t
  have rg := evV_sound t1 g
  rw [hg] at rg
  obtain ⟨vf, vc, hvf, rf, rc⟩ : ∃ vf vc : List Value, evA s1 g = .func (.func f) vf.toArray vc.toArray ∧ All2 (Vr (RdF h1 F1) ids1) vf first ∧ All2 (Vr (RdF h1 F1) ids1) vc cap := by
    generalize evA s1 g = w at rg
    cases rg with
    | clos f h1 h2 h3 h4 => exact ⟨_, _, rfl, ⟨h1, h2⟩, ⟨h3, h4⟩⟩
  have rall := (rf.append (evV_list t1 args)).append rc
  have t0 : St (cx h1 ids1 F1 (mkB [] .lf)) ⟨.lf, mkB [] .lf, nmsL [], none⟩ .lf h1 ids1 F1 :=
    ⟨t1.wf, rfl, fun _ hk => hk, fun _ _ _ => rfl, fun _ _ => Iff.rfl, t1.flt, fun a b hb => by simp [mkB] at hb, fun a b k hb => by simp [mkB] at hb, fun a a' b b' k hb => by simp [mkB] at hb, fun p x hx => by simp at hx, fun _ _ => rfl, rfl⟩
  obtain ⟨v, h2, hcall, ids2, F2, t2, rv, hids⟩ := hc h1 ids1 F1 _ t0 rall
  have hidseq : ids2 = ids1 := funext fun a => hids a (by simp)
  subst hidseq
  have hkeep : ∀ k, k < h1.next → h2.get k = h1.get k := fun k hk => t2.keep k hk (fun ⟨a, b, hb, _⟩ => by simp [mkB] at hb)
  have hnx : h1.next ≤ h2.next := by
    rcases Nat.lt_or_ge h2.next h1.next with hc | hc
    · exact absurd (t2.next _ hc) (Nat.lt_irrefl _)
    · exact hc
  have tS : St X S1 s1 h2 ids2 F2 := t1.later t2.wf t2.base (fun k hk => Nat.lt_of_lt_of_le (t1.next k hk) hnx) (fun k hk _ => hkeep k (t1.next k hk))
    (fun a b k hb hk => ⟨hkeep k (t1.lt hb hk), fun hF => (t1.own a b k hb hk).1 ((t2.frz k (t1.lt hb hk)).1 hF)⟩) (fun k hk => ⟨(t2.frz k (t1.flt k hk)).2 hk, hkeep k (t1.flt k hk)⟩)
    (fun k hk => (t2.frz k (t1.next k hk)).trans (t1.frz k hk)) t2.flt
  obtain ⟨s3, eB, t3⟩ := runS_sound (C := C) (tS.put rv dc) hB
  have ra := evV_sound t3 a
  rw [ha] at ra
  obtain ⟨k, tg, hk, _, hav⟩ := op_inv ra
  have hlt : k < h1.next := t1.lt hb1 hk
  have hld : v_ld S3 n (evV S3 a) = some x := by rw [ha]; simp only [v_ld, hb3]; exact hx
  obtain ⟨w, hw2, rw'⟩ := ld_sound' t3 (evV_sound t3 a) hld
  have hw1 : ldP n (evA s3 a) h1 = some w := by
    rw [← hw2, hav]
    simp only [ldP, ldA, AHeap.row, hkeep k hlt]
  obtain ⟨s', h', eR, S', ids', F', hQ, tQ⟩ := hR E _ _ _ _ ⟨X, hE, t3.put rw' d⟩
  refine ⟨.normal, s', h', codeE_plan hops hp hj eA (want_sound t1 hw) (OpE.call (by rw [hvf]) (ho _) ?_) eB hw1 hw2 (okPl_veq rw' hpl) eR, S', ids', F', hQ, tQ⟩
  simpa using hcall
/-- An empty slice without room, seen as a pure one. -/
theorem G.xs0 {S : VSt} {p : Pa} (u : Nat) (hp : PT.get p S.L = some .xs) : G S ⟨PT.set p S.L (some (.p (.sl u 0 []))), S.B, S.K, S.H⟩ := by
  intro X s h ids F t
  refine ⟨ids, F, ⟨t.wf, t.base, t.next, t.keep, t.frz, t.flt, t.blk, t.own, t.inj, fun q x hq => ?_, t.stab, t.hist⟩⟩
  have hq : PT.get q (PT.set p S.L (some (.p (.sl u 0 [])))) = some x := hq
  rw [PT.get_set] at hq
  split at hq
  · rename_i e
    cases hq
    subst e
    have r := t.slots q _ hp
    generalize getS q s = w at r
    cases r with
    | xs e =>
      rcases e with rfl | ⟨a, rfl, hs⟩
      · exact .p .nil
      · refine .p (.sl0 ?_)
        unfold tgOk
        rcases hs with hs | hs
        · rw [hs]; trivial
        · rw [hs]; exact .inl rfl
  · exact t.slots q x hq
end
end Go.Ab.V

namespace Go.Ab.Jug
open Go.Ab.V
set_option maxRecDepth 100000
end Go.Ab.Jug

namespace Go.Ab.Jug
open Go.Ab.V
set_option maxRecDepth 100000
end Go.Ab.Jug

namespace Go.Ab.Jug
open Go.Ab.V
set_option maxRecDepth 100000
/-- The numbers of steps rise along the list. -/
def Rise (L : List En) : Prop := ∀ (j k : Nat) (ej ek : En), j ≤ k → L[j]? = some ej → L[k]? = some ek → ej.d ≤ ek.d
theorem rise_one {f : List Int} {d : Nat} {L : List En} (h1 : Rise L) (h2 : ∀ e ∈ L, e.d ≤ d + 1) (s : (Int × Int) × List Int) : Rise (addOne f d L s) ∧ ∀ e ∈ addOne f d L s, e.d ≤ d + 1 := by
  unfold addOne
  split
  · exact ⟨h1, h2⟩
  · refine ⟨fun j k ej ek hjk hj hk => ?_, fun e he => ?_⟩
    · by_cases hkl : k < L.length
      · rw [List.getElem?_append_left hkl] at hk
        rw [List.getElem?_append_left (by omega)] at hj
        exact h1 j k ej ek hjk hj hk
      · rw [List.getElem?_append_right (by omega)] at hk
        have hkk : k - L.length = 0 := by
          rcases Nat.eq_zero_or_pos (k - L.length) with h | h
          · exact h
          · rw [List.getElem?_eq_none (by simp; omega)] at hk; cases hk
        rw [hkk] at hk
        simp at hk
        subst hk
        have hm := List.mem_of_getElem? hj
        rcases List.mem_append.1 hm with hm | hm
        · exact h2 _ hm
        · rw [List.mem_singleton.1 hm]; exact Nat.le_refl _
    · rcases List.mem_append.1 he with he | he
      · exact h2 e he
      · rw [List.mem_singleton.1 he]; exact Nat.le_refl _
theorem rise_all {f : List Int} {d : Nat} : ∀ (ss : List ((Int × Int) × List Int)) {L : List En}, Rise L → (∀ e ∈ L, e.d ≤ d + 1) → Rise (addAll f d L ss) ∧ ∀ e ∈ addAll f d L ss, e.d ≤ d + 1
  | [], L, h1, h2 => ⟨h1, h2⟩
  | s :: ss, L, h1, h2 => by
    obtain ⟨h3, h4⟩ := rise_one h1 h2 s
    rw [addAll_cons]
    exact rise_all ss h3 h4
theorem bf_succ {x f0 : List Int} {c : Bool} {i : Nat} {e : En} (he : (bf x f0 c i)[i]? = some e) : bf x f0 c (i + 1) = addAll e.g e.d (bf x f0 c i) (succs x c e.g) := by
  show (match (bf x f0 c i)[i]? with
    | some e => addAll e.g e.d (bf x f0 c i) (succs x c e.g)
    | none => bf x f0 c i) = _
  rw [he]
theorem bf_rise {x f0 : List Int} {c : Bool} : ∀ i, Rise (bf x f0 c i) ∧ ∀ e, (bf x f0 c i)[i]? = some e → ∀ e' ∈ bf x f0 c i, e'.d ≤ e.d + 1
  | 0 => by
    refine ⟨fun j k ej ek _ hj hk => ?_, fun e _ e' he' => ?_⟩
    · have h1 := List.mem_of_getElem? hj
      have h2 := List.mem_of_getElem? hk
      simp only [bf, List.mem_singleton] at h1 h2
      rw [h1, h2]; exact Nat.le_refl _
    · simp only [bf, List.mem_singleton] at he'
      rw [he']; exact Nat.zero_le _
  | i + 1 => by
    obtain ⟨h1, h2⟩ := bf_rise (x := x) (f0 := f0) (c := c) i
    cases he : (bf x f0 c i)[i]? with
    | none =>
      have : bf x f0 c (i + 1) = bf x f0 c i := by
        show (match (bf x f0 c i)[i]? with
          | some e => addAll e.g e.d (bf x f0 c i) (succs x c e.g)
          | none => bf x f0 c i) = _
        rw [he]
      rw [this]
      refine ⟨h1, fun e h => ?_⟩
      have := (List.getElem?_eq_some_iff.1 h).1
      have := List.getElem?_eq_none_iff.1 he
      omega
    | some e =>
      have hs := bf_succ he
      obtain ⟨h3, h4⟩ := rise_all (f := e.g) (succs x c e.g) h1 (h2 e he)
      rw [← hs] at h3 h4
      refine ⟨h3, fun e2 he2 e' he' => ?_⟩
      have := h4 e' he'
      have := h3 i (i + 1) e e2 (by omega) (bf_get (by omega) he) he2
      omega
theorem addAll_has {f : List Int} {d : Nat} : ∀ (ss : List ((Int × Int) × List Int)) {L : List En} {s : (Int × Int) × List Int}, s ∈ ss → hasE (addAll f d L ss) s.2 = true
  | s :: ss, L, _, .head _ => by
    rw [addAll_cons]
    have h : hasE (addOne f d L s) s.2 = true := by
      unfold addOne
      split
      · assumption
      · exact hasE_iff.2 ⟨_, List.mem_append_right _ (List.mem_singleton.2 rfl), rfl⟩
    obtain ⟨e, he, hg⟩ := hasE_iff.1 h
    obtain ⟨t, ht⟩ := addAll_pre f d ss (addOne f d L s)
    exact hasE_iff.2 ⟨e, by rw [← ht]; exact List.mem_append_left _ he, hg⟩
  | s' :: ss, L, s, .tail _ h => by rw [addAll_cons]; exact addAll_has ss h
/-- What a step leads to is known behind a round. -/
theorem succ_in {x f0 : List Int} {c : Bool} {i : Nat} {e : En} (he : (bf x f0 c i)[i]? = some e) {s : (Int × Int) × List Int} (hs : s ∈ succs x c e.g) : ∃ (k : Nat) (e' : En), (bf x f0 c (i + 1))[k]? = some e' ∧ e'.g = s.2 ∧ e'.d ≤ e.d + 1 := by
  have h1 := addAll_has (f := e.g) (d := e.d) (succs x c e.g) (L := bf x f0 c i) hs
  rw [← bf_succ he] at h1
  obtain ⟨e', he', hg⟩ := hasE_iff.1 h1
  obtain ⟨k, hk, hke⟩ := List.mem_iff_getElem.1 he'
  obtain ⟨_, h4⟩ := rise_all (f := e.g) (d := e.d) (succs x c e.g) (bf_rise (x := x) (f0 := f0) (c := c) i).1 ((bf_rise i).2 e he)
  rw [← bf_succ he] at h4
  exact ⟨k, e', by rw [List.getElem?_eq_getElem hk, hke], hg, h4 e' he'⟩
/-- A way to what is known. -/
theorem srch_len {x f t : List Int} {c : Bool} (hx : okJ x) (hf : fillB x f = true) {N : Nat} (hN : N = (bf x f c N).length) (hj : ∀ j, j < N → j < (bf x f c j).length) {M : Nat} {fb : Bool} {out : List Int} (hS : Srch x f c (fun g => decide (g = t)) M fb out)
    {k : Nat} {e : En} (he : (bf x f c N)[k]? = some e) (hg : e.g = t) : fb = true ∧ (wayOf x f c M fb).length = e.d := by
  have G := bf_good (c := c) hf N
  have hgf : ∀ e ∈ bf x f c N, fillB x e.g = true := fun e he => G.gfill hf he
  have ht : fillB x t = true := by rw [← hg]; exact hgf e (List.mem_of_getElem? he)
  have hd := distE_get hgf G.nodup he
  rw [hg] at hd
  obtain ⟨h1, h2⟩ := srch_all hx hf ht hN hj hS
  cases hfb : fb with
  | true =>
    have := (h1 hfb).1
    rw [hfb] at this
    exact ⟨rfl, by omega⟩
  | false =>
    have := (h2 hfb).1
    omega
theorem srch_at {x f t : List Int} {c : Bool} {N : Nat} (hN : N = (bf x f c N).length) {M : Nat} {out : List Int} (hS : Srch x f c (fun g => decide (g = t)) M true out) : ∃ e, M < N ∧ (bf x f c M)[M]? = some e ∧ e.g = t ∧ wayOf x f c M true = pathTo (bf x f c M) e.d e.g := by
  obtain ⟨e, he, hP, _⟩ := hS.yes rfl
  have hMN : M ≤ N := by
    rcases Nat.lt_or_ge N M with h | h
    · obtain ⟨e, he, _⟩ := hS.no N h
      have := (List.getElem?_eq_some_iff.1 he).1
      omega
    · exact h
  have h1 := (List.getElem?_eq_some_iff.1 (bf_get hMN he)).1
  exact ⟨e, by omega, he, by simpa using hP, by unfold wayOf; rw [if_pos rfl, he]⟩
end Go.Ab.Jug

namespace Go.Ab.Jug
open Go.Ab.V
set_option maxRecDepth 100000
theorem way_i64 {x : List Int} {c : Bool} {w : List (Int × Int)} (hx4 : x.length ≤ 4) (hw : ∀ s ∈ w, isR x.length s.1 s.2 = true ∧ (c = true → s.1 ≠ -1 ∧ s.2 ≠ -1)) : ∀ p ∈ w, (-9223372036854775808 ≤ p.1 ∧ p.1 ≤ 9223372036854775807) ∧ -9223372036854775808 ≤ p.2 ∧ p.2 ≤ 9223372036854775807 := fun p hp => by
  have := isR_bd (hw p hp).1; omega
/-- The way but for its last step. -/
theorem way_parent {x f : List Int} {c : Bool} (hf : fillB x f = true) {M : Nat} {e0 : En} (he0 : (bf x f c M)[M]? = some e0) (hd : 0 < e0.d) : ∃ (V : List (Int × Int)) (st : Int × Int) (j : Nat) (e' : En), j < M ∧ (bf x f c M)[j]? = some e' ∧ e'.d = V.length ∧ e0.d = V.length + 1 ∧ pathTo (bf x f c M) e0.d e0.g = V ++ [st] ∧ pourR x f V = (e'.g, V.length) ∧ (∀ s ∈ V, isR x.length s.1 s.2 = true ∧ (c = true → s.1 ≠ -1 ∧ s.2 ≠ -1)) ∧ fillB x e'.g = true := by
  have G := bf_good (c := c) hf M
  have hM : 0 < M := by
    rcases Nat.eq_zero_or_pos M with h | h
    · subst h
      rw [G.root] at he0; cases he0; simp [root] at hd
    · exact h
  obtain ⟨j, e', h1, h2, h3, h4, h5, h6⟩ := path_last G he0 hM
  have h7 := path_len G j e' h2
  obtain ⟨h8, h9⟩ := path_pour G j e' h2
  exact ⟨_, _, j, e', h1, h2, h7.symm, by rw [h4, h7], h6, by rw [h7]; exact h8, h9, G.gfill hf (List.mem_of_getElem? h2)⟩
theorem pour_one (x b : List Int) (s : Int × Int) (h : isR x.length s.1 s.2 = true) : pourR x b [s] = (stepR x b s.1 s.2, 1) := by
  simp [pourR, h]
theorem part_one (ss : List (Int × Int)) (i : Nat) (h : i < ss.length) : ((flP ss).drop (i * 2)).take 2 = flP [ss[i]] := by
  rw [drop_flP h]; rfl
set_option maxHeartbeats 8000000 in
theorem lower_law (l m0 m1 : List Int) (hl : l.length ≤ 9223372036854775807) (hm0 : m0.length ≤ 9223372036854775807) (hm1 : m1.length ≤ 9223372036854775807) : VCall cfg 12 [sl1 l, .agg [sl1 m0, sl1 m1]] [] [] (vb true) [] := by
  have k1 := tame_ok l 3 (by decide) hl
  generalize hX : tameJ l 3 = x at k1
  have hx : okJ x := by rw [← hX]; exact tameJ_ok l 3 (by omega)
  have hq := okJ_mem hx
  have hx4 : x.length ≤ 4 := hx.2.1
  have k2 := filled_ok x m0 ⟨hx.1, hx.2.1⟩ hq hm0
  have k3 := filled_ok x m1 ⟨hx.1, hx.2.1⟩ hq hm1
  generalize hF : fillF x m0 = a at k2
  generalize hB : fillF x m1 = b at k3
  have ha : fillB x a = true := by rw [← hF]; exact fillF_ok x m0 hq
  have hb : fillB x b = true := by rw [← hB]; exact fillF_ok x m1 hq
  obtain ⟨N, hN, hj⟩ := bf_end (c := false) hx ha
  obtain ⟨M, fb, out, hS⟩ := search_ends (c := false) hx ha fun g => decide (g = b)
  have k4 := Way_ok x a b false hx ha hb M fb out hS
  obtain ⟨hy, hno⟩ := srch_all hx ha hb hN hj hS
  (refine VCall.mk (fn := a12) rfl rfl rfl ?_; simp only [a12, inV, mkB, nmsL, PT.set])
  (repeat (first | refine VC.seq ?_ | refine VC.block ?_ | refine VC.kill ?_ | refine VC.skip ?_ | refine VC.exit ?_ | refine VC.regA ?_ | refine VC.condT ?_ | refine VC.condF ?_))
  (refine VC.regCA ?_; refine VO.moreA ?_; refine VO.call0A (no_orc _ (by decide)) k1 ?_; refine VO.endA ?_; (repeat (first | refine VC.seq ?_ | refine VC.block ?_ | refine VC.kill ?_ | refine VC.skip ?_ | refine VC.exit ?_ | refine VC.regA ?_ | refine VC.condT ?_ | refine VC.condF ?_)))
  refine VC.plan (A := [_, _, _]) (B := [_, _]) (R := [_, _, _]) rfl rfl rfl ?_
  refine VO.endA ?_
  refine ⟨17, [], [], sl1 a, _, 0, p3, 1, _, _, rfl, rfl, no_orc 17 (by decide), k2, rfl, rfl, rfl, rfl, rfl, rfl, ?_⟩
  simp only [VSt.put, PT.set]
  refine VO.call0A (no_orc 17 (by decide)) k3 ?_
  refine VO.endA ?_
  (repeat (first | refine VC.seq ?_ | refine VC.block ?_ | refine VC.kill ?_ | refine VC.skip ?_ | refine VC.exit ?_ | refine VC.regA ?_ | refine VC.condT ?_ | refine VC.condF ?_))
  cases hfb : fb with
  | false =>
    rw [hfb] at k4
    (refine VC.regCA ?_; refine VO.moreA ?_; refine VO.call0A (no_orc _ (by decide)) k4 ?_; refine VO.endA ?_; (repeat (first | refine VC.seq ?_ | refine VC.block ?_ | refine VC.kill ?_ | refine VC.skip ?_ | refine VC.exit ?_ | refine VC.regA ?_ | refine VC.condT ?_ | refine VC.condF ?_)))
    refine VC.regCA ?_
    refine VO.moreA ?_
    refine VO.knownA (.bool true) rfl ?_
    refine VO.endA ?_
    (repeat (first | refine VC.seq ?_ | refine VC.block ?_ | refine VC.kill ?_ | refine VC.skip ?_ | refine VC.exit ?_ | refine VC.regA ?_ | refine VC.condT ?_ | refine VC.condF ?_))
    exact VC.ret (Fin.A rfl)
  | true =>
    subst hfb
    obtain ⟨h1, h2, h3, h4⟩ := hy rfl
    obtain ⟨e0, hMN, he0, hg0, hw0⟩ := srch_at hN hS
    have GM := bf_good (c := false) ha M
    have hl0 := path_len GM M e0 he0
    have hwl : (wayOf x a false M true).length = e0.d := by rw [hw0, hl0]
    have kS := Steps_ok x b false hx hb
    have h25 := allR_len25 x b false hx4
    have hsc : ∀ s ∈ allR x b false (x.length + 1), (s, stepR x b s.1 s.2) ∈ succs x false e0.g := fun s hs => by rw [hg0]; exact List.mem_map.2 ⟨s, hs, rfl⟩
    -- what the loop's rounds need
    have rnd : ∀ s ∈ allR x b false (x.length + 1), ∃ (W : List (Int × Int)), VCall cfg 22 [sl1 x, sl1 a, sl1 (stepR x b s.1 s.2), vb false] [] [] (.tup [slP W, vb true, vi 0]) [] ∧ VCall cfg 40 [sl1 x, sl1 b, slP [s]] [] [] (.tup [sl1 (stepR x b s.1 s.2), vi 1, vi 0]) [] ∧ W.length ≤ e0.d + 1 := fun s hs => by
      obtain ⟨k, e', hk, hg', hd'⟩ := succ_in he0 (hsc s hs)
      obtain ⟨M', fb', out', hS'⟩ := search_ends (c := false) hx ha fun g => decide (g = stepR x b s.1 s.2)
      obtain ⟨q1, q2⟩ := srch_len hx ha hN hj hS' (bf_get (by omega) hk) hg'
      have h5 := hsc s hs
      rw [hg0] at h5
      have hi : isR x.length s.1 s.2 = true := (succ_mem h5).1
      have kw := Way_ok x a _ false hx ha (succ_fill h5 hb) M' fb' out' hS'
      rw [q1] at kw
      have kp := Pour_ok x b [s] hx hb (fun p hp => by
        simp only [List.mem_singleton] at hp; subst hp
        have := isR_bd hi; omega) (by simp)
      rw [pour_one x b s hi] at kp
      rw [q1] at q2
      exact ⟨_, kw, kp, by omega⟩
    generalize hAR : allR x b false (x.length + 1) = ss at *
    generalize hW : wayOf x a false M true = W at *
    have hWl : W.length ≤ 28561 := h4
    rcases Nat.eq_zero_or_pos e0.d with hd | hd
    · have hW0 : W.length = 0 := by omega
      (refine VC.regCA ?_; refine VO.moreA ?_; refine VO.call0A (no_orc _ (by decide)) k4 ?_; refine VO.endA ?_; (repeat (first | refine VC.seq ?_ | refine VC.block ?_ | refine VC.kill ?_ | refine VC.skip ?_ | refine VC.exit ?_ | refine VC.regA ?_ | refine VC.condT ?_ | refine VC.condF ?_)))
      (refine VC.regCA ?_; refine VO.moreA ?_; refine VO.call0A (no_orc _ (by decide)) kS ?_; refine VO.endA ?_; (repeat (first | refine VC.seq ?_ | refine VC.block ?_ | refine VC.kill ?_ | refine VC.skip ?_ | refine VC.exit ?_ | refine VC.regA ?_ | refine VC.condT ?_ | refine VC.condF ?_)))
      refine VC.loopG (fun (i : Nat) => ⟨inV [p5, p6, p7, p8, p17, p18, p19] [sl1 x, sl1 a, sl1 b, slP W, slP ss, vi 0, vi i] .lf, .lf, [], none⟩) (fun n i => n = ss.length - i ∧ i ≤ ss.length) (x := 0) ?_ ⟨rfl, Nat.zero_le _⟩ ?_
      · (apply Go.Ab.V.G.weak; constructor <;> simp (config := {decide := true}) only [PT.Le, inV, mkB, PT.set, VSt.kill, VSt.adopt, VSt.alloc, PT.filt, PT.map, List.map_cons, List.map_nil, noref, norefB, deadB, deadV, nos, nm, nmL, nmB, nmE, Pa.eqb, cond_true, cond_false, Bool.not_true, Bool.not_false, Bool.and_true, Bool.true_and, nmL_vi, flV_len, flP_len, flV_nm, flV_ok, flV_pv, flP_map, drop_flP, drop_flV, putC_flV, eqV2, eqV3, bneT, bneF, decide_true, decide_false, frzL_vi, frzL_flV, nmE_ag, nmE_at, frzE_ag, frzE_at, ofAg_len, ofAt_len, atL_vi, nmL_map_p, frzL_map_p, okL_p, toPVs_p, repsZ, nmL_reps, putC_vi, get_flV0, get_flV1, Int.toNat_zero, Int.toNat_one, Int.reduceToNat, eqV_slice, eqV_ptr, eqV_func, nilS, nilP, nilF, nmL_append, true_or, or_true, and_self, true_and, and_true, Option.some.injEq, reduceCtorEq, false_or, or_false, VV.p.injEq, PV.at.injEq, Value.int.injEq, sl1, vi, bl1, vb, nilV, slP])
      rintro n i ⟨hn, hi⟩
      simp only [inV, PT.set, slP]
      (repeat (first | refine VC.seq ?_ | refine VC.block ?_ | refine VC.kill ?_ | refine VC.skip ?_ | refine VC.exit ?_ | refine VC.regA ?_ | refine VC.condT ?_ | refine VC.condF ?_))
      refine VC.condA ?_ ?_ <;> intro h <;> (simp only [decide_eq_true_eq, decide_eq_false_iff_not, bne_iff_ne, ne_eq, bne_eq_false_iff_eq, beq_iff_eq, beq_eq_false_iff_ne, Bool.not_eq_true', Bool.not_eq_false', Bool.and_eq_true, Bool.or_eq_true, Int.natCast_inj] at h)
      · have h : i < ss.length := by omega
        obtain ⟨W', kw', kp', hl'⟩ := rnd ss[i] (List.getElem_mem h)
        have hpo := part_one ss i h
        (repeat (first | refine VC.seq ?_ | refine VC.block ?_ | refine VC.kill ?_ | refine VC.skip ?_ | refine VC.exit ?_ | refine VC.regA ?_ | refine VC.condT ?_ | refine VC.condF ?_))
        have e1 : ((i : Int) + 1).toNat - i = 1 := by omega
        have kp2 : VCall cfg 40 [sl1 x, sl1 b, .p (.sl 2 1 [pi ss[i].1, pi ss[i].2])] [] [] (.tup [sl1 (stepR x b ss[i].1 ss[i].2), vi 1, vi 0]) [] := kp'
        refine VC.regCA ?_
        refine VO.moreA ?_
        simp only [e1, Nat.one_mul, List.take_succ_cons, List.take_zero]
        refine VO.call0A (no_orc 40 (by decide)) kp2 ?_
        refine VO.endA ?_
        (repeat (first | refine VC.seq ?_ | refine VC.block ?_ | refine VC.kill ?_ | refine VC.skip ?_ | refine VC.exit ?_ | refine VC.regA ?_ | refine VC.condT ?_ | refine VC.condF ?_))
        (refine VC.regCA ?_; refine VO.moreA ?_; refine VO.call0A (no_orc _ (by decide)) kw' ?_; refine VO.endA ?_; (repeat (first | refine VC.seq ?_ | refine VC.block ?_ | refine VC.kill ?_ | refine VC.skip ?_ | refine VC.exit ?_ | refine VC.regA ?_ | refine VC.condT ?_ | refine VC.condF ?_)))
        have hw2 : ¬ (W'.length : Int) > (W.length : Int) + 1 := by omega
        (repeat (first | refine VC.seq ?_ | refine VC.block ?_ | refine VC.kill ?_ | refine VC.skip ?_ | refine VC.exit ?_ | refine VC.regA ?_ | refine VC.condT ?_ | refine VC.condF ?_))
        refine ⟨_, i + 1, ?_, ⟨rfl, by omega⟩, ?_⟩
        · omega
        · (apply Go.Ab.V.G.weak; constructor <;> simp (config := {decide := true}) only [PT.Le, inV, mkB, PT.set, VSt.kill, VSt.adopt, VSt.alloc, PT.filt, PT.map, List.map_cons, List.map_nil, noref, norefB, deadB, deadV, nos, nm, nmL, nmB, nmE, Pa.eqb, cond_true, cond_false, Bool.not_true, Bool.not_false, Bool.and_true, Bool.true_and, nmL_vi, flV_len, flP_len, flV_nm, flV_ok, flV_pv, flP_map, drop_flP, drop_flV, putC_flV, eqV2, eqV3, bneT, bneF, decide_true, decide_false, frzL_vi, frzL_flV, nmE_ag, nmE_at, frzE_ag, frzE_at, ofAg_len, ofAt_len, atL_vi, nmL_map_p, frzL_map_p, okL_p, toPVs_p, repsZ, nmL_reps, putC_vi, get_flV0, get_flV1, Int.toNat_zero, Int.toNat_one, Int.reduceToNat, eqV_slice, eqV_ptr, eqV_func, nilS, nilP, nilF, nmL_append, true_or, or_true, and_self, true_and, and_true, Option.some.injEq, reduceCtorEq, false_or, or_false, VV.p.injEq, PV.at.injEq, Value.int.injEq, sl1, vi, bl1, vb, nilV, slP])
          (all_goals first | rfl | omega | exact ⟨rfl, by omega⟩)
      · (repeat (first | refine VC.seq ?_ | refine VC.block ?_ | refine VC.kill ?_ | refine VC.skip ?_ | refine VC.exit ?_ | refine VC.regA ?_ | refine VC.condT ?_ | refine VC.condF ?_))
        refine VC.regCA ?_
        refine VO.moreA ?_
        refine VO.knownA (.bool true) rfl ?_
        refine VO.endA ?_
        (repeat (first | refine VC.seq ?_ | refine VC.block ?_ | refine VC.kill ?_ | refine VC.skip ?_ | refine VC.exit ?_ | refine VC.regA ?_ | refine VC.condT ?_ | refine VC.condF ?_))
        exact VC.ret (Fin.A rfl)
    · obtain ⟨V, st, j, e', hjM, he', hdV, hdW, hpa, hpV, hsV, hfe⟩ := way_parent ha he0 hd
      have hWV : W = V ++ [st] := by rw [hw0, hpa]
      have hVl : V.length ≤ 28561 := by omega
      have kp := Pour_ok x a V hx ha (way_i64 hx4 hsV) (by omega)
      rw [hpV] at kp
      obtain ⟨M2, fb2, out2, hS2⟩ := search_ends (c := false) hx ha fun g => decide (g = e'.g)
      have kw := Way_ok x a e'.g false hx ha hfe M2 fb2 out2 hS2
      obtain ⟨q1, q2⟩ := srch_len hx ha hN hj hS2 (bf_get (by omega) he') rfl
      rw [q1] at kw q2
      generalize hW2 : wayOf x a false M2 true = W2 at *
      have hW2l : W2.length = V.length := by omega
      clear hW hW2
      (refine VC.regCA ?_; refine VO.moreA ?_; refine VO.call0A (no_orc _ (by decide)) k4 ?_; refine VO.endA ?_; (repeat (first | refine VC.seq ?_ | refine VC.block ?_ | refine VC.kill ?_ | refine VC.skip ?_ | refine VC.exit ?_ | refine VC.regA ?_ | refine VC.condT ?_ | refine VC.condF ?_)))
      refine VC.regCA ?_
      refine VO.moreA ?_
      have e1 : ((W.length : Int) - 1).toNat = V.length := by omega
      have e2 : (flP W).take (V.length * 2) = flP V := by rw [take_flP, hWV, List.take_left]
      simp only [e1, e2]
      have e3 : ∀ (S : VSt), S = S := fun _ => rfl
      by_cases hV0 : 0 = V.length
      · simp only [if_pos hV0]
        refine VO.ghost (G.xs0 (p := p68) 2 rfl) ?_
        simp only [PT.set]
        have hVn : V = [] := List.length_eq_zero_iff.1 hV0.symm
        have kp2 : VCall cfg 40 [sl1 x, sl1 a, .p (.sl 2 0 [])] [] [] (.tup [sl1 e'.g, vi V.length, vi 0]) [] := by
          have := kp
          rw [hVn] at this ⊢
          exact this
        refine VO.call0A (no_orc 40 (by decide)) kp2 ?_
        refine VO.endA ?_
        (repeat (first | refine VC.seq ?_ | refine VC.block ?_ | refine VC.kill ?_ | refine VC.skip ?_ | refine VC.exit ?_ | refine VC.regA ?_ | refine VC.condT ?_ | refine VC.condF ?_))
        (refine VC.regCA ?_; refine VO.moreA ?_; refine VO.call0A (no_orc _ (by decide)) kw ?_; refine VO.endA ?_; (repeat (first | refine VC.seq ?_ | refine VC.block ?_ | refine VC.kill ?_ | refine VC.skip ?_ | refine VC.exit ?_ | refine VC.regA ?_ | refine VC.condT ?_ | refine VC.condF ?_)))
        have hw3 : ¬ (V.length : Int) ≠ (W.length : Int) - 1 := by omega
        have hw4 : ¬ (W2.length : Int) ≠ (W.length : Int) - 1 := by omega
        (refine VC.regCA ?_; refine VO.moreA ?_; refine VO.call0A (no_orc _ (by decide)) kS ?_; refine VO.endA ?_; (repeat (first | refine VC.seq ?_ | refine VC.block ?_ | refine VC.kill ?_ | refine VC.skip ?_ | refine VC.exit ?_ | refine VC.regA ?_ | refine VC.condT ?_ | refine VC.condF ?_)))
        refine VC.loopG (fun (i : Nat) => ⟨inV [p5, p6, p7, p8, p17, p18, p19] [sl1 x, sl1 a, sl1 b, slP W, slP ss, vi 0, vi i] .lf, .lf, [], none⟩) (fun n i => n = ss.length - i ∧ i ≤ ss.length) (x := 0) ?_ ⟨rfl, Nat.zero_le _⟩ ?_
        · (apply Go.Ab.V.G.weak; constructor <;> simp (config := {decide := true}) only [PT.Le, inV, mkB, PT.set, VSt.kill, VSt.adopt, VSt.alloc, PT.filt, PT.map, List.map_cons, List.map_nil, noref, norefB, deadB, deadV, nos, nm, nmL, nmB, nmE, Pa.eqb, cond_true, cond_false, Bool.not_true, Bool.not_false, Bool.and_true, Bool.true_and, nmL_vi, flV_len, flP_len, flV_nm, flV_ok, flV_pv, flP_map, drop_flP, drop_flV, putC_flV, eqV2, eqV3, bneT, bneF, decide_true, decide_false, frzL_vi, frzL_flV, nmE_ag, nmE_at, frzE_ag, frzE_at, ofAg_len, ofAt_len, atL_vi, nmL_map_p, frzL_map_p, okL_p, toPVs_p, repsZ, nmL_reps, putC_vi, get_flV0, get_flV1, Int.toNat_zero, Int.toNat_one, Int.reduceToNat, eqV_slice, eqV_ptr, eqV_func, nilS, nilP, nilF, nmL_append, true_or, or_true, and_self, true_and, and_true, Option.some.injEq, reduceCtorEq, false_or, or_false, VV.p.injEq, PV.at.injEq, Value.int.injEq, sl1, vi, bl1, vb, nilV, slP])
        rintro n i ⟨hn, hi⟩
        simp only [inV, PT.set, slP]
        (repeat (first | refine VC.seq ?_ | refine VC.block ?_ | refine VC.kill ?_ | refine VC.skip ?_ | refine VC.exit ?_ | refine VC.regA ?_ | refine VC.condT ?_ | refine VC.condF ?_))
        refine VC.condA ?_ ?_ <;> intro h <;> (simp only [decide_eq_true_eq, decide_eq_false_iff_not, bne_iff_ne, ne_eq, bne_eq_false_iff_eq, beq_iff_eq, beq_eq_false_iff_ne, Bool.not_eq_true', Bool.not_eq_false', Bool.and_eq_true, Bool.or_eq_true, Int.natCast_inj] at h)
        · have h : i < ss.length := by omega
          obtain ⟨W', kw', kp', hl'⟩ := rnd ss[i] (List.getElem_mem h)
          have hpo := part_one ss i h
          (repeat (first | refine VC.seq ?_ | refine VC.block ?_ | refine VC.kill ?_ | refine VC.skip ?_ | refine VC.exit ?_ | refine VC.regA ?_ | refine VC.condT ?_ | refine VC.condF ?_))
          have e1 : ((i : Int) + 1).toNat - i = 1 := by omega
          have kp2 : VCall cfg 40 [sl1 x, sl1 b, .p (.sl 2 1 [pi ss[i].1, pi ss[i].2])] [] [] (.tup [sl1 (stepR x b ss[i].1 ss[i].2), vi 1, vi 0]) [] := kp'
          refine VC.regCA ?_
          refine VO.moreA ?_
          simp only [e1, Nat.one_mul, List.take_succ_cons, List.take_zero]
          refine VO.call0A (no_orc 40 (by decide)) kp2 ?_
          refine VO.endA ?_
          (repeat (first | refine VC.seq ?_ | refine VC.block ?_ | refine VC.kill ?_ | refine VC.skip ?_ | refine VC.exit ?_ | refine VC.regA ?_ | refine VC.condT ?_ | refine VC.condF ?_))
          (refine VC.regCA ?_; refine VO.moreA ?_; refine VO.call0A (no_orc _ (by decide)) kw' ?_; refine VO.endA ?_; (repeat (first | refine VC.seq ?_ | refine VC.block ?_ | refine VC.kill ?_ | refine VC.skip ?_ | refine VC.exit ?_ | refine VC.regA ?_ | refine VC.condT ?_ | refine VC.condF ?_)))
          have hw2 : ¬ (W'.length : Int) > (W.length : Int) + 1 := by omega
          (repeat (first | refine VC.seq ?_ | refine VC.block ?_ | refine VC.kill ?_ | refine VC.skip ?_ | refine VC.exit ?_ | refine VC.regA ?_ | refine VC.condT ?_ | refine VC.condF ?_))
          refine ⟨_, i + 1, ?_, ⟨rfl, by omega⟩, ?_⟩
          · omega
          · (apply Go.Ab.V.G.weak; constructor <;> simp (config := {decide := true}) only [PT.Le, inV, mkB, PT.set, VSt.kill, VSt.adopt, VSt.alloc, PT.filt, PT.map, List.map_cons, List.map_nil, noref, norefB, deadB, deadV, nos, nm, nmL, nmB, nmE, Pa.eqb, cond_true, cond_false, Bool.not_true, Bool.not_false, Bool.and_true, Bool.true_and, nmL_vi, flV_len, flP_len, flV_nm, flV_ok, flV_pv, flP_map, drop_flP, drop_flV, putC_flV, eqV2, eqV3, bneT, bneF, decide_true, decide_false, frzL_vi, frzL_flV, nmE_ag, nmE_at, frzE_ag, frzE_at, ofAg_len, ofAt_len, atL_vi, nmL_map_p, frzL_map_p, okL_p, toPVs_p, repsZ, nmL_reps, putC_vi, get_flV0, get_flV1, Int.toNat_zero, Int.toNat_one, Int.reduceToNat, eqV_slice, eqV_ptr, eqV_func, nilS, nilP, nilF, nmL_append, true_or, or_true, and_self, true_and, and_true, Option.some.injEq, reduceCtorEq, false_or, or_false, VV.p.injEq, PV.at.injEq, Value.int.injEq, sl1, vi, bl1, vb, nilV, slP])
            (all_goals first | rfl | omega | exact ⟨rfl, by omega⟩)
        · (repeat (first | refine VC.seq ?_ | refine VC.block ?_ | refine VC.kill ?_ | refine VC.skip ?_ | refine VC.exit ?_ | refine VC.regA ?_ | refine VC.condT ?_ | refine VC.condF ?_))
          refine VC.regCA ?_
          refine VO.moreA ?_
          refine VO.knownA (.bool true) rfl ?_
          refine VO.endA ?_
          (repeat (first | refine VC.seq ?_ | refine VC.block ?_ | refine VC.kill ?_ | refine VC.skip ?_ | refine VC.exit ?_ | refine VC.regA ?_ | refine VC.condT ?_ | refine VC.condF ?_))
          exact VC.ret (Fin.A rfl)
      · simp only [if_neg hV0]
        refine VO.call0A (no_orc 40 (by decide)) kp ?_
        refine VO.endA ?_
        (repeat (first | refine VC.seq ?_ | refine VC.block ?_ | refine VC.kill ?_ | refine VC.skip ?_ | refine VC.exit ?_ | refine VC.regA ?_ | refine VC.condT ?_ | refine VC.condF ?_))
        (refine VC.regCA ?_; refine VO.moreA ?_; refine VO.call0A (no_orc _ (by decide)) kw ?_; refine VO.endA ?_; (repeat (first | refine VC.seq ?_ | refine VC.block ?_ | refine VC.kill ?_ | refine VC.skip ?_ | refine VC.exit ?_ | refine VC.regA ?_ | refine VC.condT ?_ | refine VC.condF ?_)))
        have hw3 : ¬ (V.length : Int) ≠ (W.length : Int) - 1 := by omega
        have hw4 : ¬ (W2.length : Int) ≠ (W.length : Int) - 1 := by omega
        (refine VC.regCA ?_; refine VO.moreA ?_; refine VO.call0A (no_orc _ (by decide)) kS ?_; refine VO.endA ?_; (repeat (first | refine VC.seq ?_ | refine VC.block ?_ | refine VC.kill ?_ | refine VC.skip ?_ | refine VC.exit ?_ | refine VC.regA ?_ | refine VC.condT ?_ | refine VC.condF ?_)))
        refine VC.loopG (fun (i : Nat) => ⟨inV [p5, p6, p7, p8, p17, p18, p19] [sl1 x, sl1 a, sl1 b, slP W, slP ss, vi 0, vi i] .lf, .lf, [], none⟩) (fun n i => n = ss.length - i ∧ i ≤ ss.length) (x := 0) ?_ ⟨rfl, Nat.zero_le _⟩ ?_
        · (apply Go.Ab.V.G.weak; constructor <;> simp (config := {decide := true}) only [PT.Le, inV, mkB, PT.set, VSt.kill, VSt.adopt, VSt.alloc, PT.filt, PT.map, List.map_cons, List.map_nil, noref, norefB, deadB, deadV, nos, nm, nmL, nmB, nmE, Pa.eqb, cond_true, cond_false, Bool.not_true, Bool.not_false, Bool.and_true, Bool.true_and, nmL_vi, flV_len, flP_len, flV_nm, flV_ok, flV_pv, flP_map, drop_flP, drop_flV, putC_flV, eqV2, eqV3, bneT, bneF, decide_true, decide_false, frzL_vi, frzL_flV, nmE_ag, nmE_at, frzE_ag, frzE_at, ofAg_len, ofAt_len, atL_vi, nmL_map_p, frzL_map_p, okL_p, toPVs_p, repsZ, nmL_reps, putC_vi, get_flV0, get_flV1, Int.toNat_zero, Int.toNat_one, Int.reduceToNat, eqV_slice, eqV_ptr, eqV_func, nilS, nilP, nilF, nmL_append, true_or, or_true, and_self, true_and, and_true, Option.some.injEq, reduceCtorEq, false_or, or_false, VV.p.injEq, PV.at.injEq, Value.int.injEq, sl1, vi, bl1, vb, nilV, slP])
        rintro n i ⟨hn, hi⟩
        simp only [inV, PT.set, slP]
        (repeat (first | refine VC.seq ?_ | refine VC.block ?_ | refine VC.kill ?_ | refine VC.skip ?_ | refine VC.exit ?_ | refine VC.regA ?_ | refine VC.condT ?_ | refine VC.condF ?_))
        refine VC.condA ?_ ?_ <;> intro h <;> (simp only [decide_eq_true_eq, decide_eq_false_iff_not, bne_iff_ne, ne_eq, bne_eq_false_iff_eq, beq_iff_eq, beq_eq_false_iff_ne, Bool.not_eq_true', Bool.not_eq_false', Bool.and_eq_true, Bool.or_eq_true, Int.natCast_inj] at h)
        · have h : i < ss.length := by omega
          obtain ⟨W', kw', kp', hl'⟩ := rnd ss[i] (List.getElem_mem h)
          have hpo := part_one ss i h
          (repeat (first | refine VC.seq ?_ | refine VC.block ?_ | refine VC.kill ?_ | refine VC.skip ?_ | refine VC.exit ?_ | refine VC.regA ?_ | refine VC.condT ?_ | refine VC.condF ?_))
          have e1 : ((i : Int) + 1).toNat - i = 1 := by omega
          have kp2 : VCall cfg 40 [sl1 x, sl1 b, .p (.sl 2 1 [pi ss[i].1, pi ss[i].2])] [] [] (.tup [sl1 (stepR x b ss[i].1 ss[i].2), vi 1, vi 0]) [] := kp'
          refine VC.regCA ?_
          refine VO.moreA ?_
          simp only [e1, Nat.one_mul, List.take_succ_cons, List.take_zero]
          refine VO.call0A (no_orc 40 (by decide)) kp2 ?_
          refine VO.endA ?_
          (repeat (first | refine VC.seq ?_ | refine VC.block ?_ | refine VC.kill ?_ | refine VC.skip ?_ | refine VC.exit ?_ | refine VC.regA ?_ | refine VC.condT ?_ | refine VC.condF ?_))
          (refine VC.regCA ?_; refine VO.moreA ?_; refine VO.call0A (no_orc _ (by decide)) kw' ?_; refine VO.endA ?_; (repeat (first | refine VC.seq ?_ | refine VC.block ?_ | refine VC.kill ?_ | refine VC.skip ?_ | refine VC.exit ?_ | refine VC.regA ?_ | refine VC.condT ?_ | refine VC.condF ?_)))
          have hw2 : ¬ (W'.length : Int) > (W.length : Int) + 1 := by omega
          (repeat (first | refine VC.seq ?_ | refine VC.block ?_ | refine VC.kill ?_ | refine VC.skip ?_ | refine VC.exit ?_ | refine VC.regA ?_ | refine VC.condT ?_ | refine VC.condF ?_))
          refine ⟨_, i + 1, ?_, ⟨rfl, by omega⟩, ?_⟩
          · omega
          · (apply Go.Ab.V.G.weak; constructor <;> simp (config := {decide := true}) only [PT.Le, inV, mkB, PT.set, VSt.kill, VSt.adopt, VSt.alloc, PT.filt, PT.map, List.map_cons, List.map_nil, noref, norefB, deadB, deadV, nos, nm, nmL, nmB, nmE, Pa.eqb, cond_true, cond_false, Bool.not_true, Bool.not_false, Bool.and_true, Bool.true_and, nmL_vi, flV_len, flP_len, flV_nm, flV_ok, flV_pv, flP_map, drop_flP, drop_flV, putC_flV, eqV2, eqV3, bneT, bneF, decide_true, decide_false, frzL_vi, frzL_flV, nmE_ag, nmE_at, frzE_ag, frzE_at, ofAg_len, ofAt_len, atL_vi, nmL_map_p, frzL_map_p, okL_p, toPVs_p, repsZ, nmL_reps, putC_vi, get_flV0, get_flV1, Int.toNat_zero, Int.toNat_one, Int.reduceToNat, eqV_slice, eqV_ptr, eqV_func, nilS, nilP, nilF, nmL_append, true_or, or_true, and_self, true_and, and_true, Option.some.injEq, reduceCtorEq, false_or, or_false, VV.p.injEq, PV.at.injEq, Value.int.injEq, sl1, vi, bl1, vb, nilV, slP])
            (all_goals first | rfl | omega | exact ⟨rfl, by omega⟩)
        · (repeat (first | refine VC.seq ?_ | refine VC.block ?_ | refine VC.kill ?_ | refine VC.skip ?_ | refine VC.exit ?_ | refine VC.regA ?_ | refine VC.condT ?_ | refine VC.condF ?_))
          refine VC.regCA ?_
          refine VO.moreA ?_
          refine VO.knownA (.bool true) rfl ?_
          refine VO.endA ?_
          (repeat (first | refine VC.seq ?_ | refine VC.block ?_ | refine VC.kill ?_ | refine VC.skip ?_ | refine VC.exit ?_ | refine VC.regA ?_ | refine VC.condT ?_ | refine VC.condF ?_))
          exact VC.ret (Fin.A rfl)
end Go.Ab.Jug

namespace Go.Proofs.Ytcbhobkfffgfdaa.jugLower
open Go.ChangeShapes Go.WideShapes Go.ChangeAt Go.RowKit
open Go.ChangeMaps (open_string shut_string)
open Go.Ab Go.Ab.V Go.Ab.Jug
set_option linter.unusedVariables false
theorem own : ownKnob Try.prog.godebug = none := by kernel_rfl
theorem laidOut : laidOutB Try.prog = true := by kernel_rfl
theorem orc : OrcOK Try.prog cfg := orcOK mixed tab0 (fun h => by cases h) rfl awake_closed
theorem tab : TabOK Try.prog cfg := tab0
set_option maxRecDepth 100000 in
theorem lifted (os : Os) (started : os.Started) (H : Type) (enc : TypeId × Value → H) :
    ReturnsInHanded {} Try.checked os 12 .any (Rows.jugLowerSpec.pre6 enc Try.prog Try.f12 Rows.jugLowerRow.domain false) (Rows.jugLowerSpec.post enc Try.prog Try.f12 false true false false) := by
  refine returnsInHanded_of_change (C := Try.checked) own started (by kernel_rfl) Try.func12
    (ChangeSpec.witness6 (enc := enc) (C := Try.checked) false ⟨#[], #[.slice none 0 0, .agg #[.slice none 0 0, .slice none 0 0]], []⟩ 8 (by kernel_rfl) (by kernel_rfl) (by kernel_rfl) (by kernel_rfl)) ?_
  intro W base args ds gs before hval0 hW hcnd _
  have hval : ∀ (j : Nat) t v, Try.f12.params[j]? = some t → args[j]? = some v → Value.okWide Try.prog W .any base t v := hval0
  have hW' := hW
  obtain ⟨p, q, hA0, hV, rfl, hfz, hnd⟩ := hW
  have hA : DataW.TrodAll enc Try.prog W 0 (fun _ => true) true Try.f12.params.toList args.toList ds p := hA0
  rw [Try.params12] at hA hval
  obtain ⟨v0, vs0, d0, ds0, p0, q0, hargs, rfl, rfl, h0, r0⟩ := trodAll_cons hA
  obtain ⟨v1, vs1, d1, ds1, p1, q1, rfl, rfl, rfl, h1, r1⟩ := trodAll_cons r0
  obtain ⟨rfl, rfl, rfl⟩ := trodAll_nil r1
  obtain rfl : args = #[v0, v1] := by cases args; simp_all
  obtain ⟨rfl, rfl⟩ := trodVars_none hV
  obtain ⟨a0, len0, cap0, rfl⟩ := okWide_slice Try.underlying22 (hval 0 22 v0 rfl rfl)
  have k0 := h0
  have lt0 : ∀ x ∈ p0, x.block < W.heap.size := by obtain ⟨m, hm⟩ := k0; exact DataW.trod_lt m _ _ _ hm
  obtain ⟨z0, w0⟩ : ∃ zs, V.IsRow .i64 W a0 len0 cap0 zs := by
    obtain ⟨fuel, hf⟩ := h0
    rcases open_ints Try.underlying22 Try.underlying3 (by kernel_rfl) hf with ⟨hcs, _⟩ | ⟨x, l, c, zs, hcs, _, hl, hm, hz, _, hcell, hwz⟩
    · simp [Value.cells] at hcs
      obtain ⟨rfl, rfl, rfl⟩ := hcs
      exact ⟨[], .inl ⟨rfl, rfl, rfl, rfl⟩⟩
    · simp [Value.cells] at hcs
      obtain ⟨rfl, rfl, rfl⟩ := hcs
      exact ⟨zs, .inr ⟨_, rfl, hl, hm, by simpa using hz, hcell, hwz⟩⟩
  obtain ⟨av0, ar0, ap0, al0⟩ := arg_ints w0
  obtain ⟨c1, rfl⟩ := V.okWide_arr Try.underlying33 (hval 1 33 v1 rfl rfl)
  have k1 := h1
  have lt1 : ∀ x ∈ p1, x.block < W.heap.size := by obtain ⟨m, hm⟩ := k1; exact DataW.trod_lt m _ _ _ hm
  have lv1 : V.Leaves Try.prog 33 [.sl [.int .i64], .sl [.int .i64]] := (.arr Try.underlying33 (.sl Try.underlying22 (.int Try.underlying3) (by kernel_rfl) (by simp)) (by kernel_rfl) (by kernel_rfl))
  obtain ⟨ds1_0, wt1_0, zr1, zv1⟩ := V.arg_agg (show V.OpenR W [.sl [.int .i64], .sl [.int .i64]] c1.toList from by obtain ⟨fuel, hf⟩ := h1; exact V.open_all lv1 hf)
  obtain ⟨z1_0, ds1_1, eq1_0, zl1_0, zb1_0, wt1_1⟩ := V.wt_sl1 wt1_0
  obtain ⟨z1_1, ds1_2, eq1_1, zl1_1, zb1_1, wt1_2⟩ := V.wt_sl1 wt1_1
  rw [eq1_0, eq1_1, V.wt_nil wt1_2] at zv1
  clear hA0 hval0
  refine (calls_true mixed tab orc (lower_law _ _ _ al0 zl1_0 zl1_1) (All2.cons ap0 (All2.cons zv1 .nil)) (LR.cons ar0 (LR.cons zr1 (LR.nil _)))).mono fun e W' ⟨he, bel⟩ => ?_
  subst he
  exact ⟨_, rfl, _, _, _, [], _, [], hW', trodAll_mk1 (shut_bool Try.underlying4 _), (trodAll_cons_mk (Below.trod laidOut (by kernel_rfl) (of_decide_eq_true (by kernel_rfl)) k0 bel lt0) (trodAll_cons_mk (Below.trod laidOut (by kernel_rfl) (of_decide_eq_true (by kernel_rfl)) k1 bel lt1) trodAll_mk0)), rfl, bel.frame _, fun h => by cases h⟩
theorem over : Rows.jugLowerRow.holds Try.pinned (OpenSpec.ofChange Rows.jugLowerSpec) :=
  OpenClaim.holds_of_wide 12 Try.f12 rfl rfl rfl rfl rfl rfl rfl ⟨rfl, rfl, rfl, rfl, rfl⟩ rfl rfl rfl rfl rfl (by kernel_rfl) Try.func12 (by kernel_rfl)
    (of_decide_eq_true (by kernel_rfl)) (by unfold Func.isWrapper; first | (rw [if_pos (by decide +kernel)]; kernel_rfl) | (rw [if_neg (by decide +kernel)]; exact ⟨rfl, rfl⟩))
    (fun os started H enc _ => lifted os started H enc)
theorem proved : Rows.JugLowerSaid := over
end Go.Proofs.Ytcbhobkfffgfdaa.jugLower
namespace Go.Proofs.Ytcbhobkfffgfdaa
/-- The row, under a short name, for the claim. -/
theorem jugLower_holds : Rows.JugLowerSaid := jugLower.proved
end Go.Proofs.Ytcbhobkfffgfdaa
