/- Proved: for every input the law JugFewest returns true, and each argument reads afterwards as it read before. No condition. -/
import Derived.Test.YtcbhobkfffgfdaaRows
import Derived.WalkKit
import Derived.ProofKit
import Derived.OpenShut
import Derived.ShutString
import Derived.ChangeOld
import Derived.Below
import Derived.Carry
import Derived.Test.YtcbhobkfffgfdaaA03
set_option linter.unusedSimpArgs false
set_option linter.unusedVariables false
namespace Go.Ab.Jug
open Go.Ab.V
set_option maxRecDepth 100000
/-! ### The way back -/
def pathTo (L : List En) : Nat → List Int → List (Int × Int)
  | 0, _ => []
  | d + 1, g => match L.find? fun e => decide (e.g = g) with
    | some e => pathTo L d e.par ++ [e.st]
    | none => []
def swapTo (O : List (Int × Int)) (i : Nat) : List (Int × Int) := (List.range O.length).map fun m => if m < i ∨ O.length < m + 1 + i then O.getD (O.length - 1 - m) (0, 0) else O.getD m (0, 0)
theorem swapTo_len (O : List (Int × Int)) (i : Nat) : (swapTo O i).length = O.length := by simp [swapTo]
theorem swapTo_get (O : List (Int × Int)) (i m : Nat) (h : m < (swapTo O i).length) : (swapTo O i)[m] = if m < i ∨ O.length < m + 1 + i then O.getD (O.length - 1 - m) (0, 0) else O.getD m (0, 0) := by simp [swapTo]
theorem swapTo_0 (O : List (Int × Int)) : swapTo O 0 = O := by
  refine List.ext_getElem (swapTo_len O 0) fun m h1 h2 => ?_
  rw [swapTo_get, if_neg (by omega), List.getD_eq_getElem?_getD, List.getElem?_eq_getElem h2]; rfl
theorem swapTo_end (O : List (Int × Int)) (i : Nat) (h : O.length ≤ 2 * i + 1) : swapTo O i = O.reverse := by
  refine List.ext_getElem (by rw [swapTo_len, List.length_reverse]) fun m h1 h2 => ?_
  rw [swapTo_get, List.getElem_reverse]
  rw [swapTo_len] at h1
  split
  · rw [List.getD_eq_getElem?_getD, List.getElem?_eq_getElem (by omega)]; rfl
  · have : m = O.length - 1 - m := by omega
    rw [List.getD_eq_getElem?_getD, List.getElem?_eq_getElem (by omega), Option.getD_some]
    congr 1
theorem swapTo_step (O : List (Int × Int)) (i : Nat) (h : 2 * i + 1 < O.length) (h1 : i < (swapTo O i).length) (h2 : O.length - 1 - i < (swapTo O i).length) : ((swapTo O i).set i (swapTo O i)[O.length - 1 - i]).set (O.length - 1 - i) (swapTo O i)[i] = swapTo O (i + 1) := by
  have ha : (swapTo O i)[i] = O.getD i (0, 0) := by rw [swapTo_get, if_neg (by omega)]
  have hb : (swapTo O i)[O.length - 1 - i] = O.getD (O.length - 1 - i) (0, 0) := by rw [swapTo_get, if_neg (by omega)]
  rw [ha, hb]
  refine List.ext_getElem (by simp [swapTo]) fun m h3 h4 => ?_
  rw [List.getElem_set, List.getElem_set, swapTo_get, swapTo_get]
  rw [swapTo_len] at h4
  by_cases e1 : O.length - 1 - i = m
  · subst e1
    rw [if_pos rfl, if_pos (by omega)]
    congr 1; omega
  · rw [if_neg e1]
    by_cases e2 : i = m
    · subst e2
      rw [if_pos rfl, if_pos (by omega)]
    · rw [if_neg e2]
      by_cases e3 : m < i ∨ O.length < m + 1 + i
      · rw [if_pos e3, if_pos (by omega)]
      · rw [if_neg e3, if_neg (by omega)]
set_option maxHeartbeats 4000000 in
theorem Reverse_ok (O : List (Int × Int)) (hO : O.length ≤ 1000000) : VCall cfg 67 [.os 2 p38 O.length] [(p38, .cells (flV O))] [] (.tup []) [(p38, .cells (flV O.reverse))] := by
  (refine VCall.mk (fn := a67) rfl rfl rfl ?_; simp only [a67, inV, mkB, nmsL, PT.set])
  (repeat (first | refine VC.seq ?_ | refine VC.block ?_ | refine VC.kill ?_ | refine VC.skip ?_ | refine VC.exit ?_ | refine VC.regA ?_ | refine VC.condT ?_ | refine VC.condF ?_))
  refine VC.loopG (fun (i : Nat) => ⟨inV [p0, p2, p3] [.os 2 p38 O.length, vi i, vi ((O.length : Int) - 1 - i)] .lf, mkB [(p38, .cells (flV (swapTo O i)))] .lf, [p38], none⟩) (fun n i => n = O.length - i ∧ 2 * i ≤ O.length + 1) (x := 0) ?_ ⟨rfl, by omega⟩ ?_
  · have := swapTo_0 O
    (apply Go.Ab.V.G.weak; constructor <;> simp (config := {decide := true}) only [PT.Le, inV, mkB, PT.set, VSt.kill, VSt.adopt, VSt.alloc, PT.filt, PT.map, List.map_cons, List.map_nil, noref, norefB, deadB, deadV, nos, nm, nmL, nmB, nmE, Pa.eqb, cond_true, cond_false, Bool.not_true, Bool.not_false, Bool.and_true, Bool.true_and, nmL_vi, flV_len, flP_len, flV_nm, flV_ok, flV_pv, flP_map, drop_flP, drop_flV, putC_flV, eqV2, eqV3, bneT, bneF, decide_true, decide_false, frzL_vi, frzL_flV, nmE_ag, nmE_at, frzE_ag, frzE_at, ofAg_len, ofAt_len, atL_vi, nmL_map_p, frzL_map_p, okL_p, toPVs_p, repsZ, nmL_reps, putC_vi, get_flV0, get_flV1, Int.toNat_zero, Int.toNat_one, Int.reduceToNat, eqV_slice, eqV_ptr, eqV_func, nilS, nilP, nilF, nmL_append, true_or, or_true, and_self, true_and, and_true, Option.some.injEq, reduceCtorEq, false_or, or_false, VV.p.injEq, PV.at.injEq, Value.int.injEq, sl1, vi, bl1, vb, nilV, this, pi])
    (all_goals first | rfl | omega | exact ⟨rfl, by omega⟩)
  rintro n i ⟨hn, hi⟩
  simp only [inV, PT.set, mkB]
  have hl := swapTo_len O i
  (repeat (first | refine VC.seq ?_ | refine VC.block ?_ | refine VC.kill ?_ | refine VC.skip ?_ | refine VC.exit ?_ | refine VC.regA ?_ | refine VC.condT ?_ | refine VC.condF ?_))
  refine VC.condA ?_ ?_ <;> intro h <;> (simp only [decide_eq_true_eq, decide_eq_false_iff_not, bne_iff_ne, ne_eq, bne_eq_false_iff_eq, beq_iff_eq, beq_eq_false_iff_ne, Bool.not_eq_true', Bool.not_eq_false', Bool.and_eq_true, Bool.or_eq_true, Int.natCast_inj] at h)
  · have h1 : i < (swapTo O i).length := by omega
    have h2 : O.length - 1 - i < (swapTo O i).length := by omega
    have hst := swapTo_step O i (by omega) h1 h2
    have hji : (O.length : Int) - 1 - i = ((O.length - 1 - i : Nat) : Int) := by omega
    rw [hji]
    generalize hJ : O.length - 1 - i = J at *
    have hl2 : ((swapTo O i).set i ((swapTo O i)[J].1, (swapTo O i)[J].2)).length = O.length := by rw [List.length_set]; exact hl
    have hst : ((swapTo O i).set i ((swapTo O i)[J].1, (swapTo O i)[J].2)).set J ((swapTo O i)[i].1, (swapTo O i)[i].2) = swapTo O (i + 1) := hst
    (repeat (first | refine VC.seq ?_ | refine VC.block ?_ | refine VC.kill ?_ | refine VC.skip ?_ | refine VC.exit ?_ | refine VC.regA ?_ | refine VC.condT ?_ | refine VC.condF ?_))
    refine ⟨_, i + 1, ?_, ⟨rfl, by omega⟩, ?_⟩
    · omega
    · (apply Go.Ab.V.G.weak; constructor <;> simp (config := {decide := true}) only [PT.Le, inV, mkB, PT.set, VSt.kill, VSt.adopt, VSt.alloc, PT.filt, PT.map, List.map_cons, List.map_nil, noref, norefB, deadB, deadV, nos, nm, nmL, nmB, nmE, Pa.eqb, cond_true, cond_false, Bool.not_true, Bool.not_false, Bool.and_true, Bool.true_and, nmL_vi, flV_len, flP_len, flV_nm, flV_ok, flV_pv, flP_map, drop_flP, drop_flV, putC_flV, eqV2, eqV3, bneT, bneF, decide_true, decide_false, frzL_vi, frzL_flV, nmE_ag, nmE_at, frzE_ag, frzE_at, ofAg_len, ofAt_len, atL_vi, nmL_map_p, frzL_map_p, okL_p, toPVs_p, repsZ, nmL_reps, putC_vi, get_flV0, get_flV1, Int.toNat_zero, Int.toNat_one, Int.reduceToNat, eqV_slice, eqV_ptr, eqV_func, nilS, nilP, nilF, nmL_append, true_or, or_true, and_self, true_and, and_true, Option.some.injEq, reduceCtorEq, false_or, or_false, VV.p.injEq, PV.at.injEq, Value.int.injEq, sl1, vi, bl1, vb, nilV, hst])
      (all_goals first | rfl | omega | exact ⟨rfl, by omega⟩)
  · (repeat (first | refine VC.seq ?_ | refine VC.block ?_ | refine VC.kill ?_ | refine VC.skip ?_ | refine VC.exit ?_ | refine VC.regA ?_ | refine VC.condT ?_ | refine VC.condF ?_))
    rw [swapTo_end O i (by omega)]
    refine Fin.of (ys := []) rfl rfl ?_ rfl rfl ?_
    · simp [mkB, PT.set, PT.Le, VSt.kill]
    · simp [subs, nm, nmL, nmsB, nmB, flV_nm, nos, Pa.eqb]
theorem path_last {x f0 : List Int} {c : Bool} {L : List En} (G : Good x c f0 L) {k : Nat} {e : En} (he : L[k]? = some e) (hk : 0 < k) : ∃ j e', j < k ∧ L[j]? = some e' ∧ e'.g = e.par ∧ e.d = e'.d + 1 ∧ (e.st, e.g) ∈ succs x c e'.g ∧ pathTo L e.d e.g = pathTo L e'.d e'.g ++ [e.st] := by
  obtain ⟨j, e', h1, h2, h3, h4, h5⟩ := G.par k e he hk
  refine ⟨j, e', h1, h2, h3, h4, h5, ?_⟩
  rw [h4]
  show (match L.find? fun e' => decide (e'.g = e.g) with
    | some e => pathTo L e'.d e.par ++ [e.st]
    | none => []) = _
  rw [find_some G.nodup he, h3]
theorem path_len {x f0 : List Int} {c : Bool} {L : List En} (G : Good x c f0 L) : ∀ (k : Nat) (e : En), L[k]? = some e → (pathTo L e.d e.g).length = e.d := by
  intro k
  induction k using Nat.strongRecOn with
  | _ k ih =>
    intro e he
    rcases Nat.eq_zero_or_pos k with h | h
    · subst h
      rw [G.root] at he; cases he; rfl
    · obtain ⟨j, e', h1, h2, _, h4, _, h6⟩ := path_last G he h
      rw [h6, List.length_append, ih j h1 e' h2, h4]; rfl
theorem pourR_append (x : List Int) : ∀ (w : List (Int × Int)) (f : List Int) (s : Int × Int), (pourR x f w).2 = w.length → pourR x f (w ++ [s]) = if isR x.length s.1 s.2 = true then (stepR x (pourR x f w).1 s.1 s.2, w.length + 1) else ((pourR x f w).1, w.length)
  | [], f, s, _ => by simp [pourR]
  | p :: w, f, s, h => by
    by_cases hp : isR x.length p.1 p.2 = true
    · simp only [pourR, hp, if_true, List.length_cons, Nat.add_right_cancel_iff] at h
      simp only [List.cons_append, pourR, hp, if_true]
      rw [pourR_append x w _ s h]
      split <;> simp
    · simp [pourR, hp] at h
/-- The way leads there, without the sea if closed. -/
theorem path_pour {x f0 : List Int} {c : Bool} {L : List En} (G : Good x c f0 L) : ∀ (k : Nat) (e : En), L[k]? = some e → pourR x f0 (pathTo L e.d e.g) = (e.g, e.d) ∧ ∀ s ∈ pathTo L e.d e.g, isR x.length s.1 s.2 = true ∧ (c = true → s.1 ≠ -1 ∧ s.2 ≠ -1) := by
  intro k
  induction k using Nat.strongRecOn with
  | _ k ih =>
    intro e he
    rcases Nat.eq_zero_or_pos k with h | h
    · subst h
      rw [G.root] at he; cases he
      exact ⟨rfl, fun s hs => by simp [pathTo, root] at hs⟩
    · obtain ⟨j, e', h1, h2, h3, h4, h5, h6⟩ := path_last G he h
      obtain ⟨i1, i2⟩ := ih j h1 e' h2
      obtain ⟨s1, s2, _, s4⟩ := succ_mem h5
      have hl := path_len G j e' h2
      rw [h6, pourR_append x _ f0 e.st (by rw [i1, hl]), i1, hl, if_pos s1, h4]
      refine ⟨by rw [show stepR x e'.g e.st.1 e.st.2 = e.g from s2.symm], fun s hs => ?_⟩
      rcases List.mem_append.1 hs with hs | hs
      · exact i2 s hs
      · rw [List.mem_singleton.1 hs]; exact ⟨s1, s4⟩
/-- Of a search: what is found at its end, if anything. -/
structure Srch (x f : List Int) (c : Bool) (P : List Int → Bool) (M : Nat) (fb : Bool) (out : List Int) : Prop where
  no : ∀ j, j < M → ∃ e, (bf x f c j)[j]? = some e ∧ P e.g = false
  yes : fb = true → ∃ e, (bf x f c M)[M]? = some e ∧ P e.g = true ∧ out = e.g
  none : fb = false → M = (bf x f c M).length ∧ out = List.replicate x.length 0
def wayOf (x f : List Int) (c : Bool) (M : Nat) (fb : Bool) : List (Int × Int) := if fb = true then (match (bf x f c M)[M]? with
  | some e => pathTo (bf x f c M) e.d e.g
  | none => []) else []
set_option maxHeartbeats 8000000 in
theorem way_ok (x f : List Int) (c : Bool) (hx : okJ x) (hf : fillB x f = true) (k : Nat) (hk : k ≠ 20) (pc : List PV) (P : List Int → Bool) (hP : ∀ g, fillB x g = true → VCall cfg k (.agg ((pad4 g).map vi) :: pc.map .p) [] [] (vb (P g)) [])
    (M : Nat) (fb : Bool) (out : List Int) (hS : Srch x f c P M fb out) : VCall cfg 51 [jugP x c, .agg ((pad4 f).map vi), .clos k [] (pc.map .p)] [] [] (.tup [slP (wayOf x f c M fb), vb fb]) [] := by
  have hx4 : x.length ≤ 4 := hx.2.1
  have hlf : f.length = x.length := ((fillB_iff x f).1 hf).1
  have kr := reached_ok x f c hx hf k hk pc P hP M fb out hS.no hS.yes hS.none
  obtain ⟨f0, f1, f2, f3, hF⟩ := four (pad4_len f (by omega))
  have hk4 : [CK.int, CK.int, CK.int, CK.int] = k4 := rfl
  have hG := bf_good (x := x) (f0 := f) (c := c) hf M
  have hbl := bf_len (c := c) hx hf M
  rw [hF] at kr ⊢
  unfold jugP at kr ⊢
  (refine VCall.mk (fn := a51) rfl rfl rfl ?_; simp only [a51, inV, mkB, nmsL, PT.set])
  simp only [List.map_cons, List.map_nil] at kr ⊢
  (repeat (first | refine VC.seq ?_ | refine VC.block ?_ | refine VC.kill ?_ | refine VC.skip ?_ | refine VC.exit ?_ | refine VC.regA ?_ | refine VC.condT ?_ | refine VC.condF ?_))
  refine VC.regCA ?_
  refine VO.call [] [] (mkB [(p4, .cells [vi f0, vi f1, vi f2, vi f3])] .lf) rfl rfl (no_orc 66 (by decide)) kr trivial (by trivial) ?_ rfl rfl rfl rfl rfl rfl rfl ?_
  · simp [mkB, PT.set, PT.Le, vi]
  (simp only [filtN, filtNB, mkB, PT.set, VSt.put, PT.filt, noref, norefB, nos, nm, nmL, nmB, nmL_vi, nmL_map_p, nmE_ag, flV_nm, List.nil_append, List.append_nil, Pa.eqb, cond_true, cond_false, Bool.and_true, Bool.not_false, Bool.not_true])
  have hpl : (pad4 out).length = 4 := by
    cases hfb : fb with
    | true =>
      obtain ⟨e, he, _, rfl⟩ := hS.yes hfb
      exact pad4_len _ (by rw [((fillB_iff x _).1 (hG.gfill hf (List.mem_of_getElem? he))).1]; exact hx4)
    | false =>
      obtain ⟨_, rfl⟩ := hS.none hfb
      rw [pad4_zero _ hx4]; rfl
  obtain ⟨o0, o1, o2, o3, hO⟩ := four hpl
  rw [hO]
  simp only [List.map_cons, List.map_nil]
  refine VO.endA ?_
  (repeat (first | refine VC.seq ?_ | refine VC.block ?_ | refine VC.kill ?_ | refine VC.skip ?_ | refine VC.exit ?_ | refine VC.regA ?_ | refine VC.condT ?_ | refine VC.condF ?_))
  cases hfb : fb with
  | false =>
    (repeat (first | refine VC.seq ?_ | refine VC.block ?_ | refine VC.kill ?_ | refine VC.skip ?_ | refine VC.exit ?_ | refine VC.regA ?_ | refine VC.condT ?_ | refine VC.condF ?_))
    have : wayOf x f c M false = [] := rfl
    rw [this]
    refine VC.ghost (G.adoptA (p := p6) 2 p38 G.refl) ?_
    (simp only [VSt.kill, VSt.osob, VSt.adoptB, VSt.adopt, VSt.alloc, PT.filt, norefB, deadB, deadV, PT.map, Option.map_some, Option.map_none, List.map_cons, List.map_nil, noref, nos, nm, nmL, nmB, nmE, Pa.eqb, PT.set, mkB, inV, cond_true, cond_false, Bool.and_true, Bool.not_false, Bool.not_true, List.set_cons_zero, List.set_cons_succ])
    refine VC.ret (Fin.frzA p38 (hb := rfl) (hc := rfl) (Fin.A rfl))
  | true =>
    obtain ⟨e0, he0, _, rfl⟩ := hS.yes hfb
    have hw : wayOf x f c M true = pathTo (bf x f c M) e0.d e0.g := by unfold wayOf; rw [if_pos rfl, he0]
    rw [hw]
    generalize hL : bf x f c M = L at *
    have hpath := path_len hG M e0 he0
    have hd0 := good_d hG M e0 he0
    have hMl := (List.getElem?_eq_some_iff.1 he0).1
    (repeat (first | refine VC.seq ?_ | refine VC.block ?_ | refine VC.kill ?_ | refine VC.skip ?_ | refine VC.exit ?_ | refine VC.regA ?_ | refine VC.condT ?_ | refine VC.condF ?_))
    refine VC.ghost (G.adoptA (p := p11) 2 p38 G.refl) ?_
    (simp only [VSt.kill, VSt.osob, VSt.adoptB, VSt.adopt, VSt.alloc, PT.filt, norefB, deadB, deadV, PT.map, Option.map_some, Option.map_none, List.map_cons, List.map_nil, noref, nos, nm, nmL, nmB, nmE, Pa.eqb, PT.set, mkB, inV, cond_true, cond_false, Bool.and_true, Bool.not_false, Bool.not_true, List.set_cons_zero, List.set_cons_succ])
    refine VC.loopG (fun (q : En × List (Int × Int)) => ⟨inV [p4, p8, p9, p11] [.op 0 p4 0, .om p18, .op 0 p9 0, .os 2 p38 q.2.length] .lf, mkB [(p4, .cells [vi f0, vi f1, vi f2, vi f3]), (p18, .map (ofAg (esP L))), (p9, .cells ((pad4 q.1.g).map vi)), (p38, .cells (flV q.2))] .lf, [], none⟩)
      (fun n q => n = q.1.d ∧ (∃ idx, L[idx]? = some q.1) ∧ q.2 ++ (pathTo L q.1.d q.1.g).reverse = (pathTo L e0.d e0.g).reverse) (x := (e0, [])) ?_ ⟨rfl, ⟨M, he0⟩, rfl⟩ ?_
    · have hz : flV [] = [] := rfl
      (apply Go.Ab.V.G.weak; constructor <;> simp (config := {decide := true}) only [PT.Le, inV, mkB, PT.set, VSt.kill, VSt.adopt, VSt.alloc, PT.filt, PT.map, List.map_cons, List.map_nil, noref, norefB, deadB, deadV, nos, nm, nmL, nmB, nmE, Pa.eqb, cond_true, cond_false, Bool.not_true, Bool.not_false, Bool.and_true, Bool.true_and, nmL_vi, flV_len, flP_len, flV_nm, flV_ok, flV_pv, flP_map, drop_flP, drop_flV, putC_flV, eqV2, eqV3, bneT, bneF, decide_true, decide_false, frzL_vi, frzL_flV, nmE_ag, nmE_at, frzE_ag, frzE_at, ofAg_len, ofAt_len, atL_vi, nmL_map_p, frzL_map_p, okL_p, toPVs_p, repsZ, nmL_reps, putC_vi, get_flV0, get_flV1, Int.toNat_zero, Int.toNat_one, Int.reduceToNat, eqV_slice, eqV_ptr, eqV_func, nilS, nilP, nilF, nmL_append, true_or, or_true, and_self, true_and, and_true, Option.some.injEq, reduceCtorEq, false_or, or_false, VV.p.injEq, PV.at.injEq, Value.int.injEq, sl1, vi, bl1, vb, nilV, hO, List.map_cons, List.map_nil, hz, List.nil_append, List.length_nil])
    rintro n ⟨e, O⟩ ⟨hn, ⟨idx, hidx⟩, hpe⟩
    simp only at hn hidx hpe
    have hfe := hG.gfill hf (List.mem_of_getElem? hidx)
    have hle : e.g.length = x.length := ((fillB_iff x _).1 hfe).1
    obtain ⟨a0, a1, a2, a3, hA⟩ := four (pad4_len e.g (by omega))
    have e4 := eqV4 (a0 := a0) (a1 := a1) (a2 := a2) (a3 := a3) (b0 := f0) (b1 := f1) (b2 := f2) (b3 := f3)
    simp only [inV, PT.set, mkB, hA, List.map_cons, List.map_nil]
    have hOl : O.length ≤ 28561 := by
      have := congrArg List.length hpe
      rw [List.length_append, List.length_reverse, List.length_reverse, hpath] at this
      omega
    rcases Nat.eq_zero_or_pos idx with hi | hi
    · subst hi
      rw [hG.root] at hidx
      cases hidx
      have hA' : [f0, f1, f2, f3] = [a0, a1, a2, a3] := hF.symm.trans hA
      have e5 : (decide (a0 = f0) && (decide (a1 = f1) && (decide (a2 = f2) && decide (a3 = f3)))) = true := by
        simp only [List.cons.injEq] at hA'
        simp [hA'.1, hA'.2.1, hA'.2.2.1, hA'.2.2.2.1]
      (repeat (first | refine VC.seq ?_ | refine VC.block ?_ | refine VC.kill ?_ | refine VC.skip ?_ | refine VC.exit ?_ | refine VC.regA ?_ | refine VC.condT ?_ | refine VC.condF ?_))
      (simp (config := {decide := false, maxSteps := 1000000}) (disch := omega) only [vev_call, putC_c0, putC_n0, putC_cs, ble0, List.getElem?_cons_zero, List.getElem?_cons_succ, runU, isCall, wantV, vev, evV, ofVal, ofAtom, atomB, cond_true, cond_false, PT.get, PT.set, PT.filt, PT.map, Option.getD_some, Option.getD_none, ret1V, ret1X, v_ld, v_ias, v_iad, v_fad, v_slsl, v_slarr, v_st, v_app, v_cpy, v_len, v_look, v_mset, elsV, partV, newV, free, atV, atI, atL, toVal, cellsV, okV, VSt.put, VSt.kill, VSt.alloc, VSt.frz, VSt.adopt, noref, norefB, deadB, deadV, nos, nm, nmL, nmB, nmE, Pa.eqb, Bool.not_false, Bool.not_true, Bool.and_true, Bool.true_and, Bool.false_and, Bool.and_false, bin, intOps, intBin, cvt, un, goInt, bndsV, bndV, Option.map_some, Option.map_none, List.map_cons, List.map_nil, Int.toNat_natCast, Nat.mul_one, Nat.zero_add, beq_true, beq_false, beq_self_eq_true, List.length_map, List.length_cons, List.length_nil, List.length_append, fillV, pEvV, repsV, List.append_nil, List.nil_append, if_pos, if_neg, reduceIte, List.getElem?_map, List.getElem?_drop, Nat.add_zero, List.getElem?_eq_getElem, Go.IntWalk.i64_in, wrap_u64, tmod_pos, eq_self, true_and, and_true, and_self, List.all_cons, List.all_nil, nmL_vi, flV_len, flP_len, flV_nm, flV_ok, flV_pv, flP_map, drop_flP, drop_flV, putC_flV, eqV2, eqV3, bneT, bneF, decide_true, decide_false, frzL_vi, frzL_flV, nmE_ag, nmE_at, frzE_ag, frzE_at, ofAg_len, ofAt_len, atL_vi, nmL_map_p, frzL_map_p, okL_p, toPVs_p, repsZ, nmL_reps, putC_vi, get_flV0, get_flV1, Int.toNat_zero, Int.toNat_one, Int.reduceToNat, eqV_slice, eqV_ptr, eqV_func, nilS, nilP, nilF, nmL_append, okL_vi, toPVs_vi, toPVs, toPV, frzV, frzL, frzB, resVV, vi, vb, nilV, sl1, bl1, pi, foldV, max2, min2, max_eq, min_eq, Int.tdiv_eq_ediv_of_nonneg, Int.cast_ofNat_Int, Option.isSome_none, Option.isSome_some, Option.isNone_none, Option.isNone_some, and_false, false_and, sl2, sl1P, slP, min_cast, take_map_pi, map_pi, Nat.sub_zero, Nat.zero_mul, List.length_take, decide_eq_true, decide_eq_false, Bool.true_eq_false, Bool.false_eq_true, beqT, beqF, ibeq, ibne, List.take_zero, List.take_succ_cons, List.drop_zero, List.drop_succ_cons, List.drop_nil, List.take_nil, List.cons_append, Bool.not_true, Bool.not_false, e5])
      (repeat (first | refine VC.seq ?_ | refine VC.block ?_ | refine VC.kill ?_ | refine VC.skip ?_ | refine VC.exit ?_ | refine VC.regA ?_ | refine VC.condT ?_ | refine VC.condF ?_))
      have hO2 : O = (pathTo L e0.d e0.g).reverse := by simpa [pathTo, root] using hpe
      have kv := Reverse_ok O (by omega)
      refine VC.regCA ?_
      refine VO.call [] [(p38, .cells (flV O))] .lf rfl rfl (no_orc 67 (by decide)) kv trivial ?_ (by trivial) rfl rfl rfl rfl rfl rfl rfl ?_
      · simp [mkB, PT.set, PT.Le, VSt.kill]
      (simp only [filtN, filtNB, mkB, PT.set, VSt.put, PT.filt, noref, norefB, nos, nm, nmL, nmB, nmL_vi, nmL_map_p, nmE_ag, flV_nm, List.nil_append, List.append_nil, Pa.eqb, cond_true, cond_false, Bool.and_true, Bool.not_false, Bool.not_true])
      refine VO.nil ?_
      (repeat (first | refine VC.seq ?_ | refine VC.block ?_ | refine VC.kill ?_ | refine VC.skip ?_ | refine VC.exit ?_ | refine VC.regA ?_ | refine VC.condT ?_ | refine VC.condF ?_))
      rw [hO2, List.reverse_reverse]
      refine VC.ret (Fin.frzA p38 (hb := rfl) (hc := flV_pv _) (Fin.A ?_))
      simp [slP, resX, vb, List.length_reverse]
    · obtain ⟨j, e', h1, h2, h3, h4, h5, h6⟩ := path_last hG hidx hi
      have hne : [a0, a1, a2, a3] ≠ [f0, f1, f2, f3] := by
        intro h
        have hgf : e.g = f := pad4_inj (by omega) (by rw [hA, hF, h])
        have h0l : (0 : Nat) < L.length := by omega
        obtain ⟨hk, hke⟩ := List.getElem?_eq_some_iff.1 hidx
        obtain ⟨_, hr⟩ := List.getElem?_eq_some_iff.1 hG.root
        have : idx = 0 := (List.getElem_inj (h₀ := by simpa using hk) (h₁ := by simpa using h0l) hG.nodup).1 (by simp [hke, hr, root, hgf])
        omega
      have e5 : (decide (a0 = f0) && (decide (a1 = f1) && (decide (a2 = f2) && decide (a3 = f3)))) = false := by
        rw [← Bool.not_eq_true]
        intro h
        simp at h
        exact hne (by rw [h.1, h.2.1, h.2.2.1, h.2.2.2])
      have hfs := findV_es hx4 hfe (L := L) fun e he => hG.gfill hf he
      rw [find_some hG.nodup hidx] at hfs
      have hke := keyK (g := e.g) (h := e.g) (by omega) (by omega)
      rw [decide_eq_true rfl] at hke
      simp only [kV, hA, List.map_cons, List.map_nil, Option.map_some] at hfs hke
      obtain ⟨c0, c1, c2, c3, hCp⟩ := four (pad4_len e.par (by have := hG.par_len (List.mem_of_getElem? hidx); omega))
      have hen : entP e = [pi c0, pi c1, pi c2, pi c3, pi e.st.1, pi e.st.2, pi e.d] := by simp only [entP, hCp]; rfl
      rw [hen] at hfs
      (repeat (first | refine VC.seq ?_ | refine VC.block ?_ | refine VC.kill ?_ | refine VC.skip ?_ | refine VC.exit ?_ | refine VC.regA ?_ | refine VC.condT ?_ | refine VC.condF ?_))
      (simp (config := {decide := false, maxSteps := 1000000}) (disch := omega) only [vev_call, putC_c0, putC_n0, putC_cs, ble0, List.getElem?_cons_zero, List.getElem?_cons_succ, runU, isCall, wantV, vev, evV, ofVal, ofAtom, atomB, cond_true, cond_false, PT.get, PT.set, PT.filt, PT.map, Option.getD_some, Option.getD_none, ret1V, ret1X, v_ld, v_ias, v_iad, v_fad, v_slsl, v_slarr, v_st, v_app, v_cpy, v_len, v_look, v_mset, elsV, partV, newV, free, atV, atI, atL, toVal, cellsV, okV, VSt.put, VSt.kill, VSt.alloc, VSt.frz, VSt.adopt, noref, norefB, deadB, deadV, nos, nm, nmL, nmB, nmE, Pa.eqb, Bool.not_false, Bool.not_true, Bool.and_true, Bool.true_and, Bool.false_and, Bool.and_false, bin, intOps, intBin, cvt, un, goInt, bndsV, bndV, Option.map_some, Option.map_none, List.map_cons, List.map_nil, Int.toNat_natCast, Nat.mul_one, Nat.zero_add, beq_true, beq_false, beq_self_eq_true, List.length_map, List.length_cons, List.length_nil, List.length_append, fillV, pEvV, repsV, List.append_nil, List.nil_append, if_pos, if_neg, reduceIte, List.getElem?_map, List.getElem?_drop, Nat.add_zero, List.getElem?_eq_getElem, Go.IntWalk.i64_in, wrap_u64, tmod_pos, eq_self, true_and, and_true, and_self, List.all_cons, List.all_nil, nmL_vi, flV_len, flP_len, flV_nm, flV_ok, flV_pv, flP_map, drop_flP, drop_flV, putC_flV, eqV2, eqV3, bneT, bneF, decide_true, decide_false, frzL_vi, frzL_flV, nmE_ag, nmE_at, frzE_ag, frzE_at, ofAg_len, ofAt_len, atL_vi, nmL_map_p, frzL_map_p, okL_p, toPVs_p, repsZ, nmL_reps, putC_vi, get_flV0, get_flV1, Int.toNat_zero, Int.toNat_one, Int.reduceToNat, eqV_slice, eqV_ptr, eqV_func, nilS, nilP, nilF, nmL_append, okL_vi, toPVs_vi, toPVs, toPV, frzV, frzL, frzB, resVV, vi, vb, nilV, sl1, bl1, pi, foldV, max2, min2, max_eq, min_eq, Int.tdiv_eq_ediv_of_nonneg, Int.cast_ofNat_Int, Option.isSome_none, Option.isSome_some, Option.isNone_none, Option.isNone_some, and_false, false_and, sl2, sl1P, slP, min_cast, take_map_pi, map_pi, Nat.sub_zero, Nat.zero_mul, List.length_take, decide_eq_true, decide_eq_false, Bool.true_eq_false, Bool.false_eq_true, beqT, beqF, ibeq, ibne, List.take_zero, List.take_succ_cons, List.drop_zero, List.drop_succ_cons, List.drop_nil, List.take_nil, List.cons_append, Bool.not_true, Bool.not_false, e5])
      (repeat (first | refine VC.seq ?_ | refine VC.block ?_ | refine VC.kill ?_ | refine VC.skip ?_ | refine VC.exit ?_ | refine VC.regA ?_ | refine VC.condT ?_ | refine VC.condF ?_))
      apply VC.regU
      · (simp (config := {decide := false, maxSteps := 1000000}) (disch := omega) only [vev_call, putC_c0, putC_n0, putC_cs, ble0, List.getElem?_cons_zero, List.getElem?_cons_succ, runU, isCall, wantV, vev, evV, ofVal, ofAtom, atomB, cond_true, cond_false, PT.get, PT.set, PT.filt, PT.map, Option.getD_some, Option.getD_none, ret1V, ret1X, v_ld, v_ias, v_iad, v_fad, v_slsl, v_slarr, v_st, v_app, v_cpy, v_len, v_look, v_mset, elsV, partV, newV, free, atV, atI, atL, toVal, cellsV, okV, VSt.put, VSt.kill, VSt.alloc, VSt.frz, VSt.adopt, noref, norefB, deadB, deadV, nos, nm, nmL, nmB, nmE, Pa.eqb, Bool.not_false, Bool.not_true, Bool.and_true, Bool.true_and, Bool.false_and, Bool.and_false, bin, intOps, intBin, cvt, un, goInt, bndsV, bndV, Option.map_some, Option.map_none, List.map_cons, List.map_nil, Int.toNat_natCast, Nat.mul_one, Nat.zero_add, beq_true, beq_false, beq_self_eq_true, List.length_map, List.length_cons, List.length_nil, List.length_append, fillV, pEvV, repsV, List.append_nil, List.nil_append, if_pos, if_neg, reduceIte, List.getElem?_map, List.getElem?_drop, Nat.add_zero, List.getElem?_eq_getElem, Go.IntWalk.i64_in, wrap_u64, tmod_pos, eq_self, true_and, and_true, and_self, List.all_cons, List.all_nil, nmL_vi, flV_len, flP_len, flV_nm, flV_ok, flV_pv, flP_map, drop_flP, drop_flV, putC_flV, eqV2, eqV3, bneT, bneF, decide_true, decide_false, frzL_vi, frzL_flV, nmE_ag, nmE_at, frzE_ag, frzE_at, ofAg_len, ofAt_len, atL_vi, nmL_map_p, frzL_map_p, okL_p, toPVs_p, repsZ, nmL_reps, putC_vi, get_flV0, get_flV1, Int.toNat_zero, Int.toNat_one, Int.reduceToNat, eqV_slice, eqV_ptr, eqV_func, nilS, nilP, nilF, nmL_append, okL_vi, toPVs_vi, toPVs, toPV, frzV, frzL, frzB, resVV, vi, vb, nilV, sl1, bl1, pi, foldV, max2, min2, max_eq, min_eq, Int.tdiv_eq_ediv_of_nonneg, Int.cast_ofNat_Int, Option.isSome_none, Option.isSome_some, Option.isNone_none, Option.isNone_some, and_false, false_and, sl2, sl1P, slP, min_cast, take_map_pi, map_pi, Nat.sub_zero, Nat.zero_mul, List.length_take, decide_eq_true, decide_eq_false, Bool.true_eq_false, Bool.false_eq_true, beqT, beqF, ibeq, ibne, List.take_zero, List.take_succ_cons, List.drop_zero, List.drop_succ_cons, List.drop_nil, List.take_nil, List.cons_append, Bool.not_true, Bool.not_false, hk4, hke, hfs])
        rfl
      (repeat (first | refine VC.seq ?_ | refine VC.block ?_ | refine VC.kill ?_ | refine VC.skip ?_ | refine VC.exit ?_ | refine VC.regA ?_ | refine VC.condT ?_ | refine VC.condF ?_))
      have hfl := flV_snoc O e.st.1 e.st.2
      have hle2 : (O ++ [(e.st.1, e.st.2)]).length = O.length + 1 := by simp
      refine ⟨_, (e', O ++ [(e.st.1, e.st.2)]), ?_, ⟨rfl, ⟨j, h2⟩, ?_⟩, ?_⟩
      · simp only; omega
      · rw [h6, List.reverse_append] at hpe
        rw [← hpe]; simp
      · rw [← h3] at hCp
        (apply Go.Ab.V.G.weak; constructor <;> simp (config := {decide := true}) only [PT.Le, inV, mkB, PT.set, VSt.kill, VSt.adopt, VSt.alloc, PT.filt, PT.map, List.map_cons, List.map_nil, noref, norefB, deadB, deadV, nos, nm, nmL, nmB, nmE, Pa.eqb, cond_true, cond_false, Bool.not_true, Bool.not_false, Bool.and_true, Bool.true_and, nmL_vi, flV_len, flP_len, flV_nm, flV_ok, flV_pv, flP_map, drop_flP, drop_flV, putC_flV, eqV2, eqV3, bneT, bneF, decide_true, decide_false, frzL_vi, frzL_flV, nmE_ag, nmE_at, frzE_ag, frzE_at, ofAg_len, ofAt_len, atL_vi, nmL_map_p, frzL_map_p, okL_p, toPVs_p, repsZ, nmL_reps, putC_vi, get_flV0, get_flV1, Int.toNat_zero, Int.toNat_one, Int.reduceToNat, eqV_slice, eqV_ptr, eqV_func, nilS, nilP, nilF, nmL_append, true_or, or_true, and_self, true_and, and_true, Option.some.injEq, reduceCtorEq, false_or, or_false, VV.p.injEq, PV.at.injEq, Value.int.injEq, sl1, vi, bl1, vb, nilV, hfl, hle2, hCp, List.map_cons, List.map_nil])
        (all_goals first | rfl | omega | exact ⟨rfl, by omega⟩)
end Go.Ab.Jug

namespace Go.Ab.Jug
open Go.Ab.V
set_option maxRecDepth 100000
end Go.Ab.Jug

namespace Go.Ab.Jug
open Go.Ab.V
set_option maxRecDepth 100000
/-- A search ends, and finds or does not. -/
theorem search_ends {x f : List Int} {c : Bool} (hx : okJ x) (hf : fillB x f = true) (P : List Int → Bool) : ∃ M fb out, Srch x f c P M fb out := by
  obtain ⟨N, hN, hj⟩ := bf_end (c := c) hx hf
  have : ∀ n, n ≤ N → (∃ M, M < n ∧ (∀ j, j < M → ∃ e, (bf x f c j)[j]? = some e ∧ P e.g = false) ∧ ∃ e, (bf x f c M)[M]? = some e ∧ P e.g = true) ∨ ∀ j, j < n → ∃ e, (bf x f c j)[j]? = some e ∧ P e.g = false := by
    intro n
    induction n with
    | zero => exact fun _ => .inr fun j hj => absurd hj (Nat.not_lt_zero j)
    | succ n ih =>
      intro hn
      rcases ih (by omega) with ⟨M, h1, h2⟩ | h
      · exact .inl ⟨M, by omega, h2⟩
      · have hl := hj n (by omega)
        cases hP : P (bf x f c n)[n].g with
        | true => exact .inl ⟨n, by omega, h, _, List.getElem?_eq_getElem hl, hP⟩
        | false =>
          refine .inr fun j hj' => ?_
          rcases Nat.lt_or_ge j n with h1 | h1
          · exact h j h1
          · have : j = n := by omega
            subst this
            exact ⟨_, List.getElem?_eq_getElem hl, hP⟩
  rcases this N (Nat.le_refl N) with ⟨M, _, h1, e, h2, h3⟩ | h
  · exact ⟨M, true, e.g, h1, fun _ => ⟨e, h2, h3, rfl⟩, fun h => by cases h⟩
  · exact ⟨N, false, _, h, (fun h => by cases h), fun _ => ⟨hN, rfl⟩⟩
end Go.Ab.Jug

namespace Go.Ab.Jug
open Go.Ab.V
set_option maxRecDepth 100000
def idx (l : List Int) (v : Int) : Int := if v ∈ l then (l.findIdx fun y => decide (y = v) : Nat) else -1
theorem idx_hit {l : List Int} {v : Int} {i : Nat} (h : i < l.length) (hv : l[i] = v) (hn : ∀ k (hk : k < i), l[k]'(by omega) ≠ v) : idx l v = i := by
  unfold idx
  rw [if_pos (by rw [← hv]; exact List.getElem_mem h)]
  congr 1
  rw [List.findIdx_eq h]
  exact ⟨by simp [hv], fun j hj => by simp [hn j hj]⟩
theorem idx_pos (l : List Int) (v : Int) : decide (idx l v ≥ 0) = decide (v ∈ l) := by
  unfold idx
  by_cases h : v ∈ l
  · rw [if_pos h]; simp [h]
  · rw [if_neg h]; simp [h]
set_option maxHeartbeats 4000000 in
theorem Index_ok (l : List Int) (v : Int) (hl : l.length ≤ 1000000) : VCall cfg 73 [sl1 l, vi v] [] [] (vi (idx l v)) [] := by
  (refine VCall.mk (fn := a73) rfl rfl rfl ?_; simp only [a73, inV, mkB, nmsL, PT.set])
  (repeat (first | refine VC.seq ?_ | refine VC.block ?_ | refine VC.kill ?_ | refine VC.skip ?_ | refine VC.exit ?_ | refine VC.regA ?_ | refine VC.condT ?_ | refine VC.condF ?_))
  refine VC.loopG (fun (i : Nat) => ⟨inV [p0, p1, p7, p8] [sl1 l, vi v, vi l.length, vi i] .lf, .lf, [], none⟩) (fun n i => n = l.length - i ∧ i ≤ l.length ∧ ∀ k (hk : k < i) (hk' : k < l.length), l[k] ≠ v) (x := 0) ?_ ⟨rfl, by omega, fun k hk => absurd hk (Nat.not_lt_zero k)⟩ ?_
  · (apply Go.Ab.V.G.weak; constructor <;> simp (config := {decide := true}) only [PT.Le, inV, mkB, PT.set, VSt.kill, VSt.adopt, VSt.alloc, PT.filt, PT.map, List.map_cons, List.map_nil, noref, norefB, deadB, deadV, nos, nm, nmL, nmB, nmE, Pa.eqb, cond_true, cond_false, Bool.not_true, Bool.not_false, Bool.and_true, Bool.true_and, nmL_vi, flV_len, flP_len, flV_nm, flV_ok, flV_pv, flP_map, drop_flP, drop_flV, putC_flV, eqV2, eqV3, bneT, bneF, decide_true, decide_false, frzL_vi, frzL_flV, nmE_ag, nmE_at, frzE_ag, frzE_at, ofAg_len, ofAt_len, atL_vi, nmL_map_p, frzL_map_p, okL_p, toPVs_p, repsZ, nmL_reps, putC_vi, get_flV0, get_flV1, Int.toNat_zero, Int.toNat_one, Int.reduceToNat, eqV_slice, eqV_ptr, eqV_func, nilS, nilP, nilF, nmL_append, true_or, or_true, and_self, true_and, and_true, Option.some.injEq, reduceCtorEq, false_or, or_false, VV.p.injEq, PV.at.injEq, Value.int.injEq, sl1, vi, bl1, vb, nilV, sl1])
    (all_goals first | rfl | omega | exact ⟨rfl, by omega⟩)
  rintro n i ⟨hn, hi, ho⟩
  simp only [inV, PT.set]
  (repeat (first | refine VC.seq ?_ | refine VC.block ?_ | refine VC.kill ?_ | refine VC.skip ?_ | refine VC.exit ?_ | refine VC.regA ?_ | refine VC.condT ?_ | refine VC.condF ?_))
  refine VC.condA ?_ ?_ <;> intro h <;> (simp only [decide_eq_true_eq, decide_eq_false_iff_not, bne_iff_ne, ne_eq, bne_eq_false_iff_eq, beq_iff_eq, beq_eq_false_iff_ne, Bool.not_eq_true', Bool.not_eq_false', Bool.and_eq_true, Bool.or_eq_true, Int.natCast_inj] at h)
  · have h : i < l.length := by omega
    (repeat (first | refine VC.seq ?_ | refine VC.block ?_ | refine VC.kill ?_ | refine VC.skip ?_ | refine VC.exit ?_ | refine VC.regA ?_ | refine VC.condT ?_ | refine VC.condF ?_))
    refine VC.condA ?_ ?_ <;> intro h' <;> (simp only [decide_eq_true_eq, decide_eq_false_iff_not, bne_iff_ne, ne_eq, bne_eq_false_iff_eq, beq_iff_eq, beq_eq_false_iff_ne, Bool.not_eq_true', Bool.not_eq_false', Bool.and_eq_true, Bool.or_eq_true, Int.natCast_inj] at h')
    · (repeat (first | refine VC.seq ?_ | refine VC.block ?_ | refine VC.kill ?_ | refine VC.skip ?_ | refine VC.exit ?_ | refine VC.regA ?_ | refine VC.condT ?_ | refine VC.condF ?_))
      rw [idx_hit h h'.symm (fun k hk => ho k hk (by omega))]
      exact VC.ret (Fin.A rfl)
    · (repeat (first | refine VC.seq ?_ | refine VC.block ?_ | refine VC.kill ?_ | refine VC.skip ?_ | refine VC.exit ?_ | refine VC.regA ?_ | refine VC.condT ?_ | refine VC.condF ?_))
      refine ⟨_, i + 1, ?_, ⟨rfl, by omega, fun k hk hk' => ?_⟩, ?_⟩
      · omega
      · rcases Nat.lt_or_ge k i with h1 | h1
        · exact ho k h1 hk'
        · have : k = i := by omega
          subst this; exact fun h => h' h.symm
      · (apply Go.Ab.V.G.weak; constructor <;> simp (config := {decide := true}) only [PT.Le, inV, mkB, PT.set, VSt.kill, VSt.adopt, VSt.alloc, PT.filt, PT.map, List.map_cons, List.map_nil, noref, norefB, deadB, deadV, nos, nm, nmL, nmB, nmE, Pa.eqb, cond_true, cond_false, Bool.not_true, Bool.not_false, Bool.and_true, Bool.true_and, nmL_vi, flV_len, flP_len, flV_nm, flV_ok, flV_pv, flP_map, drop_flP, drop_flV, putC_flV, eqV2, eqV3, bneT, bneF, decide_true, decide_false, frzL_vi, frzL_flV, nmE_ag, nmE_at, frzE_ag, frzE_at, ofAg_len, ofAt_len, atL_vi, nmL_map_p, frzL_map_p, okL_p, toPVs_p, repsZ, nmL_reps, putC_vi, get_flV0, get_flV1, Int.toNat_zero, Int.toNat_one, Int.reduceToNat, eqV_slice, eqV_ptr, eqV_func, nilS, nilP, nilF, nmL_append, true_or, or_true, and_self, true_and, and_true, Option.some.injEq, reduceCtorEq, false_or, or_false, VV.p.injEq, PV.at.injEq, Value.int.injEq, sl1, vi, bl1, vb, nilV, sl1])
        (all_goals first | rfl | omega | exact ⟨rfl, by omega⟩)
  · have h : i = l.length := by omega
    have : idx l v = -1 := by
      unfold idx
      rw [if_neg]
      intro hm
      obtain ⟨k, hk, e⟩ := List.mem_iff_getElem.1 hm
      exact ho k (by omega) hk e
    rw [this]
    (repeat (first | refine VC.seq ?_ | refine VC.block ?_ | refine VC.kill ?_ | refine VC.skip ?_ | refine VC.exit ?_ | refine VC.regA ?_ | refine VC.condT ?_ | refine VC.condF ?_))
    exact VC.ret (Fin.A rfl)
set_option maxHeartbeats 4000000 in
theorem Contains_ok (l : List Int) (v : Int) (hl : l.length ≤ 1000000) : VCall cfg 70 [sl1 l, vi v] [] [] (vb (decide (v ∈ l))) [] := by
  have k := Index_ok l v hl
  rw [← idx_pos]
  (refine VCall.mk (fn := a70) rfl rfl rfl ?_; simp only [a70, inV, mkB, nmsL, PT.set])
  (repeat (first | refine VC.seq ?_ | refine VC.block ?_ | refine VC.kill ?_ | refine VC.skip ?_ | refine VC.exit ?_ | refine VC.regA ?_ | refine VC.condT ?_ | refine VC.condF ?_))
  (refine VC.regCA ?_; refine VO.moreA ?_; refine VO.call0A (no_orc _ (by decide)) k ?_; refine VO.endA ?_; (repeat (first | refine VC.seq ?_ | refine VC.block ?_ | refine VC.kill ?_ | refine VC.skip ?_ | refine VC.exit ?_ | refine VC.regA ?_ | refine VC.condT ?_ | refine VC.condF ?_)))
  exact VC.ret (Fin.A rfl)
set_option maxHeartbeats 4000000 in
theorem m1_ok (x g : List Int) (v : Int) (c : Bool) (hx : okJ x) (hg : fillB x g = true) : VCall cfg 69 [.agg ((pad4 g).map vi), .p (.fp 0 [.fp 0 (jugC x c)]), .p (.fp 0 [pi v])] [] [] (vb (decide (v ∈ g))) [] := by
  have hlg : g.length = x.length := ((fillB_iff x g).1 hg).1
  have hx4 : x.length ≤ 4 := hx.2.1
  have hP1 := pad4_len g (by omega)
  have hble : Nat.ble x.length 4 = true := by rw [Nat.ble_eq]; exact hx.2.1
  have htk : List.take x.length ((pad4 g).map pi) = g.map pi := by rw [← List.map_take, pad4, List.take_append_of_le_length (by omega), ← hlg, List.take_length]
  have k3 := Contains_ok g v (by omega)
  (refine VCall.mk (fn := a69) rfl rfl rfl ?_; simp only [a69, inV, mkB, nmsL, PT.set])
  (repeat (first | refine VC.seq ?_ | refine VC.block ?_ | refine VC.kill ?_ | refine VC.skip ?_ | refine VC.exit ?_ | refine VC.regA ?_ | refine VC.condT ?_ | refine VC.condF ?_))
  apply VC.regC
  · (simp (config := {decide := false, maxSteps := 1000000}) (disch := omega) only [vev_call, putC_c0, putC_n0, putC_cs, ble0, List.getElem?_cons_zero, List.getElem?_cons_succ, runU, isCall, wantV, vev, evV, ofVal, ofAtom, atomB, cond_true, cond_false, PT.get, PT.set, PT.filt, PT.map, Option.getD_some, Option.getD_none, ret1V, ret1X, v_ld, v_ias, v_iad, v_fad, v_slsl, v_slarr, v_st, v_app, v_cpy, v_len, v_look, v_mset, elsV, partV, newV, free, atV, atI, atL, toVal, cellsV, okV, VSt.put, VSt.kill, VSt.alloc, VSt.frz, VSt.adopt, noref, norefB, deadB, deadV, nos, nm, nmL, nmB, nmE, Pa.eqb, Bool.not_false, Bool.not_true, Bool.and_true, Bool.true_and, Bool.false_and, Bool.and_false, bin, intOps, intBin, cvt, un, goInt, bndsV, bndV, Option.map_some, Option.map_none, List.map_cons, List.map_nil, Int.toNat_natCast, Nat.mul_one, Nat.zero_add, beq_true, beq_false, beq_self_eq_true, List.length_map, List.length_cons, List.length_nil, List.length_append, fillV, pEvV, repsV, List.append_nil, List.nil_append, if_pos, if_neg, reduceIte, List.getElem?_map, List.getElem?_drop, Nat.add_zero, List.getElem?_eq_getElem, Go.IntWalk.i64_in, wrap_u64, tmod_pos, eq_self, true_and, and_true, and_self, List.all_cons, List.all_nil, nmL_vi, flV_len, flP_len, flV_nm, flV_ok, flV_pv, flP_map, drop_flP, drop_flV, putC_flV, eqV2, eqV3, bneT, bneF, decide_true, decide_false, frzL_vi, frzL_flV, nmE_ag, nmE_at, frzE_ag, frzE_at, ofAg_len, ofAt_len, atL_vi, nmL_map_p, frzL_map_p, okL_p, toPVs_p, repsZ, nmL_reps, putC_vi, get_flV0, get_flV1, Int.toNat_zero, Int.toNat_one, Int.reduceToNat, eqV_slice, eqV_ptr, eqV_func, nilS, nilP, nilF, nmL_append, okL_vi, toPVs_vi, toPVs, toPV, frzV, frzL, frzB, resVV, vi, vb, nilV, sl1, bl1, pi, foldV, max2, min2, max_eq, min_eq, Int.tdiv_eq_ediv_of_nonneg, Int.cast_ofNat_Int, Option.isSome_none, Option.isSome_some, Option.isNone_none, Option.isNone_some, and_false, false_and, sl2, sl1P, slP, min_cast, take_map_pi, map_pi, Nat.sub_zero, Nat.zero_mul, List.length_take, decide_eq_true, decide_eq_false, Bool.true_eq_false, Bool.false_eq_true, beqT, beqF, ibeq, ibne, List.take_zero, List.take_succ_cons, List.drop_zero, List.drop_succ_cons, List.drop_nil, List.take_nil, List.cons_append, Bool.not_true, Bool.not_false, jugC])
    rfl
  refine VO.frzA p3 (hb := rfl) (hc := toPVs_vi (pad4 g)) ?_
  refine VO.call0A (no_orc 70 (by decide)) k3 ?_ (hl := ?_)
  rotate_left
  · (simp (config := {decide := false, maxSteps := 1000000}) (disch := omega) only [vev_call, putC_c0, putC_n0, putC_cs, ble0, List.getElem?_cons_zero, List.getElem?_cons_succ, runU, isCall, wantV, vev, evV, ofVal, ofAtom, atomB, cond_true, cond_false, PT.get, PT.set, PT.filt, PT.map, Option.getD_some, Option.getD_none, ret1V, ret1X, v_ld, v_ias, v_iad, v_fad, v_slsl, v_slarr, v_st, v_app, v_cpy, v_len, v_look, v_mset, elsV, partV, newV, free, atV, atI, atL, toVal, cellsV, okV, VSt.put, VSt.kill, VSt.alloc, VSt.frz, VSt.adopt, noref, norefB, deadB, deadV, nos, nm, nmL, nmB, nmE, Pa.eqb, Bool.not_false, Bool.not_true, Bool.and_true, Bool.true_and, Bool.false_and, Bool.and_false, bin, intOps, intBin, cvt, un, goInt, bndsV, bndV, Option.map_some, Option.map_none, List.map_cons, List.map_nil, Int.toNat_natCast, Nat.mul_one, Nat.zero_add, beq_true, beq_false, beq_self_eq_true, List.length_map, List.length_cons, List.length_nil, List.length_append, fillV, pEvV, repsV, List.append_nil, List.nil_append, if_pos, if_neg, reduceIte, List.getElem?_map, List.getElem?_drop, Nat.add_zero, List.getElem?_eq_getElem, Go.IntWalk.i64_in, wrap_u64, tmod_pos, eq_self, true_and, and_true, and_self, List.all_cons, List.all_nil, nmL_vi, flV_len, flP_len, flV_nm, flV_ok, flV_pv, flP_map, drop_flP, drop_flV, putC_flV, eqV2, eqV3, bneT, bneF, decide_true, decide_false, frzL_vi, frzL_flV, nmE_ag, nmE_at, frzE_ag, frzE_at, ofAg_len, ofAt_len, atL_vi, nmL_map_p, frzL_map_p, okL_p, toPVs_p, repsZ, nmL_reps, putC_vi, get_flV0, get_flV1, Int.toNat_zero, Int.toNat_one, Int.reduceToNat, eqV_slice, eqV_ptr, eqV_func, nilS, nilP, nilF, nmL_append, okL_vi, toPVs_vi, toPVs, toPV, frzV, frzL, frzB, resVV, vi, vb, nilV, sl1, bl1, pi, foldV, max2, min2, max_eq, min_eq, Int.tdiv_eq_ediv_of_nonneg, Int.cast_ofNat_Int, Option.isSome_none, Option.isSome_some, Option.isNone_none, Option.isNone_some, and_false, false_and, sl2, sl1P, slP, min_cast, take_map_pi, map_pi, Nat.sub_zero, Nat.zero_mul, List.length_take, decide_eq_true, decide_eq_false, Bool.true_eq_false, Bool.false_eq_true, beqT, beqF, ibeq, ibne, List.take_zero, List.take_succ_cons, List.drop_zero, List.drop_succ_cons, List.drop_nil, List.take_nil, List.cons_append, Bool.not_true, Bool.not_false, hP1, hble, htk, hlg])
  refine VO.endA ?_
  (repeat (first | refine VC.seq ?_ | refine VC.block ?_ | refine VC.kill ?_ | refine VC.skip ?_ | refine VC.exit ?_ | refine VC.regA ?_ | refine VC.condT ?_ | refine VC.condF ?_))
  exact VC.ret (Fin.A rfl)
end Go.Ab.Jug

namespace Go.Ab.Jug
set_option maxRecDepth 1000000
theorem awake_runs : (match run true cfg0 400 (.call 20 [] ⟨fun _ => none, .lf, 0, 0⟩) with
  | some (_, .nd (.bool true) _ _, _) => true
  | _ => false) = true := by decide +kernel
theorem awake_closed : ClosedAns cfg0 20 (.bool true) := by
  have h := awake_runs
  split at h
  · rename_i e l r h' he; exact ⟨400, e, l, r, h', he⟩
  · cases h
end Go.Ab.Jug

namespace Go.Ab.Jug
open Go.Ab.V
set_option maxRecDepth 100000
end Go.Ab.Jug

/- Regions in which a read may come before or behind a call. -/
namespace Go.Ab.V
section
variable {C : Cfg}
end
end Go.Ab.V

namespace Go.Ab.Jug
open Go.Ab.V
set_option maxRecDepth 100000
theorem eqVb (a b : Bool) : eqV .bool (.p (.at (.bool a))) (.p (.at (.bool b))) = some (a == b) := rfl
end Go.Ab.Jug

namespace Go.Ab.Jug
open Go.Ab.V
set_option maxRecDepth 100000
theorem vr_nil {rd : Addr → List Value → Prop} {ids : Pa → Option Nat} {v : Value} (u : Nat) (h : Vr rd ids v nilV) : Vr rd ids v (.p (.sl u 0 [])) := by
  cases h with
  | p r => cases r with
    | «at» _ => exact .p .nil
theorem open_nil (x : List Int) (c : Bool) (hx : okJ x) : VCall cfg 46 [sl1 x, vb c, nilV] [] [] (.tup [jugP x c, vi 0]) [] := by
  have k := open_ok x hx c [] (by simp) (by simp)
  exact fun h ids F vals t r => match vals, r with
    | [_, _, _], r => k h ids F _ t (.cons r.head (.cons r.tail.head (.cons (vr_nil 1 r.tail.tail.head) .nil)))
    | [], r => absurd r.1 (by simp)
    | [_], r => absurd r.1 (by simp)
    | [_, _], r => absurd r.1 (by simp)
    | _ :: _ :: _ :: _ :: _, r => absurd r.1 (by simp)
def zeroJ (x : List Int) : List Int := List.replicate x.length 0
theorem zeroJ_fill {x : List Int} (hx : okJ x) : fillB x (zeroJ x) = true := by
  rw [fillB_iff]
  refine ⟨by simp [zeroJ], fun i h h' => ?_⟩
  have := okJ_mem hx _ (List.getElem_mem h')
  simp only [zeroJ, List.getElem_replicate]; omega
set_option maxHeartbeats 4000000 in
theorem measured_ok (x : List Int) (v : Int) (hx : okJ x) (hv : 0 ≤ v ∧ v ≤ 12) (M : Nat) (fb : Bool) (out : List Int) (hS : Srch x (zeroJ x) false (fun g => decide (v ∈ g)) M fb out) :
    VCall cfg 59 [sl1 x, vi v] [] [] (.tup [slP (wayOf x (zeroJ x) false M fb), vb fb, vi 0]) [] := by
  have hx4 : x.length ≤ 4 := hx.2.1
  have ho := open_nil x false hx
  have k3 := way_ok x (zeroJ x) false hx (zeroJ_fill hx) 69 (by decide) [.fp 0 [.fp 0 (jugC x false)], .fp 0 [pi v]] (fun g => decide (v ∈ g)) (fun g hg => m1_ok x g v false hx hg) M fb out hS
  have hz : pad4 (zeroJ x) = [0, 0, 0, 0] := pad4_zero _ hx4
  unfold jugP at ho k3
  rw [hz] at k3
  simp only [List.map_cons, List.map_nil] at k3
  (refine VCall.mk (fn := a59) rfl rfl rfl ?_; simp only [a59, inV, mkB, nmsL, PT.set])
  (repeat (first | refine VC.seq ?_ | refine VC.block ?_ | refine VC.kill ?_ | refine VC.skip ?_ | refine VC.exit ?_ | refine VC.regA ?_ | refine VC.condT ?_ | refine VC.condF ?_))
  (refine VC.regCA ?_; refine VO.moreA ?_; refine VO.call0A (no_orc _ (by decide)) ho ?_; refine VO.endA ?_; (repeat (first | refine VC.seq ?_ | refine VC.block ?_ | refine VC.kill ?_ | refine VC.skip ?_ | refine VC.exit ?_ | refine VC.regA ?_ | refine VC.condT ?_ | refine VC.condF ?_)))
  refine VC.regCA ?_
  refine VO.moreA ?_
  refine VO.frzA p7 ?_
  refine VO.frzA p3 ?_
  refine VO.call0A (no_orc 51 (by decide)) k3 ?_
  refine VO.endA ?_
  (repeat (first | refine VC.seq ?_ | refine VC.block ?_ | refine VC.kill ?_ | refine VC.skip ?_ | refine VC.exit ?_ | refine VC.regA ?_ | refine VC.condT ?_ | refine VC.condF ?_))
  exact VC.ret (Fin.A rfl)
theorem Fewest_ok (x : List Int) (v : Int) (l : List (Int × Int)) (b : Bool) (e : Int) (k : VCall cfg 59 [sl1 x, vi v] [] [] (.tup [slP l, vb b, vi e]) []) : VCall cfg 31 [sl1 x, vi v] [] [] (.tup [vi l.length, vb b, vi e]) [] := by
  (refine VCall.mk (fn := a31) rfl rfl rfl ?_; simp only [a31, inV, mkB, nmsL, PT.set])
  (repeat (first | refine VC.seq ?_ | refine VC.block ?_ | refine VC.kill ?_ | refine VC.skip ?_ | refine VC.exit ?_ | refine VC.regA ?_ | refine VC.condT ?_ | refine VC.condF ?_))
  (refine VC.regCA ?_; refine VO.moreA ?_; refine VO.call0A (no_orc _ (by decide)) k ?_; refine VO.endA ?_; (repeat (first | refine VC.seq ?_ | refine VC.block ?_ | refine VC.kill ?_ | refine VC.skip ?_ | refine VC.exit ?_ | refine VC.regA ?_ | refine VC.condT ?_ | refine VC.condF ?_)))
  exact VC.ret (Fin.A rfl)
end Go.Ab.Jug

namespace Go.Ab.Jug
open Go.Ab.V
set_option maxRecDepth 100000
/-- Amounts with their numbers of steps, first ones first. -/
def fE (P : List (Int × Int)) (v : Int) : Int := match P.find? fun p => decide (p.1 = v) with
  | some p => p.2
  | none => -1
def prs (g : List Int) (d : Int) : List (Int × Int) := g.map fun v => (v, d)
def amtP (L : List En) : List (Int × Int) := L.flatMap fun e => prs e.g e.d
theorem fE_neg {P : List (Int × Int)} (hP : ∀ p ∈ P, 0 ≤ p.2) (v : Int) : fE P v < 0 ↔ (P.find? fun p => decide (p.1 = v)).isSome = false := by
  unfold fE
  cases h : P.find? fun p => decide (p.1 = v) with
  | some p => have := hP p (List.mem_of_find?_eq_some h); simp; omega
  | none => simp
theorem amtP_pos (L : List En) : ∀ p ∈ amtP L, 0 ≤ p.2 := by
  intro p hp
  simp only [amtP, prs, List.mem_flatMap, List.mem_map] at hp
  obtain ⟨e, _, v, _, rfl⟩ := hp
  simp
end Go.Ab.Jug

namespace Go.Ab.Jug
open Go.Ab.V
set_option maxRecDepth 100000
/-- The numbers of steps rise along the list. -/
def Rise (L : List En) : Prop := ∀ (j k : Nat) (ej ek : En), j ≤ k → L[j]? = some ej → L[k]? = some ek → ej.d ≤ ek.d
theorem rise_one {f : List Int} {d : Nat} {L : List En} (h1 : Rise L) (h2 : ∀ e ∈ L, e.d ≤ d + 1) (s : (Int × Int) × List Int) : Rise (addOne f d L s) ∧ ∀ e ∈ addOne f d L s, e.d ≤ d + 1 := by
  unfold addOne
  split
  · exact ⟨h1, h2⟩
  · refine ⟨fun j k ej ek hjk hj hk => ?_, fun e he => ?_⟩
    · by_cases hkl : k < L.length
      · rw [List.getElem?_append_left hkl] at hk
        rw [List.getElem?_append_left (by omega)] at hj
        exact h1 j k ej ek hjk hj hk
      · rw [List.getElem?_append_right (by omega)] at hk
        have hkk : k - L.length = 0 := by
          rcases Nat.eq_zero_or_pos (k - L.length) with h | h
          · exact h
          · rw [List.getElem?_eq_none (by simp; omega)] at hk; cases hk
        rw [hkk] at hk
        simp at hk
        subst hk
        have hm := List.mem_of_getElem? hj
        rcases List.mem_append.1 hm with hm | hm
        · exact h2 _ hm
        · rw [List.mem_singleton.1 hm]; exact Nat.le_refl _
    · rcases List.mem_append.1 he with he | he
      · exact h2 e he
      · rw [List.mem_singleton.1 he]; exact Nat.le_refl _
theorem rise_all {f : List Int} {d : Nat} : ∀ (ss : List ((Int × Int) × List Int)) {L : List En}, Rise L → (∀ e ∈ L, e.d ≤ d + 1) → Rise (addAll f d L ss) ∧ ∀ e ∈ addAll f d L ss, e.d ≤ d + 1
  | [], L, h1, h2 => ⟨h1, h2⟩
  | s :: ss, L, h1, h2 => by
    obtain ⟨h3, h4⟩ := rise_one h1 h2 s
    rw [addAll_cons]
    exact rise_all ss h3 h4
theorem bf_succ {x f0 : List Int} {c : Bool} {i : Nat} {e : En} (he : (bf x f0 c i)[i]? = some e) : bf x f0 c (i + 1) = addAll e.g e.d (bf x f0 c i) (succs x c e.g) := by
  show (match (bf x f0 c i)[i]? with
    | some e => addAll e.g e.d (bf x f0 c i) (succs x c e.g)
    | none => bf x f0 c i) = _
  rw [he]
theorem bf_rise {x f0 : List Int} {c : Bool} : ∀ i, Rise (bf x f0 c i) ∧ ∀ e, (bf x f0 c i)[i]? = some e → ∀ e' ∈ bf x f0 c i, e'.d ≤ e.d + 1
  | 0 => by
    refine ⟨fun j k ej ek _ hj hk => ?_, fun e _ e' he' => ?_⟩
    · have h1 := List.mem_of_getElem? hj
      have h2 := List.mem_of_getElem? hk
      simp only [bf, List.mem_singleton] at h1 h2
      rw [h1, h2]; exact Nat.le_refl _
    · simp only [bf, List.mem_singleton] at he'
      rw [he']; exact Nat.zero_le _
  | i + 1 => by
    obtain ⟨h1, h2⟩ := bf_rise (x := x) (f0 := f0) (c := c) i
    cases he : (bf x f0 c i)[i]? with
    | none =>
      have : bf x f0 c (i + 1) = bf x f0 c i := by
        show (match (bf x f0 c i)[i]? with
          | some e => addAll e.g e.d (bf x f0 c i) (succs x c e.g)
          | none => bf x f0 c i) = _
        rw [he]
      rw [this]
      refine ⟨h1, fun e h => ?_⟩
      have := (List.getElem?_eq_some_iff.1 h).1
      have := List.getElem?_eq_none_iff.1 he
      omega
    | some e =>
      have hs := bf_succ he
      obtain ⟨h3, h4⟩ := rise_all (f := e.g) (succs x c e.g) h1 (h2 e he)
      rw [← hs] at h3 h4
      refine ⟨h3, fun e2 he2 e' he' => ?_⟩
      have := h4 e' he'
      have := h3 i (i + 1) e e2 (by omega) (bf_get (by omega) he) he2
      omega
theorem addAll_has {f : List Int} {d : Nat} : ∀ (ss : List ((Int × Int) × List Int)) {L : List En} {s : (Int × Int) × List Int}, s ∈ ss → hasE (addAll f d L ss) s.2 = true
  | s :: ss, L, _, .head _ => by
    rw [addAll_cons]
    have h : hasE (addOne f d L s) s.2 = true := by
      unfold addOne
      split
      · assumption
      · exact hasE_iff.2 ⟨_, List.mem_append_right _ (List.mem_singleton.2 rfl), rfl⟩
    obtain ⟨e, he, hg⟩ := hasE_iff.1 h
    obtain ⟨t, ht⟩ := addAll_pre f d ss (addOne f d L s)
    exact hasE_iff.2 ⟨e, by rw [← ht]; exact List.mem_append_left _ he, hg⟩
  | s' :: ss, L, s, .tail _ h => by rw [addAll_cons]; exact addAll_has ss h
/-- What a step leads to is known behind a round. -/
theorem succ_in {x f0 : List Int} {c : Bool} {i : Nat} {e : En} (he : (bf x f0 c i)[i]? = some e) {s : (Int × Int) × List Int} (hs : s ∈ succs x c e.g) : ∃ (k : Nat) (e' : En), (bf x f0 c (i + 1))[k]? = some e' ∧ e'.g = s.2 ∧ e'.d ≤ e.d + 1 := by
  have h1 := addAll_has (f := e.g) (d := e.d) (succs x c e.g) (L := bf x f0 c i) hs
  rw [← bf_succ he] at h1
  obtain ⟨e', he', hg⟩ := hasE_iff.1 h1
  obtain ⟨k, hk, hke⟩ := List.mem_iff_getElem.1 he'
  obtain ⟨_, h4⟩ := rise_all (f := e.g) (d := e.d) (succs x c e.g) (bf_rise (x := x) (f0 := f0) (c := c) i).1 ((bf_rise i).2 e he)
  rw [← bf_succ he] at h4
  exact ⟨k, e', by rw [List.getElem?_eq_getElem hk, hke], hg, h4 e' he'⟩
end Go.Ab.Jug

namespace Go.Ab.Jug
open Go.Ab.V
set_option maxRecDepth 100000
/-! ### What is reached is closed under steps -/
theorem mem_rowR {x f : List Int} {c : Bool} {a b : Int} (h : okR x f c a b = true) : ∀ (m : Nat) (k : Nat), k < m → b = (x.length : Int) - ((k + 1 : Nat) : Int) → (a, b) ∈ rowR x f c a m
  | 0, k, hk, _ => absurd hk (Nat.not_lt_zero k)
  | m + 1, k, hk, hb => by
    simp only [rowR, List.mem_append]
    rcases Nat.lt_or_ge k m with h1 | h1
    · exact .inr (mem_rowR h m k h1 hb)
    · have : k = m := by omega
      subst this
      refine .inl ?_
      unfold itR
      rw [← hb, if_pos h]; simp
theorem mem_allR {x f : List Int} {c : Bool} {a b : Int} (h : okR x f c a b = true) (hb : -1 ≤ b ∧ b < x.length) : ∀ (m : Nat) (k : Nat), k < m → a = (x.length : Int) - ((k + 1 : Nat) : Int) → (a, b) ∈ allR x f c m
  | 0, k, hk, _ => absurd hk (Nat.not_lt_zero k)
  | m + 1, k, hk, ha => by
    simp only [allR, List.mem_append]
    rcases Nat.lt_or_ge k m with h1 | h1
    · exact .inr (mem_allR h hb m k h1 ha)
    · have : k = m := by omega
      subst this
      refine .inl ?_
      rw [← ha]
      refine mem_rowR h (x.length + 1) (x.length - 1 - b).toNat ?_ ?_ <;> omega
theorem mem_succs {x f : List Int} {c : Bool} {a b : Int} (h : isR x.length a b = true) (hne : stepR x f a b ≠ f) (hc : c = true → a ≠ -1 ∧ b ≠ -1) : ((a, b), stepR x f a b) ∈ succs x c f := by
  have hb := isR_bd h
  have hok : okR x f c a b = true := by
    unfold okR
    rw [h]
    cases c with
    | false => simp only [Bool.false_and, Bool.not_false, Bool.true_and, Bool.not_eq_true']; exact decide_eq_false fun h => hne h.symm
    | true =>
      obtain ⟨h1, h2⟩ := hc rfl
      simp only [h1, h2, decide_false, Bool.or_false, Bool.and_false, Bool.not_false, Bool.true_and, Bool.not_eq_true']; exact decide_eq_false fun h => hne h.symm
  exact List.mem_map.2 ⟨(a, b), mem_allR hok hb.2.1 (x.length + 1) (x.length - 1 - a).toNat (by omega) (by omega), rfl⟩
theorem bf_closed {x f : List Int} {c : Bool} (hf : fillB x f = true) {N : Nat} (hN : N = (bf x f c N).length) (hj : ∀ j, j < N → j < (bf x f c j).length) {g : List Int} {a b : Int} (hg : hasE (bf x f c N) g = true) (h : isR x.length a b = true) (hc : c = true → a ≠ -1 ∧ b ≠ -1) :
    hasE (bf x f c N) (stepR x g a b) = true := by
  by_cases hne : stepR x g a b = g
  · rw [hne]; exact hg
  obtain ⟨e, he, rfl⟩ := hasE_iff.1 hg
  obtain ⟨k, hk, hke⟩ := List.mem_iff_getElem.1 he
  have hkN : k < N := by omega
  have h1 := hj k hkN
  have h2 := bf_get (j := N) (by omega) (List.getElem?_eq_getElem h1)
  rw [List.getElem?_eq_getElem hk, hke] at h2
  obtain ⟨k', e', h3, h4, _⟩ := succ_in (List.getElem?_eq_getElem h1) (s := ((a, b), stepR x e.g a b)) (by rw [← Option.some.inj h2]; exact mem_succs h hne hc)
  have h5 := bf_get (j := N) (by omega) h3
  exact hasE_iff.2 ⟨e', List.mem_of_getElem? h5, h4⟩
/-! ### Sums modulo the greatest -/
/-- What may be added. -/
def Adds (M : Nat) (S : Nat → Prop) (k : Nat) : Prop := ∀ r, r < M → S r → S ((r + k) % M)
theorem Adds.zero {M : Nat} {S : Nat → Prop} : Adds M S 0 := fun r hr h => by rw [Nat.add_zero, Nat.mod_eq_of_lt hr]; exact h
theorem Adds.add {M : Nat} {S : Nat → Prop} (hM : 0 < M) {a b : Nat} (ha : Adds M S a) (hb : Adds M S b) : Adds M S (a + b) := fun r hr h => by
  have := hb _ (Nat.mod_lt _ hM) (ha r hr h)
  rw [Nat.mod_add_mod, Nat.add_assoc] at this
  exact this
theorem Adds.mul {M : Nat} {S : Nat → Prop} (hM : 0 < M) {a : Nat} (ha : Adds M S a) : ∀ n, Adds M S (n * a)
  | 0 => by rw [Nat.zero_mul]; exact .zero
  | n + 1 => by rw [Nat.succ_mul]; exact (Adds.mul hM ha n).add hM ha
theorem Adds.congr {M : Nat} {S : Nat → Prop} {a b : Nat} (h : a % M = b % M) (ha : Adds M S a) : Adds M S b := fun r hr hs => by
  rw [show (r + b) % M = (r + a) % M from by rw [Nat.add_mod, ← h, ← Nat.add_mod]]; exact ha r hr hs
theorem Adds.mod {M : Nat} {S : Nat → Prop} (hM : 0 < M) {a b : Nat} (ha : Adds M S a) (hb : Adds M S b) : Adds M S (b % a) := by
  refine Adds.congr ?_ (hb.add hM (Adds.mul hM ha ((M - 1) * (b / a))))
  have h1 := Nat.div_add_mod b a
  have h2 : b + (M - 1) * (b / a) * a = b % a + M * (a * (b / a)) := by
    have : (M - 1) * (b / a) * a + a * (b / a) = M * (a * (b / a)) := by
      rw [Nat.mul_assoc, Nat.mul_comm (b / a) a, ← Nat.succ_mul, show (M - 1).succ = M from by omega]
    omega
  rw [h2, Nat.add_mul_mod_self_left]
theorem Adds.gcd {M : Nat} {S : Nat → Prop} (hM : 0 < M) (a b : Nat) : Adds M S a → Adds M S b → Adds M S (Nat.gcd a b) := by
  induction a, b using Nat.gcd.induction with
  | H0 n => intro _ h; rw [Nat.gcd_zero_left]; exact h
  | H1 m n hm ih =>
    intro h1 h2
    rw [Nat.gcd_rec]
    exact ih (h1.mod hM h2) h1
theorem Adds.fold {M : Nat} {S : Nat → Prop} (hM : 0 < M) : ∀ (l : List Nat) (g : Nat), Adds M S g → (∀ x ∈ l, Adds M S x) → Adds M S (l.foldl Nat.gcd g)
  | [], _, h, _ => h
  | x :: l, g, h, hl => Adds.fold hM l _ (Adds.gcd hM g x h (hl x (.head _))) fun y hy => hl y (.tail _ hy)
/-! ### Jugs -/
/-- Only jug m holds something. -/
def oneJ (x : List Int) (m : Nat) (r : Int) : List Int := (zeroJ x).set m r
theorem atQ_zero (x : List Int) (i : Nat) : (zeroJ x).getD i 0 = 0 := by
  rw [List.getD_eq_getElem?_getD]
  cases h : (zeroJ x)[i]? with
  | none => rfl
  | some y =>
    have := List.mem_of_getElem? h
    exact (List.mem_replicate.1 this).2
theorem zero_set (x : List Int) (m : Nat) : (zeroJ x).set m 0 = zeroJ x := by
  refine List.ext_getElem (by simp) fun i h1 h2 => ?_
  rw [List.getElem_set]
  simp [zeroJ]
theorem isR_of {x : List Int} {a b : Int} (ha : -1 ≤ a ∧ a < x.length) (hb : -1 ≤ b ∧ b < x.length) (hn : a ≠ b) : isR x.length a b = true := by
  simp only [isR, inR, Bool.and_eq_true, decide_eq_true_eq]; exact ⟨⟨ha, hb⟩, hn⟩
section
variable {x : List Int} {H : List Int → Prop} (hx : okJ x) (hc : ∀ g a b, H g → isR x.length a b = true → H (stepR x g a b))
include hx hc
theorem pour_one {m i : Nat} (hm : m < x.length) (hi : i < x.length) (hne : i ≠ m) {r : Int} (hr : 0 ≤ r ∧ r < x[m]) (hxi : x[i] ≤ x[m]) (h : H (oneJ x m r)) : H (oneJ x m ((r + x[i]) % x[m])) := by
  have hq := okJ_mem hx _ (List.getElem_mem hi)
  have hq2 := okJ_mem hx _ (List.getElem_mem hm)
  have hzl : (zeroJ x).length = x.length := by simp [zeroJ]
  have gx : ∀ (k : Nat) (h : k < x.length), x.getD k 0 = x[k] := fun k h => by rw [List.getD_eq_getElem?_getD, List.getElem?_eq_getElem h]; rfl
  have h1 := hc _ (-1) i h (isR_of (by omega) (by omega) (by omega))
  have e1 : stepR x (oneJ x m r) (-1) i = (oneJ x m r).set i x[i] := by
    rw [stepR, if_pos rfl, Int.toNat_natCast, atQ, Int.toNat_natCast, gx i hi]
  rw [e1] at h1
  have h2 := hc _ i m h1 (isR_of (by omega) (by omega) (by omega))
  have a1 : atQ ((oneJ x m r).set i x[i]) i = x[i] := by
    rw [atQ, Int.toNat_natCast, List.getD_eq_getElem?_getD, List.getElem?_set_self (by simp [oneJ, hzl, hi])]; rfl
  have a2 : atQ ((oneJ x m r).set i x[i]) m = r := by
    rw [atQ, Int.toNat_natCast, List.getD_eq_getElem?_getD, List.getElem?_set_ne hne, oneJ, List.getElem?_set_self (by rw [hzl]; exact hm)]; rfl
  have a3 : atQ x m = x[m] := by rw [atQ, Int.toNat_natCast, gx m hm]
  have e2 : stepR x ((oneJ x m r).set i x[i]) i m = ((oneJ x m 0).set i (x[i] - min x[i] (x[m] - r))).set m (r + min x[i] (x[m] - r)) := by
    rw [stepR, if_neg (by omega), if_neg (by omega), a1, a2, a3, Int.toNat_natCast, Int.toNat_natCast, List.set_set]
    refine List.ext_getElem (by simp [oneJ]) fun k h1 h2 => ?_
    simp only [List.getElem_set, oneJ]
    by_cases hk : m = k
    · simp only [if_pos hk]
    · simp only [if_neg hk]
  rw [e2] at h2
  by_cases hlt : r + x[i] < x[m]
  · rw [show min x[i] (x[m] - r) = x[i] from by omega, Int.sub_self] at h2
    rw [Int.emod_eq_of_lt (by omega) hlt]
    have : ((oneJ x m 0).set i 0).set m (r + x[i]) = oneJ x m (r + x[i]) := by
      unfold oneJ
      rw [zero_set, zero_set]
    rw [this] at h2; exact h2
  · rw [show min x[i] (x[m] - r) = x[m] - r from by omega, show r + (x[m] - r) = x[m] from by omega] at h2
    have hmod : (r + x[i]) % x[m] = x[i] - (x[m] - r) := by
      rw [show r + x[i] = (x[i] - (x[m] - r)) + x[m] from by omega, Int.add_emod_right, Int.emod_eq_of_lt (by omega) (by omega)]
    rw [hmod]
    have h3 := hc _ m (-1) h2 (isR_of (by omega) (by omega) (by omega))
    have e3 : stepR x (((oneJ x m 0).set i (x[i] - (x[m] - r))).set m x[m]) m (-1) = (zeroJ x).set i (x[i] - (x[m] - r)) := by
      rw [stepR, if_neg (by omega), if_pos rfl, Int.toNat_natCast, List.set_set, oneJ, zero_set, List.set_comm _ _ hne, zero_set]
    rw [e3] at h3
    have h4 := hc _ i m h3 (isR_of (by omega) (by omega) (by omega))
    have b1 : atQ ((zeroJ x).set i (x[i] - (x[m] - r))) i = x[i] - (x[m] - r) := by
      rw [atQ, Int.toNat_natCast, List.getD_eq_getElem?_getD, List.getElem?_set_self (by rw [hzl]; exact hi)]; rfl
    have b2 : atQ ((zeroJ x).set i (x[i] - (x[m] - r))) m = 0 := by
      rw [atQ, Int.toNat_natCast, List.getD_eq_getElem?_getD, List.getElem?_set_ne hne, ← List.getD_eq_getElem?_getD, atQ_zero]
    have e4 : stepR x ((zeroJ x).set i (x[i] - (x[m] - r))) i m = oneJ x m (x[i] - (x[m] - r)) := by
      rw [stepR, if_neg (by omega), if_neg (by omega), b1, b2, a3, Int.toNat_natCast, Int.toNat_natCast, List.set_set, show min (x[i] - (x[m] - r)) (x[m] - 0) = x[i] - (x[m] - r) from by omega, Int.sub_self, zero_set, Int.zero_add]; rfl
    rw [e4] at h4; exact h4
/-- Every multiple up to the greatest jug is reached. -/
theorem reach_mul (h0 : H (zeroJ x)) (v : Nat) (hv : (v : Int) ≤ maxL x) (hd : gcdL x ∣ v) : ∃ g, H g ∧ g.length = x.length ∧ (v : Int) ∈ g := by
  have hne : x ≠ [] := fun h => by have := hx.1; rw [h] at this; simp at this
  have hmem : maxL x ∈ x := by
    have key : ∀ (l : List Int) (m : Int), l.foldl max m = m ∨ l.foldl max m ∈ l := by
      intro l
      induction l with
      | nil => exact fun m => .inl rfl
      | cons a l ih =>
        intro m
        rw [List.foldl_cons]
        rcases ih (max m a) with h | h
        · rw [h]
          rcases Int.le_total m a with h' | h'
          · exact .inr (by rw [Int.max_eq_right h']; simp)
          · exact .inl (Int.max_eq_left h')
        · exact .inr (List.mem_cons_of_mem _ h)
    unfold maxL
    rcases x with _ | ⟨a, l⟩
    · exact absurd rfl hne
    · rcases key (a :: l) a with h | h
      · rw [List.headD_cons, h]; simp
      · exact h
  obtain ⟨m, hm, hme⟩ := List.mem_iff_getElem.1 hmem
  have hzl : (zeroJ x).length = x.length := by simp [zeroJ]
  have hq := okJ_mem hx
  have hq2 := hq _ (List.getElem_mem hm)
  have hmax : ∀ (k : Nat) (h : k < x.length), x[k] ≤ x[m] := fun k h => by rw [hme]; exact (foldl_max_ge x _).2 _ (List.getElem_mem h)
  obtain ⟨M, hM⟩ := Int.eq_ofNat_of_zero_le (show 0 ≤ x[m] by omega)
  have hMp : 0 < M := by omega
  have had : ∀ y ∈ x.map Int.toNat, Adds M (fun r => H (oneJ x m r)) y := by
    intro y hy
    obtain ⟨z, hz, rfl⟩ := List.mem_map.1 hy
    obtain ⟨i, hi, rfl⟩ := List.mem_iff_getElem.1 hz
    have hqi := hq _ (List.getElem_mem hi)
    intro r hr h
    by_cases hne : i = m
    · subst hne
      rw [hM, Int.toNat_natCast, Nat.add_mod_right, Nat.mod_eq_of_lt hr]; exact h
    · have := pour_one hx hc hm hi hne (r := r) (by omega) (hmax i hi) h
      obtain ⟨z, hz⟩ := Int.eq_ofNat_of_zero_le (show 0 ≤ x[i] by omega)
      rw [hz, Int.toNat_natCast]
      rw [hz, hM] at this
      have e : ((r : Int) + (z : Int)) % (M : Int) = ((r + z) % M : Nat) := by rw [Int.natCast_emod, Int.natCast_add]
      rw [e] at this
      exact this
  have hg : Adds M (fun r => H (oneJ x m r)) (gcdL x) := Adds.fold hMp _ 0 .zero had
  obtain ⟨q, rfl⟩ := hd
  have h1 := (Adds.mul hMp hg q) 0 hMp (by show H (oneJ x m 0); rw [oneJ, zero_set]; exact h0)
  rw [Nat.zero_add, Nat.mul_comm q] at h1
  have hvm : (gcdL x * q : Nat) ≤ M := by rw [← hme, hM] at hv; omega
  by_cases hlt : gcdL x * q < M
  · rw [Nat.mod_eq_of_lt hlt] at h1
    refine ⟨_, h1, by simp [oneJ, hzl], ?_⟩
    exact List.mem_iff_getElem.2 ⟨m, by simp [oneJ, hzl, hm], by simp [oneJ]⟩
  · have : gcdL x * q = M := by omega
    rw [this]
    have h2 := hc _ (-1) m h0 (isR_of (by omega) (by omega) (by omega))
    have e : stepR x (zeroJ x) (-1) m = (zeroJ x).set m x[m] := by
      rw [stepR, if_pos rfl, Int.toNat_natCast, atQ, Int.toNat_natCast, List.getD_eq_getElem?_getD, List.getElem?_eq_getElem hm]; rfl
    rw [e] at h2
    exact ⟨_, h2, by simp [hzl], List.mem_iff_getElem.2 ⟨m, by simp [hzl, hm], by simp [hM]⟩⟩
end
end Go.Ab.Jug

namespace Go.Ab.Jug
open Go.Ab.V
set_option maxRecDepth 100000
theorem fE_app (P Q : List (Int × Int)) (v : Int) (h : ∀ p ∈ P, p.1 ≠ v) : fE (P ++ Q) v = fE Q v := by
  unfold fE
  rw [List.find?_append, List.find?_eq_none.2 fun p hp => by simpa using h p hp]; rfl
theorem fE_prs (g : List Int) (d : Int) (Q : List (Int × Int)) (v : Int) (h : v ∈ g) : fE (prs g d ++ Q) v = d := by
  induction g with
  | nil => simp at h
  | cons a g ih =>
    by_cases e : a = v
    · simp [fE, prs, e]
    · have := ih (by simpa [Ne.symm e] using h)
      exact (fE_app [(a, d)] _ v (by simp [e])).trans this
theorem amtP_cons (e : En) (L : List En) : amtP (e :: L) = prs e.g e.d ++ amtP L := rfl
theorem fE_at {v : Int} : ∀ {L : List En} {k : Nat} {e : En}, L[k]? = some e → v ∈ e.g → (∀ (j : Nat) (e' : En), j < k → L[j]? = some e' → v ∉ e'.g) → fE (amtP L) v = e.d
  | [], k, e, h, _, _ => by simp at h
  | a :: L, 0, e, h, hv, _ => by
    cases h
    rw [amtP_cons, fE_prs _ _ _ _ hv]
  | a :: L, k + 1, e, h, hv, hn => by
    rw [amtP_cons, fE_app _ _ _ fun p hp => by
      simp only [prs, List.mem_map] at hp
      obtain ⟨w, hw, rfl⟩ := hp
      exact fun e => hn 0 a (by omega) rfl (by rw [← e]; exact hw)]
    exact fE_at (by simpa using h) hv fun j e' hj he' => hn (j + 1) e' (by omega) (by simpa using he')
theorem fE_none {v : Int} {L : List En} (h : ∀ e ∈ L, v ∉ e.g) : fE (amtP L) v = -1 := by
  have := fE_app (amtP L) [] v fun p hp => by
    simp only [amtP, List.mem_flatMap, prs, List.mem_map] at hp
    obtain ⟨e, he, w, hw, rfl⟩ := hp
    exact fun q => h e he (by rw [← q]; exact hw)
  rw [List.append_nil] at this
  exact this
theorem fE_nonneg {v : Int} {L : List En} : 0 ≤ fE (amtP L) v ↔ ∃ e ∈ L, v ∈ e.g := by
  have h := fE_neg (amtP_pos L) v
  constructor
  · intro h0
    cases hc : (amtP L).find? fun p => decide (p.1 = v) with
    | none => rw [hc] at h; simp at h; omega
    | some p =>
      have h1 := List.mem_of_find?_eq_some hc
      have h2 := List.find?_some hc
      simp only [amtP, List.mem_flatMap, prs, List.mem_map] at h1
      obtain ⟨e, he, w, hw, rfl⟩ := h1
      exact ⟨e, he, by simpa using (of_decide_eq_true h2) ▸ hw⟩
  · rintro ⟨e, he, hv⟩
    have : ((amtP L).find? fun p => decide (p.1 = v)).isSome = true := by
      rw [List.find?_isSome]
      exact ⟨(v, e.d), by simp only [amtP, List.mem_flatMap, prs, List.mem_map]; exact ⟨e, he, v, hv, rfl⟩, by simp⟩
    rw [this] at h; simp at h; omega
/-- What a search for an amount tells. -/
theorem srch_amt {x : List Int} (hx : okJ x) {N : Nat} (hN : N = (bf x (zeroJ x) false N).length) (hj : ∀ j, j < N → j < (bf x (zeroJ x) false j).length) {v : Int} {M : Nat} {fb : Bool} {out : List Int} (hS : Srch x (zeroJ x) false (fun g => decide (v ∈ g)) M fb out) :
    (fb = true → fE (amtP (bf x (zeroJ x) false N)) v = (wayOf x (zeroJ x) false M fb).length ∧ (∃ g, v ∈ g ∧ fillB x g = true ∧ pourR x (zeroJ x) (wayOf x (zeroJ x) false M fb) = (g, (wayOf x (zeroJ x) false M fb).length)) ∧ (∀ s ∈ wayOf x (zeroJ x) false M fb, isR x.length s.1 s.2 = true) ∧ (wayOf x (zeroJ x) false M fb).length ≤ 28561) ∧
    (fb = false → fE (amtP (bf x (zeroJ x) false N)) v = -1 ∧ wayOf x (zeroJ x) false M fb = []) := by
  have hf := zeroJ_fill hx
  have hMN : M ≤ N := by
    rcases Nat.lt_or_ge N M with h | h
    · obtain ⟨e, he, _⟩ := hS.no N h
      have := (List.getElem?_eq_some_iff.1 he).1
      omega
    · exact h
  have hbl := bf_len (c := false) hx hf M
  have GM := bf_good (c := false) hf M
  constructor
  · intro hfb
    obtain ⟨e, he, hP, _⟩ := hS.yes hfb
    have hP : v ∈ e.g := by simpa using hP
    have hw : wayOf x (zeroJ x) false M fb = pathTo (bf x (zeroJ x) false M) e.d e.g := by unfold wayOf; rw [if_pos hfb, he]
    obtain ⟨h1, h2⟩ := path_pour GM M e he
    have hl := path_len GM M e he
    have hd := good_d GM M e he
    have := (List.getElem?_eq_some_iff.1 he).1
    refine ⟨?_, ⟨e.g, hP, GM.gfill hf (List.mem_of_getElem? he), ?_⟩, ?_, ?_⟩
    · rw [hw, hl]
      refine fE_at (bf_get hMN he) hP fun j e' hjM he' => ?_
      obtain ⟨e2, h3, h4⟩ := hS.no j hjM
      have := bf_get (j := N) (by omega) h3
      rw [he'] at this
      cases this
      simpa using h4
    · rw [hw, h1, hl]
    · rw [hw]; exact fun s hs => (h2 s hs).1
    · rw [hw, hl]; omega
  · intro hfb
    obtain ⟨hM, _⟩ := hS.none hfb
    have hNM : M = N := by
      rcases Nat.lt_or_ge M N with h | h
      · have := hj M h; omega
      · omega
    refine ⟨fE_none fun e he hv => ?_, by unfold wayOf; rw [if_neg (by rw [hfb]; simp)]⟩
    obtain ⟨j, hjl, hje⟩ := List.mem_iff_getElem.1 he
    obtain ⟨e', he', hP⟩ := hS.no j (by omega)
    have := bf_get (j := N) (by omega) he'
    rw [List.getElem?_eq_getElem hjl, hje] at this
    cases this
    simp at hP
    exact hP hv
/-! ### The amounts -/
theorem gcd_dvd_int {x : List Int} (hx : okJ x) {y : Int} (hy : y ∈ x) : (gcdL x : Int) ∣ y := by
  have h := (gcd_dvd (x.map Int.toNat) 0).2 y.toNat (List.mem_map.2 ⟨y, hy, rfl⟩)
  have := okJ_mem hx y hy
  have h2 : ((gcdL x : Nat) : Int) ∣ (y.toNat : Int) := Int.natCast_dvd_natCast.2 h
  rwa [Int.toNat_of_nonneg (by omega)] at h2
theorem step_dvd {x g : List Int} {k : Int} (hxk : ∀ y ∈ x, k ∣ y) (hg : ∀ y ∈ g, k ∣ y) (a b : Int) : ∀ y ∈ stepR x g a b, k ∣ y := by
  have hat : ∀ (l : List Int) (i : Int), (∀ y ∈ l, k ∣ y) → k ∣ atQ l i := fun l i h => by
    rw [atQ, List.getD_eq_getElem?_getD]
    cases hc : l[i.toNat]? with
    | none => exact Int.dvd_zero k
    | some y => exact h y (List.mem_of_getElem? hc)
  have hset : ∀ (l : List Int) (i : Nat) (w : Int), (∀ y ∈ l, k ∣ y) → k ∣ w → ∀ y ∈ l.set i w, k ∣ y := fun l i w h hw y hy => by
    rcases List.mem_or_eq_of_mem_set hy with h' | rfl
    · exact h y h'
    · exact hw
  have hmin : ∀ p q : Int, k ∣ p → k ∣ q → k ∣ min p q := fun p q hp hq => by
    rcases Int.le_total p q with h | h
    · rw [Int.min_eq_left h]; exact hp
    · rw [Int.min_eq_right h]; exact hq
  have ha := hat g a hg
  have hb := hat g b hg
  have hxb := hat x b hxk
  have hm := hmin _ _ ha (Int.dvd_sub hxb hb)
  unfold stepR
  split
  · exact hset _ _ _ hg hxb
  · split
    · exact hset _ _ _ hg (Int.dvd_zero k)
    · exact hset _ _ _ (hset _ _ _ hg (Int.dvd_sub ha hm)) (Int.dvd_add hb hm)
theorem good_dvd {x : List Int} (hx : okJ x) {L : List En} (G : Good x false (zeroJ x) L) : ∀ (k : Nat) (e : En), L[k]? = some e → ∀ y ∈ e.g, (gcdL x : Int) ∣ y := by
  intro k
  induction k using Nat.strongRecOn with
  | _ k ih =>
    intro e he
    rcases Nat.eq_zero_or_pos k with h | h
    · subst h
      rw [G.root] at he; cases he
      intro y hy
      rw [(List.mem_replicate.1 (show y ∈ List.replicate x.length 0 from hy)).2]
      exact Int.dvd_zero _
    · obtain ⟨j, e', h1, h2, h3, h4, h5⟩ := G.par k e he h
      rw [show e.g = stepR x e'.g e.st.1 e.st.2 from (succ_mem h5).2.1]
      exact step_dvd (fun y hy => gcd_dvd_int hx hy) (ih j h1 e' h2) _ _
theorem amt_iff {x : List Int} (hx : okJ x) {N : Nat} (hN : N = (bf x (zeroJ x) false N).length) (hj : ∀ j, j < N → j < (bf x (zeroJ x) false j).length) (v : Nat) :
    0 ≤ fE (amtP (bf x (zeroJ x) false N)) v ↔ (v : Int) ≤ maxL x ∧ gcdL x ∣ v := by
  have hf := zeroJ_fill hx
  have G := bf_good (c := false) hf N
  rw [fE_nonneg]
  constructor
  · rintro ⟨e, he, hv⟩
    obtain ⟨k, hk, hke⟩ := List.mem_iff_getElem.1 he
    have hd := good_dvd hx G k e (by rw [List.getElem?_eq_getElem hk, hke]) _ hv
    obtain ⟨i, hi, hiv⟩ := List.mem_iff_getElem.1 hv
    have hfe := (fillB_iff x _).1 (G.gfill hf he)
    have := hfe.2 i hi (by omega)
    have h2 : x[i]'(by omega) ≤ maxL x := (foldl_max_ge x _).2 _ (List.getElem_mem _)
    exact ⟨by omega, Int.natCast_dvd_natCast.1 hd⟩
  · rintro ⟨h1, h2⟩
    obtain ⟨g, hg, _, hv⟩ := reach_mul hx (H := fun g => hasE (bf x (zeroJ x) false N) g = true) (fun g a b hg h => bf_closed hf hN hj hg h (fun h => by cases h)) (hasE_iff.2 ⟨_, List.mem_of_getElem? G.root, rfl⟩) v h1 h2
    obtain ⟨e, he, rfl⟩ := hasE_iff.1 hg
    exact ⟨e, he, hv⟩
end Go.Ab.Jug

namespace Go.Ab.Jug
/-! ### Two jugs, of which always the same one is filled -/
def nx (a b : Nat) (q : Nat × Nat) : Nat × Nat := if q.2 = b then (q.1, 0) else if q.1 = 0 then (a, q.2) else (q.1 - min q.1 (b - q.2), q.2 + min q.1 (b - q.2))
def itn (a b : Nat) : Nat → Nat × Nat → Nat × Nat
  | 0, q => q
  | n + 1, q => itn a b n (nx a b q)
def sq (a b n : Nat) : Nat × Nat := itn a b n (0, 0)
theorem itn_add (a b : Nat) : ∀ (n m : Nat) (q : Nat × Nat), itn a b (n + m) q = itn a b m (itn a b n q)
  | 0, m, q => by rw [Nat.zero_add]; rfl
  | n + 1, m, q => by rw [Nat.add_right_comm]; exact itn_add a b n m _
theorem sq_succ (a b n : Nat) : sq a b (n + 1) = nx a b (sq a b n) := by unfold sq; rw [itn_add]; rfl
theorem bez (a b : Nat) : ∃ x y : Int, x * a + y * b = (Nat.gcd a b : Int) := by
  induction a, b using Nat.gcd.induction with
  | H0 n => exact ⟨0, 1, by simp⟩
  | H1 m n hm ih =>
    obtain ⟨x, y, h⟩ := ih
    refine ⟨y - x * ((n / m : Nat) : Int), x, ?_⟩
    rw [Nat.gcd_rec, ← h]
    have : (n : Int) = m * ((n / m : Nat) : Int) + ((n % m : Nat) : Int) := by
      have := Nat.div_add_mod n m
      exact_mod_cast this.symm
    have e : x * (n : Int) = x * (m * ((n / m : Nat) : Int)) + x * ((n % m : Nat) : Int) := by rw [← Int.mul_add, ← this]
    rw [e, Int.sub_mul, Int.mul_assoc x, Int.mul_comm ((n / m : Nat) : Int) m]
    omega
theorem bez_mod {a b m : Nat} (hb : 0 < b) (h : Nat.gcd a b ∣ m) : ∃ k : Nat, (k * a) % b = m % b := by
  obtain ⟨t, rfl⟩ := h
  obtain ⟨x, y, h⟩ := bez a b
  refine ⟨((x * t) % b).toNat, ?_⟩
  have hn : 0 ≤ (x * t) % (b : Int) := Int.emod_nonneg _ (by omega)
  have : ((((x * t) % (b : Int)).toNat * a % b : Nat) : Int) = ((Nat.gcd a b * t % b : Nat) : Int) := by
    rw [Int.natCast_emod, Int.natCast_emod, Int.natCast_mul, Int.natCast_mul, Int.toNat_of_nonneg hn, ← h]
    rw [Int.mul_emod, Int.emod_emod, ← Int.mul_emod]
    have e : (x * a + y * b) * (t : Int) = x * t * a + (y * t) * b := by
      rw [Int.add_mul, Int.mul_assoc x, Int.mul_comm (a : Int) t, ← Int.mul_assoc x, Int.mul_assoc y, Int.mul_comm (b : Int) t, ← Int.mul_assoc y]
    rw [e, Int.add_mul_emod_self_right]
  exact_mod_cast this
theorem drain {a b : Nat} (hb : 0 < b) : ∀ (s o : Nat), o < b → ∃ n, itn a b n (s, o) = (0, (s + o) % b) := by
  intro s
  induction s using Nat.strongRecOn with
  | _ s ih =>
    intro o ho
    rcases Nat.eq_zero_or_pos s with h | h
    · subst h; exact ⟨0, by rw [Nat.zero_add, Nat.mod_eq_of_lt ho]; rfl⟩
    · have hnx : nx a b (s, o) = (s - min s (b - o), o + min s (b - o)) := by
        unfold nx; rw [if_neg (by simp only; omega), if_neg (by simp only; omega)]
      rcases Nat.lt_or_ge s (b - o) with h1 | h1
      · refine ⟨1, ?_⟩
        show nx a b (s, o) = _
        rw [hnx, Nat.min_eq_left (by omega), Nat.sub_self, Nat.mod_eq_of_lt (by omega), Nat.add_comm]
      · obtain ⟨n, hn⟩ := ih (s - (b - o)) (by omega) 0 hb
        refine ⟨2 + n, ?_⟩
        rw [itn_add]
        show itn a b n (nx a b (nx a b (s, o))) = _
        rw [hnx, Nat.min_eq_right h1]
        have : nx a b (s - (b - o), o + (b - o)) = (s - (b - o), 0) := by unfold nx; rw [if_pos (by simp only; omega)]
        rw [this, hn]
        congr 1
        have : s + o = (s - (b - o) + 0) + b := by omega
        rw [this, Nat.add_mod_right]
theorem drain2 {a b m : Nat} (hb : 0 < b) (hm : 0 < m) : ∀ (s o j : Nat), o < b → s + o = m + (j + 1) * b → ∃ n, (itn a b n (s, o)).1 = m := by
  intro s
  induction s using Nat.strongRecOn with
  | _ s ih =>
    intro o j ho h
    have hj : (j + 1) * b = j * b + b := Nat.succ_mul j b
    have hnx : nx a b (s, o) = (s - min s (b - o), o + min s (b - o)) := by
      unfold nx; rw [if_neg (by simp only; omega), if_neg (by simp only; omega)]
    have hk : min s (b - o) = b - o := Nat.min_eq_right (by omega)
    rw [hk] at hnx
    rcases Nat.eq_zero_or_pos j with h0 | h0
    · subst h0
      refine ⟨1, ?_⟩
      show (nx a b (s, o)).1 = m
      rw [hnx]; simp only; omega
    · obtain ⟨j, rfl⟩ : ∃ i, j = i + 1 := ⟨j - 1, by omega⟩
      have hj2 : (j + 1) * b = j * b + b := Nat.succ_mul j b
      obtain ⟨n, hn⟩ := ih (s - (b - o)) (by omega) 0 j hb (by omega)
      refine ⟨2 + n, ?_⟩
      rw [itn_add]
      show (itn a b n (nx a b (nx a b (s, o)))).1 = m
      rw [hnx]
      have : nx a b (s - (b - o), o + (b - o)) = (s - (b - o), 0) := by unfold nx; rw [if_pos (by simp only; omega)]
      rw [this]; exact hn
theorem phase {a b : Nat} (hb : 0 < b) : ∀ k, ∃ n, sq a b n = (0, (k * a) % b)
  | 0 => ⟨0, by simp [sq, itn]⟩
  | k + 1 => by
    obtain ⟨n, hn⟩ := phase (a := a) hb k
    have hr := Nat.mod_lt (k * a) hb
    obtain ⟨m, hm⟩ := drain (a := a) hb a ((k * a) % b) hr
    refine ⟨n + (1 + m), ?_⟩
    unfold sq at hn ⊢
    rw [itn_add, itn_add, hn]
    show itn a b m (nx a b (0, (k * a) % b)) = _
    have : nx a b (0, (k * a) % b) = (a, (k * a) % b) := by unfold nx; rw [if_neg (by simp only; omega), if_pos rfl]
    rw [this, hm, Nat.succ_mul, Nat.add_comm a, Nat.mod_add_mod]
theorem filled_at {a b : Nat} (hb : 0 < b) (k : Nat) : ∃ n, sq a b n = (a, (k * a) % b) := by
  obtain ⟨n, hn⟩ := phase (a := a) hb k
  have hr := Nat.mod_lt (k * a) hb
  refine ⟨n + 1, ?_⟩
  rw [sq_succ, hn]
  unfold nx; rw [if_neg (by simp only; omega), if_pos rfl]
/-- Each amount that can be measured turns up. -/
theorem hits {a b m : Nat} (ha : 0 < a) (hb : 0 < b) (hm : m ≤ max a b) (hg : Nat.gcd a b ∣ m) : ∃ n, (sq a b n).1 = m ∨ (sq a b n).2 = m := by
  rcases Nat.lt_trichotomy m b with h | h | h
  · obtain ⟨k, hk⟩ := bez_mod hb hg
    obtain ⟨n, hn⟩ := phase (a := a) hb k
    exact ⟨n, .inr (by rw [hn, hk, Nat.mod_eq_of_lt h])⟩
  · have : ∃ k, b ≤ (k * a) % b + a := Classical.byContradiction fun hno => by
      have hall : ∀ k, (k * a) % b + a < b := fun k => Nat.lt_of_not_le fun h => hno ⟨k, h⟩
      have hk : ∀ k, (k * a) % b = k * a := by
        intro k
        induction k with
        | zero => simp
        | succ k ih =>
          have := hall k
          rw [ih] at this
          rw [Nat.succ_mul]; exact Nat.mod_eq_of_lt this
      have h1 := hall b
      rw [hk b] at h1
      have : b * 1 ≤ b * a := Nat.mul_le_mul_left b ha
      omega
    obtain ⟨k, hk⟩ := this
    obtain ⟨n, hn⟩ := filled_at (a := a) hb k
    have hr := Nat.mod_lt (k * a) hb
    refine ⟨n + 1, .inr ?_⟩
    rw [sq_succ, hn]
    unfold nx
    rw [if_neg (by simp only; omega), if_neg (by simp only; omega)]
    simp only; omega
  · have hma : m ≤ a := by omega
    obtain ⟨k, hk⟩ := bez_mod hb hg
    have hk2 : ((k + b) * a) % b = m % b := by rw [Nat.add_mul, Nat.add_mul_mod_self_left]; exact hk
    obtain ⟨k', hk'⟩ : ∃ k', k + b = k' + 1 := ⟨k + b - 1, by omega⟩
    rw [hk', Nat.succ_mul] at hk2
    obtain ⟨n, hn⟩ := filled_at (a := a) hb k'
    rcases Nat.eq_or_lt_of_le hma with h1 | h1
    · exact ⟨n, .inl (by rw [hn, h1])⟩
    · have hr := Nat.mod_lt (k' * a) hb
      generalize hR : (k' * a) % b = r at *
      have h2 : (a + r) % b = m % b := by rw [Nat.add_comm, ← hR, Nat.mod_add_mod]; exact hk2
      have h3 : (a + r - m) % b = 0 := Nat.sub_mod_eq_zero_of_mod_eq h2
      obtain ⟨j, hj⟩ := Nat.dvd_of_mod_eq_zero h3
      have hj0 : 0 < j := Nat.pos_of_ne_zero fun e => by subst e; omega
      obtain ⟨j, rfl⟩ : ∃ i, j = i + 1 := ⟨j - 1, by omega⟩
      rw [Nat.mul_comm] at hj
      obtain ⟨p, hp⟩ := drain2 (a := a) hb (by omega : 0 < m) a r j hr (by omega)
      refine ⟨n + p, .inl ?_⟩
      unfold sq at hn ⊢
      rw [itn_add, hn]; exact hp
theorem least {P : Nat → Prop} (h : ∃ n, P n) : ∃ n, P n ∧ ∀ k, k < n → ¬P k := by
  obtain ⟨n, hn⟩ := h
  induction n using Nat.strongRecOn with
  | _ n ih =>
    by_cases h1 : ∃ k, k < n ∧ P k
    · obtain ⟨k, hk, hp⟩ := h1
      exact ih k hk hp
    · exact ⟨n, hn, fun k hk hp => h1 ⟨k, hk, hp⟩⟩
theorem nx_bd {a b : Nat} {q : Nat × Nat} (h : q.1 ≤ a ∧ q.2 ≤ b) : (nx a b q).1 ≤ a ∧ (nx a b q).2 ≤ b := by
  unfold nx
  split
  · exact ⟨h.1, Nat.zero_le _⟩
  · split
    · exact ⟨Nat.le_refl _, h.2⟩
    · simp only; omega
theorem sq_bd (a b : Nat) : ∀ n, (sq a b n).1 ≤ a ∧ (sq a b n).2 ≤ b
  | 0 => ⟨Nat.zero_le _, Nat.zero_le _⟩
  | n + 1 => by rw [sq_succ]; exact nx_bd (sq_bd a b n)
/-- The step's numbers. -/
def lab (first : Bool) (b : Nat) (q : Nat × Nat) : Int × Int := if q.2 = b then (if first then 1 else 0, -1) else if q.1 = 0 then (-1, if first then 0 else 1) else (if first then 0 else 1, if first then 1 else 0)
def cf (first : Bool) (q : Nat × Nat) : List Int := if first then [(q.1 : Int), (q.2 : Int)] else [(q.2 : Int), (q.1 : Int)]
theorem step_nx (a b : Nat) (q : Nat × Nat) (first : Bool) (h : q.1 ≤ a ∧ q.2 ≤ b) : stepR (cf first (a, b)) (cf first q) (lab first b q).1 (lab first b q).2 = cf first (nx a b q) := by
  obtain ⟨s, o⟩ := q
  simp only at h
  have e1 : ∀ x y : Int, atQ [x, y] 0 = x := fun x y => rfl
  have e2 : ∀ x y : Int, atQ [x, y] 1 = y := fun x y => rfl
  have t0 : Int.toNat 0 = 0 := rfl
  have t1 : Int.toNat 1 = 1 := rfl
  unfold lab nx
  cases first
  all_goals
    simp only [cf, if_true, Bool.false_eq_true, if_false]
    split
    · simp [stepR, t0, t1]
    · split
      · simp [stepR, t0, t1, e1, e2]
      · simp only [stepR, e1, e2, t0, t1]
        simp
        omega
theorem lab_ok (first : Bool) (b : Nat) (q : Nat × Nat) : isR 2 (lab first b q).1 (lab first b q).2 = true := by
  unfold lab
  cases first
  all_goals
    simp only [if_true, Bool.false_eq_true, if_false]
    split
    · rfl
    · split <;> rfl
end Go.Ab.Jug

namespace Go.Ab.Jug
open Go.Ab.V
set_option maxRecDepth 100000
def okT (a b m : Int) : Prop := 1 ≤ a ∧ a ≤ 1000 ∧ 1 ≤ b ∧ b ≤ 1000 ∧ 0 ≤ m ∧ m ≤ max a b
theorem gcd2 (a b : Nat) : gcdL [(a : Int), (b : Int)] = Nat.gcd a b := by simp [gcdL]
theorem checkTwo_ok (a b m : Nat) (h : okT a b m) : VCall cfg 53 [vi a, vi b, vi m] [] [] (.tup [vb (decide (m % Nat.gcd a b = 0)), vi 0]) [] := by
  unfold okT at h
  have k := divisor_ok [(a : Int), (b : Int)] (by simp) (by simp)
  rw [gcd2] at k
  have hg : 0 < Nat.gcd a b := Nat.gcd_pos_of_pos_left _ (by omega)
  have hg2 : Nat.gcd a b ≤ a := Nat.gcd_le_left _ (by omega)
  generalize hG : Nat.gcd a b = g at *
  have h1 : ¬ min (a : Int) b < 1 := by omega
  have h2 : ¬ max (a : Int) b > 1000 := by omega
  have h3 : ¬ (m : Int) < 0 := by omega
  have h4 : ¬ (m : Int) > max (a : Int) b := by omega
  (refine VCall.mk (fn := a53) rfl rfl rfl ?_; simp only [a53, inV, mkB, nmsL, PT.set])
  (repeat (first | refine VC.seq ?_ | refine VC.block ?_ | refine VC.kill ?_ | refine VC.skip ?_ | refine VC.exit ?_ | refine VC.regA ?_ | refine VC.condT ?_ | refine VC.condF ?_))
  refine VC.regCA ?_
  refine VO.moreA ?_
  refine VO.frzA p32 ?_
  refine VO.call0A (no_orc 58 (by decide)) k ?_
  have e1 : ((m : Int) % (g : Int)) = ((m % g : Nat) : Int) := rfl
  apply VO.uptoE
  · (simp (config := {decide := false, maxSteps := 1000000}) (disch := omega) only [vev_call, putC_c0, putC_n0, putC_cs, ble0, List.getElem?_cons_zero, List.getElem?_cons_succ, runU, isCall, wantV, vev, evV, ofVal, ofAtom, atomB, cond_true, cond_false, PT.get, PT.set, PT.filt, PT.map, Option.getD_some, Option.getD_none, ret1V, ret1X, v_ld, v_ias, v_iad, v_fad, v_slsl, v_slarr, v_st, v_app, v_cpy, v_len, v_look, v_mset, elsV, partV, newV, free, atV, atI, atL, toVal, cellsV, okV, VSt.put, VSt.kill, VSt.alloc, VSt.frz, VSt.adopt, noref, norefB, deadB, deadV, nos, nm, nmL, nmB, nmE, Pa.eqb, Bool.not_false, Bool.not_true, Bool.and_true, Bool.true_and, Bool.false_and, Bool.and_false, bin, intOps, intBin, cvt, un, goInt, bndsV, bndV, Option.map_some, Option.map_none, List.map_cons, List.map_nil, Int.toNat_natCast, Nat.mul_one, Nat.zero_add, beq_true, beq_false, beq_self_eq_true, List.length_map, List.length_cons, List.length_nil, List.length_append, fillV, pEvV, repsV, List.append_nil, List.nil_append, if_pos, if_neg, reduceIte, List.getElem?_map, List.getElem?_drop, Nat.add_zero, List.getElem?_eq_getElem, Go.IntWalk.i64_in, wrap_u64, tmod_pos, eq_self, true_and, and_true, and_self, List.all_cons, List.all_nil, nmL_vi, flV_len, flP_len, flV_nm, flV_ok, flV_pv, flP_map, drop_flP, drop_flV, putC_flV, eqV2, eqV3, bneT, bneF, decide_true, decide_false, frzL_vi, frzL_flV, nmE_ag, nmE_at, frzE_ag, frzE_at, ofAg_len, ofAt_len, atL_vi, nmL_map_p, frzL_map_p, okL_p, toPVs_p, repsZ, nmL_reps, putC_vi, get_flV0, get_flV1, Int.toNat_zero, Int.toNat_one, Int.reduceToNat, eqV_slice, eqV_ptr, eqV_func, nilS, nilP, nilF, nmL_append, okL_vi, toPVs_vi, toPVs, toPV, frzV, frzL, frzB, resVV, vi, vb, nilV, sl1, bl1, pi, foldV, max2, min2, max_eq, min_eq, Int.tdiv_eq_ediv_of_nonneg, Int.cast_ofNat_Int, Option.isSome_none, Option.isSome_some, Option.isNone_none, Option.isNone_some, and_false, false_and, sl2, sl1P, slP, min_cast, take_map_pi, map_pi, Nat.sub_zero, Nat.zero_mul, List.length_take, decide_eq_true, decide_eq_false, Bool.true_eq_false, Bool.false_eq_true, beqT, beqF, ibeq, ibne, List.take_zero, List.take_succ_cons, List.drop_zero, List.drop_succ_cons, List.drop_nil, List.take_nil, List.cons_append, Bool.not_true, Bool.not_false, e1])
    rfl
  have e2 : ((m % g : Nat) : Int) = 0 ↔ m % g = 0 := by omega
  refine VC.ret (Fin.A ?_)
  simp only [e2]
  rfl
end Go.Ab.Jug

namespace Go.Ab.Jug
open Go.Ab.V
set_option maxRecDepth 100000
def pairL (a b : Nat) (one : Int) : List VV := [vi 2, vi a, vi b, vi 0, vi 0, vb false, vi one]
theorem newPair_ok (a b : Nat) (first : Bool) : VCall cfg 54 [vi a, vi b, vb first] [] [] (.agg (pairL a b (if first then 0 else 1))) [] := by
  (refine VCall.mk (fn := a54) rfl rfl rfl ?_; simp only [a54, inV, mkB, nmsL, PT.set])
  unfold pairL
  cases first
  · (repeat (first | refine VC.seq ?_ | refine VC.block ?_ | refine VC.kill ?_ | refine VC.skip ?_ | refine VC.exit ?_ | refine VC.regA ?_ | refine VC.condT ?_ | refine VC.condF ?_))
    exact VC.ret (Fin.A (hys := rfl) rfl)
  · (repeat (first | refine VC.seq ?_ | refine VC.block ?_ | refine VC.kill ?_ | refine VC.skip ?_ | refine VC.exit ?_ | refine VC.regA ?_ | refine VC.condT ?_ | refine VC.condF ?_))
    exact VC.ret (Fin.A (hys := rfl) rfl)
set_option maxHeartbeats 1000000 in
theorem next1_ok_0  {a b u v : Nat} (ha : a ≤ 1000) (hb : b ≤ 1000) (hu : u ≤ a) (hv : v ≤ b) (h1 : v = b) : VCall cfg 68 [.agg [vi 2, vi a, vi b, vi 0, vi 0, vb false, vi 0], .agg [vi u, vi v, vi 0, vi 0]] [] [] (.agg [vi 1, vi (-1)]) [] := by
  (refine VCall.mk (fn := a68) rfl rfl rfl ?_; simp only [a68, inV, mkB, nmsL, PT.set])
  (repeat (first | refine VC.seq ?_ | refine VC.block ?_ | refine VC.kill ?_ | refine VC.skip ?_ | refine VC.exit ?_ | refine VC.regA ?_ | refine VC.condT ?_ | refine VC.condF ?_))
  exact VC.ret (Fin.A (hys := rfl) rfl)
set_option maxHeartbeats 1000000 in
theorem next1_ok_1  {a b u v : Nat} (ha : a ≤ 1000) (hb : b ≤ 1000) (hu : u ≤ a) (hv : v ≤ b) (h1 : ¬v = b) (h2 : u = 0) : VCall cfg 68 [.agg [vi 2, vi a, vi b, vi 0, vi 0, vb false, vi 0], .agg [vi u, vi v, vi 0, vi 0]] [] [] (.agg [vi (-1), vi 0]) [] := by
  (refine VCall.mk (fn := a68) rfl rfl rfl ?_; simp only [a68, inV, mkB, nmsL, PT.set])
  (repeat (first | refine VC.seq ?_ | refine VC.block ?_ | refine VC.kill ?_ | refine VC.skip ?_ | refine VC.exit ?_ | refine VC.regA ?_ | refine VC.condT ?_ | refine VC.condF ?_))
  exact VC.ret (Fin.A (hys := rfl) rfl)
set_option maxHeartbeats 1000000 in
theorem next1_ok_2  {a b u v : Nat} (ha : a ≤ 1000) (hb : b ≤ 1000) (hu : u ≤ a) (hv : v ≤ b) (h1 : ¬v = b) (h2 : ¬u = 0) : VCall cfg 68 [.agg [vi 2, vi a, vi b, vi 0, vi 0, vb false, vi 0], .agg [vi u, vi v, vi 0, vi 0]] [] [] (.agg [vi 0, vi 1]) [] := by
  (refine VCall.mk (fn := a68) rfl rfl rfl ?_; simp only [a68, inV, mkB, nmsL, PT.set])
  (repeat (first | refine VC.seq ?_ | refine VC.block ?_ | refine VC.kill ?_ | refine VC.skip ?_ | refine VC.exit ?_ | refine VC.regA ?_ | refine VC.condT ?_ | refine VC.condF ?_))
  exact VC.ret (Fin.A (hys := rfl) rfl)
theorem next1_ok  {a b u v : Nat} (ha : a ≤ 1000) (hb : b ≤ 1000) (hu : u ≤ a) (hv : v ≤ b) : VCall cfg 68 [.agg (pairL a b 0), .agg [vi u, vi v, vi 0, vi 0]] [] [] (ag2 (lab true b (u, v)).1 (lab true b (u, v)).2) [] := by
  by_cases h1 : v = b
  · have e : lab true b (u, v) = (1, (-1)) := by simp [lab, h1]
    rw [e]
    exact next1_ok_0 ha hb hu hv h1
  · by_cases h2 : u = 0
    · have e : lab true b (u, v) = ((-1), 0) := by simp [lab, h1, h2]
      rw [e]
      exact next1_ok_1 ha hb hu hv h1 h2
    · have e : lab true b (u, v) = (0, 1) := by simp [lab, h1, h2]
      rw [e]
      exact next1_ok_2 ha hb hu hv h1 h2
set_option maxHeartbeats 1000000 in
theorem next2_ok_0  {a b u v : Nat} (ha : a ≤ 1000) (hb : b ≤ 1000) (hu : u ≤ a) (hv : v ≤ b) (h1 : u = a) : VCall cfg 68 [.agg [vi 2, vi a, vi b, vi 0, vi 0, vb false, vi 1], .agg [vi u, vi v, vi 0, vi 0]] [] [] (.agg [vi 0, vi (-1)]) [] := by
  (refine VCall.mk (fn := a68) rfl rfl rfl ?_; simp only [a68, inV, mkB, nmsL, PT.set])
  (repeat (first | refine VC.seq ?_ | refine VC.block ?_ | refine VC.kill ?_ | refine VC.skip ?_ | refine VC.exit ?_ | refine VC.regA ?_ | refine VC.condT ?_ | refine VC.condF ?_))
  exact VC.ret (Fin.A (hys := rfl) rfl)
set_option maxHeartbeats 1000000 in
theorem next2_ok_1  {a b u v : Nat} (ha : a ≤ 1000) (hb : b ≤ 1000) (hu : u ≤ a) (hv : v ≤ b) (h1 : ¬u = a) (h2 : v = 0) : VCall cfg 68 [.agg [vi 2, vi a, vi b, vi 0, vi 0, vb false, vi 1], .agg [vi u, vi v, vi 0, vi 0]] [] [] (.agg [vi (-1), vi 1]) [] := by
  (refine VCall.mk (fn := a68) rfl rfl rfl ?_; simp only [a68, inV, mkB, nmsL, PT.set])
  (repeat (first | refine VC.seq ?_ | refine VC.block ?_ | refine VC.kill ?_ | refine VC.skip ?_ | refine VC.exit ?_ | refine VC.regA ?_ | refine VC.condT ?_ | refine VC.condF ?_))
  exact VC.ret (Fin.A (hys := rfl) rfl)
set_option maxHeartbeats 1000000 in
theorem next2_ok_2  {a b u v : Nat} (ha : a ≤ 1000) (hb : b ≤ 1000) (hu : u ≤ a) (hv : v ≤ b) (h1 : ¬u = a) (h2 : ¬v = 0) : VCall cfg 68 [.agg [vi 2, vi a, vi b, vi 0, vi 0, vb false, vi 1], .agg [vi u, vi v, vi 0, vi 0]] [] [] (.agg [vi 1, vi 0]) [] := by
  (refine VCall.mk (fn := a68) rfl rfl rfl ?_; simp only [a68, inV, mkB, nmsL, PT.set])
  (repeat (first | refine VC.seq ?_ | refine VC.block ?_ | refine VC.kill ?_ | refine VC.skip ?_ | refine VC.exit ?_ | refine VC.regA ?_ | refine VC.condT ?_ | refine VC.condF ?_))
  exact VC.ret (Fin.A (hys := rfl) rfl)
theorem next2_ok  {a b u v : Nat} (ha : a ≤ 1000) (hb : b ≤ 1000) (hu : u ≤ a) (hv : v ≤ b) : VCall cfg 68 [.agg (pairL a b 1), .agg [vi u, vi v, vi 0, vi 0]] [] [] (ag2 (lab false a (v, u)).1 (lab false a (v, u)).2) [] := by
  by_cases h1 : u = a
  · have e : lab false a (v, u) = (0, (-1)) := by simp [lab, h1]
    rw [e]
    exact next2_ok_0 ha hb hu hv h1
  · by_cases h2 : v = 0
    · have e : lab false a (v, u) = ((-1), 1) := by simp [lab, h1, h2]
      rw [e]
      exact next2_ok_1 ha hb hu hv h1 h2
    · have e : lab false a (v, u) = (1, 0) := by simp [lab, h1, h2]
      rw [e]
      exact next2_ok_2 ha hb hu hv h1 h2
end Go.Ab.Jug

namespace Go.Ab.Jug
open Go.Ab.V
set_option maxRecDepth 100000
def pairP (a b : Nat) (one : Int) : List PV := [pi 2, pi a, pi b, pi 0, pi 0, .at (.bool false), pi one]
set_option maxHeartbeats 1000000 in
theorem do1_ok_0  {a b u v : Nat} (ha : a ≤ 1000) (hb : b ≤ 1000) (hu : u ≤ a) (hv : v ≤ b) (h1 : v = b) : VCall cfg 62 [.agg [vi 1, vi (-1)], .p (.fp 0 [pi 2, pi a, pi b, pi 0, pi 0, .at (.bool false), pi 0]), .agg [vi u, vi v, vi 0, vi 0]] [] [] (.agg [vi (u : Nat), vi 0, vi 0, vi 0]) [] := by
  (refine VCall.mk (fn := a62) rfl rfl rfl ?_; simp only [a62, inV, mkB, nmsL, PT.set])
  (repeat (first | refine VC.seq ?_ | refine VC.block ?_ | refine VC.kill ?_ | refine VC.skip ?_ | refine VC.exit ?_ | refine VC.regA ?_ | refine VC.condT ?_ | refine VC.condF ?_))
  exact VC.ret (Fin.A (hys := rfl) rfl)
set_option maxHeartbeats 1000000 in
theorem do1_ok_1  {a b u v : Nat} (ha : a ≤ 1000) (hb : b ≤ 1000) (hu : u ≤ a) (hv : v ≤ b) (h1 : ¬v = b) (h2 : u = 0) : VCall cfg 62 [.agg [vi (-1), vi 0], .p (.fp 0 [pi 2, pi a, pi b, pi 0, pi 0, .at (.bool false), pi 0]), .agg [vi u, vi v, vi 0, vi 0]] [] [] (.agg [vi (a : Nat), vi (v : Nat), vi 0, vi 0]) [] := by
  (refine VCall.mk (fn := a62) rfl rfl rfl ?_; simp only [a62, inV, mkB, nmsL, PT.set])
  (repeat (first | refine VC.seq ?_ | refine VC.block ?_ | refine VC.kill ?_ | refine VC.skip ?_ | refine VC.exit ?_ | refine VC.regA ?_ | refine VC.condT ?_ | refine VC.condF ?_))
  exact VC.ret (Fin.A (hys := rfl) rfl)
set_option maxHeartbeats 1000000 in
theorem do1_ok_2  {a b u v : Nat} (ha : a ≤ 1000) (hb : b ≤ 1000) (hu : u ≤ a) (hv : v ≤ b) (h1 : ¬v = b) (h2 : ¬u = 0) : VCall cfg 62 [.agg [vi 0, vi 1], .p (.fp 0 [pi 2, pi a, pi b, pi 0, pi 0, .at (.bool false), pi 0]), .agg [vi u, vi v, vi 0, vi 0]] [] [] (.agg [vi ((u : Int) - min (u : Int) ((b : Int) - v)), vi ((v : Int) + min (u : Int) ((b : Int) - v)), vi 0, vi 0]) [] := by
  (refine VCall.mk (fn := a62) rfl rfl rfl ?_; simp only [a62, inV, mkB, nmsL, PT.set])
  (repeat (first | refine VC.seq ?_ | refine VC.block ?_ | refine VC.kill ?_ | refine VC.skip ?_ | refine VC.exit ?_ | refine VC.regA ?_ | refine VC.condT ?_ | refine VC.condF ?_))
  exact VC.ret (Fin.A (hys := rfl) rfl)
theorem do1_ok  {a b u v : Nat} (ha : a ≤ 1000) (hb : b ≤ 1000) (hu : u ≤ a) (hv : v ≤ b) : VCall cfg 62 [ag2 (lab true b (u, v)).1 (lab true b (u, v)).2, .p (.fp 0 (pairP a b 0)), .agg [vi u, vi v, vi 0, vi 0]] [] [] (.agg [vi (nx a b (u, v)).1, vi (nx a b (u, v)).2, vi 0, vi 0]) [] := by
  by_cases h1 : v = b
  · have e : lab true b (u, v) = (1, (-1)) := by simp [lab, h1]
    have e2 : nx a b (u, v) = (u, 0) := by simp [nx, h1]
    rw [e, e2]
    exact do1_ok_0 ha hb hu hv h1
  · by_cases h2 : u = 0
    · have e : lab true b (u, v) = ((-1), 0) := by simp [lab, h1, h2]
      have e2 : nx a b (u, v) = (a, v) := by simp [nx, h1, h2]
      rw [e, e2]
      exact do1_ok_1 ha hb hu hv h1 h2
    · have e : lab true b (u, v) = (0, 1) := by simp [lab, h1, h2]
      have e2 : nx a b (u, v) = (u - min u (b - v), v + min u (b - v)) := by simp [nx, h1, h2]
      have e3 : ((u - min u (b - v) : Nat) : Int) = (u : Int) - min (u : Int) ((b : Int) - v) := by omega
      have e4 : ((v + min u (b - v) : Nat) : Int) = (v : Int) + min (u : Int) ((b : Int) - v) := by omega
      have k := do1_ok_2 ha hb hu hv h1 h2
      rw [← e3, ← e4] at k
      rw [e, e2]
      exact k
end Go.Ab.Jug

namespace Go.Ab.Jug
open Go.Ab.V
set_option maxRecDepth 100000
end Go.Ab.Jug

namespace Go.Ab.Jug
open Go.Ab.V
set_option maxRecDepth 100000
end Go.Ab.Jug

namespace Go.Ab.Jug
theorem sq_add (a b n m : Nat) : sq a b (n + m) = itn a b m (sq a b n) := by unfold sq; rw [itn_add]
def hit (a b m n : Nat) : Prop := (sq a b n).1 = m ∨ (sq a b n).2 = m
/-- The least hit comes soon: no state comes twice before it. -/
theorem least_bd {a b m N : Nat} (hN : hit a b m N) (hno : ∀ k, k < N → ¬hit a b m k) : N ≤ (a + 1) * (b + 1) := by
  have h := pigeon ((a + 1) * (b + 1)) ((List.range N).map fun k => (sq a b k).1 * (b + 1) + (sq a b k).2) ?_ ?_
  · simpa using h
  · rw [List.Nodup, List.pairwise_iff_getElem]
    intro i j hi hj hij
    simp only [List.length_map, List.length_range] at hi hj
    simp only [List.getElem_map, List.getElem_range]
    intro e
    have b1 := sq_bd a b i
    have b2 := sq_bd a b j
    have e2 : (sq a b i).2 = (sq a b j).2 := by
      have h1 : ((sq a b i).1 * (b + 1) + (sq a b i).2) % (b + 1) = (sq a b i).2 := by rw [Nat.add_comm, Nat.add_mul_mod_self_right]; exact Nat.mod_eq_of_lt (by omega)
      have h2 : ((sq a b j).1 * (b + 1) + (sq a b j).2) % (b + 1) = (sq a b j).2 := by rw [Nat.add_comm, Nat.add_mul_mod_self_right]; exact Nat.mod_eq_of_lt (by omega)
      rw [← h1, ← h2, e]
    have e1 : (sq a b i).1 = (sq a b j).1 := by
      rw [e2] at e
      have e : (sq a b i).1 * (b + 1) = (sq a b j).1 * (b + 1) := by omega
      exact Nat.eq_of_mul_eq_mul_right (by omega) e
    have e0 : sq a b i = sq a b j := Prod.ext e1 e2
    have : sq a b (i + (N - j)) = sq a b N := by
      rw [sq_add, e0, ← sq_add]; congr 1; omega
    exact hno (i + (N - j)) (by omega) (by unfold hit; rw [this]; exact hN)
  · intro c hc
    obtain ⟨k, _, rfl⟩ := List.mem_map.1 hc
    have b1 := sq_bd a b k
    have : (sq a b k).1 * (b + 1) ≤ a * (b + 1) := Nat.mul_le_mul_right _ b1.1
    rw [Nat.succ_mul]; omega
/-- What is measured, and when. -/
theorem measure_at {a b m : Nat} (ha : 0 < a ∧ a ≤ 1000) (hb : 0 < b ∧ b ≤ 1000) (hm : m ≤ max a b) (hg : Nat.gcd a b ∣ m) : ∃ N, hit a b m N ∧ (∀ k, k < N → ¬hit a b m k) ∧ N ≤ 1002001 := by
  obtain ⟨N, h1, h2⟩ := least (P := hit a b m) (hits ha.1 hb.1 hm hg)
  refine ⟨N, h1, h2, ?_⟩
  have := least_bd h1 h2
  have h3 : (a + 1) * (b + 1) ≤ 1001 * 1001 := Nat.mul_le_mul (by omega) (by omega)
  omega
end Go.Ab.Jug

namespace Go.Ab.Jug
open Go.Ab.V
set_option maxRecDepth 100000
def wayU (l : Nat → Int × Int) (i : Nat) : List (Int × Int) := (List.range i).map l
theorem wayU_succ (l : Nat → Int × Int) (i : Nat) : wayU l (i + 1) = wayU l i ++ [((l i).1, (l i).2)] := by unfold wayU; rw [List.range_succ, List.map_append]; rfl
theorem wayU_len (l : Nat → Int × Int) (i : Nat) : (wayU l i).length = i := by simp [wayU]
set_option maxHeartbeats 4000000 in
theorem pairWay_ok (a b : Nat) (one : Int) (u v : Nat → Nat) (l : Nat → Int × Int) (m N : Nat) (hNm : N ≤ 1002001) (ha : a ≤ 1000) (hb : b ≤ 1000) (hm : m ≤ 1000) (hu : ∀ i, u i ≤ a) (hv : ∀ i, v i ≤ b) (hu0 : u 0 = 0) (hv0 : v 0 = 0)
    (hno : ∀ i, i < N → u i ≠ m ∧ v i ≠ m) (hN : u N = m ∨ v N = m)
    (kn : ∀ i, VCall cfg 68 [.agg (pairL a b one), .agg [vi (u i), vi (v i), vi 0, vi 0]] [] [] (ag2 (l i).1 (l i).2) [])
    (kd : ∀ i, VCall cfg 62 [ag2 (l i).1 (l i).2, .p (.fp 0 (pairP a b one)), .agg [vi (u i), vi (v i), vi 0, vi 0]] [] [] (.agg [vi (u (i + 1)), vi (v (i + 1)), vi 0, vi 0]) []) :
    VCall cfg 55 [.agg (pairL a b one), vi m] [] [] (slP (wayU l N)) [] := by
  simp only [pairL, pairP, ag2] at kn kd ⊢
  (refine VCall.mk (fn := a55) rfl rfl rfl ?_; simp only [a55, inV, mkB, nmsL, PT.set])
  (repeat (first | refine VC.seq ?_ | refine VC.block ?_ | refine VC.kill ?_ | refine VC.skip ?_ | refine VC.exit ?_ | refine VC.regA ?_ | refine VC.condT ?_ | refine VC.condF ?_))
  refine VC.frzA p2 ?_
  simp only [VSt.frz, PT.map, frzE_at, frzE_ag, frzL, frzV, frzB, Pa.eqb, cond_true, cond_false, VSt.kill, PT.filt, Option.map_some, Option.map_none, List.map_cons, List.map_nil]
  refine VC.loopG (fun (i : Nat) => ⟨inV [p1, p2, p5, p6, p7] [vi m, .p (.fp 0 (pairP a b one)), .os 2 p32 i, .clos 68 [.agg (pairL a b one)] [], .op 0 p7 0] .lf, mkB [(p32, .cells (flV (wayU l i))), (p7, .cells [vi (u i), vi (v i), vi 0, vi 0])] .lf, [], none⟩) (fun n i => n = N - i ∧ i ≤ N) (x := 0) ?_ ⟨rfl, Nat.zero_le _⟩ ?_
  · refine G.adoptA (p := p5) 2 p32 ?_
    rw [hu0, hv0]
    (apply Go.Ab.V.G.weak; constructor <;> simp (config := {decide := true}) only [PT.Le, inV, mkB, PT.set, VSt.kill, VSt.adopt, VSt.alloc, PT.filt, PT.map, List.map_cons, List.map_nil, noref, norefB, deadB, deadV, nos, nm, nmL, nmB, nmE, Pa.eqb, cond_true, cond_false, Bool.not_true, Bool.not_false, Bool.and_true, Bool.true_and, nmL_vi, flV_len, flP_len, flV_nm, flV_ok, flV_pv, flP_map, drop_flP, drop_flV, putC_flV, eqV2, eqV3, bneT, bneF, decide_true, decide_false, frzL_vi, frzL_flV, nmE_ag, nmE_at, frzE_ag, frzE_at, ofAg_len, ofAt_len, atL_vi, nmL_map_p, frzL_map_p, okL_p, toPVs_p, repsZ, nmL_reps, putC_vi, get_flV0, get_flV1, Int.toNat_zero, Int.toNat_one, Int.reduceToNat, eqV_slice, eqV_ptr, eqV_func, nilS, nilP, nilF, nmL_append, true_or, or_true, and_self, true_and, and_true, Option.some.injEq, reduceCtorEq, false_or, or_false, VV.p.injEq, PV.at.injEq, Value.int.injEq, sl1, vi, bl1, vb, nilV, pi, pairP, pairL])
    all_goals first | rfl | omega | exact .inl rfl | exact ⟨rfl, by omega⟩ | ((repeat' apply And.intro) <;> first | rfl | exact .inl rfl)
  rintro n i ⟨hn, hi⟩
  simp only [inV, PT.set, mkB, pairP, pairL]
  have kn := kn i
  have kd := kd i
  have hui := hu i
  have hvi := hv i
  have hwl := wayU_len l i
  have hfl := flV_snoc (wayU l i) (l i).1 (l i).2
  have hws := wayU_succ l i
  have hl2 := flV_len (wayU l i)
  have hnm := flV_nm (wayU l i)
  by_cases h : i < N
  · obtain ⟨h1, h2⟩ := hno i h
    (repeat (first | refine VC.seq ?_ | refine VC.block ?_ | refine VC.kill ?_ | refine VC.skip ?_ | refine VC.exit ?_ | refine VC.regA ?_ | refine VC.condT ?_ | refine VC.condF ?_))
    (refine VC.regCA ?_; refine VO.moreA ?_; refine VO.call0A (no_orc _ (by decide)) kn ?_; refine VO.endA ?_; (repeat (first | refine VC.seq ?_ | refine VC.block ?_ | refine VC.kill ?_ | refine VC.skip ?_ | refine VC.exit ?_ | refine VC.regA ?_ | refine VC.condT ?_ | refine VC.condF ?_)))
    refine VC.regCA ?_
    refine VO.moreA ?_
    refine VO.call0A (no_orc 62 (by decide)) kd ?_
    refine VO.endA ?_
    (repeat (first | refine VC.seq ?_ | refine VC.block ?_ | refine VC.kill ?_ | refine VC.skip ?_ | refine VC.exit ?_ | refine VC.regA ?_ | refine VC.condT ?_ | refine VC.condF ?_))
    refine ⟨_, i + 1, ?_, ⟨rfl, by omega⟩, ?_⟩
    · omega
    · (apply Go.Ab.V.G.weak; constructor <;> simp (config := {decide := true}) only [PT.Le, inV, mkB, PT.set, VSt.kill, VSt.adopt, VSt.alloc, PT.filt, PT.map, List.map_cons, List.map_nil, noref, norefB, deadB, deadV, nos, nm, nmL, nmB, nmE, Pa.eqb, cond_true, cond_false, Bool.not_true, Bool.not_false, Bool.and_true, Bool.true_and, nmL_vi, flV_len, flP_len, flV_nm, flV_ok, flV_pv, flP_map, drop_flP, drop_flV, putC_flV, eqV2, eqV3, bneT, bneF, decide_true, decide_false, frzL_vi, frzL_flV, nmE_ag, nmE_at, frzE_ag, frzE_at, ofAg_len, ofAt_len, atL_vi, nmL_map_p, frzL_map_p, okL_p, toPVs_p, repsZ, nmL_reps, putC_vi, get_flV0, get_flV1, Int.toNat_zero, Int.toNat_one, Int.reduceToNat, eqV_slice, eqV_ptr, eqV_func, nilS, nilP, nilF, nmL_append, true_or, or_true, and_self, true_and, and_true, Option.some.injEq, reduceCtorEq, false_or, or_false, VV.p.injEq, PV.at.injEq, Value.int.injEq, sl1, vi, bl1, vb, nilV, pi, hws, hfl])
      (all_goals first | rfl | omega | exact ⟨rfl, by omega⟩)
  · have : i = N := by omega
    subst this
    by_cases h1 : u i = m
    · (repeat (first | refine VC.seq ?_ | refine VC.block ?_ | refine VC.kill ?_ | refine VC.skip ?_ | refine VC.exit ?_ | refine VC.regA ?_ | refine VC.condT ?_ | refine VC.condF ?_))
      refine VC.ret (Fin.frzA p32 (hb := rfl) (hc := flV_pv _) (Fin.A ?_))
      rw [slP, hwl]; rfl
    · have h2 : v i = m := hN.resolve_left h1
      (repeat (first | refine VC.seq ?_ | refine VC.block ?_ | refine VC.kill ?_ | refine VC.skip ?_ | refine VC.exit ?_ | refine VC.regA ?_ | refine VC.condT ?_ | refine VC.condF ?_))
      refine VC.ret (Fin.frzA p32 (hb := rfl) (hc := flV_pv _) (Fin.A ?_))
      rw [slP, hwl]; rfl
end Go.Ab.Jug

namespace Go.Ab.Jug
open Go.Ab.V
set_option maxRecDepth 100000
set_option maxHeartbeats 1000000 in
theorem do2_ok_0  {a b u v : Nat} (ha : a ≤ 1000) (hb : b ≤ 1000) (hu : u ≤ a) (hv : v ≤ b) (h1 : u = a) : VCall cfg 62 [.agg [vi 0, vi (-1)], .p (.fp 0 [pi 2, pi a, pi b, pi 0, pi 0, .at (.bool false), pi 1]), .agg [vi u, vi v, vi 0, vi 0]] [] [] (.agg [vi 0, vi (v : Nat), vi 0, vi 0]) [] := by
  (refine VCall.mk (fn := a62) rfl rfl rfl ?_; simp only [a62, inV, mkB, nmsL, PT.set])
  (repeat (first | refine VC.seq ?_ | refine VC.block ?_ | refine VC.kill ?_ | refine VC.skip ?_ | refine VC.exit ?_ | refine VC.regA ?_ | refine VC.condT ?_ | refine VC.condF ?_))
  exact VC.ret (Fin.A (hys := rfl) rfl)
set_option maxHeartbeats 1000000 in
theorem do2_ok_1  {a b u v : Nat} (ha : a ≤ 1000) (hb : b ≤ 1000) (hu : u ≤ a) (hv : v ≤ b) (h1 : ¬u = a) (h2 : v = 0) : VCall cfg 62 [.agg [vi (-1), vi 1], .p (.fp 0 [pi 2, pi a, pi b, pi 0, pi 0, .at (.bool false), pi 1]), .agg [vi u, vi v, vi 0, vi 0]] [] [] (.agg [vi (u : Nat), vi (b : Nat), vi 0, vi 0]) [] := by
  (refine VCall.mk (fn := a62) rfl rfl rfl ?_; simp only [a62, inV, mkB, nmsL, PT.set])
  (repeat (first | refine VC.seq ?_ | refine VC.block ?_ | refine VC.kill ?_ | refine VC.skip ?_ | refine VC.exit ?_ | refine VC.regA ?_ | refine VC.condT ?_ | refine VC.condF ?_))
  exact VC.ret (Fin.A (hys := rfl) rfl)
set_option maxHeartbeats 1000000 in
theorem do2_ok_2  {a b u v : Nat} (ha : a ≤ 1000) (hb : b ≤ 1000) (hu : u ≤ a) (hv : v ≤ b) (h1 : ¬u = a) (h2 : ¬v = 0) : VCall cfg 62 [.agg [vi 1, vi 0], .p (.fp 0 [pi 2, pi a, pi b, pi 0, pi 0, .at (.bool false), pi 1]), .agg [vi u, vi v, vi 0, vi 0]] [] [] (.agg [vi ((u : Int) + min (v : Int) ((a : Int) - u)), vi ((v : Int) - min (v : Int) ((a : Int) - u)), vi 0, vi 0]) [] := by
  (refine VCall.mk (fn := a62) rfl rfl rfl ?_; simp only [a62, inV, mkB, nmsL, PT.set])
  (repeat (first | refine VC.seq ?_ | refine VC.block ?_ | refine VC.kill ?_ | refine VC.skip ?_ | refine VC.exit ?_ | refine VC.regA ?_ | refine VC.condT ?_ | refine VC.condF ?_))
  exact VC.ret (Fin.A (hys := rfl) rfl)
theorem do2_ok  {a b u v : Nat} (ha : a ≤ 1000) (hb : b ≤ 1000) (hu : u ≤ a) (hv : v ≤ b) : VCall cfg 62 [ag2 (lab false a (v, u)).1 (lab false a (v, u)).2, .p (.fp 0 (pairP a b 1)), .agg [vi u, vi v, vi 0, vi 0]] [] [] (.agg [vi (nx b a (v, u)).2, vi (nx b a (v, u)).1, vi 0, vi 0]) [] := by
  by_cases h1 : u = a
  · have e : lab false a (v, u) = (0, (-1)) := by simp [lab, h1]
    have e2 : nx b a (v, u) = (v, 0) := by simp [nx, h1]
    rw [e, e2]
    exact do2_ok_0 ha hb hu hv h1
  · by_cases h2 : v = 0
    · have e : lab false a (v, u) = ((-1), 1) := by simp [lab, h1, h2]
      have e2 : nx b a (v, u) = (b, u) := by simp [nx, h1, h2]
      rw [e, e2]
      exact do2_ok_1 ha hb hu hv h1 h2
    · have e : lab false a (v, u) = (1, 0) := by simp [lab, h1, h2]
      have e2 : nx b a (v, u) = (v - min v (a - u), u + min v (a - u)) := by simp [nx, h1, h2]
      have e3 : ((v - min v (a - u) : Nat) : Int) = (v : Int) - min (v : Int) ((a : Int) - u) := by omega
      have e4 : ((u + min v (a - u) : Nat) : Int) = (u : Int) + min (v : Int) ((a : Int) - u) := by omega
      have k := do2_ok_2 ha hb hu hv h1 h2
      rw [← e3, ← e4] at k
      rw [e, e2]
      exact k
end Go.Ab.Jug

namespace Go.Ab.Jug
open Go.Ab.V
set_option maxRecDepth 100000
/-- The way of two jugs, by which one is filled. -/
def lT (a b : Nat) (first : Bool) (i : Nat) : Int × Int := if first then lab true b (sq a b i) else lab false a (sq b a i)
def hitT (a b m : Nat) (first : Bool) (i : Nat) : Prop := if first then hit a b m i else hit b a m i
theorem way2_ok (a b m : Nat) (first : Bool) (N : Nat) (ha : a ≤ 1000) (hb : b ≤ 1000) (hm : m ≤ 1000) (hNm : N ≤ 1002001) (hN : hitT a b m first N) (hno : ∀ k, k < N → ¬hitT a b m first k) : VCall cfg 55 [.agg (pairL a b (if first then 0 else 1)), vi m] [] [] (slP (wayU (lT a b first) N)) [] := by
  cases first with
  | true =>
    simp only [hitT, if_true, hit] at hN hno
    exact pairWay_ok a b 0 (fun i => (sq a b i).1) (fun i => (sq a b i).2) (lT a b true) m N hNm ha hb hm (fun i => (sq_bd a b i).1) (fun i => (sq_bd a b i).2) rfl rfl
      (fun i hi => ⟨fun e => hno i hi (.inl e), fun e => hno i hi (.inr e)⟩) hN
      (fun i => next1_ok ha hb (sq_bd a b i).1 (sq_bd a b i).2)
      (fun i => by
        have := do1_ok ha hb (sq_bd a b i).1 (sq_bd a b i).2
        simp only [sq_succ]
        exact this)
  | false =>
    simp only [hitT, Bool.false_eq_true, if_false, hit] at hN hno
    exact pairWay_ok a b 1 (fun i => (sq b a i).2) (fun i => (sq b a i).1) (lT a b false) m N hNm ha hb hm (fun i => (sq_bd b a i).2) (fun i => (sq_bd b a i).1) rfl rfl
      (fun i hi => ⟨fun e => hno i hi (.inr e), fun e => hno i hi (.inl e)⟩) hN.symm
      (fun i => next2_ok ha hb (sq_bd b a i).2 (sq_bd b a i).1)
      (fun i => by
        have := do2_ok ha hb (sq_bd b a i).2 (sq_bd b a i).1
        simp only [sq_succ]
        exact this)
theorem hits2 {a b m : Nat} (h1 : 1 ≤ a ∧ a ≤ 1000) (h2 : 1 ≤ b ∧ b ≤ 1000) (hm : m ≤ max a b) (hg : m % Nat.gcd a b = 0) (first : Bool) : ∃ N, hitT a b m first N ∧ (∀ k, k < N → ¬hitT a b m first k) ∧ N ≤ 1002001 := by
  have hd := Nat.dvd_of_mod_eq_zero hg
  cases first with
  | true => simpa [hitT] using measure_at (a := a) (b := b) (m := m) ⟨by omega, by omega⟩ ⟨by omega, by omega⟩ hm hd
  | false => simpa [hitT] using measure_at (a := b) (b := a) (m := m) ⟨by omega, by omega⟩ ⟨by omega, by omega⟩ (by omega) (by rw [Nat.gcd_comm]; exact hd)
theorem Two_un (a b m : Nat) (h : okT a b m) (hd : ¬ m % Nat.gcd a b = 0) : VCall cfg 25 [vi a, vi b, vi m] [] [] (.tup [vi 0, vb false, vi 0]) [] := by
  have k := checkTwo_ok a b m h
  rw [decide_eq_false hd] at k
  (refine VCall.mk (fn := a25) rfl rfl rfl ?_; simp only [a25, inV, mkB, nmsL, PT.set])
  (repeat (first | refine VC.seq ?_ | refine VC.block ?_ | refine VC.kill ?_ | refine VC.skip ?_ | refine VC.exit ?_ | refine VC.regA ?_ | refine VC.condT ?_ | refine VC.condF ?_))
  (refine VC.regCA ?_; refine VO.moreA ?_; refine VO.call0A (no_orc _ (by decide)) k ?_; refine VO.endA ?_; (repeat (first | refine VC.seq ?_ | refine VC.block ?_ | refine VC.kill ?_ | refine VC.skip ?_ | refine VC.exit ?_ | refine VC.regA ?_ | refine VC.condT ?_ | refine VC.condF ?_)))
  exact VC.ret (Fin.A rfl)
theorem TwoWay_un (a b m : Nat) (first : Bool) (h : okT a b m) (hd : ¬ m % Nat.gcd a b = 0) : VCall cfg 26 [vi a, vi b, vi m, vb first] [] [] (.tup [nilV, vb false, vi 0]) [] := by
  have k := checkTwo_ok a b m h
  rw [decide_eq_false hd] at k
  (refine VCall.mk (fn := a26) rfl rfl rfl ?_; simp only [a26, inV, mkB, nmsL, PT.set])
  (repeat (first | refine VC.seq ?_ | refine VC.block ?_ | refine VC.kill ?_ | refine VC.skip ?_ | refine VC.exit ?_ | refine VC.regA ?_ | refine VC.condT ?_ | refine VC.condF ?_))
  (refine VC.regCA ?_; refine VO.moreA ?_; refine VO.call0A (no_orc _ (by decide)) k ?_; refine VO.endA ?_; (repeat (first | refine VC.seq ?_ | refine VC.block ?_ | refine VC.kill ?_ | refine VC.skip ?_ | refine VC.exit ?_ | refine VC.regA ?_ | refine VC.condT ?_ | refine VC.condF ?_)))
  exact VC.ret (Fin.A rfl)
theorem TwoWay_ok (a b m : Nat) (first : Bool) (N : Nat) (h : okT a b m) (hd : m % Nat.gcd a b = 0) (hNm : N ≤ 1002001) (hN : hitT a b m first N) (hno : ∀ k, k < N → ¬hitT a b m first k) : VCall cfg 26 [vi a, vi b, vi m, vb first] [] [] (.tup [slP (wayU (lT a b first) N), vb true, vi 0]) [] := by
  have k := checkTwo_ok a b m h
  rw [decide_eq_true hd] at k
  have k2 := newPair_ok a b first
  have k3 := way2_ok a b m first N (by unfold okT at h; omega) (by unfold okT at h; omega) (by unfold okT at h; omega) hNm hN hno
  simp only [pairL] at k2 k3
  (refine VCall.mk (fn := a26) rfl rfl rfl ?_; simp only [a26, inV, mkB, nmsL, PT.set])
  (repeat (first | refine VC.seq ?_ | refine VC.block ?_ | refine VC.kill ?_ | refine VC.skip ?_ | refine VC.exit ?_ | refine VC.regA ?_ | refine VC.condT ?_ | refine VC.condF ?_))
  (refine VC.regCA ?_; refine VO.moreA ?_; refine VO.call0A (no_orc _ (by decide)) k ?_; refine VO.endA ?_; (repeat (first | refine VC.seq ?_ | refine VC.block ?_ | refine VC.kill ?_ | refine VC.skip ?_ | refine VC.exit ?_ | refine VC.regA ?_ | refine VC.condT ?_ | refine VC.condF ?_)))
  refine VC.regCA ?_
  refine VO.moreA ?_
  refine VO.call0A (no_orc 54 (by decide)) k2 ?_
  refine VO.moreA ?_
  refine VO.call0A (no_orc 55 (by decide)) k3 ?_
  refine VO.endA ?_
  (repeat (first | refine VC.seq ?_ | refine VC.block ?_ | refine VC.kill ?_ | refine VC.skip ?_ | refine VC.exit ?_ | refine VC.regA ?_ | refine VC.condT ?_ | refine VC.condF ?_))
  exact VC.ret (Fin.A rfl)
theorem Two_ok (a b m : Nat) (N M : Nat) (h : okT a b m) (hd : m % Nat.gcd a b = 0) (hNm : N ≤ 1002001) (hN : hitT a b m true N) (hno : ∀ k, k < N → ¬hitT a b m true k) (hMm : M ≤ 1002001) (hM : hitT a b m false M) (hnoM : ∀ k, k < M → ¬hitT a b m false k) : VCall cfg 25 [vi a, vi b, vi m] [] [] (.tup [vi ((min N M : Nat) : Int), vb true, vi 0]) [] := by
  have k := checkTwo_ok a b m h
  rw [decide_eq_true hd] at k
  have k2 := newPair_ok a b true
  have k3 := way2_ok a b m true N (by unfold okT at h; omega) (by unfold okT at h; omega) (by unfold okT at h; omega) hNm hN hno
  have k4 := newPair_ok a b false
  have k5 := way2_ok a b m false M (by unfold okT at h; omega) (by unfold okT at h; omega) (by unfold okT at h; omega) hMm hM hnoM
  have e1 := wayU_len (lT a b true) N
  have e2 := wayU_len (lT a b false) M
  simp only [pairL, slP, e1, e2] at k2 k3 k4 k5
  (refine VCall.mk (fn := a25) rfl rfl rfl ?_; simp only [a25, inV, mkB, nmsL, PT.set])
  (repeat (first | refine VC.seq ?_ | refine VC.block ?_ | refine VC.kill ?_ | refine VC.skip ?_ | refine VC.exit ?_ | refine VC.regA ?_ | refine VC.condT ?_ | refine VC.condF ?_))
  (refine VC.regCA ?_; refine VO.moreA ?_; refine VO.call0A (no_orc _ (by decide)) k ?_; refine VO.endA ?_; (repeat (first | refine VC.seq ?_ | refine VC.block ?_ | refine VC.kill ?_ | refine VC.skip ?_ | refine VC.exit ?_ | refine VC.regA ?_ | refine VC.condT ?_ | refine VC.condF ?_)))
  refine VC.regCA ?_
  refine VO.moreA ?_
  refine VO.call0A (no_orc 54 (by decide)) k2 ?_
  refine VO.moreA ?_
  refine VO.call0A (no_orc 55 (by decide)) k3 ?_
  refine VO.moreA ?_
  refine VO.call0A (no_orc 54 (by decide)) k4 ?_
  refine VO.moreA ?_
  refine VO.call0A (no_orc 55 (by decide)) k5 ?_
  refine VO.endA ?_
  (repeat (first | refine VC.seq ?_ | refine VC.block ?_ | refine VC.kill ?_ | refine VC.skip ?_ | refine VC.exit ?_ | refine VC.regA ?_ | refine VC.condT ?_ | refine VC.condF ?_))
  exact VC.ret (Fin.A rfl)
end Go.Ab.Jug

namespace Go.Ab.Jug
open Go.Ab.V
set_option maxRecDepth 100000
/-! ### Two jugs: no way is shorter than both rules' ways -/
/-- A move. -/
def Mv (a b u v t w : Nat) : Prop := (t = a ∧ w = v) ∨ (t = u ∧ w = b) ∨ (t = 0 ∧ w = v) ∨ (t = u ∧ w = 0) ∨ (t = u - min u (b - v) ∧ w = v + min u (b - v)) ∨ (t = u + min v (a - u) ∧ w = v - min v (a - u))
theorem Mv.swap {a b u v t w : Nat} (h : Mv a b u v t w) : Mv b a v u w t := by
  unfold Mv at h ⊢
  rcases h with h | h | h | h | h | h
  · exact .inr (.inl ⟨h.2, h.1⟩)
  · exact .inl ⟨h.2, h.1⟩
  · exact .inr (.inr (.inr (.inl ⟨h.2, h.1⟩)))
  · exact .inr (.inr (.inl ⟨h.2, h.1⟩))
  · exact .inr (.inr (.inr (.inr (.inr ⟨h.2, h.1⟩))))
  · exact .inr (.inr (.inr (.inr (.inl ⟨h.2, h.1⟩))))
theorem nx_cases (a b u v : Nat) : (v = b ∧ nx a b (u, v) = (u, 0)) ∨ (v ≠ b ∧ u = 0 ∧ nx a b (u, v) = (a, v)) ∨ (v ≠ b ∧ u ≠ 0 ∧ nx a b (u, v) = (u - min u (b - v), v + min u (b - v))) := by
  unfold nx
  by_cases h1 : v = b
  · exact .inl ⟨h1, by rw [if_pos h1]⟩
  · by_cases h2 : u = 0
    · exact .inr (.inl ⟨h1, h2, by rw [if_neg h1, if_pos h2]⟩)
    · exact .inr (.inr ⟨h1, h2, by rw [if_neg h1, if_neg h2]⟩)
def Rim (a b : Nat) (q : Nat × Nat) : Prop := (q.1 ≤ a ∧ q.2 ≤ b) ∧ (q.1 = 0 ∨ q.1 = a ∨ q.2 = 0 ∨ q.2 = b)
theorem rim_nx {a b : Nat} {q : Nat × Nat} (h : Rim a b q) : Rim a b (nx a b q) := by
  obtain ⟨u, v⟩ := q
  unfold Rim at h ⊢
  simp only at h
  rcases nx_cases a b u v with ⟨h1, h2⟩ | ⟨h1, h2, h3⟩ | ⟨h1, h2, h3⟩
  · rw [h2]; exact ⟨⟨h.1.1, Nat.zero_le _⟩, .inr (.inr (.inl rfl))⟩
  · rw [h3]; exact ⟨⟨Nat.le_refl _, h.1.2⟩, .inr (.inl rfl)⟩
  · rw [h3]; simp only; omega
theorem rim_sq (a b : Nat) : ∀ i, Rim a b (sq a b i)
  | 0 => ⟨⟨Nat.zero_le _, Nat.zero_le _⟩, .inl rfl⟩
  | i + 1 => by rw [sq_succ]; exact rim_nx (rim_sq a b i)
/-- The six moves, one by one. -/
theorem mv_lem {a b s o p1 p2 n1 n2 u v t w : Nat} (hm : Mv a b u v t w)
    (h1 : (a = p1 ∧ v = p2) ∨ (v = b) ∨ (v = 0) ∨ (a = s ∧ v = o) ∨ (a = n1 ∧ v = n2))
    (h2 : (u = p1 ∧ b = p2) ∨ (u = a) ∨ (u = 0) ∨ (u = s ∧ b = o) ∨ (u = n1 ∧ b = n2))
    (h3 : (0 = p1 ∧ v = p2) ∨ (v = b) ∨ (v = 0) ∨ (0 = s ∧ v = o) ∨ (0 = n1 ∧ v = n2))
    (h4 : (u = p1 ∧ 0 = p2) ∨ (u = a) ∨ (u = 0) ∨ (u = s ∧ 0 = o) ∨ (u = n1 ∧ 0 = n2))
    (h5 : ∀ x y, x = u - min u (b - v) → y = v + min u (b - v) → (x = s ∧ y = o) ∨ (x = p1 ∧ y = p2) ∨ (x = n1 ∧ y = n2))
    (h6 : ∀ x y, x = u + min v (a - u) → y = v - min v (a - u) → (x = s ∧ y = o) ∨ (x = p1 ∧ y = p2) ∨ (x = n1 ∧ y = n2)) :
    (t = a ∧ w = b) ∨ (t = 0 ∧ w = b) ∨ (t = a ∧ w = 0) ∨ (t = 0 ∧ w = 0) ∨ (t = s ∧ w = o) ∨ (t = p1 ∧ w = p2) ∨ (t = n1 ∧ w = n2) := by
  rcases hm with ⟨rfl, rfl⟩ | ⟨rfl, rfl⟩ | ⟨rfl, rfl⟩ | ⟨rfl, rfl⟩ | ⟨e1, e2⟩ | ⟨e1, e2⟩
  · rcases h1 with h | rfl | rfl | h | h
    · exact .inr (.inr (.inr (.inr (.inr (.inl h)))))
    · exact .inl ⟨rfl, rfl⟩
    · exact .inr (.inr (.inl ⟨rfl, rfl⟩))
    · exact .inr (.inr (.inr (.inr (.inl h))))
    · exact .inr (.inr (.inr (.inr (.inr (.inr h)))))
  · rcases h2 with h | rfl | rfl | h | h
    · exact .inr (.inr (.inr (.inr (.inr (.inl h)))))
    · exact .inl ⟨rfl, rfl⟩
    · exact .inr (.inl ⟨rfl, rfl⟩)
    · exact .inr (.inr (.inr (.inr (.inl h))))
    · exact .inr (.inr (.inr (.inr (.inr (.inr h)))))
  · rcases h3 with h | rfl | rfl | h | h
    · exact .inr (.inr (.inr (.inr (.inr (.inl h)))))
    · exact .inr (.inl ⟨rfl, rfl⟩)
    · exact .inr (.inr (.inr (.inl ⟨rfl, rfl⟩)))
    · exact .inr (.inr (.inr (.inr (.inl h))))
    · exact .inr (.inr (.inr (.inr (.inr (.inr h)))))
  · rcases h4 with h | rfl | rfl | h | h
    · exact .inr (.inr (.inr (.inr (.inr (.inl h)))))
    · exact .inr (.inr (.inl ⟨rfl, rfl⟩))
    · exact .inr (.inr (.inr (.inl ⟨rfl, rfl⟩)))
    · exact .inr (.inr (.inr (.inr (.inl h))))
    · exact .inr (.inr (.inr (.inr (.inr (.inr h)))))
  · rcases h5 t w e1 e2 with h | h | h
    · exact .inr (.inr (.inr (.inr (.inl h))))
    · exact .inr (.inr (.inr (.inr (.inr (.inl h)))))
    · exact .inr (.inr (.inr (.inr (.inr (.inr h)))))
  · rcases h6 t w e1 e2 with h | h | h
    · exact .inr (.inr (.inr (.inr (.inl h))))
    · exact .inr (.inr (.inr (.inr (.inr (.inl h)))))
    · exact .inr (.inr (.inr (.inr (.inr (.inr h)))))
theorem mv_rim {a b s o : Nat} (ha : 1 ≤ a) (hb : 1 ≤ b) (h : Rim a b (s, o)) {t w : Nat} (hm : Mv a b (nx a b (s, o)).1 (nx a b (s, o)).2 t w) :
    (t = a ∧ w = b) ∨ (t = 0 ∧ w = b) ∨ (t = a ∧ w = 0) ∨ (t = 0 ∧ w = 0) ∨ (t = s ∧ w = o) ∨ (t = (nx a b (s, o)).1 ∧ w = (nx a b (s, o)).2) ∨ (t = (nx a b (nx a b (s, o))).1 ∧ w = (nx a b (nx a b (s, o))).2) := by
  obtain ⟨⟨hs, ho⟩, hr⟩ := h
  simp only at hs ho hr
  rcases nx_cases a b s o with ⟨h1, h2⟩ | ⟨h1, h2, h3⟩ | ⟨h1, h2, h3⟩
  · rw [h2] at hm ⊢
    subst h1
    rcases nx_cases a o s 0 with ⟨g1, g2⟩ | ⟨g1, g2, g3⟩ | ⟨g1, g2, g3⟩
    · omega
    · rw [g3]
      subst g2
      exact mv_lem hm (.inr (.inr (.inl rfl))) (.inr (.inr (.inl rfl))) (.inr (.inr (.inl rfl))) (.inl ⟨rfl, rfl⟩) (fun x y e1 e2 => .inr (.inl (by simp only at e1 e2 ⊢; omega))) (fun x y e1 e2 => .inr (.inl (by simp only at e1 e2 ⊢; omega)))
    · rw [g3]
      exact mv_lem hm (.inr (.inr (.inl rfl))) (.inr (.inr (.inr (.inl ⟨rfl, rfl⟩)))) (.inr (.inr (.inl rfl))) (.inl ⟨rfl, rfl⟩) (fun x y e1 e2 => .inr (.inr ⟨e1, e2⟩)) (fun x y e1 e2 => .inr (.inl (by simp only at e1 e2 ⊢; omega)))
  · rw [h3] at hm ⊢
    subst h2
    rcases nx_cases a b a o with ⟨g1, g2⟩ | ⟨g1, g2, g3⟩ | ⟨g1, g2, g3⟩
    · omega
    · omega
    · rw [g3]
      exact mv_lem hm (.inl ⟨rfl, rfl⟩) (.inr (.inl rfl)) (.inr (.inr (.inr (.inl ⟨rfl, rfl⟩)))) (.inr (.inl rfl)) (fun x y e1 e2 => .inr (.inr ⟨e1, e2⟩)) (fun x y e1 e2 => .inr (.inl (by simp only at e1 e2 ⊢; omega)))
  · rw [h3] at hm ⊢
    rcases Nat.lt_or_ge (b - o) s with hc | hc
    · rw [show min s (b - o) = b - o from by omega, show o + (b - o) = b from by omega] at hm ⊢
      have g : nx a b (s - (b - o), b) = (s - (b - o), 0) := by unfold nx; rw [if_pos rfl]
      rw [g]
      exact mv_lem hm (.inr (.inl rfl)) (.inl ⟨rfl, rfl⟩) (.inr (.inl rfl)) (.inr (.inr (.inr (.inr ⟨rfl, rfl⟩)))) (fun x y e1 e2 => .inr (.inl (by simp only at e1 e2 ⊢; omega))) (fun x y e1 e2 => .inl (by
        simp only at e1 e2
        rcases (by omega : s = a ∨ o = 0) with rfl | rfl
        · omega
        · omega))
    · rw [show min s (b - o) = s from by omega, Nat.sub_self] at hm ⊢
      rcases nx_cases a b 0 (o + s) with ⟨g1, g2⟩ | ⟨g1, g2, g3⟩ | ⟨g1, g2, g3⟩
      · rw [g2]
        exact mv_lem hm (.inr (.inl g1)) (.inr (.inr (.inl rfl))) (.inr (.inl g1)) (.inr (.inr (.inl rfl))) (fun x y e1 e2 => .inr (.inl (by simp only at e1 e2 ⊢; omega))) (fun x y e1 e2 => .inl (by
          simp only at e1 e2
          rcases (by omega : s = a ∨ o = 0) with rfl | rfl
          · omega
          · omega))
      · rw [g3]
        exact mv_lem hm (.inr (.inr (.inr (.inr ⟨rfl, rfl⟩)))) (.inr (.inr (.inl rfl))) (.inl ⟨rfl, rfl⟩) (.inr (.inr (.inl rfl))) (fun x y e1 e2 => .inr (.inl (by simp only at e1 e2 ⊢; omega))) (fun x y e1 e2 => .inl (by
          simp only at e1 e2
          rcases (by omega : s = a ∨ o = 0) with rfl | rfl
          · omega
          · omega))
      · omega
theorem mv_sq {a b : Nat} (ha : 1 ≤ a) (hb : 1 ≤ b) (i : Nat) {t w : Nat} (hm : Mv a b (sq a b i).1 (sq a b i).2 t w) :
    (t = a ∧ w = b) ∨ (∃ j, j ≤ i + 1 ∧ sq a b j = (t, w)) ∨ (∃ j, j ≤ i + 1 ∧ sq b a j = (w, t)) := by
  have s1 : ∀ a b : Nat, 1 ≤ b → sq a b 1 = (a, 0) := fun a b hb => by
    show nx a b (0, 0) = _
    unfold nx; rw [if_neg (by simp only; omega), if_pos rfl]
  cases i with
  | zero =>
    simp only [sq, itn] at hm
    unfold Mv at hm
    have : (t = 0 ∧ w = 0) ∨ (t = a ∧ w = 0) ∨ (t = 0 ∧ w = b) := by omega
    rcases this with ⟨rfl, rfl⟩ | ⟨rfl, rfl⟩ | ⟨rfl, rfl⟩
    · exact .inr (.inl ⟨0, by omega, rfl⟩)
    · exact .inr (.inl ⟨1, by omega, s1 _ _ hb⟩)
    · exact .inr (.inr ⟨1, by omega, s1 _ _ ha⟩)
  | succ i =>
    have hr := rim_sq a b i
    have h0 := sq_succ a b i
    have h1 := sq_succ a b (i + 1)
    obtain ⟨⟨s, o⟩, hs⟩ : ∃ q, sq a b i = q := ⟨_, rfl⟩
    rw [hs] at hr h0
    rw [h0] at hm h1
    rcases mv_rim ha hb hr hm with h | ⟨rfl, rfl⟩ | ⟨rfl, rfl⟩ | ⟨rfl, rfl⟩ | ⟨rfl, rfl⟩ | ⟨rfl, rfl⟩ | ⟨rfl, rfl⟩
    · exact .inl h
    · exact .inr (.inr ⟨1, by omega, s1 _ _ ha⟩)
    · exact .inr (.inl ⟨1, by omega, s1 _ _ hb⟩)
    · exact .inr (.inl ⟨0, by omega, rfl⟩)
    · exact .inr (.inl ⟨i, by omega, hs⟩)
    · exact .inr (.inl ⟨i + 1, by omega, h0⟩)
    · exact .inr (.inl ⟨i + 2, by omega, h1⟩)
/-- What is known after d steps. -/
def Kn (a b d u v : Nat) : Prop := (u = a ∧ v = b ∧ 1 ≤ d) ∨ (∃ j, j ≤ d ∧ sq a b j = (u, v)) ∨ (∃ j, j ≤ d ∧ sq b a j = (v, u))
theorem Kn.step {a b d u v t w : Nat} (ha : 1 ≤ a) (hb : 1 ≤ b) (h : Kn a b d u v) (hm : Mv a b u v t w) : Kn a b (d + 1) t w := by
  have s1 : ∀ a b : Nat, 1 ≤ b → sq a b 1 = (a, 0) := fun a b hb => by
    show nx a b (0, 0) = _
    unfold nx; rw [if_neg (by simp only; omega), if_pos rfl]
  rcases h with ⟨rfl, rfl, h⟩ | ⟨j, hj, h⟩ | ⟨j, hj, h⟩
  · unfold Mv at hm
    have : (t = u ∧ w = v) ∨ (t = u ∧ w = 0) ∨ (t = 0 ∧ w = v) := by omega
    rcases this with ⟨rfl, rfl⟩ | ⟨rfl, rfl⟩ | ⟨rfl, rfl⟩
    · exact .inl ⟨rfl, rfl, by omega⟩
    · exact .inr (.inl ⟨1, by omega, s1 _ _ hb⟩)
    · exact .inr (.inr ⟨1, by omega, s1 _ _ ha⟩)
  · have := mv_sq ha hb j (t := t) (w := w) (by rw [h]; exact hm)
    rcases this with ⟨h1, h2⟩ | ⟨k, hk, h1⟩ | ⟨k, hk, h1⟩
    · exact .inl ⟨h1, h2, by omega⟩
    · exact .inr (.inl ⟨k, by omega, h1⟩)
    · exact .inr (.inr ⟨k, by omega, h1⟩)
  · have := mv_sq hb ha j (t := w) (w := t) (by rw [h]; exact hm.swap)
    rcases this with ⟨h1, h2⟩ | ⟨k, hk, h1⟩ | ⟨k, hk, h1⟩
    · exact .inl ⟨h2, h1, by omega⟩
    · exact .inr (.inr ⟨k, by omega, h1⟩)
    · exact .inr (.inl ⟨k, by omega, h1⟩)
theorem step_mv {a b u v : Nat} (hu : u ≤ a) (hv : v ≤ b) {p q : Int} (h : isR 2 p q = true) : ∃ t w : Nat, stepR [(a : Int), (b : Int)] [(u : Int), (v : Int)] p q = [(t : Int), (w : Int)] ∧ Mv a b u v t w := by
  have hb := isR_bd h
  have hp : p = -1 ∨ p = 0 ∨ p = 1 := by omega
  have hq : q = -1 ∨ q = 0 ∨ q = 1 := by omega
  have hne := hb.2.2
  have e1 : ∀ x y : Int, atQ [x, y] 0 = x := fun x y => rfl
  have e2 : ∀ x y : Int, atQ [x, y] 1 = y := fun x y => rfl
  have t0 : Int.toNat 0 = 0 := rfl
  have t1 : Int.toNat 1 = 1 := rfl
  rcases hp with rfl | rfl | rfl <;> rcases hq with rfl | rfl | rfl
  · exact absurd rfl hne
  · exact ⟨a, v, by simp [stepR, t0, e1], .inl ⟨rfl, rfl⟩⟩
  · exact ⟨u, b, by simp [stepR, t1, e2], .inr (.inl ⟨rfl, rfl⟩)⟩
  · exact ⟨0, v, by simp [stepR, t0], .inr (.inr (.inl ⟨rfl, rfl⟩))⟩
  · exact absurd rfl hne
  · refine ⟨u - min u (b - v), v + min u (b - v), ?_, .inr (.inr (.inr (.inr (.inl ⟨rfl, rfl⟩))))⟩
    simp only [stepR, e1, e2, t0, t1]
    simp
    omega
  · exact ⟨u, 0, by simp [stepR, t1], .inr (.inr (.inr (.inl ⟨rfl, rfl⟩)))⟩
  · refine ⟨u + min v (a - u), v - min v (a - u), ?_, .inr (.inr (.inr (.inr (.inr ⟨rfl, rfl⟩))))⟩
    simp only [stepR, e1, e2, t0, t1]
    simp
    omega
  · exact absurd rfl hne
theorem good_kn {a b : Nat} (ha : 1 ≤ a) (hb : 1 ≤ b) {L : List En} (G : Good [(a : Int), (b : Int)] false (zeroJ [(a : Int), (b : Int)]) L) (hf : ∀ e ∈ L, fillB [(a : Int), (b : Int)] e.g = true) :
    ∀ (k : Nat) (e : En), L[k]? = some e → ∃ u v : Nat, e.g = [(u : Int), (v : Int)] ∧ Kn a b e.d u v := by
  intro k
  induction k using Nat.strongRecOn with
  | _ k ih =>
    intro e he
    rcases Nat.eq_zero_or_pos k with h | h
    · subst h
      rw [G.root] at he; cases he
      exact ⟨0, 0, rfl, .inr (.inl ⟨0, Nat.le_refl _, rfl⟩)⟩
    · obtain ⟨j, e', h1, h2, h3, h4, h5⟩ := G.par k e he h
      obtain ⟨u, v, h6, h7⟩ := ih j h1 e' h2
      obtain ⟨s1, s2, _, _⟩ := succ_mem h5
      have hfe := (fillB_iff _ _).1 (hf _ (List.mem_of_getElem? h2))
      rw [h6] at hfe s2
      have hu := hfe.2 0 (by simp) (by simp)
      have hv := hfe.2 1 (by simp) (by simp)
      simp at hu hv
      obtain ⟨t, w, h8, h9⟩ := step_mv hu hv s1
      exact ⟨t, w, by rw [show e.g = _ from s2]; exact h8, by rw [h4]; exact h7.step ha hb h9⟩
/-- A walk of k steps leads to something that is known after at most k. -/
theorem walk_le {x f : List Int} (hf : fillB x f = true) {N : Nat} (hN : N = (bf x f false N).length) (hj : ∀ j, j < N → j < (bf x f false j).length) {g g' : List Int} {p q : Int} {d : Nat}
    (h : ∃ e ∈ bf x f false N, e.g = g ∧ e.d ≤ d) (hs : isR x.length p q = true) (hg : stepR x g p q = g') : ∃ e ∈ bf x f false N, e.g = g' ∧ e.d ≤ d + 1 := by
  obtain ⟨e, he, rfl, hd⟩ := h
  subst hg
  by_cases hne : stepR x e.g p q = e.g
  · exact ⟨e, he, hne.symm, by omega⟩
  obtain ⟨k, hk, hke⟩ := List.mem_iff_getElem.1 he
  have hkN : k < N := by omega
  have h1 := hj k hkN
  have h2 := bf_get (j := N) (by omega) (List.getElem?_eq_getElem h1)
  rw [List.getElem?_eq_getElem hk, hke] at h2
  obtain ⟨k', e', h3, h4, h5⟩ := succ_in (List.getElem?_eq_getElem h1) (s := ((p, q), stepR x e.g p q)) (by rw [← Option.some.inj h2]; exact mem_succs hs hne (fun h => by cases h))
  rw [← Option.some.inj h2] at h5
  exact ⟨e', List.mem_of_getElem? (bf_get (j := N) (by omega) h3), h4, by omega⟩
theorem fE_le {L : List En} (hr : Rise L) {v : Int} {e : En} (he : e ∈ L) (hv : v ∈ e.g) : 0 ≤ fE (amtP L) v ∧ fE (amtP L) v ≤ e.d := by
  obtain ⟨k, hk, hke⟩ := List.mem_iff_getElem.1 he
  obtain ⟨i, hi, hno⟩ := least (P := fun i => ∃ e', L[i]? = some e' ∧ v ∈ e'.g) ⟨k, e, by rw [List.getElem?_eq_getElem hk, hke], hv⟩
  obtain ⟨e', h1, h2⟩ := hi
  have hik : i ≤ k := by
    rcases Nat.lt_or_ge k i with h | h
    · exact absurd ⟨e, by rw [List.getElem?_eq_getElem hk, hke], hv⟩ (hno k h)
    · exact h
  rw [fE_at h1 h2 fun j e'' hj hj' hv' => hno j hj ⟨e'', hj', hv'⟩]
  have := hr i k e' e hik h1 (by rw [List.getElem?_eq_getElem hk, hke])
  omega
/-- The least number of steps is that of the shorter one of the two ways. -/
theorem two_fewest {a b m N1 N2 : Nat} (ha : 1 ≤ a ∧ a ≤ 12) (hb : 1 ≤ b ∧ b ≤ 12) (h1 : hit a b m N1) (h2 : hit b a m N2) (hno1 : ∀ k, k < N1 → ¬hit a b m k) (hno2 : ∀ k, k < N2 → ¬hit b a m k)
    {N : Nat} (hx : okJ [(a : Int), (b : Int)]) (hN : N = (bf [(a : Int), (b : Int)] (zeroJ [(a : Int), (b : Int)]) false N).length) (hj : ∀ j, j < N → j < (bf [(a : Int), (b : Int)] (zeroJ [(a : Int), (b : Int)]) false j).length) :
    fE (amtP (bf [(a : Int), (b : Int)] (zeroJ [(a : Int), (b : Int)]) false N)) m = ((min N1 N2 : Nat) : Int) := by
  have hf := zeroJ_fill hx
  have G := bf_good (c := false) hf N
  have hR := (bf_rise (x := [(a : Int), (b : Int)]) (f0 := zeroJ [(a : Int), (b : Int)]) (c := false) N).1
  have hgf : ∀ e ∈ bf [(a : Int), (b : Int)] (zeroJ [(a : Int), (b : Int)]) false N, fillB [(a : Int), (b : Int)] e.g = true := fun e he => G.gfill hf he
  have root : ∃ e ∈ bf [(a : Int), (b : Int)] (zeroJ [(a : Int), (b : Int)]) false N, e.g = zeroJ [(a : Int), (b : Int)] ∧ e.d ≤ 0 := ⟨_, List.mem_of_getElem? G.root, rfl, Nat.le_refl _⟩
  have w1 : ∀ n, ∃ e ∈ bf [(a : Int), (b : Int)] (zeroJ [(a : Int), (b : Int)]) false N, e.g = cf true (sq a b n) ∧ e.d ≤ n := by
    intro n
    induction n with
    | zero => exact root
    | succ n ih =>
      have := step_nx a b (sq a b n) true (sq_bd a b n)
      rw [← sq_succ] at this
      exact walk_le hf hN hj ih (lab_ok true b (sq a b n)) this
  have w2 : ∀ n, ∃ e ∈ bf [(a : Int), (b : Int)] (zeroJ [(a : Int), (b : Int)]) false N, e.g = cf false (sq b a n) ∧ e.d ≤ n := by
    intro n
    induction n with
    | zero => exact root
    | succ n ih =>
      have := step_nx b a (sq b a n) false (sq_bd b a n)
      rw [← sq_succ] at this
      exact walk_le hf hN hj ih (lab_ok false a (sq b a n)) this
  obtain ⟨e1, he1, hg1, hd1⟩ := w1 N1
  obtain ⟨e2, he2, hg2, hd2⟩ := w2 N2
  have m1 : (m : Int) ∈ e1.g := by
    rw [hg1]; simp only [cf, if_true]
    rcases h1 with h | h
    · rw [h]; simp
    · rw [h]; simp
  have m2 : (m : Int) ∈ e2.g := by
    rw [hg2]; simp only [cf, Bool.false_eq_true, if_false]
    rcases h2 with h | h
    · rw [h]; simp
    · rw [h]; simp
  obtain ⟨l0, l1⟩ := fE_le hR he1 m1
  obtain ⟨_, l2⟩ := fE_le hR he2 m2
  obtain ⟨e, he, hv⟩ := fE_nonneg.1 l0
  have hup : fE (amtP (bf [(a : Int), (b : Int)] (zeroJ [(a : Int), (b : Int)]) false N)) m ≤ (min N1 N2 : Nat) := by omega
  obtain ⟨i, hi, hno⟩ := least (P := fun i => ∃ e', (bf [(a : Int), (b : Int)] (zeroJ [(a : Int), (b : Int)]) false N)[i]? = some e' ∧ (m : Int) ∈ e'.g) (by
    obtain ⟨k, hk, hke⟩ := List.mem_iff_getElem.1 he
    exact ⟨k, e, by rw [List.getElem?_eq_getElem hk, hke], hv⟩)
  obtain ⟨e', h3, h4⟩ := hi
  have hfe := fE_at h3 h4 fun j e'' hj hj' hv' => hno j hj ⟨e'', hj', hv'⟩
  obtain ⟨u, v, h5, h6⟩ := good_kn ha.1 hb.1 G hgf i e' h3
  rw [h5] at h4
  have h4 : m = u ∨ m = v := by
    rcases List.mem_cons.1 h4 with h | h
    · left; omega
    · right; have := List.mem_singleton.1 h; omega
  have s1 : ∀ a b : Nat, 1 ≤ b → sq a b 1 = (a, 0) := fun a b hb => by
    show nx a b (0, 0) = _
    unfold nx; rw [if_neg (by simp only; omega), if_pos rfl]
  have low : min N1 N2 ≤ e'.d := by
    have p1 : ∀ j, hit a b m j → N1 ≤ j := fun j h => Nat.le_of_not_lt fun hl => hno1 j hl h
    have p2 : ∀ j, hit b a m j → N2 ≤ j := fun j h => Nat.le_of_not_lt fun hl => hno2 j hl h
    rcases h6 with ⟨rfl, rfl, h7⟩ | ⟨j, hj, h7⟩ | ⟨j, hj, h7⟩
    · rcases h4 with rfl | rfl
      · have := p1 1 (.inl (by rw [s1 _ _ hb.1])); omega
      · have := p2 1 (.inl (by rw [s1 _ _ ha.1])); omega
    · have := p1 j (by unfold hit; rw [h7]; simp only; omega); omega
    · have := p2 j (by unfold hit; rw [h7]; simp only; omega); omega
  omega
end Go.Ab.Jug

namespace Go.Ab.Jug
open Go.Ab.V
set_option maxRecDepth 100000
theorem okJ2 {a b : Nat} (ha : 1 ≤ a ∧ a ≤ 12) (hb : 1 ≤ b ∧ b ≤ 12) : okJ [(a : Int), (b : Int)] := by
  rw [okJ_iff]
  refine ⟨fun x hx => ?_, by simp, by simp⟩
  rcases List.mem_cons.1 hx with rfl | hx
  · omega
  · rw [List.mem_singleton.1 hx]; omega
theorem lab3 (b : Nat) (q : Nat × Nat) : ((lab true b q).1 = 1 ∧ (lab true b q).2 = -1 ∧ (lab false b q).1 = 0 ∧ (lab false b q).2 = -1) ∨ ((lab true b q).1 = -1 ∧ (lab true b q).2 = 0 ∧ (lab false b q).1 = -1 ∧ (lab false b q).2 = 1) ∨ ((lab true b q).1 = 0 ∧ (lab true b q).2 = 1 ∧ (lab false b q).1 = 1 ∧ (lab false b q).2 = 0) := by
  unfold lab
  by_cases h : q.2 = b
  · rw [if_pos h, if_pos h]; left; exact ⟨rfl, rfl, rfl, rfl⟩
  · by_cases h2 : q.1 = 0
    · rw [if_neg h, if_neg h, if_pos h2, if_pos h2]; right; left; exact ⟨rfl, rfl, rfl, rfl⟩
    · rw [if_neg h, if_neg h, if_neg h2, if_neg h2]; right; right; exact ⟨rfl, rfl, rfl, rfl⟩
theorem Fewest2_ok {a b m : Nat} (ha : 1 ≤ a ∧ a ≤ 12) (hb : 1 ≤ b ∧ b ≤ 12) (hm : m ≤ max a b) {N1 N2 : Nat} (h1 : hit a b m N1) (h2 : hit b a m N2) (hno1 : ∀ k, k < N1 → ¬hit a b m k) (hno2 : ∀ k, k < N2 → ¬hit b a m k) :
    VCall cfg 31 [sl1 [(a : Int), (b : Int)], vi m] [] [] (.tup [vi ((min N1 N2 : Nat) : Int), vb true, vi 0]) [] := by
  have hx := okJ2 ha hb
  have hf := zeroJ_fill hx
  obtain ⟨N, hN, hj⟩ := bf_end (c := false) hx hf
  obtain ⟨M, fb, out, hS⟩ := search_ends (c := false) hx hf fun g => decide ((m : Int) ∈ g)
  have k := Fewest_ok _ (m : Int) _ fb 0 (measured_ok _ (m : Int) hx (by omega) M fb out hS)
  have hfe := two_fewest ha hb h1 h2 hno1 hno2 hx hN hj
  obtain ⟨g1, g2⟩ := srch_amt hx hN hj hS
  cases hfb : fb with
  | true =>
    have := (g1 hfb).1
    rw [hfb] at k
    rw [show ((min N1 N2 : Nat) : Int) = (wayOf [(a : Int), (b : Int)] (zeroJ [(a : Int), (b : Int)]) false M true).length from by rw [← hfb]; omega]
    exact k
  | false =>
    have := (g2 hfb).1
    omega
theorem Fewest2_un {a b m : Nat} (ha : 1 ≤ a ∧ a ≤ 12) (hb : 1 ≤ b ∧ b ≤ 12) (hm : m ≤ max a b) (hd : ¬m % Nat.gcd a b = 0) :
    VCall cfg 31 [sl1 [(a : Int), (b : Int)], vi m] [] [] (.tup [vi 0, vb false, vi 0]) [] := by
  have hx := okJ2 ha hb
  have hf := zeroJ_fill hx
  obtain ⟨N, hN, hj⟩ := bf_end (c := false) hx hf
  obtain ⟨M, fb, out, hS⟩ := search_ends (c := false) hx hf fun g => decide ((m : Int) ∈ g)
  have k := Fewest_ok _ (m : Int) _ fb 0 (measured_ok _ (m : Int) hx (by omega) M fb out hS)
  have hi := amt_iff hx hN hj m
  rw [gcd2] at hi
  obtain ⟨g1, g2⟩ := srch_amt hx hN hj hS
  cases hfb : fb with
  | true =>
    have := (g1 hfb).1
    have := (hi.1 (by omega)).2
    exact absurd (Nat.mod_eq_zero_of_dvd this) hd
  | false =>
    have := (g2 hfb).2
    rw [hfb] at this k
    rw [this] at k
    exact k
theorem wayU_get (l : Nat → Int × Int) (n i : Nat) (h : i < (wayU l n).length) : (wayU l n)[i] = l i := by simp [wayU]
set_option maxHeartbeats 8000000 in
theorem fewest_law (a b m : Int) : VCall cfg 7 [vi a, vi b, vi m] [] [] (vb true) [] := by
  have hx1 : 1 ≤ 1 + a % 18446744073709551616 % 12 ∧ 1 + a % 18446744073709551616 % 12 ≤ 12 := by omega
  have hx2 : 1 ≤ 1 + b % 18446744073709551616 % 12 ∧ 1 + b % 18446744073709551616 % 12 ≤ 12 := by omega
  have hx3 : 0 ≤ m % 18446744073709551616 := Int.emod_nonneg _ (by decide)
  have hz0 : 0 ≤ m % 18446744073709551616 % ((max (1 + a % 18446744073709551616 % 12) (1 + b % 18446744073709551616 % 12) + 1) % 18446744073709551616) := Int.emod_nonneg _ (by omega)
  have hz1 : m % 18446744073709551616 % ((max (1 + a % 18446744073709551616 % 12) (1 + b % 18446744073709551616 % 12) + 1) % 18446744073709551616) < (max (1 + a % 18446744073709551616 % 12) (1 + b % 18446744073709551616 % 12) + 1) := Int.lt_of_lt_of_le (Int.emod_lt_of_pos _ (by omega)) (by omega)
  (refine VCall.mk (fn := a7) rfl rfl rfl ?_; simp only [a7, inV, mkB, nmsL, PT.set])
  (repeat (first | refine VC.seq ?_ | refine VC.block ?_ | refine VC.kill ?_ | refine VC.skip ?_ | refine VC.exit ?_ | refine VC.regA ?_ | refine VC.condT ?_ | refine VC.condF ?_))
  generalize 1 + a % 18446744073709551616 % 12 = a1 at *
  generalize 1 + b % 18446744073709551616 % 12 = b1 at *
  obtain ⟨A, rfl⟩ := Int.eq_ofNat_of_zero_le (show 0 ≤ a1 by omega)
  obtain ⟨B, rfl⟩ := Int.eq_ofNat_of_zero_le (show 0 ≤ b1 by omega)
  generalize m % 18446744073709551616 % ((max (A : Int) (B : Int) + 1) % 18446744073709551616) = m1 at *
  obtain ⟨M, rfl⟩ := Int.eq_ofNat_of_zero_le hz0
  have hM : M ≤ max A B := by omega
  have hT : okT A B M := by unfold okT; omega
  have hT' : okT B A M := by unfold okT; omega
  by_cases hd : M % Nat.gcd A B = 0
  · have hd' : M % Nat.gcd B A = 0 := by rw [Nat.gcd_comm]; exact hd
    obtain ⟨N1, hN1, hno1, hb1⟩ := hits2 (by omega) (by omega) hM hd true
    obtain ⟨N2, hN2, hno2, hb2⟩ := hits2 (by omega) (by omega) hM hd false
    have k1 := Two_ok A B M N1 N2 hT hd hb1 hN1 hno1 hb2 hN2 hno2
    have k3 := Two_ok B A M N2 N1 hT' hd' hb2 hN2 hno2 hb1 hN1 hno1
    rw [Nat.min_comm N2 N1] at k3
    have k2 := Fewest2_ok (a := A) (b := B) (m := M) (by omega) (by omega) hM (N1 := N1) (N2 := N2) hN1 hN2 hno1 hno2
    have k4 := TwoWay_ok A B M true N1 hT hd hb1 hN1 hno1
    have k5 := TwoWay_ok B A M false N1 hT' hd' hb1 hN1 hno1
    have l1 := wayU_len (lT A B true) N1
    have l2 := wayU_len (lT B A false) N1
    have e1 : ∀ (i : Nat) (h : i < (wayU (lT A B true) N1).length), (wayU (lT A B true) N1)[i] = lab true B (sq A B i) := fun i h => wayU_get _ _ _ h
    have e2 : ∀ (i : Nat) (h : i < (wayU (lT B A false) N1).length), (wayU (lT B A false) N1)[i] = lab false B (sq A B i) := fun i h => wayU_get _ _ _ h
    generalize wayU (lT A B true) N1 = W at *
    generalize wayU (lT B A false) N1 = V at *
    have hmn : min N1 N2 ≤ N1 := Nat.min_le_left _ _
    generalize min N1 N2 = n at *
    have hg : ∀ (i : Nat) (h : i < W.length) (h' : i < V.length), (W[i].1 = 1 ∧ W[i].2 = -1 ∧ V[i].1 = 0 ∧ V[i].2 = -1) ∨ (W[i].1 = -1 ∧ W[i].2 = 0 ∧ V[i].1 = -1 ∧ V[i].2 = 1) ∨ (W[i].1 = 0 ∧ W[i].2 = 1 ∧ V[i].1 = 1 ∧ V[i].2 = 0) := fun i h h' => by
      rw [e1 i h, e2 i h']; exact lab3 B (sq A B i)
    clear e1 e2 hN1 hN2 hno1 hno2 hd hd' hT hT' hz1 hz0 hx3
    (refine VC.regCA ?_; refine VO.moreA ?_; refine VO.call0A (no_orc _ (by decide)) k1 ?_; refine VO.endA ?_; (repeat (first | refine VC.seq ?_ | refine VC.block ?_ | refine VC.kill ?_ | refine VC.skip ?_ | refine VC.exit ?_ | refine VC.regA ?_ | refine VC.condT ?_ | refine VC.condF ?_)))
    refine VC.regCA ?_
    refine VO.moreA ?_
    refine VO.frzA p54 ?_
    refine VO.call0A (no_orc 31 (by decide)) k2 ?_
    refine VO.endA ?_
    (repeat (first | refine VC.seq ?_ | refine VC.block ?_ | refine VC.kill ?_ | refine VC.skip ?_ | refine VC.exit ?_ | refine VC.regA ?_ | refine VC.condT ?_ | refine VC.condF ?_))
    (refine VC.regCA ?_; refine VO.moreA ?_; refine VO.call0A (no_orc _ (by decide)) k3 ?_; refine VO.endA ?_; (repeat (first | refine VC.seq ?_ | refine VC.block ?_ | refine VC.kill ?_ | refine VC.skip ?_ | refine VC.exit ?_ | refine VC.regA ?_ | refine VC.condT ?_ | refine VC.condF ?_)))
    (refine VC.regCA ?_; refine VO.moreA ?_; refine VO.call0A (no_orc _ (by decide)) k4 ?_; refine VO.endA ?_; (repeat (first | refine VC.seq ?_ | refine VC.block ?_ | refine VC.kill ?_ | refine VC.skip ?_ | refine VC.exit ?_ | refine VC.regA ?_ | refine VC.condT ?_ | refine VC.condF ?_)))
    (refine VC.regCA ?_; refine VO.moreA ?_; refine VO.call0A (no_orc _ (by decide)) k5 ?_; refine VO.endA ?_; (repeat (first | refine VC.seq ?_ | refine VC.block ?_ | refine VC.kill ?_ | refine VC.skip ?_ | refine VC.exit ?_ | refine VC.regA ?_ | refine VC.condT ?_ | refine VC.condF ?_)))
    ((try (apply VC.regU; · ((simp (config := {decide := false, maxSteps := 1000000}) (disch := omega) only [vev_call, putC_c0, putC_n0, putC_cs, ble0, List.getElem?_cons_zero, List.getElem?_cons_succ, runU, isCall, wantV, vev, evV, ofVal, ofAtom, atomB, cond_true, cond_false, PT.get, PT.set, PT.filt, PT.map, Option.getD_some, Option.getD_none, ret1V, ret1X, v_ld, v_ias, v_iad, v_fad, v_slsl, v_slarr, v_st, v_app, v_cpy, v_len, v_look, v_mset, elsV, partV, newV, free, atV, atI, atL, toVal, cellsV, okV, VSt.put, VSt.kill, VSt.alloc, VSt.frz, VSt.adopt, noref, norefB, deadB, deadV, nos, nm, nmL, nmB, nmE, Pa.eqb, Bool.not_false, Bool.not_true, Bool.and_true, Bool.true_and, Bool.false_and, Bool.and_false, bin, intOps, intBin, cvt, un, goInt, bndsV, bndV, Option.map_some, Option.map_none, List.map_cons, List.map_nil, Int.toNat_natCast, Nat.mul_one, Nat.zero_add, beq_true, beq_false, beq_self_eq_true, List.length_map, List.length_cons, List.length_nil, List.length_append, fillV, pEvV, repsV, List.append_nil, List.nil_append, if_pos, if_neg, reduceIte, List.getElem?_map, List.getElem?_drop, Nat.add_zero, List.getElem?_eq_getElem, Go.IntWalk.i64_in, wrap_u64, tmod_pos, eq_self, true_and, and_true, and_self, List.all_cons, List.all_nil, nmL_vi, flV_len, flP_len, flV_nm, flV_ok, flV_pv, flP_map, drop_flP, drop_flV, putC_flV, eqV2, eqV3, bneT, bneF, decide_true, decide_false, frzL_vi, frzL_flV, nmE_ag, nmE_at, frzE_ag, frzE_at, ofAg_len, ofAt_len, atL_vi, nmL_map_p, frzL_map_p, okL_p, toPVs_p, repsZ, nmL_reps, putC_vi, get_flV0, get_flV1, Int.toNat_zero, Int.toNat_one, Int.reduceToNat, eqV_slice, eqV_ptr, eqV_func, nilS, nilP, nilF, nmL_append, okL_vi, toPVs_vi, toPVs, toPV, frzV, frzL, frzB, resVV, vi, vb, nilV, sl1, bl1, pi, foldV, max2, min2, max_eq, min_eq, Int.tdiv_eq_ediv_of_nonneg, Int.cast_ofNat_Int, Option.isSome_none, Option.isSome_some, Option.isNone_none, Option.isNone_some, and_false, false_and, sl2, sl1P, slP, min_cast, take_map_pi, map_pi, Nat.sub_zero, Nat.zero_mul, List.length_take, decide_eq_true, decide_eq_false, Bool.true_eq_false, Bool.false_eq_true, beqT, beqF, ibeq, ibne, List.take_zero, List.take_succ_cons, List.drop_zero, List.drop_succ_cons, List.drop_nil, List.take_nil, List.cons_append, Bool.not_true, Bool.not_false, eqVb]); rfl))); (repeat (first | refine VC.seq ?_ | refine VC.block ?_ | refine VC.kill ?_ | refine VC.skip ?_ | refine VC.exit ?_ | refine VC.regA ?_ | refine VC.condT ?_ | refine VC.condF ?_)))
    refine VC.loopG (fun (j : Nat) => ⟨inV [p16, p19, p22] [slP W, slP V, vi j] .lf, .lf, [], none⟩) (fun n j => n = W.length - j ∧ j ≤ W.length) (x := 0) ?_ ⟨rfl, Nat.zero_le _⟩ ?_
    · (apply Go.Ab.V.G.weak; constructor <;> simp (config := {decide := true}) only [PT.Le, inV, mkB, PT.set, VSt.kill, VSt.adopt, VSt.alloc, PT.filt, PT.map, List.map_cons, List.map_nil, noref, norefB, deadB, deadV, nos, nm, nmL, nmB, nmE, Pa.eqb, cond_true, cond_false, Bool.not_true, Bool.not_false, Bool.and_true, Bool.true_and, nmL_vi, flV_len, flP_len, flV_nm, flV_ok, flV_pv, flP_map, drop_flP, drop_flV, putC_flV, eqV2, eqV3, bneT, bneF, decide_true, decide_false, frzL_vi, frzL_flV, nmE_ag, nmE_at, frzE_ag, frzE_at, ofAg_len, ofAt_len, atL_vi, nmL_map_p, frzL_map_p, okL_p, toPVs_p, repsZ, nmL_reps, putC_vi, get_flV0, get_flV1, Int.toNat_zero, Int.toNat_one, Int.reduceToNat, eqV_slice, eqV_ptr, eqV_func, nilS, nilP, nilF, nmL_append, true_or, or_true, and_self, true_and, and_true, Option.some.injEq, reduceCtorEq, false_or, or_false, VV.p.injEq, PV.at.injEq, Value.int.injEq, sl1, vi, bl1, vb, nilV, slP])
      (all_goals first | rfl | omega | exact ⟨rfl, by omega⟩)
    rintro q j ⟨hq, hj⟩
    simp only [inV, PT.set]
    (repeat (first | refine VC.seq ?_ | refine VC.block ?_ | refine VC.kill ?_ | refine VC.skip ?_ | refine VC.exit ?_ | refine VC.regA ?_ | refine VC.condT ?_ | refine VC.condF ?_))
    refine VC.condA ?_ ?_ <;> intro h <;> (simp only [decide_eq_true_eq, decide_eq_false_iff_not, bne_iff_ne, ne_eq, bne_eq_false_iff_eq, beq_iff_eq, beq_eq_false_iff_ne, Bool.not_eq_true', Bool.not_eq_false', Bool.and_eq_true, Bool.or_eq_true, Int.natCast_inj] at h)
    · have h : j < W.length := by omega
      have hv : j < V.length := by omega
      have hg := hg j h hv
      (repeat (first | refine VC.seq ?_ | refine VC.block ?_ | refine VC.kill ?_ | refine VC.skip ?_ | refine VC.exit ?_ | refine VC.regA ?_ | refine VC.condT ?_ | refine VC.condF ?_))
      refine VC.loopG (fun (p : Nat) => ⟨inV [p16, p19, p22, p23] [slP W, slP V, vi j, vi p] .lf, .lf, [], none⟩) (fun n p => n = 2 - p ∧ p ≤ 2) (x := 0) ?_ ⟨rfl, Nat.zero_le _⟩ ?_
      · (apply Go.Ab.V.G.weak; constructor <;> simp (config := {decide := true}) only [PT.Le, inV, mkB, PT.set, VSt.kill, VSt.adopt, VSt.alloc, PT.filt, PT.map, List.map_cons, List.map_nil, noref, norefB, deadB, deadV, nos, nm, nmL, nmB, nmE, Pa.eqb, cond_true, cond_false, Bool.not_true, Bool.not_false, Bool.and_true, Bool.true_and, nmL_vi, flV_len, flP_len, flV_nm, flV_ok, flV_pv, flP_map, drop_flP, drop_flV, putC_flV, eqV2, eqV3, bneT, bneF, decide_true, decide_false, frzL_vi, frzL_flV, nmE_ag, nmE_at, frzE_ag, frzE_at, ofAg_len, ofAt_len, atL_vi, nmL_map_p, frzL_map_p, okL_p, toPVs_p, repsZ, nmL_reps, putC_vi, get_flV0, get_flV1, Int.toNat_zero, Int.toNat_one, Int.reduceToNat, eqV_slice, eqV_ptr, eqV_func, nilS, nilP, nilF, nmL_append, true_or, or_true, and_self, true_and, and_true, Option.some.injEq, reduceCtorEq, false_or, or_false, VV.p.injEq, PV.at.injEq, Value.int.injEq, sl1, vi, bl1, vb, nilV, slP])
        (all_goals first | rfl | omega | exact ⟨rfl, by omega⟩)
      rintro q' p ⟨hq', hp⟩
      simp only [inV, PT.set]
      rcases (by omega : p = 0 ∨ p = 1 ∨ p = 2) with rfl | rfl | rfl
      · rcases hg with ⟨g1, g2, g3, g4⟩ | ⟨g1, g2, g3, g4⟩ | ⟨g1, g2, g3, g4⟩
        all_goals
          (repeat (first | refine VC.seq ?_ | refine VC.block ?_ | refine VC.kill ?_ | refine VC.skip ?_ | refine VC.exit ?_ | refine VC.regA ?_ | refine VC.condT ?_ | refine VC.condF ?_))
          refine ⟨_, 1, ?_, ⟨rfl, by omega⟩, ?_⟩
          · omega
          · (apply Go.Ab.V.G.weak; constructor <;> simp (config := {decide := true}) only [PT.Le, inV, mkB, PT.set, VSt.kill, VSt.adopt, VSt.alloc, PT.filt, PT.map, List.map_cons, List.map_nil, noref, norefB, deadB, deadV, nos, nm, nmL, nmB, nmE, Pa.eqb, cond_true, cond_false, Bool.not_true, Bool.not_false, Bool.and_true, Bool.true_and, nmL_vi, flV_len, flP_len, flV_nm, flV_ok, flV_pv, flP_map, drop_flP, drop_flV, putC_flV, eqV2, eqV3, bneT, bneF, decide_true, decide_false, frzL_vi, frzL_flV, nmE_ag, nmE_at, frzE_ag, frzE_at, ofAg_len, ofAt_len, atL_vi, nmL_map_p, frzL_map_p, okL_p, toPVs_p, repsZ, nmL_reps, putC_vi, get_flV0, get_flV1, Int.toNat_zero, Int.toNat_one, Int.reduceToNat, eqV_slice, eqV_ptr, eqV_func, nilS, nilP, nilF, nmL_append, true_or, or_true, and_self, true_and, and_true, Option.some.injEq, reduceCtorEq, false_or, or_false, VV.p.injEq, PV.at.injEq, Value.int.injEq, sl1, vi, bl1, vb, nilV, slP])
            (all_goals first | rfl | omega | exact ⟨rfl, by omega⟩)
      · rcases hg with ⟨g1, g2, g3, g4⟩ | ⟨g1, g2, g3, g4⟩ | ⟨g1, g2, g3, g4⟩
        all_goals
          (repeat (first | refine VC.seq ?_ | refine VC.block ?_ | refine VC.kill ?_ | refine VC.skip ?_ | refine VC.exit ?_ | refine VC.regA ?_ | refine VC.condT ?_ | refine VC.condF ?_))
          refine ⟨_, 2, ?_, ⟨rfl, by omega⟩, ?_⟩
          · omega
          · (apply Go.Ab.V.G.weak; constructor <;> simp (config := {decide := true}) only [PT.Le, inV, mkB, PT.set, VSt.kill, VSt.adopt, VSt.alloc, PT.filt, PT.map, List.map_cons, List.map_nil, noref, norefB, deadB, deadV, nos, nm, nmL, nmB, nmE, Pa.eqb, cond_true, cond_false, Bool.not_true, Bool.not_false, Bool.and_true, Bool.true_and, nmL_vi, flV_len, flP_len, flV_nm, flV_ok, flV_pv, flP_map, drop_flP, drop_flV, putC_flV, eqV2, eqV3, bneT, bneF, decide_true, decide_false, frzL_vi, frzL_flV, nmE_ag, nmE_at, frzE_ag, frzE_at, ofAg_len, ofAt_len, atL_vi, nmL_map_p, frzL_map_p, okL_p, toPVs_p, repsZ, nmL_reps, putC_vi, get_flV0, get_flV1, Int.toNat_zero, Int.toNat_one, Int.reduceToNat, eqV_slice, eqV_ptr, eqV_func, nilS, nilP, nilF, nmL_append, true_or, or_true, and_self, true_and, and_true, Option.some.injEq, reduceCtorEq, false_or, or_false, VV.p.injEq, PV.at.injEq, Value.int.injEq, sl1, vi, bl1, vb, nilV, slP])
            (all_goals first | rfl | omega | exact ⟨rfl, by omega⟩)
      · (repeat (first | refine VC.seq ?_ | refine VC.block ?_ | refine VC.kill ?_ | refine VC.skip ?_ | refine VC.exit ?_ | refine VC.regA ?_ | refine VC.condT ?_ | refine VC.condF ?_))
        refine ⟨_, j + 1, ?_, ⟨rfl, by omega⟩, ?_⟩
        · omega
        · (apply Go.Ab.V.G.weak; constructor <;> simp (config := {decide := true}) only [PT.Le, inV, mkB, PT.set, VSt.kill, VSt.adopt, VSt.alloc, PT.filt, PT.map, List.map_cons, List.map_nil, noref, norefB, deadB, deadV, nos, nm, nmL, nmB, nmE, Pa.eqb, cond_true, cond_false, Bool.not_true, Bool.not_false, Bool.and_true, Bool.true_and, nmL_vi, flV_len, flP_len, flV_nm, flV_ok, flV_pv, flP_map, drop_flP, drop_flV, putC_flV, eqV2, eqV3, bneT, bneF, decide_true, decide_false, frzL_vi, frzL_flV, nmE_ag, nmE_at, frzE_ag, frzE_at, ofAg_len, ofAt_len, atL_vi, nmL_map_p, frzL_map_p, okL_p, toPVs_p, repsZ, nmL_reps, putC_vi, get_flV0, get_flV1, Int.toNat_zero, Int.toNat_one, Int.reduceToNat, eqV_slice, eqV_ptr, eqV_func, nilS, nilP, nilF, nmL_append, true_or, or_true, and_self, true_and, and_true, Option.some.injEq, reduceCtorEq, false_or, or_false, VV.p.injEq, PV.at.injEq, Value.int.injEq, sl1, vi, bl1, vb, nilV, slP])
          (all_goals first | rfl | omega | exact ⟨rfl, by omega⟩)
    · (repeat (first | refine VC.seq ?_ | refine VC.block ?_ | refine VC.kill ?_ | refine VC.skip ?_ | refine VC.exit ?_ | refine VC.regA ?_ | refine VC.condT ?_ | refine VC.condF ?_))
      refine VC.regCA ?_
      refine VO.moreA ?_
      refine VO.knownA (.bool true) rfl ?_
      refine VO.endA ?_
      (repeat (first | refine VC.seq ?_ | refine VC.block ?_ | refine VC.kill ?_ | refine VC.skip ?_ | refine VC.exit ?_ | refine VC.regA ?_ | refine VC.condT ?_ | refine VC.condF ?_))
      exact VC.ret (Fin.A rfl)
  · have hd' : ¬M % Nat.gcd B A = 0 := by rw [Nat.gcd_comm]; exact hd
    have k1 := Two_un A B M hT hd
    have k3 := Two_un B A M hT' hd'
    have k2 := Fewest2_un (a := A) (b := B) (m := M) (by omega) (by omega) hM hd
    have k4 := TwoWay_un A B M true hT hd
    have k5 := TwoWay_un B A M false hT' hd'
    clear hd hd' hT hT' hz1 hz0 hx3
    (refine VC.regCA ?_; refine VO.moreA ?_; refine VO.call0A (no_orc _ (by decide)) k1 ?_; refine VO.endA ?_; (repeat (first | refine VC.seq ?_ | refine VC.block ?_ | refine VC.kill ?_ | refine VC.skip ?_ | refine VC.exit ?_ | refine VC.regA ?_ | refine VC.condT ?_ | refine VC.condF ?_)))
    refine VC.regCA ?_
    refine VO.moreA ?_
    refine VO.frzA p54 ?_
    refine VO.call0A (no_orc 31 (by decide)) k2 ?_
    refine VO.endA ?_
    (repeat (first | refine VC.seq ?_ | refine VC.block ?_ | refine VC.kill ?_ | refine VC.skip ?_ | refine VC.exit ?_ | refine VC.regA ?_ | refine VC.condT ?_ | refine VC.condF ?_))
    (refine VC.regCA ?_; refine VO.moreA ?_; refine VO.call0A (no_orc _ (by decide)) k3 ?_; refine VO.endA ?_; (repeat (first | refine VC.seq ?_ | refine VC.block ?_ | refine VC.kill ?_ | refine VC.skip ?_ | refine VC.exit ?_ | refine VC.regA ?_ | refine VC.condT ?_ | refine VC.condF ?_)))
    (refine VC.regCA ?_; refine VO.moreA ?_; refine VO.call0A (no_orc _ (by decide)) k4 ?_; refine VO.endA ?_; (repeat (first | refine VC.seq ?_ | refine VC.block ?_ | refine VC.kill ?_ | refine VC.skip ?_ | refine VC.exit ?_ | refine VC.regA ?_ | refine VC.condT ?_ | refine VC.condF ?_)))
    (refine VC.regCA ?_; refine VO.moreA ?_; refine VO.call0A (no_orc _ (by decide)) k5 ?_; refine VO.endA ?_; (repeat (first | refine VC.seq ?_ | refine VC.block ?_ | refine VC.kill ?_ | refine VC.skip ?_ | refine VC.exit ?_ | refine VC.regA ?_ | refine VC.condT ?_ | refine VC.condF ?_)))
    ((try (apply VC.regU; · ((simp (config := {decide := false, maxSteps := 1000000}) (disch := omega) only [vev_call, putC_c0, putC_n0, putC_cs, ble0, List.getElem?_cons_zero, List.getElem?_cons_succ, runU, isCall, wantV, vev, evV, ofVal, ofAtom, atomB, cond_true, cond_false, PT.get, PT.set, PT.filt, PT.map, Option.getD_some, Option.getD_none, ret1V, ret1X, v_ld, v_ias, v_iad, v_fad, v_slsl, v_slarr, v_st, v_app, v_cpy, v_len, v_look, v_mset, elsV, partV, newV, free, atV, atI, atL, toVal, cellsV, okV, VSt.put, VSt.kill, VSt.alloc, VSt.frz, VSt.adopt, noref, norefB, deadB, deadV, nos, nm, nmL, nmB, nmE, Pa.eqb, Bool.not_false, Bool.not_true, Bool.and_true, Bool.true_and, Bool.false_and, Bool.and_false, bin, intOps, intBin, cvt, un, goInt, bndsV, bndV, Option.map_some, Option.map_none, List.map_cons, List.map_nil, Int.toNat_natCast, Nat.mul_one, Nat.zero_add, beq_true, beq_false, beq_self_eq_true, List.length_map, List.length_cons, List.length_nil, List.length_append, fillV, pEvV, repsV, List.append_nil, List.nil_append, if_pos, if_neg, reduceIte, List.getElem?_map, List.getElem?_drop, Nat.add_zero, List.getElem?_eq_getElem, Go.IntWalk.i64_in, wrap_u64, tmod_pos, eq_self, true_and, and_true, and_self, List.all_cons, List.all_nil, nmL_vi, flV_len, flP_len, flV_nm, flV_ok, flV_pv, flP_map, drop_flP, drop_flV, putC_flV, eqV2, eqV3, bneT, bneF, decide_true, decide_false, frzL_vi, frzL_flV, nmE_ag, nmE_at, frzE_ag, frzE_at, ofAg_len, ofAt_len, atL_vi, nmL_map_p, frzL_map_p, okL_p, toPVs_p, repsZ, nmL_reps, putC_vi, get_flV0, get_flV1, Int.toNat_zero, Int.toNat_one, Int.reduceToNat, eqV_slice, eqV_ptr, eqV_func, nilS, nilP, nilF, nmL_append, okL_vi, toPVs_vi, toPVs, toPV, frzV, frzL, frzB, resVV, vi, vb, nilV, sl1, bl1, pi, foldV, max2, min2, max_eq, min_eq, Int.tdiv_eq_ediv_of_nonneg, Int.cast_ofNat_Int, Option.isSome_none, Option.isSome_some, Option.isNone_none, Option.isNone_some, and_false, false_and, sl2, sl1P, slP, min_cast, take_map_pi, map_pi, Nat.sub_zero, Nat.zero_mul, List.length_take, decide_eq_true, decide_eq_false, Bool.true_eq_false, Bool.false_eq_true, beqT, beqF, ibeq, ibne, List.take_zero, List.take_succ_cons, List.drop_zero, List.drop_succ_cons, List.drop_nil, List.take_nil, List.cons_append, Bool.not_true, Bool.not_false, eqVb]); rfl))); (repeat (first | refine VC.seq ?_ | refine VC.block ?_ | refine VC.kill ?_ | refine VC.skip ?_ | refine VC.exit ?_ | refine VC.regA ?_ | refine VC.condT ?_ | refine VC.condF ?_)))
    refine VC.loopG (fun (j : Nat) => ⟨inV [p16, p19, p22] [nilV, nilV, vi j] .lf, .lf, [], none⟩) (fun n j => n = 0 ∧ j = 0) (x := 0) ?_ ⟨rfl, rfl⟩ ?_
    · (apply Go.Ab.V.G.weak; constructor <;> simp (config := {decide := true}) only [PT.Le, inV, mkB, PT.set, VSt.kill, VSt.adopt, VSt.alloc, PT.filt, PT.map, List.map_cons, List.map_nil, noref, norefB, deadB, deadV, nos, nm, nmL, nmB, nmE, Pa.eqb, cond_true, cond_false, Bool.not_true, Bool.not_false, Bool.and_true, Bool.true_and, nmL_vi, flV_len, flP_len, flV_nm, flV_ok, flV_pv, flP_map, drop_flP, drop_flV, putC_flV, eqV2, eqV3, bneT, bneF, decide_true, decide_false, frzL_vi, frzL_flV, nmE_ag, nmE_at, frzE_ag, frzE_at, ofAg_len, ofAt_len, atL_vi, nmL_map_p, frzL_map_p, okL_p, toPVs_p, repsZ, nmL_reps, putC_vi, get_flV0, get_flV1, Int.toNat_zero, Int.toNat_one, Int.reduceToNat, eqV_slice, eqV_ptr, eqV_func, nilS, nilP, nilF, nmL_append, true_or, or_true, and_self, true_and, and_true, Option.some.injEq, reduceCtorEq, false_or, or_false, VV.p.injEq, PV.at.injEq, Value.int.injEq, sl1, vi, bl1, vb, nilV])
      (all_goals first | rfl | omega | exact ⟨rfl, by omega⟩)
    rintro q j ⟨hq, hj⟩
    subst hj
    simp only [inV, PT.set]
    (repeat (first | refine VC.seq ?_ | refine VC.block ?_ | refine VC.kill ?_ | refine VC.skip ?_ | refine VC.exit ?_ | refine VC.regA ?_ | refine VC.condT ?_ | refine VC.condF ?_))
    refine VC.regCA ?_
    refine VO.moreA ?_
    refine VO.knownA (.bool true) rfl ?_
    refine VO.endA ?_
    (repeat (first | refine VC.seq ?_ | refine VC.block ?_ | refine VC.kill ?_ | refine VC.skip ?_ | refine VC.exit ?_ | refine VC.regA ?_ | refine VC.condT ?_ | refine VC.condF ?_))
    exact VC.ret (Fin.A rfl)
end Go.Ab.Jug

namespace Go.Proofs.Ytcbhobkfffgfdaa.jugFewest
open Go.ChangeShapes Go.WideShapes Go.ChangeAt Go.RowKit
open Go.ChangeMaps (open_string shut_string)
open Go.Ab Go.Ab.V Go.Ab.Jug
set_option linter.unusedVariables false
theorem own : ownKnob Try.prog.godebug = none := by kernel_rfl
theorem laidOut : laidOutB Try.prog = true := by kernel_rfl
theorem orc : OrcOK Try.prog cfg := orcOK mixed tab0 (fun h => by cases h) rfl awake_closed
theorem tab : TabOK Try.prog cfg := tab0
set_option maxRecDepth 100000 in
theorem lifted (os : Os) (started : os.Started) (H : Type) (enc : TypeId × Value → H) :
    ReturnsInHanded {} Try.checked os 7 .any (Rows.jugFewestSpec.pre6 enc Try.prog Try.f7 Rows.jugFewestRow.domain false) (Rows.jugFewestSpec.post enc Try.prog Try.f7 false true false false) := by
  refine returnsInHanded_of_change (C := Try.checked) own started (by kernel_rfl) Try.func7
    (ChangeSpec.witness6 (enc := enc) (C := Try.checked) false ⟨#[], #[.int .i64 0, .int .i64 0, .int .i64 0], []⟩ 8 (by kernel_rfl) (by kernel_rfl) (by kernel_rfl) (by kernel_rfl)) ?_
  intro W base args ds gs before hval0 hW hcnd _
  have hval : ∀ (j : Nat) t v, Try.f7.params[j]? = some t → args[j]? = some v → Value.okWide Try.prog W .any base t v := hval0
  have hW' := hW
  obtain ⟨p, q, hA0, hV, rfl, hfz, hnd⟩ := hW
  have hA : DataW.TrodAll enc Try.prog W 0 (fun _ => true) true Try.f7.params.toList args.toList ds p := hA0
  rw [Try.params7] at hA hval
  obtain ⟨v0, vs0, d0, ds0, p0, q0, hargs, rfl, rfl, h0, r0⟩ := trodAll_cons hA
  obtain ⟨v1, vs1, d1, ds1, p1, q1, rfl, rfl, rfl, h1, r1⟩ := trodAll_cons r0
  obtain ⟨v2, vs2, d2, ds2, p2, q2, rfl, rfl, rfl, h2, r2⟩ := trodAll_cons r1
  obtain ⟨rfl, rfl, rfl⟩ := trodAll_nil r2
  obtain rfl : args = #[v0, v1, v2] := by cases args; simp_all
  obtain ⟨rfl, rfl⟩ := trodVars_none hV
  obtain ⟨a0, rfl, rfl, rfl, w0⟩ := open_int Try.underlying3 (hval 0 3 v0 rfl rfl) h0
  obtain ⟨a1, rfl, rfl, rfl, w1⟩ := open_int Try.underlying3 (hval 1 3 v1 rfl rfl) h1
  obtain ⟨a2, rfl, rfl, rfl, w2⟩ := open_int Try.underlying3 (hval 2 3 v2 rfl rfl) h2
  clear hA0 hval0
  refine (calls_true mixed tab orc (fewest_law _ _ _) (All2.cons (.p (.at rfl)) (All2.cons (.p (.at rfl)) (All2.cons (.p (.at rfl)) .nil))) (LR.cons (.int _ _) (LR.cons (.int _ _) (LR.cons (.int _ _) (LR.nil _))))).mono fun e W' ⟨he, bel⟩ => ?_
  subst he
  exact ⟨_, rfl, _, _, _, [], _, [], hW', trodAll_mk1 (shut_bool Try.underlying4 _), (trodAll_cons_mk (shut_int Try.underlying3 w0) (trodAll_cons_mk (shut_int Try.underlying3 w1) (trodAll_cons_mk (shut_int Try.underlying3 w2) trodAll_mk0))), rfl, bel.frame _, fun h => by cases h⟩
theorem over : Rows.jugFewestRow.holds Try.pinned (OpenSpec.ofChange Rows.jugFewestSpec) :=
  OpenClaim.holds_of_wide 7 Try.f7 rfl rfl rfl rfl rfl rfl rfl ⟨rfl, rfl, rfl, rfl, rfl⟩ rfl rfl rfl rfl rfl (by kernel_rfl) Try.func7 (by kernel_rfl)
    (of_decide_eq_true (by kernel_rfl)) (by unfold Func.isWrapper; first | (rw [if_pos (by decide +kernel)]; kernel_rfl) | (rw [if_neg (by decide +kernel)]; exact ⟨rfl, rfl⟩))
    (fun os started H enc _ => lifted os started H enc)
theorem proved : Rows.JugFewestSaid := over
end Go.Proofs.Ytcbhobkfffgfdaa.jugFewest
namespace Go.Proofs.Ytcbhobkfffgfdaa
/-- The row, under a short name, for the claim. -/
theorem jugFewest_holds : Rows.JugFewestSaid := jugFewest.proved
end Go.Proofs.Ytcbhobkfffgfdaa
