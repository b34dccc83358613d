/- A part of the proof of a law: an evaluator of the code, proved sound against the model, and contracts of functions over it. No condition. -/
import Derived.Test.YtcbhobkfffgfdaaA03
set_option linter.unusedSimpArgs false
set_option linter.unusedVariables false
namespace Go.Ab.Jug
open Go.Ab.V
set_option maxRecDepth 100000
def okR (x f : List Int) (c : Bool) (a b : Int) : Bool := !(c && (decide (a = -1) || decide (b = -1))) && isR x.length a b && !decide (f = stepR x f a b)
def itR (x f : List Int) (c : Bool) (a b : Int) : List (Int × Int) := if okR x f c a b = true then [(a, b)] else []
def rowR (x f : List Int) (c : Bool) (a : Int) : Nat → List (Int × Int)
  | 0 => []
  | m + 1 => itR x f c a ((x.length : Int) - ((m + 1 : Nat) : Int)) ++ rowR x f c a m
def allR (x f : List Int) (c : Bool) : Nat → List (Int × Int)
  | 0 => []
  | k + 1 => rowR x f c ((x.length : Int) - ((k + 1 : Nat) : Int)) (x.length + 1) ++ allR x f c k
theorem stepR_len (x f : List Int) (a b : Int) : (stepR x f a b).length = f.length := by
  unfold stepR; split
  · simp
  · split <;> simp
theorem rowR_len (x f : List Int) (c : Bool) (a : Int) : ∀ m, (rowR x f c a m).length ≤ m
  | 0 => Nat.le_refl _
  | m + 1 => by
    have := rowR_len x f c a m
    have h2 : ∀ b, (itR x f c a b).length ≤ 1 := fun b => by unfold itR; split <;> simp
    have h3 := h2 ((x.length : Int) - ((m + 1 : Nat) : Int))
    simp only [rowR, List.length_append]; omega
theorem allR_len (x f : List Int) (c : Bool) : ∀ k, (allR x f c k).length ≤ k * (x.length + 1)
  | 0 => by simp [allR]
  | k + 1 => by
    have := allR_len x f c k
    have h2 := rowR_len x f c ((x.length : Int) - ((k + 1 : Nat) : Int)) (x.length + 1)
    simp only [allR, List.length_append]; rw [Nat.succ_mul]; omega
theorem allR_len25 (x f : List Int) (c : Bool) (hx : x.length ≤ 4) : (allR x f c (x.length + 1)).length ≤ 25 := by
  have := allR_len x f c (x.length + 1)
  have h2 : (x.length + 1) * (x.length + 1) ≤ 5 * 5 := Nat.mul_le_mul (by omega) (by omega)
  omega
set_option maxHeartbeats 4000000 in
theorem StepsR_ok (x f : List Int) (c : Bool) (hx : 1 ≤ x.length ∧ x.length ≤ 4) (hf : f.length = x.length) (hq : ∀ i ∈ x, 1 ≤ i ∧ i ≤ 12) (hv : ∀ (k : Nat) (h : k < f.length) (h' : k < x.length), 0 ≤ f[k] ∧ f[k] ≤ x[k]) :
    VCall cfg 19 [sl1 x, sl1 f, vb c] [] [] (slP (allR x f c (x.length + 1))) [] := by
  (refine VCall.mk (fn := a19) rfl rfl rfl ?_; simp only [a19, inV, mkB, nmsL, PT.set])
  (repeat (first | refine VC.seq ?_ | refine VC.block ?_ | refine VC.kill ?_ | refine VC.skip ?_ | refine VC.exit ?_ | refine VC.regA ?_ | refine VC.condT ?_ | refine VC.condF ?_))
  refine VC.loopG (fun (q : List (Int × Int) × Nat) => ⟨inV [p0, p1, p2, p7, p8] [sl1 x, sl1 f, vb c, .os 2 p54 q.1.length, vi ((x.length : Int) - (q.2 : Int))] .lf, mkB [(p54, .cells (flV q.1))] .lf, [], none⟩) (fun n q => n = q.2 ∧ q.2 ≤ x.length + 1 ∧ q.1 ++ allR x f c q.2 = allR x f c (x.length + 1)) (x := ([], x.length + 1)) ?_ ⟨rfl, Nat.le_refl _, rfl⟩ ?_
  · refine G.adoptA (p := p7) 2 p54 ?_
    (apply Go.Ab.V.G.weak; constructor <;> simp (config := {decide := true}) only [PT.Le, inV, mkB, PT.set, VSt.kill, VSt.adopt, VSt.alloc, PT.filt, PT.map, List.map_cons, List.map_nil, noref, norefB, deadB, deadV, nos, nm, nmL, nmB, nmE, Pa.eqb, cond_true, cond_false, Bool.not_true, Bool.not_false, Bool.and_true, Bool.true_and, nmL_vi, flV_len, flP_len, flV_nm, flV_ok, flV_pv, flP_map, drop_flP, drop_flV, putC_flV, eqV2, eqV3, bneT, bneF, decide_true, decide_false, frzL_vi, frzL_flV, nmE_ag, nmE_at, frzE_ag, frzE_at, ofAg_len, ofAt_len, atL_vi, nmL_map_p, frzL_map_p, okL_p, toPVs_p, repsZ, nmL_reps, putC_vi, get_flV0, get_flV1, Int.toNat_zero, Int.toNat_one, Int.reduceToNat, eqV_slice, eqV_ptr, eqV_func, nilS, nilP, nilF, nmL_append, true_or, or_true, and_self, true_and, and_true, Option.some.injEq, reduceCtorEq, false_or, or_false, VV.p.injEq, PV.at.injEq, Value.int.injEq, sl1, vi, bl1, vb, nilV, pi])
    all_goals first | rfl | omega | exact ⟨rfl, by omega⟩
  rintro n ⟨L, k⟩ ⟨hn, hk, hL⟩
  simp only [inV, PT.set, mkB] at *
  (repeat (first | refine VC.seq ?_ | refine VC.block ?_ | refine VC.kill ?_ | refine VC.skip ?_ | refine VC.exit ?_ | refine VC.regA ?_ | refine VC.condT ?_ | refine VC.condF ?_))
  refine VC.condA ?_ ?_ <;> intro h <;> (simp only [decide_eq_true_eq, decide_eq_false_iff_not, bne_iff_ne, ne_eq, bne_eq_false_iff_eq, beq_iff_eq, beq_eq_false_iff_ne, Bool.not_eq_true', Bool.not_eq_false', Bool.and_eq_true, Bool.or_eq_true, Int.natCast_inj] at h)
  · obtain ⟨k, rfl⟩ : ∃ j, k = j + 1 := ⟨k - 1, by omega⟩
    have hA : -1 ≤ (x.length : Int) - ((k + 1 : Nat) : Int) ∧ (x.length : Int) - ((k + 1 : Nat) : Int) < x.length := by omega
    have hall : allR x f c (k + 1) = rowR x f c ((x.length : Int) - ((k + 1 : Nat) : Int)) (x.length + 1) ++ allR x f c k := rfl
    rw [hall] at hL
    generalize hAa : (x.length : Int) - ((k + 1 : Nat) : Int) = A at *
    (repeat (first | refine VC.seq ?_ | refine VC.block ?_ | refine VC.kill ?_ | refine VC.skip ?_ | refine VC.exit ?_ | refine VC.regA ?_ | refine VC.condT ?_ | refine VC.condF ?_))
    refine VC.loopG (fun (q : List (Int × Int) × Nat) => ⟨inV [p0, p1, p2, p7, p8, p9] [sl1 x, sl1 f, vb c, .os 2 p54 q.1.length, vi A, vi ((x.length : Int) - (q.2 : Int))] .lf, mkB [(p54, .cells (flV q.1))] .lf, [], none⟩) (fun n q => n = q.2 ∧ q.2 ≤ x.length + 1 ∧ q.1 ++ (rowR x f c A q.2 ++ allR x f c k) = allR x f c (x.length + 1)) (x := (L, x.length + 1)) ?_ ⟨rfl, Nat.le_refl _, hL⟩ ?_
    · (apply Go.Ab.V.G.weak; constructor <;> simp (config := {decide := true}) only [PT.Le, inV, mkB, PT.set, VSt.kill, VSt.adopt, VSt.alloc, PT.filt, PT.map, List.map_cons, List.map_nil, noref, norefB, deadB, deadV, nos, nm, nmL, nmB, nmE, Pa.eqb, cond_true, cond_false, Bool.not_true, Bool.not_false, Bool.and_true, Bool.true_and, nmL_vi, flV_len, flP_len, flV_nm, flV_ok, flV_pv, flP_map, drop_flP, drop_flV, putC_flV, eqV2, eqV3, bneT, bneF, decide_true, decide_false, frzL_vi, frzL_flV, nmE_ag, nmE_at, frzE_ag, frzE_at, ofAg_len, ofAt_len, atL_vi, nmL_map_p, frzL_map_p, okL_p, toPVs_p, repsZ, nmL_reps, putC_vi, get_flV0, get_flV1, Int.toNat_zero, Int.toNat_one, Int.reduceToNat, eqV_slice, eqV_ptr, eqV_func, nilS, nilP, nilF, nmL_append, true_or, or_true, and_self, true_and, and_true, Option.some.injEq, reduceCtorEq, false_or, or_false, VV.p.injEq, PV.at.injEq, Value.int.injEq, sl1, vi, bl1, vb, nilV, pi])
      all_goals first | rfl | omega | exact ⟨rfl, by omega⟩
    rintro n' ⟨M, m⟩ ⟨hn', hm, hM⟩
    simp only [inV, PT.set, mkB] at *
    (repeat (first | refine VC.seq ?_ | refine VC.block ?_ | refine VC.kill ?_ | refine VC.skip ?_ | refine VC.exit ?_ | refine VC.regA ?_ | refine VC.condT ?_ | refine VC.condF ?_))
    refine VC.condA ?_ ?_ <;> intro h' <;> (simp only [decide_eq_true_eq, decide_eq_false_iff_not, bne_iff_ne, ne_eq, bne_eq_false_iff_eq, beq_iff_eq, beq_eq_false_iff_ne, Bool.not_eq_true', Bool.not_eq_false', Bool.and_eq_true, Bool.or_eq_true, Int.natCast_inj] at h')
    · obtain ⟨m, rfl⟩ : ∃ j, m = j + 1 := ⟨m - 1, by omega⟩
      have hB : -1 ≤ (x.length : Int) - ((m + 1 : Nat) : Int) ∧ (x.length : Int) - ((m + 1 : Nat) : Int) < x.length := by omega
      have hrow : rowR x f c A (m + 1) = itR x f c A ((x.length : Int) - ((m + 1 : Nat) : Int)) ++ rowR x f c A m := rfl
      rw [hrow, List.append_assoc] at hM
      generalize hBb : (x.length : Int) - ((m + 1 : Nat) : Int) = B at *
      have k1 := stepR_ok x f A B hx.2 hf (by omega) (by omega) hq hv hx.1
      simp only [ag2] at k1
      have fin0 : okR x f c A B = false → M ++ (rowR x f c A m ++ allR x f c k) = allR x f c (x.length + 1) := fun h => by
        have : itR x f c A B = [] := by simp [itR, h]
        rw [this, List.nil_append] at hM; exact hM
      by_cases hc1 : c = true ∧ A = -1
      · obtain ⟨rfl, e⟩ := hc1
        (repeat (first | refine VC.seq ?_ | refine VC.block ?_ | refine VC.kill ?_ | refine VC.skip ?_ | refine VC.exit ?_ | refine VC.regA ?_ | refine VC.condT ?_ | refine VC.condF ?_))
        refine ⟨_, (M, m), ?_, ⟨rfl, by omega, fin0 (by simp [okR, e])⟩, ?_⟩
        · simp; omega
        · (apply Go.Ab.V.G.weak; constructor <;> simp (config := {decide := true}) only [PT.Le, inV, mkB, PT.set, VSt.kill, VSt.adopt, VSt.alloc, PT.filt, PT.map, List.map_cons, List.map_nil, noref, norefB, deadB, deadV, nos, nm, nmL, nmB, nmE, Pa.eqb, cond_true, cond_false, Bool.not_true, Bool.not_false, Bool.and_true, Bool.true_and, nmL_vi, flV_len, flP_len, flV_nm, flV_ok, flV_pv, flP_map, drop_flP, drop_flV, putC_flV, eqV2, eqV3, bneT, bneF, decide_true, decide_false, frzL_vi, frzL_flV, nmE_ag, nmE_at, frzE_ag, frzE_at, ofAg_len, ofAt_len, atL_vi, nmL_map_p, frzL_map_p, okL_p, toPVs_p, repsZ, nmL_reps, putC_vi, get_flV0, get_flV1, Int.toNat_zero, Int.toNat_one, Int.reduceToNat, eqV_slice, eqV_ptr, eqV_func, nilS, nilP, nilF, nmL_append, true_or, or_true, and_self, true_and, and_true, Option.some.injEq, reduceCtorEq, false_or, or_false, VV.p.injEq, PV.at.injEq, Value.int.injEq, sl1, vi, bl1, vb, nilV, pi])
          all_goals first | rfl | omega | exact ⟨rfl, by omega⟩
      by_cases hc2 : c = true ∧ B = -1
      · obtain ⟨rfl, e⟩ := hc2
        have hne : A ≠ -1 := fun e => hc1 ⟨rfl, e⟩
        (repeat (first | refine VC.seq ?_ | refine VC.block ?_ | refine VC.kill ?_ | refine VC.skip ?_ | refine VC.exit ?_ | refine VC.regA ?_ | refine VC.condT ?_ | refine VC.condF ?_))
        refine ⟨_, (M, m), ?_, ⟨rfl, by omega, fin0 (by simp [okR, e])⟩, ?_⟩
        · simp; omega
        · (apply Go.Ab.V.G.weak; constructor <;> simp (config := {decide := true}) only [PT.Le, inV, mkB, PT.set, VSt.kill, VSt.adopt, VSt.alloc, PT.filt, PT.map, List.map_cons, List.map_nil, noref, norefB, deadB, deadV, nos, nm, nmL, nmB, nmE, Pa.eqb, cond_true, cond_false, Bool.not_true, Bool.not_false, Bool.and_true, Bool.true_and, nmL_vi, flV_len, flP_len, flV_nm, flV_ok, flV_pv, flP_map, drop_flP, drop_flV, putC_flV, eqV2, eqV3, bneT, bneF, decide_true, decide_false, frzL_vi, frzL_flV, nmE_ag, nmE_at, frzE_ag, frzE_at, ofAg_len, ofAt_len, atL_vi, nmL_map_p, frzL_map_p, okL_p, toPVs_p, repsZ, nmL_reps, putC_vi, get_flV0, get_flV1, Int.toNat_zero, Int.toNat_one, Int.reduceToNat, eqV_slice, eqV_ptr, eqV_func, nilS, nilP, nilF, nmL_append, true_or, or_true, and_self, true_and, and_true, Option.some.injEq, reduceCtorEq, false_or, or_false, VV.p.injEq, PV.at.injEq, Value.int.injEq, sl1, vi, bl1, vb, nilV, pi])
          all_goals first | rfl | omega | exact ⟨rfl, by omega⟩
      have hcc : (c && (decide (A = -1) || decide (B = -1))) = false := by
        cases c with
        | false => rfl
        | true => simp; exact ⟨fun e => hc1 ⟨rfl, e⟩, fun e => hc2 ⟨rfl, e⟩⟩
      have hne : c = true → A ≠ -1 ∧ B ≠ -1 := fun e => by
        subst e; exact ⟨fun e => hc1 ⟨rfl, e⟩, fun e => hc2 ⟨rfl, e⟩⟩
      cases hR : isR x.length A B with
      | false =>
        rw [hR] at k1
        have hok : okR x f c A B = false := by simp [okR, hR]
        cases c
        all_goals
          try have hne := hne rfl
          (repeat (first | refine VC.seq ?_ | refine VC.block ?_ | refine VC.kill ?_ | refine VC.skip ?_ | refine VC.exit ?_ | refine VC.regA ?_ | refine VC.condT ?_ | refine VC.condF ?_))
          (refine VC.regCA ?_; refine VO.moreA ?_; refine VO.call0A (no_orc _ (by decide)) k1 ?_; refine VO.endA ?_; (repeat (first | refine VC.seq ?_ | refine VC.block ?_ | refine VC.kill ?_ | refine VC.skip ?_ | refine VC.exit ?_ | refine VC.regA ?_ | refine VC.condT ?_ | refine VC.condF ?_)))
          refine ⟨_, (M, m), ?_, ⟨rfl, by omega, fin0 hok⟩, ?_⟩
          · simp; omega
          · (apply Go.Ab.V.G.weak; constructor <;> simp (config := {decide := true}) only [PT.Le, inV, mkB, PT.set, VSt.kill, VSt.adopt, VSt.alloc, PT.filt, PT.map, List.map_cons, List.map_nil, noref, norefB, deadB, deadV, nos, nm, nmL, nmB, nmE, Pa.eqb, cond_true, cond_false, Bool.not_true, Bool.not_false, Bool.and_true, Bool.true_and, nmL_vi, flV_len, flP_len, flV_nm, flV_ok, flV_pv, flP_map, drop_flP, drop_flV, putC_flV, eqV2, eqV3, bneT, bneF, decide_true, decide_false, frzL_vi, frzL_flV, nmE_ag, nmE_at, frzE_ag, frzE_at, ofAg_len, ofAt_len, atL_vi, nmL_map_p, frzL_map_p, okL_p, toPVs_p, repsZ, nmL_reps, putC_vi, get_flV0, get_flV1, Int.toNat_zero, Int.toNat_one, Int.reduceToNat, eqV_slice, eqV_ptr, eqV_func, nilS, nilP, nilF, nmL_append, true_or, or_true, and_self, true_and, and_true, Option.some.injEq, reduceCtorEq, false_or, or_false, VV.p.injEq, PV.at.injEq, Value.int.injEq, sl1, vi, bl1, vb, nilV, pi])
            (all_goals first | rfl | omega | exact ⟨rfl, by omega⟩)
      | true =>
        rw [hR] at k1
        simp only [if_true] at k1
        have k2 := equal_ok f (stepR x f A B) (stepR_len ..).symm (by omega)
        by_cases hd : f = stepR x f A B
        · have hok : okR x f c A B = false := by simp [okR, ← hd]
          rw [decide_eq_true hd] at k2
          cases c
          all_goals
            try have hne := hne rfl
            (repeat (first | refine VC.seq ?_ | refine VC.block ?_ | refine VC.kill ?_ | refine VC.skip ?_ | refine VC.exit ?_ | refine VC.regA ?_ | refine VC.condT ?_ | refine VC.condF ?_))
            (refine VC.regCA ?_; refine VO.moreA ?_; refine VO.call0A (no_orc _ (by decide)) k1 ?_; refine VO.endA ?_; (repeat (first | refine VC.seq ?_ | refine VC.block ?_ | refine VC.kill ?_ | refine VC.skip ?_ | refine VC.exit ?_ | refine VC.regA ?_ | refine VC.condT ?_ | refine VC.condF ?_)))
            (refine VC.regCA ?_; refine VO.moreA ?_; refine VO.call0A (no_orc _ (by decide)) k2 ?_; refine VO.endA ?_; (repeat (first | refine VC.seq ?_ | refine VC.block ?_ | refine VC.kill ?_ | refine VC.skip ?_ | refine VC.exit ?_ | refine VC.regA ?_ | refine VC.condT ?_ | refine VC.condF ?_)))
            refine ⟨_, (M, m), ?_, ⟨rfl, by omega, fin0 hok⟩, ?_⟩
            · simp; omega
            · (apply Go.Ab.V.G.weak; constructor <;> simp (config := {decide := true}) only [PT.Le, inV, mkB, PT.set, VSt.kill, VSt.adopt, VSt.alloc, PT.filt, PT.map, List.map_cons, List.map_nil, noref, norefB, deadB, deadV, nos, nm, nmL, nmB, nmE, Pa.eqb, cond_true, cond_false, Bool.not_true, Bool.not_false, Bool.and_true, Bool.true_and, nmL_vi, flV_len, flP_len, flV_nm, flV_ok, flV_pv, flP_map, drop_flP, drop_flV, putC_flV, eqV2, eqV3, bneT, bneF, decide_true, decide_false, frzL_vi, frzL_flV, nmE_ag, nmE_at, frzE_ag, frzE_at, ofAg_len, ofAt_len, atL_vi, nmL_map_p, frzL_map_p, okL_p, toPVs_p, repsZ, nmL_reps, putC_vi, get_flV0, get_flV1, Int.toNat_zero, Int.toNat_one, Int.reduceToNat, eqV_slice, eqV_ptr, eqV_func, nilS, nilP, nilF, nmL_append, true_or, or_true, and_self, true_and, and_true, Option.some.injEq, reduceCtorEq, false_or, or_false, VV.p.injEq, PV.at.injEq, Value.int.injEq, sl1, vi, bl1, vb, nilV, pi])
              (all_goals first | rfl | omega | exact ⟨rfl, by omega⟩)
        · have hit : itR x f c A B = [(A, B)] := by simp [itR, okR, hcc, hR, hd]
          rw [hit] at hM
          have hM' : M ++ [(A, B)] ++ (rowR x f c A m ++ allR x f c k) = allR x f c (x.length + 1) := by rw [← hM]; simp
          have hlen : (M ++ [(A, B)]).length = M.length + 1 := by simp
          have hfl := flV_snoc M A B
          have hl2 := flV_len M
          have hnm := flV_nm M
          have hML : M.length ≤ 24 := by
            have := allR_len25 x f c hx.2
            rw [← hM'] at this; simp at this; omega
          rw [decide_eq_false hd] at k2
          cases c
          all_goals
            try have hne := hne rfl
            (repeat (first | refine VC.seq ?_ | refine VC.block ?_ | refine VC.kill ?_ | refine VC.skip ?_ | refine VC.exit ?_ | refine VC.regA ?_ | refine VC.condT ?_ | refine VC.condF ?_))
            (refine VC.regCA ?_; refine VO.moreA ?_; refine VO.call0A (no_orc _ (by decide)) k1 ?_; refine VO.endA ?_; (repeat (first | refine VC.seq ?_ | refine VC.block ?_ | refine VC.kill ?_ | refine VC.skip ?_ | refine VC.exit ?_ | refine VC.regA ?_ | refine VC.condT ?_ | refine VC.condF ?_)))
            (refine VC.regCA ?_; refine VO.moreA ?_; refine VO.call0A (no_orc _ (by decide)) k2 ?_; refine VO.endA ?_; (repeat (first | refine VC.seq ?_ | refine VC.block ?_ | refine VC.kill ?_ | refine VC.skip ?_ | refine VC.exit ?_ | refine VC.regA ?_ | refine VC.condT ?_ | refine VC.condF ?_)))
            refine ⟨_, (M ++ [(A, B)], m), ?_, ⟨rfl, by omega, hM'⟩, ?_⟩
            · simp; omega
            · (apply Go.Ab.V.G.weak; constructor <;> simp (config := {decide := true}) only [PT.Le, inV, mkB, PT.set, VSt.kill, VSt.adopt, VSt.alloc, PT.filt, PT.map, List.map_cons, List.map_nil, noref, norefB, deadB, deadV, nos, nm, nmL, nmB, nmE, Pa.eqb, cond_true, cond_false, Bool.not_true, Bool.not_false, Bool.and_true, Bool.true_and, nmL_vi, flV_len, flP_len, flV_nm, flV_ok, flV_pv, flP_map, drop_flP, drop_flV, putC_flV, eqV2, eqV3, bneT, bneF, decide_true, decide_false, frzL_vi, frzL_flV, nmE_ag, nmE_at, frzE_ag, frzE_at, ofAg_len, ofAt_len, atL_vi, nmL_map_p, frzL_map_p, okL_p, toPVs_p, repsZ, nmL_reps, putC_vi, get_flV0, get_flV1, Int.toNat_zero, Int.toNat_one, Int.reduceToNat, eqV_slice, eqV_ptr, eqV_func, nilS, nilP, nilF, nmL_append, true_or, or_true, and_self, true_and, and_true, Option.some.injEq, reduceCtorEq, false_or, or_false, VV.p.injEq, PV.at.injEq, Value.int.injEq, sl1, vi, bl1, vb, nilV, pi, hfl, hlen])
              (all_goals first | rfl | omega | exact ⟨rfl, by omega⟩)
    · have : m = 0 := by omega
      subst this
      (repeat (first | refine VC.seq ?_ | refine VC.block ?_ | refine VC.kill ?_ | refine VC.skip ?_ | refine VC.exit ?_ | refine VC.regA ?_ | refine VC.condT ?_ | refine VC.condF ?_))
      refine ⟨_, (M, k), ?_, ⟨rfl, by omega, ?_⟩, ?_⟩
      · simp; omega
      · simpa [rowR] using hM
      · (apply Go.Ab.V.G.weak; constructor <;> simp (config := {decide := true}) only [PT.Le, inV, mkB, PT.set, VSt.kill, VSt.adopt, VSt.alloc, PT.filt, PT.map, List.map_cons, List.map_nil, noref, norefB, deadB, deadV, nos, nm, nmL, nmB, nmE, Pa.eqb, cond_true, cond_false, Bool.not_true, Bool.not_false, Bool.and_true, Bool.true_and, nmL_vi, flV_len, flP_len, flV_nm, flV_ok, flV_pv, flP_map, drop_flP, drop_flV, putC_flV, eqV2, eqV3, bneT, bneF, decide_true, decide_false, frzL_vi, frzL_flV, nmE_ag, nmE_at, frzE_ag, frzE_at, ofAg_len, ofAt_len, atL_vi, nmL_map_p, frzL_map_p, okL_p, toPVs_p, repsZ, nmL_reps, putC_vi, get_flV0, get_flV1, Int.toNat_zero, Int.toNat_one, Int.reduceToNat, eqV_slice, eqV_ptr, eqV_func, nilS, nilP, nilF, nmL_append, true_or, or_true, and_self, true_and, and_true, Option.some.injEq, reduceCtorEq, false_or, or_false, VV.p.injEq, PV.at.injEq, Value.int.injEq, sl1, vi, bl1, vb, nilV, pi])
        all_goals first | rfl | omega | exact ⟨rfl, by omega⟩
  · have : k = 0 := by omega
    subst this
    (repeat (first | refine VC.seq ?_ | refine VC.block ?_ | refine VC.kill ?_ | refine VC.skip ?_ | refine VC.exit ?_ | refine VC.regA ?_ | refine VC.condT ?_ | refine VC.condF ?_))
    have hL : L = allR x f c (x.length + 1) := by simpa [allR] using hL
    rw [← hL]
    exact VC.ret (Fin.frzA p54 (hb := rfl) (hc := flV_pv L) (Fin.A rfl))
end Go.Ab.Jug

namespace Go.Ab.Jug
open Go.Ab.V
set_option maxRecDepth 100000
/-- The steps from a filling, with the fillings afterwards. -/
def itP (n : Nat) (q f : List Int) (c : Bool) (a b : Int) : List ((Int × Int) × List Int) := if isS n c a b = true ∧ doS q f a b ≠ f then [((a, b), doS q f a b)] else []
def rowP (n : Nat) (q f : List Int) (c : Bool) (a : Int) : Nat → List ((Int × Int) × List Int)
  | 0 => []
  | m + 1 => itP n q f c a ((n : Int) - ((m + 1 : Nat) : Int)) ++ rowP n q f c a m
def allP (n : Nat) (q f : List Int) (c : Bool) : Nat → List ((Int × Int) × List Int)
  | 0 => []
  | k + 1 => rowP n q f c ((n : Int) - ((k + 1 : Nat) : Int)) (n + 1) ++ allP n q f c k
def encI (p : (Int × Int) × List Int) : List VV := [ag2 p.1.1 p.1.2, .agg (p.2.map vi)]
theorem itS_eq (n : Nat) (q f : List Int) (c : Bool) (a b : Int) : itemS n q f c a b = (itP n q f c a b).map encI := by
  unfold itemS itP; split <;> rfl
theorem rowS_eq (n : Nat) (q f : List Int) (c : Bool) (a : Int) : ∀ m, rowS n q f c a m = (rowP n q f c a m).map encI
  | 0 => rfl
  | m + 1 => by rw [rowS, rowP, List.map_append, itS_eq, rowS_eq n q f c a m]
theorem allS_eq (n : Nat) (q f : List Int) (c : Bool) : ∀ k, allS n q f c k = (allP n q f c k).map encI
  | 0 => rfl
  | k + 1 => by rw [allS, allP, List.map_append, rowS_eq, allS_eq n q f c k]
theorem pad4_len (x : List Int) (h : x.length ≤ 4) : (pad4 x).length = 4 := by simp [pad4]; omega
theorem pad4_getD (x : List Int) (i : Nat) (h : i < x.length) : (pad4 x).getD i 0 = x.getD i 0 := by
  rw [List.getD_eq_getElem?_getD, List.getD_eq_getElem?_getD, pad4, List.getElem?_append_left h]
theorem pad4_set (x : List Int) (i : Nat) (v : Int) (h : i < x.length) : (pad4 x).set i v = pad4 (x.set i v) := by
  unfold pad4; rw [List.set_append_left _ _ h, List.length_set]
theorem pad4_inj {x y : List Int} (h : x.length = y.length) (e : pad4 x = pad4 y) : x = y := (List.append_inj e h).1
theorem doS_pad (x f : List Int) (a b : Int) (hf : f.length = x.length) (ha : -1 ≤ a ∧ a < x.length) (hb : -1 ≤ b ∧ b < x.length) (hab : a ≠ b) : doS (pad4 x) (pad4 f) a b = pad4 (stepR x f a b) := by
  unfold doS stepR atQ
  by_cases h1 : a = -1
  · rw [if_pos h1, if_pos h1, pad4_getD _ _ (by omega), pad4_set _ _ _ (by omega)]
  rw [if_neg h1, if_neg h1]
  by_cases h2 : b = -1
  · rw [if_pos h2, if_pos h2, pad4_set _ _ _ (by omega)]
  rw [if_neg h2, if_neg h2, pad4_getD _ _ (by omega), pad4_getD _ _ (by omega), pad4_getD _ _ (by omega), pad4_set _ _ _ (by omega), pad4_set _ _ _ (by rw [List.length_set]; omega)]
theorem isS_eq (n : Nat) (c : Bool) (a b : Int) : isS n c a b = (!(c && (decide (a = -1) || decide (b = -1))) && isR n a b) := by
  unfold isS isR
  cases c <;> simp [Bool.and_comm, Bool.and_assoc]
def encR (x f : List Int) (p : Int × Int) : (Int × Int) × List Int := (p, pad4 (stepR x f p.1 p.2))
theorem itP_eq (x f : List Int) (c : Bool) (a b : Int) (hf : f.length = x.length) (ha : -1 ≤ a ∧ a < x.length) (hb : -1 ≤ b ∧ b < x.length) : itP x.length (pad4 x) (pad4 f) c a b = (itR x f c a b).map (encR x f) := by
  unfold itP itR okR
  rw [isS_eq]
  cases h : (!(c && (decide (a = -1) || decide (b = -1))) && isR x.length a b) with
  | false => simp
  | true =>
    have hab : a ≠ b := by
      intro e; subst e; simp [isR] at h
    rw [doS_pad x f a b hf ha hb hab]
    by_cases hd : f = stepR x f a b
    · rw [if_neg (fun h => h.2 (by rw [← hd])), if_neg (by simp [← hd])]; rfl
    · rw [if_pos ⟨rfl, fun e => hd (pad4_inj (stepR_len ..) e).symm⟩, if_pos (by simp [hd])]; rfl
theorem rowP_eq (x f : List Int) (c : Bool) (a : Int) (hf : f.length = x.length) (ha : -1 ≤ a ∧ a < x.length) : ∀ m, m ≤ x.length + 1 → rowP x.length (pad4 x) (pad4 f) c a m = (rowR x f c a m).map (encR x f)
  | 0, _ => rfl
  | m + 1, h => by rw [rowP, rowR, List.map_append, rowP_eq x f c a hf ha m (by omega), itP_eq x f c a _ hf ha (by omega)]
theorem allP_eq (x f : List Int) (c : Bool) (hf : f.length = x.length) : ∀ k, k ≤ x.length + 1 → allP x.length (pad4 x) (pad4 f) c k = (allR x f c k).map (encR x f)
  | 0, _ => rfl
  | k + 1, h => by rw [allP, allR, List.map_append, allP_eq x f c hf k (by omega), rowP_eq x f c _ hf (by omega) _ (by omega)]
/-- The steps of jugs, as they are handed on. -/
def itemsJ (x f : List Int) (c : Bool) : List (List VV) := (allR x f c (x.length + 1)).map fun p => encI (encR x f p)
theorem four {P : List Int} (h : P.length = 4) : ∃ a b c d, P = [a, b, c, d] := by
  rcases P with _ | ⟨a, _ | ⟨b, _ | ⟨d, _ | ⟨e, _ | ⟨f, r⟩⟩⟩⟩⟩ <;> first | exact ⟨_, _, _, _, rfl⟩ | simp at h
theorem pad4_bd (x f : List Int) (hx : x.length ≤ 4) (hq : ∀ i ∈ x, 1 ≤ i ∧ i ≤ 12) (hf : fillB x f = true) (i : Nat) : 0 ≤ (pad4 f).getD i 0 ∧ (pad4 f).getD i 0 ≤ (pad4 x).getD i 0 ∧ (pad4 x).getD i 0 ≤ 12 := by
  rw [fillB_iff] at hf
  rcases Nat.lt_or_ge i x.length with h | h
  · have h' : i < f.length := by omega
    rw [pad4_getD _ _ h, pad4_getD _ _ h', List.getD_eq_getElem?_getD, List.getD_eq_getElem?_getD, List.getElem?_eq_getElem h, List.getElem?_eq_getElem h']
    have := hf.2 i h' h
    have := hq _ (List.getElem_mem h)
    simp only [Option.getD_some]; omega
  · have e : ∀ (y : List Int), y.length = x.length → (pad4 y).getD i 0 = 0 := by
      intro y hy
      rw [List.getD_eq_getElem?_getD, pad4, List.getElem?_append_right (by omega), List.getElem?_replicate]
      split <;> rfl
    rw [e x rfl, e f hf.1]; omega
/-- The iterator of the steps, by the lists themselves. -/
theorem stepsIt (x f : List Int) (c : Bool) (hx : x.length ≤ 4) (hq : ∀ i ∈ x, 1 ≤ i ∧ i ≤ 12) (hf : fillB x f = true) : VIter cfg 65 [] [.p (.fp 0 [.fp 0 (jugC x c)]), .p (.fp 0 ((pad4 f).map pi))] false (itemsJ x f c) := by
  have hl : f.length = x.length := ((fillB_iff x f).1 hf).1
  obtain ⟨q0, q1, q2, q3, hQ⟩ := four (pad4_len x hx)
  obtain ⟨f0, f1, f2, f3, hF⟩ := four (pad4_len f (by omega))
  have bd := pad4_bd x f hx hq hf
  rw [hQ, hF] at bd
  have b0 := bd 0; have b1 := bd 1; have b2 := bd 2; have b3 := bd 3
  simp at b0 b1 b2 b3
  have := steps1_ok (n := x.length) (c := c) (q0 := q0) (q1 := q1) (q2 := q2) (q3 := q3) (f0 := f0) (f1 := f1) (f2 := f2) (f3 := f3) hx (by omega) (by omega) (by omega) (by omega)
  rw [allS_eq, ← hQ, ← hF, allP_eq x f c hl _ (Nat.le_refl _), List.map_map] at this
  unfold jugC
  rw [hQ, hF]
  exact this
theorem stepsJ_ok (x f : List Int) (c : Bool) (hx : x.length ≤ 4) (hf : f.length = x.length) : VCall cfg 47 [jugP x c, .agg ((pad4 f).map vi)] [] [] (.clos 65 [] [.p (.fp 0 [.fp 0 (jugC x c)]), .p (.fp 0 ((pad4 f).map pi))]) [] := by
  obtain ⟨q0, q1, q2, q3, hQ⟩ := four (pad4_len x hx)
  obtain ⟨f0, f1, f2, f3, hF⟩ := four (pad4_len f (by omega))
  unfold jugP jugC
  rw [hQ, hF]
  exact steps_ok (n := x.length)
end Go.Ab.Jug

namespace Go.Ab.Jug
open Go.Ab.V
set_option maxRecDepth 100000
theorem isR_bd {n : Nat} {a b : Int} (h : isR n a b = true) : (-1 ≤ a ∧ a < n) ∧ (-1 ≤ b ∧ b < n) ∧ a ≠ b := by
  simp only [isR, inR, Bool.and_eq_true, decide_eq_true_eq] at h
  exact ⟨h.1.1, h.1.2, h.2⟩
theorem fillB_getD {x f : List Int} (hf : fillB x f = true) (i : Nat) : 0 ≤ f.getD i 0 ∧ f.getD i 0 ≤ x.getD i 0 := by
  rw [fillB_iff] at hf
  rcases Nat.lt_or_ge i x.length with h | h
  · have h' : i < f.length := by omega
    rw [List.getD_eq_getElem?_getD, List.getD_eq_getElem?_getD, List.getElem?_eq_getElem h, List.getElem?_eq_getElem h']
    exact hf.2 i h' h
  · rw [List.getD_eq_getElem?_getD, List.getD_eq_getElem?_getD, List.getElem?_eq_none h, List.getElem?_eq_none (by omega)]
    simp
theorem fillB_set {x f : List Int} (hf : fillB x f = true) (i : Nat) (v : Int) (h0 : 0 ≤ v) (h1 : v ≤ x.getD i 0) : fillB x (f.set i v) = true := by
  rw [fillB_iff] at hf ⊢
  refine ⟨by rw [List.length_set]; exact hf.1, fun k h h' => ?_⟩
  rw [List.length_set] at h
  rw [List.getElem_set]
  split
  · rename_i e
    subst e
    rw [List.getD_eq_getElem?_getD, List.getElem?_eq_getElem h'] at h1
    exact ⟨h0, h1⟩
  · exact hf.2 k h h'
theorem fill_step (x f : List Int) (a b : Int) (hf : fillB x f = true) (hab : a ≠ b) (ha : -1 ≤ a) (hb : -1 ≤ b) : fillB x (stepR x f a b) = true := by
  have g := fillB_getD hf
  have e : ∀ i, 0 ≤ x.getD i 0 := fun i => by have := g i; omega
  unfold stepR atQ
  split
  · exact fillB_set hf _ _ (e _) (Int.le_refl _)
  split
  · exact fillB_set hf _ _ (Int.le_refl _) (e _)
  · have g1 := g a.toNat
    have g2 := g b.toNat
    refine fillB_set (fillB_set hf _ _ ?_ ?_) _ _ ?_ ?_ <;> omega
/-- The filling after steps, as long as they are steps, and how many were done. -/
def pourR (x : List Int) : List Int → List (Int × Int) → List Int × Nat
  | f, [] => (f, 0)
  | f, p :: r => if isR x.length p.1 p.2 = true then ((pourR x (stepR x f p.1 p.2) r).1, (pourR x (stepR x f p.1 p.2) r).2 + 1) else (f, 0)
theorem pourR_drop (x f : List Int) (w : List (Int × Int)) (i : Nat) (h : i < w.length) : pourR x f (w.drop i) = if isR x.length w[i].1 w[i].2 = true then ((pourR x (stepR x f w[i].1 w[i].2) (w.drop (i + 1))).1, (pourR x (stepR x f w[i].1 w[i].2) (w.drop (i + 1))).2 + 1) else (f, 0) := by
  rw [List.drop_eq_getElem_cons h]; rfl
set_option maxHeartbeats 4000000 in
theorem PourR_ok (x f : List Int) (w : List (Int × Int)) (hx : okJ x) (hf : fillB x f = true) (hw : ∀ p ∈ w, (-9223372036854775808 ≤ p.1 ∧ p.1 ≤ 9223372036854775807) ∧ -9223372036854775808 ≤ p.2 ∧ p.2 ≤ 9223372036854775807) (hwl : w.length ≤ 9223372036854775807) :
    VCall cfg 35 [sl1 x, sl1 f, slP w] [] [] (.tup [sl1 (pourR x f w).1, vi (pourR x f w).2]) [] := by
  (refine VCall.mk (fn := a35) rfl rfl rfl ?_; simp only [a35, inV, mkB, nmsL, PT.set])
  (repeat (first | refine VC.seq ?_ | refine VC.block ?_ | refine VC.kill ?_ | refine VC.skip ?_ | refine VC.exit ?_ | refine VC.regA ?_ | refine VC.condT ?_ | refine VC.condF ?_))
  refine VC.loopG (fun (q : List Int × Nat) => ⟨inV [p0, p1, p2, p8] [sl1 x, sl1 q.1, slP w, vi q.2] .lf, .lf, [], none⟩) (fun n q => n = w.length - q.2 ∧ q.2 ≤ w.length ∧ fillB x q.1 = true ∧ pourR x f w = ((pourR x q.1 (w.drop q.2)).1, (pourR x q.1 (w.drop q.2)).2 + q.2)) (x := (f, 0)) ?_ ⟨rfl, Nat.zero_le _, hf, rfl⟩ ?_
  · (apply Go.Ab.V.G.weak; constructor <;> simp (config := {decide := true}) only [PT.Le, inV, mkB, PT.set, VSt.kill, VSt.adopt, VSt.alloc, PT.filt, PT.map, List.map_cons, List.map_nil, noref, norefB, deadB, deadV, nos, nm, nmL, nmB, nmE, Pa.eqb, cond_true, cond_false, Bool.not_true, Bool.not_false, Bool.and_true, Bool.true_and, nmL_vi, flV_len, flP_len, flV_nm, flV_ok, flV_pv, flP_map, drop_flP, drop_flV, putC_flV, eqV2, eqV3, bneT, bneF, decide_true, decide_false, frzL_vi, frzL_flV, nmE_ag, nmE_at, frzE_ag, frzE_at, ofAg_len, ofAt_len, atL_vi, nmL_map_p, frzL_map_p, okL_p, toPVs_p, repsZ, nmL_reps, putC_vi, get_flV0, get_flV1, Int.toNat_zero, Int.toNat_one, Int.reduceToNat, eqV_slice, eqV_ptr, eqV_func, nilS, nilP, nilF, nmL_append, true_or, or_true, and_self, true_and, and_true, Option.some.injEq, reduceCtorEq, false_or, or_false, VV.p.injEq, PV.at.injEq, Value.int.injEq, sl1, vi, bl1, vb, nilV, pi, slP])
  rintro n ⟨g, i⟩ ⟨hn, hi, hg, he⟩
  simp only at hn hi hg he
  simp only [inV, PT.set, mkB]
  (repeat (first | refine VC.seq ?_ | refine VC.block ?_ | refine VC.kill ?_ | refine VC.skip ?_ | refine VC.exit ?_ | refine VC.regA ?_ | refine VC.condT ?_ | refine VC.condF ?_))
  refine VC.condA ?_ ?_ <;> intro h <;> (simp only [decide_eq_true_eq, decide_eq_false_iff_not, bne_iff_ne, ne_eq, bne_eq_false_iff_eq, beq_iff_eq, beq_eq_false_iff_ne, Bool.not_eq_true', Bool.not_eq_false', Bool.and_eq_true, Bool.or_eq_true, Int.natCast_inj] at h)
  · have h : i < w.length := by omega
    have hwi := hw _ (List.getElem_mem h)
    have hlg : g.length = x.length := ((fillB_iff x g).1 hg).1
    have k1 := stepR_ok x g w[i].1 w[i].2 hx.2.1 hlg (by omega) (by omega) (okJ_mem hx) ((fillB_iff x g).1 hg).2 hx.1
    rw [pourR_drop _ _ _ _ h] at he
    simp only [ag2] at k1
    cases hR : isR x.length w[i].1 w[i].2 with
    | false =>
      rw [hR] at k1 he
      simp only [Bool.false_eq_true, if_false, Nat.zero_add] at k1 he
      rw [he]
      (repeat (first | refine VC.seq ?_ | refine VC.block ?_ | refine VC.kill ?_ | refine VC.skip ?_ | refine VC.exit ?_ | refine VC.regA ?_ | refine VC.condT ?_ | refine VC.condF ?_))
      (refine VC.regCA ?_; refine VO.moreA ?_; refine VO.call0A (no_orc _ (by decide)) k1 ?_; refine VO.endA ?_; (repeat (first | refine VC.seq ?_ | refine VC.block ?_ | refine VC.kill ?_ | refine VC.skip ?_ | refine VC.exit ?_ | refine VC.regA ?_ | refine VC.condT ?_ | refine VC.condF ?_)))
      exact VC.ret (Fin.A rfl)
    | true =>
      rw [hR] at k1 he
      simp only [if_true] at k1 he
      have hb := isR_bd hR
      (repeat (first | refine VC.seq ?_ | refine VC.block ?_ | refine VC.kill ?_ | refine VC.skip ?_ | refine VC.exit ?_ | refine VC.regA ?_ | refine VC.condT ?_ | refine VC.condF ?_))
      (refine VC.regCA ?_; refine VO.moreA ?_; refine VO.call0A (no_orc _ (by decide)) k1 ?_; refine VO.endA ?_; (repeat (first | refine VC.seq ?_ | refine VC.block ?_ | refine VC.kill ?_ | refine VC.skip ?_ | refine VC.exit ?_ | refine VC.regA ?_ | refine VC.condT ?_ | refine VC.condF ?_)))
      refine ⟨_, (stepR x g w[i].1 w[i].2, i + 1), ?_, ⟨rfl, by simp only; omega, fill_step x g _ _ hg hb.2.2 hb.1.1 hb.2.1.1, by rw [he]; simp only [Nat.add_assoc, Nat.add_comm 1]⟩, ?_⟩
      · simp; omega
      · (apply Go.Ab.V.G.weak; constructor <;> simp (config := {decide := true}) only [PT.Le, inV, mkB, PT.set, VSt.kill, VSt.adopt, VSt.alloc, PT.filt, PT.map, List.map_cons, List.map_nil, noref, norefB, deadB, deadV, nos, nm, nmL, nmB, nmE, Pa.eqb, cond_true, cond_false, Bool.not_true, Bool.not_false, Bool.and_true, Bool.true_and, nmL_vi, flV_len, flP_len, flV_nm, flV_ok, flV_pv, flP_map, drop_flP, drop_flV, putC_flV, eqV2, eqV3, bneT, bneF, decide_true, decide_false, frzL_vi, frzL_flV, nmE_ag, nmE_at, frzE_ag, frzE_at, ofAg_len, ofAt_len, atL_vi, nmL_map_p, frzL_map_p, okL_p, toPVs_p, repsZ, nmL_reps, putC_vi, get_flV0, get_flV1, Int.toNat_zero, Int.toNat_one, Int.reduceToNat, eqV_slice, eqV_ptr, eqV_func, nilS, nilP, nilF, nmL_append, true_or, or_true, and_self, true_and, and_true, Option.some.injEq, reduceCtorEq, false_or, or_false, VV.p.injEq, PV.at.injEq, Value.int.injEq, sl1, vi, bl1, vb, nilV, pi, slP])
        (all_goals first | rfl | omega | exact ⟨rfl, by omega⟩)
  · have h : i = w.length := by omega
    subst h
    rw [List.drop_length] at he
    simp only [pourR, Nat.zero_add] at he
    rw [he]
    (repeat (first | refine VC.seq ?_ | refine VC.block ?_ | refine VC.kill ?_ | refine VC.skip ?_ | refine VC.exit ?_ | refine VC.regA ?_ | refine VC.condT ?_ | refine VC.condF ?_))
    exact VC.ret (Fin.A rfl)
end Go.Ab.Jug

namespace Go.Ab.Jug
open Go.Ab.V
set_option maxRecDepth 100000
/-- What is known of a filling that is reached. -/
structure En where
  g : List Int
  par : List Int
  st : Int × Int
  d : Nat
def succs (x : List Int) (c : Bool) (f : List Int) : List ((Int × Int) × List Int) := (allR x f c (x.length + 1)).map fun p => (p, stepR x f p.1 p.2)
def hasE (L : List En) (g : List Int) : Bool := L.any fun e => decide (e.g = g)
def addOne (f : List Int) (d : Nat) (L : List En) (s : (Int × Int) × List Int) : List En := if hasE L s.2 = true then L else L ++ [⟨s.2, f, s.1, d + 1⟩]
def addAll (f : List Int) (d : Nat) (L : List En) (ss : List ((Int × Int) × List Int)) : List En := ss.foldl (addOne f d) L
def root (x f : List Int) : En := ⟨f, List.replicate x.length 0, (0, 0), 0⟩
def bf (x f : List Int) (c : Bool) : Nat → List En
  | 0 => [root x f]
  | i + 1 => match (bf x f c i)[i]? with
    | some e => addAll e.g e.d (bf x f c i) (succs x c e.g)
    | none => bf x f c i
theorem hasE_iff {L : List En} {g : List Int} : hasE L g = true ↔ ∃ e ∈ L, e.g = g := by simp [hasE]
theorem addOne_pre (f : List Int) (d : Nat) (L : List En) (s : (Int × Int) × List Int) : L <+: addOne f d L s := by
  unfold addOne; split
  · exact List.prefix_refl _
  · exact List.prefix_append _ _
theorem addAll_pre (f : List Int) (d : Nat) : ∀ (ss : List ((Int × Int) × List Int)) (L : List En), L <+: addAll f d L ss
  | [], L => List.prefix_refl _
  | s :: ss, L => (addOne_pre f d L s).trans (addAll_pre f d ss _)
theorem addAll_cons (f : List Int) (d : Nat) (L : List En) (s : (Int × Int) × List Int) (ss : List ((Int × Int) × List Int)) : addAll f d L (s :: ss) = addAll f d (addOne f d L s) ss := rfl
theorem addAll_snoc (f : List Int) (d : Nat) (L : List En) (s : (Int × Int) × List Int) (ss : List ((Int × Int) × List Int)) : addAll f d L (ss ++ [s]) = addOne f d (addAll f d L ss) s := by simp [addAll]
/-- All that a list of entries is said to be. -/
structure Good (x : List Int) (c : Bool) (f0 : List Int) (L : List En) : Prop where
  nodup : (L.map En.g).Nodup
  fill : ∀ e ∈ L, fillB x e.g = true ∧ fillB x e.par = true ∨ e = root x f0
  root : L[0]? = some (root x f0)
  par : ∀ (k : Nat) (e : En), L[k]? = some e → 0 < k → ∃ j e', j < k ∧ L[j]? = some e' ∧ e'.g = e.par ∧ e.d = e'.d + 1 ∧ (e.st, e.g) ∈ succs x c e'.g
theorem succ_mem {x f : List Int} {c : Bool} {s : (Int × Int) × List Int} (h : s ∈ succs x c f) : isR x.length s.1.1 s.1.2 = true ∧ s.2 = stepR x f s.1.1 s.1.2 ∧ s.2 ≠ f ∧ (c = true → s.1.1 ≠ -1 ∧ s.1.2 ≠ -1) := by
  obtain ⟨p, hp, rfl⟩ := List.mem_map.1 h
  have hrow : ∀ a m, p ∈ rowR x f c a m → okR x f c p.1 p.2 = true := by
    intro a m
    induction m with
    | zero => intro h; simp [rowR] at h
    | succ m ih =>
      intro h
      simp only [rowR, List.mem_append] at h
      rcases h with h | h
      · unfold itR at h
        split at h
        · rename_i hk; rw [List.mem_singleton.1 h]; exact hk
        · simp at h
      · exact ih h
  have hall : ∀ k, p ∈ allR x f c k → okR x f c p.1 p.2 = true := by
    intro k
    induction k with
    | zero => intro h; simp [allR] at h
    | succ k ih =>
      intro h
      simp only [allR, List.mem_append] at h
      rcases h with h | h
      · exact hrow _ _ h
      · exact ih h
  have := hall _ hp
  simp only [okR, Bool.and_eq_true, Bool.not_eq_true', decide_eq_false_iff_not] at this
  refine ⟨this.1.2, rfl, fun e => this.2 e.symm, fun hc => ?_⟩
  have h1 := this.1.1
  rw [hc] at h1
  simp at h1
  exact h1
theorem succ_fill {x f : List Int} {c : Bool} {s : (Int × Int) × List Int} (h : s ∈ succs x c f) (hf : fillB x f = true) : fillB x s.2 = true := by
  obtain ⟨h1, h2, _⟩ := succ_mem h
  have := isR_bd h1
  rw [h2]; exact fill_step x f _ _ hf this.2.2 this.1.1 this.2.1.1
theorem Good.gfill {x f0 : List Int} {c : Bool} {L : List En} (G : Good x c f0 L) (h0 : fillB x f0 = true) {e : En} (he : e ∈ L) : fillB x e.g = true := by
  rcases G.fill e he with h | h
  · exact h.1
  · rw [h]; exact h0
theorem good_root (x f : List Int) (c : Bool) : Good x c f [root x f] :=
  ⟨by simp, fun e he => .inr (by simpa using he), rfl, fun k e hk h0 => by
    cases k with
    | zero => omega
    | succ k => simp at hk⟩
theorem Good.one {x f0 : List Int} {c : Bool} {L : List En} (G : Good x c f0 L) (h0 : fillB x f0 = true) {j : Nat} {e' : En} (hj : L[j]? = some e') {s : (Int × Int) × List Int} (hs : s ∈ succs x c e'.g) : Good x c f0 (addOne e'.g e'.d L s) := by
  unfold addOne
  cases hh : hasE L s.2 with
  | true => rw [if_pos rfl]; exact G
  | false =>
    rw [if_neg (by simp)]
    have hjl := (List.getElem?_eq_some_iff.1 hj).1
    have hg' := G.gfill h0 (List.mem_of_getElem? hj)
    refine ⟨?_, fun e he => ?_, ?_, fun k e hk h => ?_⟩
    · rw [List.map_append, List.nodup_append]
      refine ⟨G.nodup, by simp, fun a ha b hb => ?_⟩
      obtain ⟨e, he, rfl⟩ := List.mem_map.1 ha
      simp at hb
      subst hb
      intro e1
      have : hasE L s.2 = true := hasE_iff.2 ⟨e, he, e1⟩
      rw [hh] at this; cases this
    · rcases List.mem_append.1 he with he | he
      · exact G.fill e he
      · rw [List.mem_singleton.1 he]; exact .inl ⟨succ_fill hs hg', hg'⟩
    · rw [List.getElem?_append_left (by omega)]; exact G.root
    · by_cases hkl : k < L.length
      · rw [List.getElem?_append_left hkl] at hk
        obtain ⟨j', e'', h1, h2, h3⟩ := G.par k e hk h
        exact ⟨j', e'', h1, by rw [List.getElem?_append_left (by omega)]; exact h2, h3⟩
      · rw [List.getElem?_append_right (by omega)] at hk
        have hkk : k - L.length = 0 := by
          rcases Nat.eq_zero_or_pos (k - L.length) with h | h
          · exact h
          · rw [List.getElem?_eq_none (by simp; omega)] at hk; cases hk
        rw [hkk] at hk
        simp at hk
        subst hk
        exact ⟨j, e', by omega, by rw [List.getElem?_append_left hjl]; exact hj, rfl, rfl, hs⟩
theorem Good.all {x f0 : List Int} {c : Bool} {e' : En} (h0 : fillB x f0 = true) {j : Nat} : ∀ (ss : List ((Int × Int) × List Int)) {L : List En}, Good x c f0 L → L[j]? = some e' → (∀ s ∈ ss, s ∈ succs x c e'.g) → Good x c f0 (addAll e'.g e'.d L ss)
  | [], L, G, _, _ => G
  | s :: ss, L, G, hj, hs => by
    rw [addAll_cons]
    refine Good.all (j := j) h0 ss (G.one h0 hj (hs s (by simp))) ?_ fun t ht => hs t (List.mem_cons_of_mem _ ht)
    have hp := addOne_pre e'.g e'.d L s
    obtain ⟨t, ht⟩ := hp
    rw [← ht, List.getElem?_append_left (List.getElem?_eq_some_iff.1 hj).1]; exact hj
theorem bf_good {x f0 : List Int} {c : Bool} (h0 : fillB x f0 = true) : ∀ i, Good x c f0 (bf x f0 c i)
  | 0 => good_root x f0 c
  | i + 1 => by
    unfold bf
    split
    · rename_i e he
      exact Good.all h0 _ (bf_good h0 i) he fun s hs => hs
    · exact bf_good h0 i
theorem bf_pre {x f0 : List Int} {c : Bool} (i : Nat) : bf x f0 c i <+: bf x f0 c (i + 1) := by
  show _ <+: (match (bf x f0 c i)[i]? with
    | some e => addAll e.g e.d (bf x f0 c i) (succs x c e.g)
    | none => bf x f0 c i)
  split
  · exact addAll_pre _ _ _ _
  · exact List.prefix_refl _
theorem bf_le {x f0 : List Int} {c : Bool} {i j : Nat} (h : i ≤ j) : bf x f0 c i <+: bf x f0 c j := by
  induction h with
  | refl => exact List.prefix_refl _
  | step _ ih => exact ih.trans (bf_pre _)
theorem bf_get {x f0 : List Int} {c : Bool} {i j k : Nat} {e : En} (h : i ≤ j) (he : (bf x f0 c i)[k]? = some e) : (bf x f0 c j)[k]? = some e := by
  obtain ⟨t, ht⟩ := bf_le (x := x) (f0 := f0) (c := c) h
  rw [← ht, List.getElem?_append_left (List.getElem?_eq_some_iff.1 he).1]; exact he

/-! ### Codes -/
def codeF : List Int → List Int → Nat → Nat
  | _, [], a => a
  | x, v :: f, a => codeF x.tail f (a * (x.headD 0 + 1).toNat + v.toNat)
def code (x f : List Int) : Nat := codeF x f 0
def sizeF (x : List Int) (a : Nat) : Nat := x.foldl (fun a v => a * (v + 1).toNat) a
theorem codeF_lt : ∀ (x f : List Int) (a m : Nat), fillB x f = true → a < m → codeF x f a < sizeF x m
  | [], [], a, m, _, h => h
  | [], _ :: _, a, m, h, _ => by simp [fillB] at h
  | _ :: _, [], a, m, h, _ => by simp [fillB] at h
  | q :: x, v :: f, a, m, h, ham => by
    have hv : 0 ≤ v ∧ v ≤ q ∧ fillB x f = true := by
      simp only [fillB, List.length_cons, List.zip_cons_cons, List.all_cons, Bool.and_eq_true, beq_iff_eq, decide_eq_true_eq] at h ⊢
      exact ⟨h.2.1.1, h.2.1.2, by omega, h.2.2⟩
    show codeF x f (a * (q + 1).toNat + v.toNat) < sizeF x (m * (q + 1).toNat)
    refine codeF_lt x f _ _ hv.2.2 ?_
    have h1 : v.toNat < (q + 1).toNat := by omega
    have h2 : (a + 1) * (q + 1).toNat ≤ m * (q + 1).toNat := Nat.mul_le_mul_right _ ham
    rw [Nat.succ_mul] at h2
    omega
theorem codeF_inj : ∀ (x f g : List Int) (a b : Nat), fillB x f = true → fillB x g = true → codeF x f a = codeF x g b → a = b ∧ f = g
  | [], [], [], a, b, _, _, e => ⟨e, rfl⟩
  | [], _ :: _, _, a, b, h, _, _ => by simp [fillB] at h
  | [], [], _ :: _, a, b, _, h, _ => by simp [fillB] at h
  | _ :: _, [], _, a, b, h, _, _ => by simp [fillB] at h
  | _ :: _, _ :: _, [], a, b, _, h, _ => by simp [fillB] at h
  | q :: x, v :: f, w :: g, a, b, h, h', e => by
    have hv : 0 ≤ v ∧ v ≤ q ∧ fillB x f = true := by
      simp only [fillB, List.length_cons, List.zip_cons_cons, List.all_cons, Bool.and_eq_true, beq_iff_eq, decide_eq_true_eq] at h ⊢
      exact ⟨h.2.1.1, h.2.1.2, by omega, h.2.2⟩
    have hw : 0 ≤ w ∧ w ≤ q ∧ fillB x g = true := by
      simp only [fillB, List.length_cons, List.zip_cons_cons, List.all_cons, Bool.and_eq_true, beq_iff_eq, decide_eq_true_eq] at h' ⊢
      exact ⟨h'.2.1.1, h'.2.1.2, by omega, h'.2.2⟩
    obtain ⟨h1, h2⟩ := codeF_inj x f g _ _ hv.2.2 hw.2.2 e
    have h1 : a * (q + 1).toNat + v.toNat = b * (q + 1).toNat + w.toNat := h1
    have l1 : v.toNat < (q + 1).toNat := by omega
    have l2 : w.toNat < (q + 1).toNat := by omega
    have hm : v.toNat = w.toNat := by
      have := congrArg (· % (q + 1).toNat) h1
      simp only [Nat.mul_add_mod_self_right, Nat.mod_eq_of_lt l1, Nat.mod_eq_of_lt l2] at this
      exact this
    have ha : a = b := by
      have h3 : a * (q + 1).toNat = b * (q + 1).toNat := by omega
      exact Nat.eq_of_mul_eq_mul_right (by omega) h3
    refine ⟨ha, ?_⟩
    rw [h2, show v = w from by omega]
theorem sizeF_le : ∀ (x : List Int) (a k : Nat), (∀ i ∈ x, 1 ≤ i ∧ i ≤ 12) → x.length ≤ k → sizeF x a ≤ a * 13 ^ k
  | [], a, k, _, _ => by
    show a ≤ a * 13 ^ k
    exact Nat.le_mul_of_pos_right a (Nat.pow_pos (by decide))
  | q :: x, a, k, h, hl => by
    obtain ⟨k, rfl⟩ : ∃ j, k = j + 1 := ⟨k - 1, by simp at hl; omega⟩
    have := sizeF_le x (a * (q + 1).toNat) k (fun i hi => h i (List.mem_cons_of_mem _ hi)) (by simpa using hl)
    have hq := h q (by simp)
    refine Nat.le_trans this ?_
    rw [Nat.pow_succ, Nat.mul_comm (13 ^ k) 13, ← Nat.mul_assoc]
    exact Nat.mul_le_mul_right _ (Nat.mul_le_mul_left _ (by omega))
theorem pigeon : ∀ (m : Nat) (l : List Nat), l.Nodup → (∀ a ∈ l, a < m) → l.length ≤ m
  | 0, [], _, _ => Nat.le_refl _
  | 0, a :: l, _, h => absurd (h a (by simp)) (Nat.not_lt_zero a)
  | m + 1, l, hn, h => by
    have h1 := pigeon m (l.filter (fun a => decide (a ≠ m))) (hn.filter _) (fun a ha => by
      have := List.mem_filter.1 ha
      have h2 := h a this.1
      have h3 : a ≠ m := by simpa using this.2
      omega)
    have h2 : l.length ≤ (l.filter (fun a => decide (a ≠ m))).length + 1 := by
      clear h1 h
      induction l with
      | nil => simp
      | cons a l ih =>
        have hn' := List.nodup_cons.1 hn
        rw [List.filter_cons]
        by_cases ha : a = m
        · subst ha
          have : l.filter (fun b => decide (b ≠ a)) = l := List.filter_eq_self.2 fun b hb => by
            have : b ≠ a := fun e => hn'.1 (by rw [← e]; exact hb)
            simp [this]
          simp only [ne_eq, not_true_eq_false, decide_false, Bool.false_eq_true, if_false, List.length_cons]
          rw [show (l.filter fun b => decide ¬b = a) = l from this]; exact Nat.le_refl _
        · simp only [ha, ne_eq, not_false_eq_true, decide_true, if_true, List.length_cons]
          have := ih hn'.2
          simp only [ne_eq] at this
          omega
    omega
theorem good_len {x f0 : List Int} {c : Bool} {L : List En} (G : Good x c f0 L) (h0 : fillB x f0 = true) : L.length ≤ sizeF x 1 := by
  have h1 := pigeon (sizeF x 1) (L.map fun e => code x e.g) ?_ ?_
  · simpa using h1
  · have hn := G.nodup
    have hf : ∀ e ∈ L, fillB x e.g = true := fun e he => G.gfill h0 he
    clear G
    induction L with
    | nil => simp
    | cons e L ih =>
      simp only [List.map_cons, List.nodup_cons] at hn ⊢
      refine ⟨fun hm => ?_, ih hn.2 fun e he => hf e (List.mem_cons_of_mem _ he)⟩
      obtain ⟨e', he', hc⟩ := List.mem_map.1 hm
      have := (codeF_inj x e'.g e.g 0 0 (hf e' (List.mem_cons_of_mem _ he')) (hf e (by simp)) hc).2
      exact hn.1 (List.mem_map.2 ⟨e', he', this⟩)
  · intro a ha
    obtain ⟨e, he, rfl⟩ := List.mem_map.1 ha
    exact codeF_lt x e.g 0 1 (G.gfill h0 he) (by decide)
theorem bf_len {x f0 : List Int} {c : Bool} (hx : okJ x) (h0 : fillB x f0 = true) (i : Nat) : (bf x f0 c i).length ≤ 28561 := by
  have h1 := good_len (bf_good (c := c) h0 i) h0
  have h2 := sizeF_le x 1 4 (okJ_mem hx) hx.2.1
  omega
/-- The search ends. -/
theorem bf_end {x f0 : List Int} {c : Bool} (hx : okJ x) (h0 : fillB x f0 = true) : ∃ N, N = (bf x f0 c N).length ∧ ∀ j, j < N → j < (bf x f0 c j).length := by
  have : ∀ n, (∃ N, N ≤ n ∧ N = (bf x f0 c N).length ∧ ∀ j, j < N → j < (bf x f0 c j).length) ∨ ∀ j, j ≤ n → j < (bf x f0 c j).length := by
    intro n
    induction n with
    | zero => exact .inr fun j hj => by have : j = 0 := by omega
                                        subst this; simp [bf]
    | succ n ih =>
      rcases ih with ⟨N, h1, h2⟩ | h
      · exact .inl ⟨N, by omega, h2⟩
      · by_cases hn : n + 1 < (bf x f0 c (n + 1)).length
        · exact .inr fun j hj => by
            rcases Nat.lt_or_ge j (n + 1) with h1 | h1
            · exact h j (by omega)
            · have : j = n + 1 := by omega
              subst this; exact hn
        · have h2 := h n (Nat.le_refl _)
          have h3 := (bf_pre (x := x) (f0 := f0) (c := c) n).length_le
          exact .inl ⟨n + 1, Nat.le_refl _, by omega, fun j hj => h j (by omega)⟩
  rcases this 28561 with ⟨N, _, h⟩ | h
  · exact ⟨N, h⟩
  · have h1 := h 28561 (Nat.le_refl _)
    have h2 := bf_len (c := c) hx h0 28561
    omega
end Go.Ab.Jug

namespace Go.Ab.Jug
open Go.Ab.V
set_option maxRecDepth 100000
theorem codeF_snoc : ∀ (x f : List Int) (a i : Nat) (hi : i < f.length) (hx : i < x.length), codeF x (f.take (i + 1)) a = codeF x (f.take i) a * (x[i] + 1).toNat + f[i].toNat
  | x, [], a, i, hi, _ => by simp at hi
  | [], _ :: _, a, i, _, hx => by simp at hx
  | q :: x, v :: f, a, 0, _, _ => by simp [codeF]
  | q :: x, v :: f, a, i + 1, hi, hx => by
    have := codeF_snoc x f (a * (q + 1).toNat + v.toNat) i (by simpa using hi) (by simpa using hx)
    simpa [codeF] using this
theorem Code_ok (x f : List Int) (hx : okJ x) (hf : fillB x f = true) : VCall cfg 23 [sl1 x, sl1 f] [] [] (vi (code x f)) [] := by
  have hlf : f.length = x.length := ((fillB_iff x f).1 hf).1
  have hx4 : x.length ≤ 4 := hx.2.1
  (refine VCall.mk (fn := a23) rfl rfl rfl ?_; simp only [a23, inV, mkB, nmsL, PT.set])
  (repeat (first | refine VC.seq ?_ | refine VC.block ?_ | refine VC.kill ?_ | refine VC.skip ?_ | refine VC.exit ?_ | refine VC.regA ?_ | refine VC.condT ?_ | refine VC.condF ?_))
  refine VC.loopG (fun (i : Nat) => ⟨inV [p0, p1, p5, p6] [sl1 x, sl1 f, vi (codeF x (f.take i) 0), vi i] .lf, .lf, [], none⟩) (fun n i => n = f.length - i ∧ i ≤ f.length ∧ codeF x (f.take i) 0 + 1 ≤ 13 ^ i) (x := 0) ?_ ⟨rfl, by omega, by simp [codeF]⟩ ?_
  · (apply Go.Ab.V.G.weak; constructor <;> simp (config := {decide := true}) only [PT.Le, inV, mkB, PT.set, VSt.kill, VSt.adopt, VSt.alloc, PT.filt, PT.map, List.map_cons, List.map_nil, noref, norefB, deadB, deadV, nos, nm, nmL, nmB, nmE, Pa.eqb, cond_true, cond_false, Bool.not_true, Bool.not_false, Bool.and_true, Bool.true_and, nmL_vi, flV_len, flP_len, flV_nm, flV_ok, flV_pv, flP_map, drop_flP, drop_flV, putC_flV, eqV2, eqV3, bneT, bneF, decide_true, decide_false, frzL_vi, frzL_flV, nmE_ag, nmE_at, frzE_ag, frzE_at, ofAg_len, ofAt_len, atL_vi, nmL_map_p, frzL_map_p, okL_p, toPVs_p, repsZ, nmL_reps, putC_vi, get_flV0, get_flV1, Int.toNat_zero, Int.toNat_one, Int.reduceToNat, eqV_slice, eqV_ptr, eqV_func, nilS, nilP, nilF, nmL_append, true_or, or_true, and_self, true_and, and_true, Option.some.injEq, reduceCtorEq, false_or, or_false, VV.p.injEq, PV.at.injEq, Value.int.injEq, sl1, vi, bl1, vb, nilV])
    simp [codeF]
  rintro n i ⟨hn, hi, hc⟩
  simp only [inV, PT.set]
  (repeat (first | refine VC.seq ?_ | refine VC.block ?_ | refine VC.kill ?_ | refine VC.skip ?_ | refine VC.exit ?_ | refine VC.regA ?_ | refine VC.condT ?_ | refine VC.condF ?_))
  refine VC.condA ?_ ?_ <;> intro h <;> (simp only [decide_eq_true_eq, decide_eq_false_iff_not, bne_iff_ne, ne_eq, bne_eq_false_iff_eq, beq_iff_eq, beq_eq_false_iff_ne, Bool.not_eq_true', Bool.not_eq_false', Bool.and_eq_true, Bool.or_eq_true, Int.natCast_inj] at h)
  · have h : i < f.length := by omega
    have h' : i < x.length := by omega
    have hq := okJ_mem hx _ (List.getElem_mem h')
    have hv := ((fillB_iff x f).1 hf).2 i h h'
    have hs := codeF_snoc x f 0 i h h'
    have h13 : 13 ^ i ≤ 13 ^ 3 := Nat.pow_le_pow_right (by decide) (by omega)
    have hpw : 13 ^ (i + 1) = 13 ^ i * 13 := Nat.pow_succ ..
    generalize hC : codeF x (f.take i) 0 = c at *
    generalize hP : 13 ^ i = P at *
    have hm : c * (x[i] + 1).toNat ≤ c * 13 := Nat.mul_le_mul_left _ (by omega)
    have hmi : (c : Int) * (x[i] + 1) = ((c * (x[i] + 1).toNat : Nat) : Int) := by rw [Int.natCast_mul]; congr 1; omega
    have hb0 : 0 ≤ (c : Int) * (x[i] + 1) ∧ (c : Int) * (x[i] + 1) ≤ 100000 := by rw [hmi]; omega
    (repeat (first | refine VC.seq ?_ | refine VC.block ?_ | refine VC.kill ?_ | refine VC.skip ?_ | refine VC.exit ?_ | refine VC.regA ?_ | refine VC.condT ?_ | refine VC.condF ?_))
    refine ⟨_, i + 1, ?_, ⟨rfl, by omega, ?_⟩, ?_⟩
    · omega
    · rw [hs, hpw]; omega
    · (apply Go.Ab.V.G.weak; constructor <;> simp (config := {decide := true}) only [PT.Le, inV, mkB, PT.set, VSt.kill, VSt.adopt, VSt.alloc, PT.filt, PT.map, List.map_cons, List.map_nil, noref, norefB, deadB, deadV, nos, nm, nmL, nmB, nmE, Pa.eqb, cond_true, cond_false, Bool.not_true, Bool.not_false, Bool.and_true, Bool.true_and, nmL_vi, flV_len, flP_len, flV_nm, flV_ok, flV_pv, flP_map, drop_flP, drop_flV, putC_flV, eqV2, eqV3, bneT, bneF, decide_true, decide_false, frzL_vi, frzL_flV, nmE_ag, nmE_at, frzE_ag, frzE_at, ofAg_len, ofAt_len, atL_vi, nmL_map_p, frzL_map_p, okL_p, toPVs_p, repsZ, nmL_reps, putC_vi, get_flV0, get_flV1, Int.toNat_zero, Int.toNat_one, Int.reduceToNat, eqV_slice, eqV_ptr, eqV_func, nilS, nilP, nilF, nmL_append, true_or, or_true, and_self, true_and, and_true, Option.some.injEq, reduceCtorEq, false_or, or_false, VV.p.injEq, PV.at.injEq, Value.int.injEq, sl1, vi, bl1, vb, nilV, hs])
      rw [hmi]
      constructor <;> omega
  · (repeat (first | refine VC.seq ?_ | refine VC.block ?_ | refine VC.kill ?_ | refine VC.skip ?_ | refine VC.exit ?_ | refine VC.regA ?_ | refine VC.condT ?_ | refine VC.condF ?_))
    refine VC.ret (Fin.A ?_)
    rw [List.take_of_length_le (by omega)]; rfl
/-- How far fillings are, by their numbers. -/
def distE (x : List Int) (L : List En) (k : Nat) : Int := match L.find? (fun e => code x e.g == k) with
  | some e => e.d
  | none => -1
def outL (x : List Int) (L : List En) : List Int := (List.range (sizeF x 1)).map (distE x L)
theorem outL_len (x : List Int) (L : List En) : (outL x L).length = sizeF x 1 := by simp [outL]
theorem outL_nil (x : List Int) : outL x [] = List.replicate (sizeF x 1) (-1) := by
  refine List.ext_getElem (by simp [outL]) fun i h1 h2 => ?_
  simp [outL, distE]
theorem outL_get (x : List Int) (L : List En) (k : Nat) (h : k < (outL x L).length) : (outL x L)[k] = distE x L k := by simp [outL]
theorem distE_snoc (x : List Int) (L : List En) (e : En) (k : Nat) (hf : ∀ e' ∈ L, fillB x e'.g = true) (he : fillB x e.g = true) (hn : hasE L e.g = false) : distE x (L ++ [e]) k = if code x e.g = k then (e.d : Int) else distE x L k := by
  unfold distE
  rw [List.find?_append]
  by_cases h : code x e.g = k
  · have : L.find? (fun e => code x e.g == k) = none := by
      rw [List.find?_eq_none]
      intro e' he' hk
      rw [beq_iff_eq] at hk
      have := (codeF_inj x e'.g e.g 0 0 (hf e' he') he (hk.trans h.symm)).2
      rw [← Bool.not_eq_true] at hn
      exact hn (hasE_iff.2 ⟨e', he', this⟩)
    rw [this, if_pos h]
    simp [h]
  · rw [if_neg h]
    have : [e].find? (fun e => code x e.g == k) = none := by simp [h]
    rw [this]
    simp
theorem outL_snoc (x : List Int) (L : List En) (e : En) (hf : ∀ e' ∈ L, fillB x e'.g = true) (he : fillB x e.g = true) (hn : hasE L e.g = false) : outL x (L ++ [e]) = (outL x L).set (code x e.g) e.d := by
  refine List.ext_getElem (by simp [outL]) fun i h1 h2 => ?_
  rw [outL_get, distE_snoc x L e i hf he hn, List.getElem_set]
  split
  · rfl
  · rw [outL_get]
theorem distE_get {x : List Int} {L : List En} (hf : ∀ e ∈ L, fillB x e.g = true) (hn : (L.map En.g).Nodup) {k : Nat} {e : En} (he : L[k]? = some e) : distE x L (code x e.g) = e.d := by
  unfold distE
  have hm := List.mem_of_getElem? he
  cases h : L.find? (fun e' => code x e'.g == code x e.g) with
  | none => rw [List.find?_eq_none] at h; exact absurd (by simp) (h e hm)
  | some e' =>
    have h1 := List.find?_some h
    have h2 := List.mem_of_find?_eq_some h
    rw [beq_iff_eq] at h1
    have h3 := (codeF_inj x e'.g e.g 0 0 (hf e' h2) (hf e hm) h1).2
    obtain ⟨j, hj, hje⟩ := List.mem_iff_getElem.1 h2
    obtain ⟨hk, hke⟩ := List.getElem?_eq_some_iff.1 he
    have : j = k := (List.getElem_inj (h₀ := by simpa using hj) (h₁ := by simpa using hk) hn).1 (by simp [hje, hke, h3])
    subst this
    rw [hje] at hke
    rw [hke]
theorem distE_none {x : List Int} {L : List En} (hf : ∀ e ∈ L, fillB x e.g = true) {g : List Int} (hg : fillB x g = true) (h : hasE L g = false) : distE x L (code x g) = -1 := by
  unfold distE
  have : L.find? (fun e => code x e.g == code x g) = none := by
    rw [List.find?_eq_none]
    intro e he hk
    rw [beq_iff_eq] at hk
    have := (codeF_inj x e.g g 0 0 (hf e he) hg hk).2
    rw [← Bool.not_eq_true] at h
    exact h (hasE_iff.2 ⟨e, he, this⟩)
  rw [this]
theorem distE_neg {x : List Int} {L : List En} (hf : ∀ e ∈ L, fillB x e.g = true) (hn : (L.map En.g).Nodup) {g : List Int} (hg : fillB x g = true) : distE x L (code x g) < 0 ↔ hasE L g = false := by
  constructor
  · intro h
    cases hh : hasE L g with
    | false => rfl
    | true =>
      obtain ⟨e, he, rfl⟩ := hasE_iff.1 hh
      obtain ⟨k, hk, hke⟩ := List.mem_iff_getElem.1 he
      have := distE_get hf hn (k := k) (e := e) (by rw [List.getElem?_eq_getElem hk, hke])
      omega
  · intro h; rw [distE_none hf hg h]; decide
theorem good_d {x f0 : List Int} {c : Bool} {L : List En} (G : Good x c f0 L) : ∀ (k : Nat) (e : En), L[k]? = some e → e.d ≤ k := by
  intro k
  induction k using Nat.strongRecOn with
  | _ k ih =>
    intro e he
    rcases Nat.eq_zero_or_pos k with h | h
    · subst h
      rw [G.root] at he; cases he
      exact Nat.le_refl _
    · obtain ⟨j, e', h1, h2, _, h3, _⟩ := G.par k e he h
      have := ih j h1 e' h2
      omega
end Go.Ab.Jug

namespace Go.Ab.Jug
open Go.Ab.V
set_option maxRecDepth 100000
@[reducible] def kV (g : List Int) : Value := .agg ((pad4 g).map (Value.int .i64)).toArray
def entP (e : En) : List PV := (pad4 e.par).map pi ++ [pi e.st.1, pi e.st.2, pi e.d]
def esP (L : List En) : List (Value × List PV) := L.map fun e => (kV e.g, entP e)
def k4 : List CK := [.int, .int, .int, .int]
theorem keyK {g h : List Int} (hg : g.length ≤ 4) (hh : h.length ≤ 4) : keyEq k4 (kV g) (kV h) = some (decide (pad4 g = pad4 h)) := by
  obtain ⟨a0, a1, a2, a3, hA⟩ := four (pad4_len g hg)
  obtain ⟨b0, b1, b2, b3, hB⟩ := four (pad4_len h hh)
  simp only [kV]
  rw [hA, hB]
  show some ((a0 == b0) && ((a1 == b1) && ((a2 == b2) && ((a3 == b3) && true)))) = _
  congr 1
  rw [Bool.eq_iff_iff]
  simp
theorem findV_es {x : List Int} (hx : x.length ≤ 4) {g : List Int} (hg : fillB x g = true) : ∀ {L : List En}, (∀ e ∈ L, fillB x e.g = true) → findV k4 (kV g) (ofAg (esP L)) = some ((L.find? fun e => decide (e.g = g)).map fun e => .agg ((entP e).map .p))
  | [], _ => rfl
  | e :: L, h => by
    have lg := ((fillB_iff x g).1 hg).1
    have le := ((fillB_iff x e.g).1 (h e (by simp))).1
    have hk := keyK (g := g) (h := e.g) (by omega) (by omega)
    have ih := findV_es hx hg (L := L) fun e he => h e (List.mem_cons_of_mem _ he)
    show (match keyEq k4 (kV g) (kV e.g) with
      | some true => some (some (VV.agg ((entP e).map .p)))
      | some false => findV k4 (kV g) (ofAg (esP L))
      | none => none) = _
    rw [hk]
    by_cases he : e.g = g
    · rw [decide_eq_true (by rw [he]), List.find?_cons_of_pos (by simpa using he)]; rfl
    · rw [decide_eq_false (fun e1 => he (pad4_inj (by omega) e1).symm), List.find?_cons_of_neg (by simpa using he)]; exact ih
theorem setE_es {x : List Int} (hx : x.length ≤ 4) {g : List Int} (hg : fillB x g = true) (v : VV) : ∀ {L : List En}, (∀ e ∈ L, fillB x e.g = true) → hasE L g = false → setE2 k4 (kV g) v (ofAg (esP L)) = ofAg (esP L) ++ [(kV g, v)]
  | [], _, _ => rfl
  | e :: L, h, hn => by
    have lg := ((fillB_iff x g).1 hg).1
    have le := ((fillB_iff x e.g).1 (h e (by simp))).1
    have hk := keyK (g := g) (h := e.g) (by omega) (by omega)
    have hne : e.g ≠ g := fun e1 => by
      have : hasE (e :: L) g = true := hasE_iff.2 ⟨e, by simp, e1⟩
      rw [hn] at this; cases this
    have hnL : hasE L g = false := by
      cases hb : hasE L g with
      | false => rfl
      | true =>
        obtain ⟨e', h1, h2⟩ := hasE_iff.1 hb
        have : hasE (e :: L) g = true := hasE_iff.2 ⟨e', List.mem_cons_of_mem _ h1, h2⟩
        rw [hn] at this; cases this
    have ih := setE_es hx hg v (L := L) (fun e he => h e (List.mem_cons_of_mem _ he)) hnL
    show (match keyEq k4 (kV g) (kV e.g) with
      | some true => (kV g, v) :: ofAg (esP L)
      | _ => (kV e.g, VV.agg ((entP e).map .p)) :: setE2 k4 (kV g) v (ofAg (esP L))) = _
    rw [hk, decide_eq_false (fun e1 => hne (pad4_inj (by omega) e1).symm), ih]; rfl
theorem find_none {L : List En} {g : List Int} (h : hasE L g = false) : (L.find? fun e => decide (e.g = g)) = none := by
  rw [List.find?_eq_none]
  intro e he hk
  have : hasE L g = true := hasE_iff.2 ⟨e, he, by simpa using hk⟩
  rw [h] at this; cases this
theorem find_some {L : List En} (hn : (L.map En.g).Nodup) {k : Nat} {e : En} (he : L[k]? = some e) : (L.find? fun e' => decide (e'.g = e.g)) = some e := by
  cases h : L.find? fun e' => decide (e'.g = e.g) with
  | none =>
    rw [List.find?_eq_none] at h
    exact absurd (by simp) (h e (List.mem_of_getElem? he))
  | some e' =>
    have h1 := List.find?_some h
    have h2 := List.mem_of_find?_eq_some h
    obtain ⟨j, hj, hje⟩ := List.mem_iff_getElem.1 h2
    obtain ⟨hk, hke⟩ := List.getElem?_eq_some_iff.1 he
    have : j = k := (List.getElem_inj (h₀ := by simpa using hj) (h₁ := by simpa using hk) hn).1 (by simp [hje, hke]; simpa using h1)
    subst this
    rw [← hje, ← hke]
/-- The fillings that wait, in a row. -/
def qP (L : List En) : List PV := L.flatMap fun e => (pad4 e.g).map pi
theorem qP_cons (e : En) (L : List En) : qP (e :: L) = (pad4 e.g).map pi ++ qP L := rfl
theorem qP_append (L M : List En) : qP (L ++ M) = qP L ++ qP M := by simp [qP]
theorem qP_len : ∀ {L : List En}, (∀ e ∈ L, e.g.length ≤ 4) → (qP L).length = L.length * 4
  | [], _ => rfl
  | e :: L, h => by
    rw [qP_cons, List.length_append, List.length_map, pad4_len _ (h e (by simp)), qP_len fun e he => h e (List.mem_cons_of_mem _ he), List.length_cons]; omega
theorem pad4_zero (n : Nat) (h : n ≤ 4) : pad4 (List.replicate n 0) = [0, 0, 0, 0] := by
  have : n = 0 ∨ n = 1 ∨ n = 2 ∨ n = 3 ∨ n = 4 := by omega
  rcases this with rfl | rfl | rfl | rfl | rfl <;> rfl
theorem Good.par_len {x f0 : List Int} {c : Bool} {L : List En} (G : Good x c f0 L) {e : En} (he : e ∈ L) : e.par.length = x.length := by
  rcases G.fill e he with h | h
  · exact ((fillB_iff x _).1 h.2).1
  · rw [h]; simp [Go.Ab.Jug.root]
theorem entP_len {e : En} (h : e.par.length ≤ 4) : (entP e).length = 7 := by simp [entP, pad4_len _ h]
set_option maxHeartbeats 8000000 in
theorem reached_ok (x f : List Int) (c : Bool) (hx : okJ x) (hf : fillB x f = true) (k : Nat) (hk : k ≠ 20) (pc : List PV) (P : List Int → Bool) (hP : ∀ g, fillB x g = true → VCall cfg k (.agg ((pad4 g).map vi) :: pc.map .p) [] [] (vb (P g)) [])
    (M : Nat) (fb : Bool) (out : List Int) (hM : ∀ j, j < M → ∃ e, (bf x f c j)[j]? = some e ∧ P e.g = false) (h1 : fb = true → ∃ e, (bf x f c M)[M]? = some e ∧ P e.g = true ∧ out = e.g) (h0 : fb = false → M = (bf x f c M).length ∧ out = List.replicate x.length 0) :
    VCall cfg 66 [jugP x c, .agg ((pad4 f).map vi), .clos k [] (pc.map .p)] [] [p18] (.tup [.om p18, .agg ((pad4 out).map vi), vb fb]) [(p18, .map (ofAg (esP (bf x f c M))))] := by
  have hx4 : x.length ≤ 4 := hx.2.1
  have hlf : f.length = x.length := ((fillB_iff x f).1 hf).1
  obtain ⟨f0, f1, f2, f3, hF⟩ := four (pad4_len f (by omega))
  have hk4 : [CK.int, .int, .int, .int] = k4 := rfl
  have hroot : ofAg (esP [root x f]) = [(.agg [Value.int .i64 f0, .int .i64 f1, .int .i64 f2, .int .i64 f3].toArray, .agg [vi 0, vi 0, vi 0, vi 0, vi 0, vi 0, vi 0])] := by
    simp only [esP, root, List.map_cons, List.map_nil, kV, entP, hF, pad4_zero _ hx4]; rfl
  have hq0 : qP [root x f] = [pi f0, pi f1, pi f2, pi f3] := by simp only [qP, root, List.flatMap_cons, List.flatMap_nil, hF]; rfl
  have hself := keyK (g := f) (h := f) (by omega) (by omega)
  rw [decide_eq_true rfl] at hself
  simp only [kV, hF, List.map_cons, List.map_nil] at hself
  unfold jugP
  (refine VCall.mk (fn := a66) rfl rfl rfl ?_; simp only [a66, inV, mkB, nmsL, PT.set])
  (repeat (first | refine VC.seq ?_ | refine VC.block ?_ | refine VC.kill ?_ | refine VC.skip ?_ | refine VC.exit ?_ | refine VC.regA ?_ | refine VC.condT ?_ | refine VC.condF ?_))
  ((try (apply VC.regU; · ((simp (config := {decide := false, maxSteps := 1000000}) (disch := omega) only [vev_call, putC_c0, putC_n0, putC_cs, ble0, List.getElem?_cons_zero, List.getElem?_cons_succ, runU, isCall, wantV, vev, evV, ofVal, ofAtom, atomB, cond_true, cond_false, PT.get, PT.set, PT.filt, PT.map, Option.getD_some, Option.getD_none, ret1V, ret1X, v_ld, v_ias, v_iad, v_fad, v_slsl, v_slarr, v_st, v_app, v_cpy, v_len, v_look, v_mset, elsV, partV, newV, free, atV, atI, atL, toVal, cellsV, okV, VSt.put, VSt.kill, VSt.alloc, VSt.frz, VSt.adopt, noref, norefB, deadB, deadV, nos, nm, nmL, nmB, nmE, Pa.eqb, Bool.not_false, Bool.not_true, Bool.and_true, Bool.true_and, Bool.false_and, Bool.and_false, bin, intOps, intBin, cvt, un, goInt, bndsV, bndV, Option.map_some, Option.map_none, List.map_cons, List.map_nil, Int.toNat_natCast, Nat.mul_one, Nat.zero_add, beq_true, beq_false, beq_self_eq_true, List.length_map, List.length_cons, List.length_nil, List.length_append, fillV, pEvV, repsV, List.append_nil, List.nil_append, if_pos, if_neg, reduceIte, List.getElem?_map, List.getElem?_drop, Nat.add_zero, List.getElem?_eq_getElem, Go.IntWalk.i64_in, wrap_u64, tmod_pos, eq_self, true_and, and_true, and_self, List.all_cons, List.all_nil, nmL_vi, flV_len, flP_len, flV_nm, flV_ok, flV_pv, flP_map, drop_flP, drop_flV, putC_flV, eqV2, eqV3, bneT, bneF, decide_true, decide_false, frzL_vi, frzL_flV, nmE_ag, nmE_at, frzE_ag, frzE_at, ofAg_len, ofAt_len, atL_vi, nmL_map_p, frzL_map_p, okL_p, toPVs_p, repsZ, nmL_reps, putC_vi, get_flV0, get_flV1, Int.toNat_zero, Int.toNat_one, Int.reduceToNat, eqV_slice, eqV_ptr, eqV_func, nilS, nilP, nilF, nmL_append, okL_vi, toPVs_vi, toPVs, toPV, frzV, frzL, frzB, resVV, vi, vb, nilV, sl1, bl1, pi, foldV, max2, min2, max_eq, min_eq, Int.tdiv_eq_ediv_of_nonneg, Int.cast_ofNat_Int, Option.isSome_none, Option.isSome_some, Option.isNone_none, Option.isNone_some, and_false, false_and, sl2, sl1P, slP, min_cast, take_map_pi, map_pi, Nat.sub_zero, Nat.zero_mul, List.length_take, decide_eq_true, decide_eq_false, Bool.true_eq_false, Bool.false_eq_true, beqT, beqF, ibeq, ibne, List.take_zero, List.take_succ_cons, List.drop_zero, List.drop_succ_cons, List.drop_nil, List.take_nil, List.cons_append, Bool.not_true, Bool.not_false, hF, hk4, hself, findV, setE2]); rfl))); (repeat (first | refine VC.seq ?_ | refine VC.block ?_ | refine VC.kill ?_ | refine VC.skip ?_ | refine VC.exit ?_ | refine VC.regA ?_ | refine VC.condT ?_ | refine VC.condF ?_)))
  refine VC.ghost (G.osobA (p := p10) (n := 1) 0 G.refl (by decide)) ?_
  (simp only [VSt.kill, VSt.osob, VSt.adoptB, VSt.adopt, VSt.alloc, PT.filt, norefB, deadB, deadV, PT.map, Option.map_some, Option.map_none, List.map_cons, List.map_nil, noref, nos, nm, nmL, nmB, nmE, Pa.eqb, PT.set, mkB, inV, cond_true, cond_false, Bool.and_true, Bool.not_false, Bool.not_true, List.set_cons_zero, List.set_cons_succ])
  refine VC.loopG (fun (q : Nat × Nat × List PV) => ⟨inV [p0, p2, p7, p9, p10, p11, p12] [.p (.fp 0 (jugC x c)), .clos k [] (pc.map .p), .op 0 p7 0, .op 0 p9 0, .op 0 p10 0, .op 0 p11 0, vb false] .lf,
    mkB [(p7, .cells [vi 0, vi 0, vi 0, vi 0]), (p9, .cells [.om p18]), (p18, .map (ofAg (esP (bf x f c q.1)))), (p10, .cells [.ob 4 p23 q.2.1 ((bf x f c q.1).length - q.1) ((bf x f c q.1).length - q.1)]), (p23, .cells (q.2.2.map .p)), (p11, .cells [vi 0, vi 0, vi 0, vi 0])] .lf, [], none⟩)
    (fun n q => n = M - q.1 ∧ q.1 ≤ M ∧ q.2.2.drop q.2.1 = qP ((bf x f c q.1).drop q.1) ∧ q.2.1 ≤ q.2.2.length) (x := (0, 0, qP [root x f])) ?_ ⟨rfl, Nat.zero_le _, rfl, Nat.zero_le _⟩ ?_
  · have e1 : bf x f c 0 = [root x f] := rfl
    have e2 : ([root x f] : List En).length - 0 = 1 := rfl
    (apply Go.Ab.V.G.weak; constructor <;> simp (config := {decide := true}) only [PT.Le, inV, mkB, PT.set, VSt.kill, VSt.adopt, VSt.alloc, PT.filt, PT.map, List.map_cons, List.map_nil, noref, norefB, deadB, deadV, nos, nm, nmL, nmB, nmE, Pa.eqb, cond_true, cond_false, Bool.not_true, Bool.not_false, Bool.and_true, Bool.true_and, nmL_vi, flV_len, flP_len, flV_nm, flV_ok, flV_pv, flP_map, drop_flP, drop_flV, putC_flV, eqV2, eqV3, bneT, bneF, decide_true, decide_false, frzL_vi, frzL_flV, nmE_ag, nmE_at, frzE_ag, frzE_at, ofAg_len, ofAt_len, atL_vi, nmL_map_p, frzL_map_p, okL_p, toPVs_p, repsZ, nmL_reps, putC_vi, get_flV0, get_flV1, Int.toNat_zero, Int.toNat_one, Int.reduceToNat, eqV_slice, eqV_ptr, eqV_func, nilS, nilP, nilF, nmL_append, true_or, or_true, and_self, true_and, and_true, Option.some.injEq, reduceCtorEq, false_or, or_false, VV.p.injEq, PV.at.injEq, Value.int.injEq, sl1, vi, bl1, vb, nilV, e1, e2, hroot, hq0, pi, List.map_cons, List.map_nil])
  rintro n ⟨i, off, C⟩ ⟨hn, hi, hC, hoff⟩
  simp only at hn hi hC hoff
  have hG := bf_good (x := x) (f0 := f) (c := c) hf i
  have hbl := bf_len (c := c) hx hf i
  generalize hL : bf x f c i = L at *
  simp only [inV, PT.set, mkB]
  cases hLi : L[i]? with
  | none =>
    have hlen : L.length ≤ i := List.getElem?_eq_none_iff.1 hLi
    have hiM : i = M := by
      rcases Nat.lt_or_ge i M with h | h
      · obtain ⟨e, he, _⟩ := hM i h
        rw [hL, hLi] at he; cases he
      · omega
    subst hiM
    cases hfb : fb with
    | true =>
      obtain ⟨e, he, _⟩ := h1 hfb
      rw [hL, hLi] at he; cases he
    | false =>
      obtain ⟨_, rfl⟩ := h0 hfb
      have hn0 : L.length - i = 0 := by omega
      rw [hn0, pad4_zero _ hx4]
      (repeat (first | refine VC.seq ?_ | refine VC.block ?_ | refine VC.kill ?_ | refine VC.skip ?_ | refine VC.exit ?_ | refine VC.regA ?_ | refine VC.condT ?_ | refine VC.condF ?_))
      rw [hL]
      refine VC.ret (Fin.of rfl rfl ?_ rfl rfl ?_)
      · simp [mkB, PT.set, PT.Le, p18]
      · simp [subs, nm, nmL, nmsB, nmB, nmE_ag, nos, Pa.eqb, vi, vb]
  | some e =>
    have hil := (List.getElem?_eq_some_iff.1 hLi).1
    have hfe := hG.gfill hf (List.mem_of_getElem? hLi)
    have hle : e.g.length = x.length := ((fillB_iff x _).1 hfe).1
    obtain ⟨a0, a1, a2, a3, hA⟩ := four (pad4_len e.g (by omega))
    have hdr : L.drop i = e :: L.drop (i + 1) := by rw [List.drop_eq_getElem_cons hil, (List.getElem?_eq_some_iff.1 hLi).2]
    have hn1 : L.length - i = (L.drop (i + 1)).length + 1 := by simp; omega
    have hC2 : C.drop off = [pi a0, pi a1, pi a2, pi a3] ++ qP (L.drop (i + 1)) := by rw [hC, hdr, qP_cons, hA]; rfl
    have hqr : (qP (L.drop (i + 1))).length = (L.drop (i + 1)).length * 4 := qP_len fun e' he' => by
      have := ((fillB_iff x _).1 (hG.gfill hf (List.mem_of_mem_drop he'))).1
      omega
    have hCl : C.length = off + 4 + (L.drop (i + 1)).length * 4 := by
      have := congrArg List.length hC2
      rw [List.length_drop, List.length_append, hqr] at this
      simp at this; omega
    have hCm : List.drop off (C.map VV.p) = .p (pi a0) :: .p (pi a1) :: .p (pi a2) :: .p (pi a3) :: (qP (L.drop (i + 1))).map .p := by rw [← List.map_drop, hC2]; rfl
    have hPe := hP e.g hfe
    rw [hA] at hPe
    simp only [List.map_cons, List.map_nil] at hPe
    rw [hn1]
    generalize hR : (L.drop (i + 1)).length = r at *
    (repeat (first | refine VC.seq ?_ | refine VC.block ?_ | refine VC.kill ?_ | refine VC.skip ?_ | refine VC.exit ?_ | refine VC.regA ?_ | refine VC.condT ?_ | refine VC.condF ?_))
    ((try (apply VC.regU; · ((simp (config := {decide := false, maxSteps := 1000000}) (disch := omega) only [vev_call, putC_c0, putC_n0, putC_cs, ble0, List.getElem?_cons_zero, List.getElem?_cons_succ, runU, isCall, wantV, vev, evV, ofVal, ofAtom, atomB, cond_true, cond_false, PT.get, PT.set, PT.filt, PT.map, Option.getD_some, Option.getD_none, ret1V, ret1X, v_ld, v_ias, v_iad, v_fad, v_slsl, v_slarr, v_st, v_app, v_cpy, v_len, v_look, v_mset, elsV, partV, newV, free, atV, atI, atL, toVal, cellsV, okV, VSt.put, VSt.kill, VSt.alloc, VSt.frz, VSt.adopt, noref, norefB, deadB, deadV, nos, nm, nmL, nmB, nmE, Pa.eqb, Bool.not_false, Bool.not_true, Bool.and_true, Bool.true_and, Bool.false_and, Bool.and_false, bin, intOps, intBin, cvt, un, goInt, bndsV, bndV, Option.map_some, Option.map_none, List.map_cons, List.map_nil, Int.toNat_natCast, Nat.mul_one, Nat.zero_add, beq_true, beq_false, beq_self_eq_true, List.length_map, List.length_cons, List.length_nil, List.length_append, fillV, pEvV, repsV, List.append_nil, List.nil_append, if_pos, if_neg, reduceIte, List.getElem?_map, List.getElem?_drop, Nat.add_zero, List.getElem?_eq_getElem, Go.IntWalk.i64_in, wrap_u64, tmod_pos, eq_self, true_and, and_true, and_self, List.all_cons, List.all_nil, nmL_vi, flV_len, flP_len, flV_nm, flV_ok, flV_pv, flP_map, drop_flP, drop_flV, putC_flV, eqV2, eqV3, bneT, bneF, decide_true, decide_false, frzL_vi, frzL_flV, nmE_ag, nmE_at, frzE_ag, frzE_at, ofAg_len, ofAt_len, atL_vi, nmL_map_p, frzL_map_p, okL_p, toPVs_p, repsZ, nmL_reps, putC_vi, get_flV0, get_flV1, Int.toNat_zero, Int.toNat_one, Int.reduceToNat, eqV_slice, eqV_ptr, eqV_func, nilS, nilP, nilF, nmL_append, okL_vi, toPVs_vi, toPVs, toPV, frzV, frzL, frzB, resVV, vi, vb, nilV, sl1, bl1, pi, foldV, max2, min2, max_eq, min_eq, Int.tdiv_eq_ediv_of_nonneg, Int.cast_ofNat_Int, Option.isSome_none, Option.isSome_some, Option.isNone_none, Option.isNone_some, and_false, false_and, sl2, sl1P, slP, min_cast, take_map_pi, map_pi, Nat.sub_zero, Nat.zero_mul, List.length_take, decide_eq_true, decide_eq_false, Bool.true_eq_false, Bool.false_eq_true, beqT, beqF, ibeq, ibne, List.take_zero, List.take_succ_cons, List.drop_zero, List.drop_succ_cons, List.drop_nil, List.take_nil, List.cons_append, Bool.not_true, Bool.not_false, hCm, hCl]); rfl))); (repeat (first | refine VC.seq ?_ | refine VC.block ?_ | refine VC.kill ?_ | refine VC.skip ?_ | refine VC.exit ?_ | refine VC.regA ?_ | refine VC.condT ?_ | refine VC.condF ?_)))
    simp only [Nat.one_mul, Nat.add_sub_cancel]
    refine VC.regCA ?_
    refine VO.moreA ?_
    refine VO.call0A (no_orc k hk) hPe ?_
    refine VO.endA ?_
    rcases Nat.lt_or_ge i M with hiM | hiM
    · have hPf : P e.g = false := by
        obtain ⟨e', he', hp⟩ := hM i hiM
        rw [hL, hLi] at he'; cases he'; exact hp
      rw [hPf]
      (repeat (first | refine VC.seq ?_ | refine VC.block ?_ | refine VC.kill ?_ | refine VC.skip ?_ | refine VC.exit ?_ | refine VC.regA ?_ | refine VC.condT ?_ | refine VC.condF ?_))
      have kst := stepsJ_ok x e.g c hx4 hle
      have hit := stepsIt x e.g c hx4 (okJ_mem hx) hfe
      unfold jugP at kst
      rw [hA] at kst hit
      simp only [List.map_cons, List.map_nil] at kst hit
      refine VC.regCA ?_
      refine VO.moreA ?_
      refine VO.call0A (no_orc 47 (by decide)) kst ?_
      refine VO.endA ?_
      (repeat (first | refine VC.seq ?_ | refine VC.block ?_ | refine VC.kill ?_ | refine VC.skip ?_ | refine VC.exit ?_ | refine VC.regA ?_ | refine VC.condT ?_ | refine VC.condF ?_))
      (simp only [VSt.kill, VSt.osob, VSt.adoptB, VSt.adopt, VSt.alloc, PT.filt, norefB, deadB, deadV, PT.map, Option.map_some, Option.map_none, List.map_cons, List.map_nil, noref, nos, nm, nmL, nmB, nmE, Pa.eqb, PT.set, mkB, inV, cond_true, cond_false, Bool.and_true, Bool.not_false, Bool.not_true, List.set_cons_zero, List.set_cons_succ])
      have hjt : itemsJ x e.g c = (succs x c e.g).map fun s => encI (s.1, pad4 s.2) := by simp only [itemsJ, succs, List.map_map]; rfl
      rw [hjt] at hit
      refine VC.rangeFA (fun (q : List En × Nat × List PV) => mkB [(p7, .cells [vi 0, vi 0, vi 0, vi 0]), (p9, .cells [.om p18]), (p18, .map (ofAg (esP q.1))), (p10, .cells [.ob 4 p23 q.2.1 (q.1.length - (i + 1)) (q.1.length - (i + 1))]), (p23, .cells (q.2.2.map .p)), (p11, .cells [vi 0, vi 0, vi 0, vi 0]), (p13, .cells [vi a0, vi a1, vi a2, vi a3])] .lf)
        (fun j q => q.1 = addAll e.g e.d L ((succs x c e.g).take j) ∧ q.2.2.drop q.2.1 = qP (q.1.drop (i + 1)) ∧ q.2.1 ≤ q.2.2.length) (x0 := (L, off + 4, C)) [p7, p9, p10, p11, p13] (no_orc 65 (by decide)) hit ?_ ?_ ?_ ?_ ?_ ?_
      · simp [NmOk, nm, nmL, nmL_map_p, VSt.kill, PT.set]
      · have hlr : L.length - (i + 1) = r := by rw [← hR, List.length_drop]
        simp [mkB, PT.set, PT.Le, VSt.kill, hlr, vi, p7, p9, p10, p11, p13, p18, p23]
      · refine ⟨rfl, ?_, by simp only; omega⟩
        simp only
        rw [← List.drop_drop, hC2, List.drop_append_of_le_length (by simp)]
        simp
      · intro y hy
        obtain ⟨s, _, rfl⟩ := List.mem_map.1 hy
        rfl
      · rintro j ⟨L', off', C'⟩ hlt ⟨hL', hC', hoff'⟩
        simp only at hL' hC' hoff'
        have hj : j < (succs x c e.g).length := by simpa using hlt
        rw [List.getElem_map]
        generalize hs : (succs x c e.g)[j] = s
        have hsm : s ∈ succs x c e.g := by rw [← hs]; exact List.getElem_mem hj
        have hfg := succ_fill hsm hfe
        have hlg : s.2.length = x.length := ((fillB_iff x _).1 hfg).1
        have hG' : Good x c f L' := by rw [hL']; exact Good.all hf _ hG hLi fun s hs => List.mem_of_mem_take hs
        have hlL' : L'.length ≤ 28561 := by have := good_len hG' hf; have := sizeF_le x 1 4 (okJ_mem hx) hx4; omega
        have hpre : L <+: L' := by rw [hL']; exact addAll_pre _ _ _ _
        have he' : L'[i]? = some e := by
          obtain ⟨t, ht⟩ := hpre
          rw [← ht, List.getElem?_append_left hil]; exact hLi
        have hil' := (List.getElem?_eq_some_iff.1 he').1
        have hf' : ∀ e ∈ L', fillB x e.g = true := fun e he => hG'.gfill hf he
        have hqr' : (qP (L'.drop (i + 1))).length = (L'.drop (i + 1)).length * 4 := qP_len fun e' he' => by
          have := ((fillB_iff x _).1 (hf' _ (List.mem_of_mem_drop he'))).1
          omega
        have hnx : addAll e.g e.d L ((succs x c e.g).take (j + 1)) = addOne e.g e.d L' s := by
          rw [List.take_add_one, List.getElem?_eq_getElem hj, hs]
          show addAll e.g e.d L ((succs x c e.g).take j ++ [s]) = _
          rw [addAll_snoc, ← hL']
        have hfs := findV_es hx4 hfg hf'
        have hfe2 := findV_es hx4 hfe hf'
        rw [find_some hG'.nodup he'] at hfe2
        have hks := keyK (g := s.2) (h := s.2) (by omega) (by omega)
        have hke := keyK (g := e.g) (h := e.g) (by omega) (by omega)
        rw [decide_eq_true rfl] at hks hke
        have hse := fun v => setE_es hx4 hfg v hf'
        have hed := good_d hG' i e he'
        obtain ⟨b0, b1, b2, b3, hB⟩ := four (pad4_len s.2 (by omega))
        simp only [kV, hA, hB, List.map_cons, List.map_nil] at hfs hfe2 hks hke hse
        obtain ⟨⟨s1, s2⟩, g⟩ := s
        simp only at hfg hlg hnx hfs hks hse hB
        rw [hB]
        simp only [encI, ag2, List.map_cons, List.map_nil]
        have hn' : L'.length - (i + 1) = (L'.drop (i + 1)).length := by rw [List.length_drop]
        have hCl' : C'.length = off' + (L'.drop (i + 1)).length * 4 := by
          have := congrArg List.length hC'
          rw [List.length_drop, hqr'] at this; omega
        have hrl : (L'.drop (i + 1)).length ≤ 28561 := by rw [List.length_drop]; omega
        (simp only [VSt.kill, VSt.osob, VSt.adoptB, VSt.adopt, VSt.alloc, PT.filt, norefB, deadB, deadV, PT.map, Option.map_some, Option.map_none, List.map_cons, List.map_nil, noref, nos, nm, nmL, nmB, nmE, Pa.eqb, PT.set, mkB, inV, cond_true, cond_false, Bool.and_true, Bool.not_false, Bool.not_true, List.set_cons_zero, List.set_cons_succ])
        rw [hn']
        generalize hR' : (L'.drop (i + 1)).length = r' at *
        cases hh : hasE L' g with
        | true =>
          have hLs : addOne e.g e.d L' ((s1, s2), g) = L' := by unfold addOne; rw [if_pos hh]
          obtain ⟨e2, he2⟩ : ∃ e2, (L'.find? fun e => decide (e.g = g)) = some e2 := by
            cases hq : L'.find? fun e => decide (e.g = g) with
            | some e2 => exact ⟨e2, rfl⟩
            | none =>
              rw [List.find?_eq_none] at hq
              obtain ⟨e3, h3, h4⟩ := hasE_iff.1 hh
              exact absurd (by simpa using h4) (hq e3 h3)
          rw [he2] at hfs
          simp only [Option.map_some] at hfs
          have h7 := entP_len (e := e2) (by have := hG'.par_len (List.mem_of_find?_eq_some he2); omega)
          (repeat (first | refine VC.seq ?_ | refine VC.block ?_ | refine VC.kill ?_ | refine VC.skip ?_ | refine VC.exit ?_ | refine VC.regA ?_ | refine VC.condT ?_ | refine VC.condF ?_))
          apply VC.regU
          · (simp (config := {decide := false, maxSteps := 1000000}) (disch := omega) only [vev_call, putC_c0, putC_n0, putC_cs, ble0, List.getElem?_cons_zero, List.getElem?_cons_succ, runU, isCall, wantV, vev, evV, ofVal, ofAtom, atomB, cond_true, cond_false, PT.get, PT.set, PT.filt, PT.map, Option.getD_some, Option.getD_none, ret1V, ret1X, v_ld, v_ias, v_iad, v_fad, v_slsl, v_slarr, v_st, v_app, v_cpy, v_len, v_look, v_mset, elsV, partV, newV, free, atV, atI, atL, toVal, cellsV, okV, VSt.put, VSt.kill, VSt.alloc, VSt.frz, VSt.adopt, noref, norefB, deadB, deadV, nos, nm, nmL, nmB, nmE, Pa.eqb, Bool.not_false, Bool.not_true, Bool.and_true, Bool.true_and, Bool.false_and, Bool.and_false, bin, intOps, intBin, cvt, un, goInt, bndsV, bndV, Option.map_some, Option.map_none, List.map_cons, List.map_nil, Int.toNat_natCast, Nat.mul_one, Nat.zero_add, beq_true, beq_false, beq_self_eq_true, List.length_map, List.length_cons, List.length_nil, List.length_append, fillV, pEvV, repsV, List.append_nil, List.nil_append, if_pos, if_neg, reduceIte, List.getElem?_map, List.getElem?_drop, Nat.add_zero, List.getElem?_eq_getElem, Go.IntWalk.i64_in, wrap_u64, tmod_pos, eq_self, true_and, and_true, and_self, List.all_cons, List.all_nil, nmL_vi, flV_len, flP_len, flV_nm, flV_ok, flV_pv, flP_map, drop_flP, drop_flV, putC_flV, eqV2, eqV3, bneT, bneF, decide_true, decide_false, frzL_vi, frzL_flV, nmE_ag, nmE_at, frzE_ag, frzE_at, ofAg_len, ofAt_len, atL_vi, nmL_map_p, frzL_map_p, okL_p, toPVs_p, repsZ, nmL_reps, putC_vi, get_flV0, get_flV1, Int.toNat_zero, Int.toNat_one, Int.reduceToNat, eqV_slice, eqV_ptr, eqV_func, nilS, nilP, nilF, nmL_append, okL_vi, toPVs_vi, toPVs, toPV, frzV, frzL, frzB, resVV, vi, vb, nilV, sl1, bl1, pi, foldV, max2, min2, max_eq, min_eq, Int.tdiv_eq_ediv_of_nonneg, Int.cast_ofNat_Int, Option.isSome_none, Option.isSome_some, Option.isNone_none, Option.isNone_some, and_false, false_and, sl2, sl1P, slP, min_cast, take_map_pi, map_pi, Nat.sub_zero, Nat.zero_mul, List.length_take, decide_eq_true, decide_eq_false, Bool.true_eq_false, Bool.false_eq_true, beqT, beqF, ibeq, ibne, List.take_zero, List.take_succ_cons, List.drop_zero, List.drop_succ_cons, List.drop_nil, List.take_nil, List.cons_append, Bool.not_true, Bool.not_false, hk4, hks, hfs, h7])
            rfl
          (repeat (first | refine VC.seq ?_ | refine VC.block ?_ | refine VC.kill ?_ | refine VC.skip ?_ | refine VC.exit ?_ | refine VC.regA ?_ | refine VC.condT ?_ | refine VC.condF ?_))
          refine ⟨by simp, (L', off', C'), ⟨by rw [hnx, hLs], hC', hoff'⟩, ?_⟩
          (apply Go.Ab.V.G.weak; constructor <;> simp (config := {decide := true}) only [PT.Le, inV, mkB, PT.set, VSt.kill, VSt.adopt, VSt.alloc, PT.filt, PT.map, List.map_cons, List.map_nil, noref, norefB, deadB, deadV, nos, nm, nmL, nmB, nmE, Pa.eqb, cond_true, cond_false, Bool.not_true, Bool.not_false, Bool.and_true, Bool.true_and, nmL_vi, flV_len, flP_len, flV_nm, flV_ok, flV_pv, flP_map, drop_flP, drop_flV, putC_flV, eqV2, eqV3, bneT, bneF, decide_true, decide_false, frzL_vi, frzL_flV, nmE_ag, nmE_at, frzE_ag, frzE_at, ofAg_len, ofAt_len, atL_vi, nmL_map_p, frzL_map_p, okL_p, toPVs_p, repsZ, nmL_reps, putC_vi, get_flV0, get_flV1, Int.toNat_zero, Int.toNat_one, Int.reduceToNat, eqV_slice, eqV_ptr, eqV_func, nilS, nilP, nilF, nmL_append, true_or, or_true, and_self, true_and, and_true, Option.some.injEq, reduceCtorEq, false_or, or_false, VV.p.injEq, PV.at.injEq, Value.int.injEq, sl1, vi, bl1, vb, nilV, hn', hR'])
          (all_goals first | rfl | omega | exact ⟨rfl, by omega⟩)
        | false =>
          obtain ⟨E, hE⟩ : ∃ E : En, E = ⟨g, e.g, (s1, s2), e.d + 1⟩ := ⟨_, rfl⟩
          have hLs : addOne e.g e.d L' ((s1, s2), g) = L' ++ [E] := by unfold addOne; rw [if_neg (by rw [hh]; simp), hE]
          rw [find_none hh] at hfs
          simp only [Option.map_none, Option.map_some] at hfs hfe2
          obtain ⟨c0, c1, c2, c3, hCp⟩ := four (pad4_len e.par (by have := hG'.par_len (List.mem_of_getElem? he'); omega))
          have hen : entP e = [pi c0, pi c1, pi c2, pi c3, pi e.st.1, pi e.st.2, pi e.d] := by simp only [entP, hCp]; rfl
          rw [hen] at hfe2
          have hne : ofAg (esP (L' ++ [E])) = ofAg (esP L') ++ [(.agg [Value.int .i64 b0, .int .i64 b1, .int .i64 b2, .int .i64 b3].toArray, .agg [vi a0, vi a1, vi a2, vi a3, vi s1, vi s2, vi (e.d + 1)])] := by
            subst hE
            simp only [ofAg, esP, List.map_append, List.map_cons, List.map_nil, kV, hB, entP, hA]; rfl
          have hse := (hse (.agg [vi a0, vi a1, vi a2, vi a3, vi s1, vi s2, vi (e.d + 1)]) hh).trans hne.symm
          simp only [vi] at hse
          have hcm : ((C'.drop off').take (r' * 4) ++ [pi b0, pi b1, pi b2, pi b3]).map VV.p = List.take (r' * 4) (List.drop off' (C'.map VV.p)) ++ [.p (pi b0), .p (pi b1), .p (pi b2), .p (pi b3)] := by
            rw [List.map_append, List.map_take, List.map_drop]; rfl
          have hqe : (C'.drop off').take (r' * 4) ++ [pi b0, pi b1, pi b2, pi b3] = qP ((L' ++ [E]).drop (i + 1)) := by
            rw [List.drop_append_of_le_length (by omega), qP_append, ← hC', List.take_of_length_le (by rw [hC', hqr']; exact Nat.le_refl _)]
            subst hE
            simp only [qP, List.flatMap_cons, List.flatMap_nil, hB]; rfl
          have hnl : (L' ++ [E]).length - (i + 1) = r' + 1 := by
            rw [List.length_append, ← hR', List.length_drop]; simp; omega
          have htd : nmL (List.take (r' * 4) (List.drop off' (C'.map VV.p))) = [] := by rw [← List.map_drop, ← List.map_take]; exact nmL_map_p _
          (repeat (first | refine VC.seq ?_ | refine VC.block ?_ | refine VC.kill ?_ | refine VC.skip ?_ | refine VC.exit ?_ | refine VC.regA ?_ | refine VC.condT ?_ | refine VC.condF ?_))
          apply VC.regU
          · (simp (config := {decide := false, maxSteps := 1000000}) (disch := omega) only [vev_call, putC_c0, putC_n0, putC_cs, ble0, List.getElem?_cons_zero, List.getElem?_cons_succ, runU, isCall, wantV, vev, evV, ofVal, ofAtom, atomB, cond_true, cond_false, PT.get, PT.set, PT.filt, PT.map, Option.getD_some, Option.getD_none, ret1V, ret1X, v_ld, v_ias, v_iad, v_fad, v_slsl, v_slarr, v_st, v_app, v_cpy, v_len, v_look, v_mset, elsV, partV, newV, free, atV, atI, atL, toVal, cellsV, okV, VSt.put, VSt.kill, VSt.alloc, VSt.frz, VSt.adopt, noref, norefB, deadB, deadV, nos, nm, nmL, nmB, nmE, Pa.eqb, Bool.not_false, Bool.not_true, Bool.and_true, Bool.true_and, Bool.false_and, Bool.and_false, bin, intOps, intBin, cvt, un, goInt, bndsV, bndV, Option.map_some, Option.map_none, List.map_cons, List.map_nil, Int.toNat_natCast, Nat.mul_one, Nat.zero_add, beq_true, beq_false, beq_self_eq_true, List.length_map, List.length_cons, List.length_nil, List.length_append, fillV, pEvV, repsV, List.append_nil, List.nil_append, if_pos, if_neg, reduceIte, List.getElem?_map, List.getElem?_drop, Nat.add_zero, List.getElem?_eq_getElem, Go.IntWalk.i64_in, wrap_u64, tmod_pos, eq_self, true_and, and_true, and_self, List.all_cons, List.all_nil, nmL_vi, flV_len, flP_len, flV_nm, flV_ok, flV_pv, flP_map, drop_flP, drop_flV, putC_flV, eqV2, eqV3, bneT, bneF, decide_true, decide_false, frzL_vi, frzL_flV, nmE_ag, nmE_at, frzE_ag, frzE_at, ofAg_len, ofAt_len, atL_vi, nmL_map_p, frzL_map_p, okL_p, toPVs_p, repsZ, nmL_reps, putC_vi, get_flV0, get_flV1, Int.toNat_zero, Int.toNat_one, Int.reduceToNat, eqV_slice, eqV_ptr, eqV_func, nilS, nilP, nilF, nmL_append, okL_vi, toPVs_vi, toPVs, toPV, frzV, frzL, frzB, resVV, vi, vb, nilV, sl1, bl1, pi, foldV, max2, min2, max_eq, min_eq, Int.tdiv_eq_ediv_of_nonneg, Int.cast_ofNat_Int, Option.isSome_none, Option.isSome_some, Option.isNone_none, Option.isNone_some, and_false, false_and, sl2, sl1P, slP, min_cast, take_map_pi, map_pi, Nat.sub_zero, Nat.zero_mul, List.length_take, decide_eq_true, decide_eq_false, Bool.true_eq_false, Bool.false_eq_true, beqT, beqF, ibeq, ibne, List.take_zero, List.take_succ_cons, List.drop_zero, List.drop_succ_cons, List.drop_nil, List.take_nil, List.cons_append, Bool.not_true, Bool.not_false, hk4, hks, hfs])
            rfl
          (repeat (first | refine VC.seq ?_ | refine VC.block ?_ | refine VC.kill ?_ | refine VC.skip ?_ | refine VC.exit ?_ | refine VC.regA ?_ | refine VC.condT ?_ | refine VC.condF ?_))
          apply VC.regU
          · (simp (config := {decide := false, maxSteps := 1000000}) (disch := omega) only [vev_call, putC_c0, putC_n0, putC_cs, ble0, List.getElem?_cons_zero, List.getElem?_cons_succ, runU, isCall, wantV, vev, evV, ofVal, ofAtom, atomB, cond_true, cond_false, PT.get, PT.set, PT.filt, PT.map, Option.getD_some, Option.getD_none, ret1V, ret1X, v_ld, v_ias, v_iad, v_fad, v_slsl, v_slarr, v_st, v_app, v_cpy, v_len, v_look, v_mset, elsV, partV, newV, free, atV, atI, atL, toVal, cellsV, okV, VSt.put, VSt.kill, VSt.alloc, VSt.frz, VSt.adopt, noref, norefB, deadB, deadV, nos, nm, nmL, nmB, nmE, Pa.eqb, Bool.not_false, Bool.not_true, Bool.and_true, Bool.true_and, Bool.false_and, Bool.and_false, bin, intOps, intBin, cvt, un, goInt, bndsV, bndV, Option.map_some, Option.map_none, List.map_cons, List.map_nil, Int.toNat_natCast, Nat.mul_one, Nat.zero_add, beq_true, beq_false, beq_self_eq_true, List.length_map, List.length_cons, List.length_nil, List.length_append, fillV, pEvV, repsV, List.append_nil, List.nil_append, if_pos, if_neg, reduceIte, List.getElem?_map, List.getElem?_drop, Nat.add_zero, List.getElem?_eq_getElem, Go.IntWalk.i64_in, wrap_u64, tmod_pos, eq_self, true_and, and_true, and_self, List.all_cons, List.all_nil, nmL_vi, flV_len, flP_len, flV_nm, flV_ok, flV_pv, flP_map, drop_flP, drop_flV, putC_flV, eqV2, eqV3, bneT, bneF, decide_true, decide_false, frzL_vi, frzL_flV, nmE_ag, nmE_at, frzE_ag, frzE_at, ofAg_len, ofAt_len, atL_vi, nmL_map_p, frzL_map_p, okL_p, toPVs_p, repsZ, nmL_reps, putC_vi, get_flV0, get_flV1, Int.toNat_zero, Int.toNat_one, Int.reduceToNat, eqV_slice, eqV_ptr, eqV_func, nilS, nilP, nilF, nmL_append, okL_vi, toPVs_vi, toPVs, toPV, frzV, frzL, frzB, resVV, vi, vb, nilV, sl1, bl1, pi, foldV, max2, min2, max_eq, min_eq, Int.tdiv_eq_ediv_of_nonneg, Int.cast_ofNat_Int, Option.isSome_none, Option.isSome_some, Option.isNone_none, Option.isNone_some, and_false, false_and, sl2, sl1P, slP, min_cast, take_map_pi, map_pi, Nat.sub_zero, Nat.zero_mul, List.length_take, decide_eq_true, decide_eq_false, Bool.true_eq_false, Bool.false_eq_true, beqT, beqF, ibeq, ibne, List.take_zero, List.take_succ_cons, List.drop_zero, List.drop_succ_cons, List.drop_nil, List.take_nil, List.cons_append, Bool.not_true, Bool.not_false, hk4, hks, hfs, hke, hfe2, hse])
            rfl
          (repeat (first | refine VC.seq ?_ | refine VC.block ?_ | refine VC.kill ?_ | refine VC.skip ?_ | refine VC.exit ?_ | refine VC.regA ?_ | refine VC.condT ?_ | refine VC.condF ?_))
          refine ⟨by simp, (L' ++ [E], 0, (C'.drop off').take (r' * 4) ++ [pi b0, pi b1, pi b2, pi b3]), ⟨by rw [hnx, hLs], by rw [List.drop_zero]; exact hqe, Nat.zero_le _⟩, ?_⟩
          refine G.osobA (p := p10) (n := r' + 1) 0 ?_ (by omega)
          (simp only [VSt.kill, VSt.osob, VSt.adoptB, VSt.adopt, VSt.alloc, PT.filt, norefB, deadB, deadV, PT.map, Option.map_some, Option.map_none, List.map_cons, List.map_nil, noref, nos, nm, nmL, nmB, nmE, Pa.eqb, PT.set, mkB, inV, cond_true, cond_false, Bool.and_true, Bool.not_false, Bool.not_true, List.set_cons_zero, List.set_cons_succ])
          (apply Go.Ab.V.G.weak; constructor <;> simp (config := {decide := true}) only [PT.Le, inV, mkB, PT.set, VSt.kill, VSt.adopt, VSt.alloc, PT.filt, PT.map, List.map_cons, List.map_nil, noref, norefB, deadB, deadV, nos, nm, nmL, nmB, nmE, Pa.eqb, cond_true, cond_false, Bool.not_true, Bool.not_false, Bool.and_true, Bool.true_and, nmL_vi, flV_len, flP_len, flV_nm, flV_ok, flV_pv, flP_map, drop_flP, drop_flV, putC_flV, eqV2, eqV3, bneT, bneF, decide_true, decide_false, frzL_vi, frzL_flV, nmE_ag, nmE_at, frzE_ag, frzE_at, ofAg_len, ofAt_len, atL_vi, nmL_map_p, frzL_map_p, okL_p, toPVs_p, repsZ, nmL_reps, putC_vi, get_flV0, get_flV1, Int.toNat_zero, Int.toNat_one, Int.reduceToNat, eqV_slice, eqV_ptr, eqV_func, nilS, nilP, nilF, nmL_append, true_or, or_true, and_self, true_and, and_true, Option.some.injEq, reduceCtorEq, false_or, or_false, VV.p.injEq, PV.at.injEq, Value.int.injEq, sl1, vi, bl1, vb, nilV, hcm, hnl, pi])
          exact congrArg VB.cells hcm
      · rintro _ ⟨L', off', C'⟩ ⟨hL', hC', hoff'⟩
        simp only at hL' hC' hoff'
        have hnext : bf x f c (i + 1) = L' := by
          show (match (bf x f c i)[i]? with
            | some e => addAll e.g e.d (bf x f c i) (succs x c e.g)
            | none => bf x f c i) = _
          rw [hL, hLi, hL', List.length_map, List.take_length]
        (simp only [VSt.kill, VSt.osob, VSt.adoptB, VSt.adopt, VSt.alloc, PT.filt, norefB, deadB, deadV, PT.map, Option.map_some, Option.map_none, List.map_cons, List.map_nil, noref, nos, nm, nmL, nmB, nmE, Pa.eqb, PT.set, mkB, inV, cond_true, cond_false, Bool.and_true, Bool.not_false, Bool.not_true, List.set_cons_zero, List.set_cons_succ])
        (repeat (first | refine VC.seq ?_ | refine VC.block ?_ | refine VC.kill ?_ | refine VC.skip ?_ | refine VC.exit ?_ | refine VC.regA ?_ | refine VC.condT ?_ | refine VC.condF ?_))
        refine ⟨_, (i + 1, off', C'), ?_, ⟨rfl, by simp only; omega, by simp only; rw [hnext]; exact hC', hoff'⟩, ?_⟩
        · simp only; omega
        · simp only [hnext]
          (apply Go.Ab.V.G.weak; constructor <;> simp (config := {decide := true}) only [PT.Le, inV, mkB, PT.set, VSt.kill, VSt.adopt, VSt.alloc, PT.filt, PT.map, List.map_cons, List.map_nil, noref, norefB, deadB, deadV, nos, nm, nmL, nmB, nmE, Pa.eqb, cond_true, cond_false, Bool.not_true, Bool.not_false, Bool.and_true, Bool.true_and, nmL_vi, flV_len, flP_len, flV_nm, flV_ok, flV_pv, flP_map, drop_flP, drop_flV, putC_flV, eqV2, eqV3, bneT, bneF, decide_true, decide_false, frzL_vi, frzL_flV, nmE_ag, nmE_at, frzE_ag, frzE_at, ofAg_len, ofAt_len, atL_vi, nmL_map_p, frzL_map_p, okL_p, toPVs_p, repsZ, nmL_reps, putC_vi, get_flV0, get_flV1, Int.toNat_zero, Int.toNat_one, Int.reduceToNat, eqV_slice, eqV_ptr, eqV_func, nilS, nilP, nilF, nmL_append, true_or, or_true, and_self, true_and, and_true, Option.some.injEq, reduceCtorEq, false_or, or_false, VV.p.injEq, PV.at.injEq, Value.int.injEq, sl1, vi, bl1, vb, nilV])
          (all_goals first | rfl | omega | exact ⟨rfl, by omega⟩)
    · have hiM : i = M := by omega
      subst hiM
      cases hfb : fb with
      | false =>
        have := (h0 hfb).1
        rw [hL] at this; omega
      | true =>
        obtain ⟨e', he', hp, rfl⟩ := h1 hfb
        rw [hL, hLi] at he'; cases he'
        rw [hp, hA]
        (repeat (first | refine VC.seq ?_ | refine VC.block ?_ | refine VC.kill ?_ | refine VC.skip ?_ | refine VC.exit ?_ | refine VC.regA ?_ | refine VC.condT ?_ | refine VC.condF ?_))
        rw [hL]
        simp only [List.map_cons, List.map_nil]
        refine VC.ret (Fin.of rfl rfl ?_ rfl rfl ?_)
        · simp [mkB, PT.set, PT.Le, p18]
        · simp [subs, nm, nmL, nmsB, nmB, nmE_ag, nos, Pa.eqb, vi, vb]
end Go.Ab.Jug

namespace Go.Ab.Jug
open Go.Ab.V
set_option maxRecDepth 100000
/-! ### The way back -/
def pathTo (L : List En) : Nat → List Int → List (Int × Int)
  | 0, _ => []
  | d + 1, g => match L.find? fun e => decide (e.g = g) with
    | some e => pathTo L d e.par ++ [e.st]
    | none => []
def swapTo (O : List (Int × Int)) (i : Nat) : List (Int × Int) := (List.range O.length).map fun m => if m < i ∨ O.length < m + 1 + i then O.getD (O.length - 1 - m) (0, 0) else O.getD m (0, 0)
theorem swapTo_len (O : List (Int × Int)) (i : Nat) : (swapTo O i).length = O.length := by simp [swapTo]
theorem swapTo_get (O : List (Int × Int)) (i m : Nat) (h : m < (swapTo O i).length) : (swapTo O i)[m] = if m < i ∨ O.length < m + 1 + i then O.getD (O.length - 1 - m) (0, 0) else O.getD m (0, 0) := by simp [swapTo]
theorem swapTo_0 (O : List (Int × Int)) : swapTo O 0 = O := by
  refine List.ext_getElem (swapTo_len O 0) fun m h1 h2 => ?_
  rw [swapTo_get, if_neg (by omega), List.getD_eq_getElem?_getD, List.getElem?_eq_getElem h2]; rfl
theorem swapTo_end (O : List (Int × Int)) (i : Nat) (h : O.length ≤ 2 * i + 1) : swapTo O i = O.reverse := by
  refine List.ext_getElem (by rw [swapTo_len, List.length_reverse]) fun m h1 h2 => ?_
  rw [swapTo_get, List.getElem_reverse]
  rw [swapTo_len] at h1
  split
  · rw [List.getD_eq_getElem?_getD, List.getElem?_eq_getElem (by omega)]; rfl
  · have : m = O.length - 1 - m := by omega
    rw [List.getD_eq_getElem?_getD, List.getElem?_eq_getElem (by omega), Option.getD_some]
    congr 1
theorem swapTo_step (O : List (Int × Int)) (i : Nat) (h : 2 * i + 1 < O.length) (h1 : i < (swapTo O i).length) (h2 : O.length - 1 - i < (swapTo O i).length) : ((swapTo O i).set i (swapTo O i)[O.length - 1 - i]).set (O.length - 1 - i) (swapTo O i)[i] = swapTo O (i + 1) := by
  have ha : (swapTo O i)[i] = O.getD i (0, 0) := by rw [swapTo_get, if_neg (by omega)]
  have hb : (swapTo O i)[O.length - 1 - i] = O.getD (O.length - 1 - i) (0, 0) := by rw [swapTo_get, if_neg (by omega)]
  rw [ha, hb]
  refine List.ext_getElem (by simp [swapTo]) fun m h3 h4 => ?_
  rw [List.getElem_set, List.getElem_set, swapTo_get, swapTo_get]
  rw [swapTo_len] at h4
  by_cases e1 : O.length - 1 - i = m
  · subst e1
    rw [if_pos rfl, if_pos (by omega)]
    congr 1; omega
  · rw [if_neg e1]
    by_cases e2 : i = m
    · subst e2
      rw [if_pos rfl, if_pos (by omega)]
    · rw [if_neg e2]
      by_cases e3 : m < i ∨ O.length < m + 1 + i
      · rw [if_pos e3, if_pos (by omega)]
      · rw [if_neg e3, if_neg (by omega)]
set_option maxHeartbeats 4000000 in
theorem Reverse_ok (O : List (Int × Int)) (hO : O.length ≤ 1000000) : VCall cfg 67 [.os 2 p38 O.length] [(p38, .cells (flV O))] [] (.tup []) [(p38, .cells (flV O.reverse))] := by
  (refine VCall.mk (fn := a67) rfl rfl rfl ?_; simp only [a67, inV, mkB, nmsL, PT.set])
  (repeat (first | refine VC.seq ?_ | refine VC.block ?_ | refine VC.kill ?_ | refine VC.skip ?_ | refine VC.exit ?_ | refine VC.regA ?_ | refine VC.condT ?_ | refine VC.condF ?_))
  refine VC.loopG (fun (i : Nat) => ⟨inV [p0, p2, p3] [.os 2 p38 O.length, vi i, vi ((O.length : Int) - 1 - i)] .lf, mkB [(p38, .cells (flV (swapTo O i)))] .lf, [p38], none⟩) (fun n i => n = O.length - i ∧ 2 * i ≤ O.length + 1) (x := 0) ?_ ⟨rfl, by omega⟩ ?_
  · have := swapTo_0 O
    (apply Go.Ab.V.G.weak; constructor <;> simp (config := {decide := true}) only [PT.Le, inV, mkB, PT.set, VSt.kill, VSt.adopt, VSt.alloc, PT.filt, PT.map, List.map_cons, List.map_nil, noref, norefB, deadB, deadV, nos, nm, nmL, nmB, nmE, Pa.eqb, cond_true, cond_false, Bool.not_true, Bool.not_false, Bool.and_true, Bool.true_and, nmL_vi, flV_len, flP_len, flV_nm, flV_ok, flV_pv, flP_map, drop_flP, drop_flV, putC_flV, eqV2, eqV3, bneT, bneF, decide_true, decide_false, frzL_vi, frzL_flV, nmE_ag, nmE_at, frzE_ag, frzE_at, ofAg_len, ofAt_len, atL_vi, nmL_map_p, frzL_map_p, okL_p, toPVs_p, repsZ, nmL_reps, putC_vi, get_flV0, get_flV1, Int.toNat_zero, Int.toNat_one, Int.reduceToNat, eqV_slice, eqV_ptr, eqV_func, nilS, nilP, nilF, nmL_append, true_or, or_true, and_self, true_and, and_true, Option.some.injEq, reduceCtorEq, false_or, or_false, VV.p.injEq, PV.at.injEq, Value.int.injEq, sl1, vi, bl1, vb, nilV, this, pi])
    (all_goals first | rfl | omega | exact ⟨rfl, by omega⟩)
  rintro n i ⟨hn, hi⟩
  simp only [inV, PT.set, mkB]
  have hl := swapTo_len O i
  (repeat (first | refine VC.seq ?_ | refine VC.block ?_ | refine VC.kill ?_ | refine VC.skip ?_ | refine VC.exit ?_ | refine VC.regA ?_ | refine VC.condT ?_ | refine VC.condF ?_))
  refine VC.condA ?_ ?_ <;> intro h <;> (simp only [decide_eq_true_eq, decide_eq_false_iff_not, bne_iff_ne, ne_eq, bne_eq_false_iff_eq, beq_iff_eq, beq_eq_false_iff_ne, Bool.not_eq_true', Bool.not_eq_false', Bool.and_eq_true, Bool.or_eq_true, Int.natCast_inj] at h)
  · have h1 : i < (swapTo O i).length := by omega
    have h2 : O.length - 1 - i < (swapTo O i).length := by omega
    have hst := swapTo_step O i (by omega) h1 h2
    have hji : (O.length : Int) - 1 - i = ((O.length - 1 - i : Nat) : Int) := by omega
    rw [hji]
    generalize hJ : O.length - 1 - i = J at *
    have hl2 : ((swapTo O i).set i ((swapTo O i)[J].1, (swapTo O i)[J].2)).length = O.length := by rw [List.length_set]; exact hl
    have hst : ((swapTo O i).set i ((swapTo O i)[J].1, (swapTo O i)[J].2)).set J ((swapTo O i)[i].1, (swapTo O i)[i].2) = swapTo O (i + 1) := hst
    (repeat (first | refine VC.seq ?_ | refine VC.block ?_ | refine VC.kill ?_ | refine VC.skip ?_ | refine VC.exit ?_ | refine VC.regA ?_ | refine VC.condT ?_ | refine VC.condF ?_))
    refine ⟨_, i + 1, ?_, ⟨rfl, by omega⟩, ?_⟩
    · omega
    · (apply Go.Ab.V.G.weak; constructor <;> simp (config := {decide := true}) only [PT.Le, inV, mkB, PT.set, VSt.kill, VSt.adopt, VSt.alloc, PT.filt, PT.map, List.map_cons, List.map_nil, noref, norefB, deadB, deadV, nos, nm, nmL, nmB, nmE, Pa.eqb, cond_true, cond_false, Bool.not_true, Bool.not_false, Bool.and_true, Bool.true_and, nmL_vi, flV_len, flP_len, flV_nm, flV_ok, flV_pv, flP_map, drop_flP, drop_flV, putC_flV, eqV2, eqV3, bneT, bneF, decide_true, decide_false, frzL_vi, frzL_flV, nmE_ag, nmE_at, frzE_ag, frzE_at, ofAg_len, ofAt_len, atL_vi, nmL_map_p, frzL_map_p, okL_p, toPVs_p, repsZ, nmL_reps, putC_vi, get_flV0, get_flV1, Int.toNat_zero, Int.toNat_one, Int.reduceToNat, eqV_slice, eqV_ptr, eqV_func, nilS, nilP, nilF, nmL_append, true_or, or_true, and_self, true_and, and_true, Option.some.injEq, reduceCtorEq, false_or, or_false, VV.p.injEq, PV.at.injEq, Value.int.injEq, sl1, vi, bl1, vb, nilV, hst])
      (all_goals first | rfl | omega | exact ⟨rfl, by omega⟩)
  · (repeat (first | refine VC.seq ?_ | refine VC.block ?_ | refine VC.kill ?_ | refine VC.skip ?_ | refine VC.exit ?_ | refine VC.regA ?_ | refine VC.condT ?_ | refine VC.condF ?_))
    rw [swapTo_end O i (by omega)]
    refine Fin.of (ys := []) rfl rfl ?_ rfl rfl ?_
    · simp [mkB, PT.set, PT.Le, VSt.kill]
    · simp [subs, nm, nmL, nmsB, nmB, flV_nm, nos, Pa.eqb]
theorem path_last {x f0 : List Int} {c : Bool} {L : List En} (G : Good x c f0 L) {k : Nat} {e : En} (he : L[k]? = some e) (hk : 0 < k) : ∃ j e', j < k ∧ L[j]? = some e' ∧ e'.g = e.par ∧ e.d = e'.d + 1 ∧ (e.st, e.g) ∈ succs x c e'.g ∧ pathTo L e.d e.g = pathTo L e'.d e'.g ++ [e.st] := by
  obtain ⟨j, e', h1, h2, h3, h4, h5⟩ := G.par k e he hk
  refine ⟨j, e', h1, h2, h3, h4, h5, ?_⟩
  rw [h4]
  show (match L.find? fun e' => decide (e'.g = e.g) with
    | some e => pathTo L e'.d e.par ++ [e.st]
    | none => []) = _
  rw [find_some G.nodup he, h3]
theorem path_len {x f0 : List Int} {c : Bool} {L : List En} (G : Good x c f0 L) : ∀ (k : Nat) (e : En), L[k]? = some e → (pathTo L e.d e.g).length = e.d := by
  intro k
  induction k using Nat.strongRecOn with
  | _ k ih =>
    intro e he
    rcases Nat.eq_zero_or_pos k with h | h
    · subst h
      rw [G.root] at he; cases he; rfl
    · obtain ⟨j, e', h1, h2, _, h4, _, h6⟩ := path_last G he h
      rw [h6, List.length_append, ih j h1 e' h2, h4]; rfl
theorem pourR_append (x : List Int) : ∀ (w : List (Int × Int)) (f : List Int) (s : Int × Int), (pourR x f w).2 = w.length → pourR x f (w ++ [s]) = if isR x.length s.1 s.2 = true then (stepR x (pourR x f w).1 s.1 s.2, w.length + 1) else ((pourR x f w).1, w.length)
  | [], f, s, _ => by simp [pourR]
  | p :: w, f, s, h => by
    by_cases hp : isR x.length p.1 p.2 = true
    · simp only [pourR, hp, if_true, List.length_cons, Nat.add_right_cancel_iff] at h
      simp only [List.cons_append, pourR, hp, if_true]
      rw [pourR_append x w _ s h]
      split <;> simp
    · simp [pourR, hp] at h
/-- The way leads there, without the sea if closed. -/
theorem path_pour {x f0 : List Int} {c : Bool} {L : List En} (G : Good x c f0 L) : ∀ (k : Nat) (e : En), L[k]? = some e → pourR x f0 (pathTo L e.d e.g) = (e.g, e.d) ∧ ∀ s ∈ pathTo L e.d e.g, isR x.length s.1 s.2 = true ∧ (c = true → s.1 ≠ -1 ∧ s.2 ≠ -1) := by
  intro k
  induction k using Nat.strongRecOn with
  | _ k ih =>
    intro e he
    rcases Nat.eq_zero_or_pos k with h | h
    · subst h
      rw [G.root] at he; cases he
      exact ⟨rfl, fun s hs => by simp [pathTo, root] at hs⟩
    · obtain ⟨j, e', h1, h2, h3, h4, h5, h6⟩ := path_last G he h
      obtain ⟨i1, i2⟩ := ih j h1 e' h2
      obtain ⟨s1, s2, _, s4⟩ := succ_mem h5
      have hl := path_len G j e' h2
      rw [h6, pourR_append x _ f0 e.st (by rw [i1, hl]), i1, hl, if_pos s1, h4]
      refine ⟨by rw [show stepR x e'.g e.st.1 e.st.2 = e.g from s2.symm], fun s hs => ?_⟩
      rcases List.mem_append.1 hs with hs | hs
      · exact i2 s hs
      · rw [List.mem_singleton.1 hs]; exact ⟨s1, s4⟩
/-- Of a search: what is found at its end, if anything. -/
structure Srch (x f : List Int) (c : Bool) (P : List Int → Bool) (M : Nat) (fb : Bool) (out : List Int) : Prop where
  no : ∀ j, j < M → ∃ e, (bf x f c j)[j]? = some e ∧ P e.g = false
  yes : fb = true → ∃ e, (bf x f c M)[M]? = some e ∧ P e.g = true ∧ out = e.g
  none : fb = false → M = (bf x f c M).length ∧ out = List.replicate x.length 0
def wayOf (x f : List Int) (c : Bool) (M : Nat) (fb : Bool) : List (Int × Int) := if fb = true then (match (bf x f c M)[M]? with
  | some e => pathTo (bf x f c M) e.d e.g
  | none => []) else []
set_option maxHeartbeats 8000000 in
theorem way_ok (x f : List Int) (c : Bool) (hx : okJ x) (hf : fillB x f = true) (k : Nat) (hk : k ≠ 20) (pc : List PV) (P : List Int → Bool) (hP : ∀ g, fillB x g = true → VCall cfg k (.agg ((pad4 g).map vi) :: pc.map .p) [] [] (vb (P g)) [])
    (M : Nat) (fb : Bool) (out : List Int) (hS : Srch x f c P M fb out) : VCall cfg 51 [jugP x c, .agg ((pad4 f).map vi), .clos k [] (pc.map .p)] [] [] (.tup [slP (wayOf x f c M fb), vb fb]) [] := by
  have hx4 : x.length ≤ 4 := hx.2.1
  have hlf : f.length = x.length := ((fillB_iff x f).1 hf).1
  have kr := reached_ok x f c hx hf k hk pc P hP M fb out hS.no hS.yes hS.none
  obtain ⟨f0, f1, f2, f3, hF⟩ := four (pad4_len f (by omega))
  have hk4 : [CK.int, CK.int, CK.int, CK.int] = k4 := rfl
  have hG := bf_good (x := x) (f0 := f) (c := c) hf M
  have hbl := bf_len (c := c) hx hf M
  rw [hF] at kr ⊢
  unfold jugP at kr ⊢
  (refine VCall.mk (fn := a51) rfl rfl rfl ?_; simp only [a51, inV, mkB, nmsL, PT.set])
  simp only [List.map_cons, List.map_nil] at kr ⊢
  (repeat (first | refine VC.seq ?_ | refine VC.block ?_ | refine VC.kill ?_ | refine VC.skip ?_ | refine VC.exit ?_ | refine VC.regA ?_ | refine VC.condT ?_ | refine VC.condF ?_))
  refine VC.regCA ?_
  refine VO.call [] [] (mkB [(p4, .cells [vi f0, vi f1, vi f2, vi f3])] .lf) rfl rfl (no_orc 66 (by decide)) kr trivial (by trivial) ?_ rfl rfl rfl rfl rfl rfl rfl ?_
  · simp [mkB, PT.set, PT.Le, vi]
  (simp only [filtN, filtNB, mkB, PT.set, VSt.put, PT.filt, noref, norefB, nos, nm, nmL, nmB, nmL_vi, nmL_map_p, nmE_ag, flV_nm, List.nil_append, List.append_nil, Pa.eqb, cond_true, cond_false, Bool.and_true, Bool.not_false, Bool.not_true])
  have hpl : (pad4 out).length = 4 := by
    cases hfb : fb with
    | true =>
      obtain ⟨e, he, _, rfl⟩ := hS.yes hfb
      exact pad4_len _ (by rw [((fillB_iff x _).1 (hG.gfill hf (List.mem_of_getElem? he))).1]; exact hx4)
    | false =>
      obtain ⟨_, rfl⟩ := hS.none hfb
      rw [pad4_zero _ hx4]; rfl
  obtain ⟨o0, o1, o2, o3, hO⟩ := four hpl
  rw [hO]
  simp only [List.map_cons, List.map_nil]
  refine VO.endA ?_
  (repeat (first | refine VC.seq ?_ | refine VC.block ?_ | refine VC.kill ?_ | refine VC.skip ?_ | refine VC.exit ?_ | refine VC.regA ?_ | refine VC.condT ?_ | refine VC.condF ?_))
  cases hfb : fb with
  | false =>
    (repeat (first | refine VC.seq ?_ | refine VC.block ?_ | refine VC.kill ?_ | refine VC.skip ?_ | refine VC.exit ?_ | refine VC.regA ?_ | refine VC.condT ?_ | refine VC.condF ?_))
    have : wayOf x f c M false = [] := rfl
    rw [this]
    refine VC.ghost (G.adoptA (p := p6) 2 p38 G.refl) ?_
    (simp only [VSt.kill, VSt.osob, VSt.adoptB, VSt.adopt, VSt.alloc, PT.filt, norefB, deadB, deadV, PT.map, Option.map_some, Option.map_none, List.map_cons, List.map_nil, noref, nos, nm, nmL, nmB, nmE, Pa.eqb, PT.set, mkB, inV, cond_true, cond_false, Bool.and_true, Bool.not_false, Bool.not_true, List.set_cons_zero, List.set_cons_succ])
    refine VC.ret (Fin.frzA p38 (hb := rfl) (hc := rfl) (Fin.A rfl))
  | true =>
    obtain ⟨e0, he0, _, rfl⟩ := hS.yes hfb
    have hw : wayOf x f c M true = pathTo (bf x f c M) e0.d e0.g := by unfold wayOf; rw [if_pos rfl, he0]
    rw [hw]
    generalize hL : bf x f c M = L at *
    have hpath := path_len hG M e0 he0
    have hd0 := good_d hG M e0 he0
    have hMl := (List.getElem?_eq_some_iff.1 he0).1
    (repeat (first | refine VC.seq ?_ | refine VC.block ?_ | refine VC.kill ?_ | refine VC.skip ?_ | refine VC.exit ?_ | refine VC.regA ?_ | refine VC.condT ?_ | refine VC.condF ?_))
    refine VC.ghost (G.adoptA (p := p11) 2 p38 G.refl) ?_
    (simp only [VSt.kill, VSt.osob, VSt.adoptB, VSt.adopt, VSt.alloc, PT.filt, norefB, deadB, deadV, PT.map, Option.map_some, Option.map_none, List.map_cons, List.map_nil, noref, nos, nm, nmL, nmB, nmE, Pa.eqb, PT.set, mkB, inV, cond_true, cond_false, Bool.and_true, Bool.not_false, Bool.not_true, List.set_cons_zero, List.set_cons_succ])
    refine VC.loopG (fun (q : En × List (Int × Int)) => ⟨inV [p4, p8, p9, p11] [.op 0 p4 0, .om p18, .op 0 p9 0, .os 2 p38 q.2.length] .lf, mkB [(p4, .cells [vi f0, vi f1, vi f2, vi f3]), (p18, .map (ofAg (esP L))), (p9, .cells ((pad4 q.1.g).map vi)), (p38, .cells (flV q.2))] .lf, [], none⟩)
      (fun n q => n = q.1.d ∧ (∃ idx, L[idx]? = some q.1) ∧ q.2 ++ (pathTo L q.1.d q.1.g).reverse = (pathTo L e0.d e0.g).reverse) (x := (e0, [])) ?_ ⟨rfl, ⟨M, he0⟩, rfl⟩ ?_
    · have hz : flV [] = [] := rfl
      (apply Go.Ab.V.G.weak; constructor <;> simp (config := {decide := true}) only [PT.Le, inV, mkB, PT.set, VSt.kill, VSt.adopt, VSt.alloc, PT.filt, PT.map, List.map_cons, List.map_nil, noref, norefB, deadB, deadV, nos, nm, nmL, nmB, nmE, Pa.eqb, cond_true, cond_false, Bool.not_true, Bool.not_false, Bool.and_true, Bool.true_and, nmL_vi, flV_len, flP_len, flV_nm, flV_ok, flV_pv, flP_map, drop_flP, drop_flV, putC_flV, eqV2, eqV3, bneT, bneF, decide_true, decide_false, frzL_vi, frzL_flV, nmE_ag, nmE_at, frzE_ag, frzE_at, ofAg_len, ofAt_len, atL_vi, nmL_map_p, frzL_map_p, okL_p, toPVs_p, repsZ, nmL_reps, putC_vi, get_flV0, get_flV1, Int.toNat_zero, Int.toNat_one, Int.reduceToNat, eqV_slice, eqV_ptr, eqV_func, nilS, nilP, nilF, nmL_append, true_or, or_true, and_self, true_and, and_true, Option.some.injEq, reduceCtorEq, false_or, or_false, VV.p.injEq, PV.at.injEq, Value.int.injEq, sl1, vi, bl1, vb, nilV, hO, List.map_cons, List.map_nil, hz, List.nil_append, List.length_nil])
    rintro n ⟨e, O⟩ ⟨hn, ⟨idx, hidx⟩, hpe⟩
    simp only at hn hidx hpe
    have hfe := hG.gfill hf (List.mem_of_getElem? hidx)
    have hle : e.g.length = x.length := ((fillB_iff x _).1 hfe).1
    obtain ⟨a0, a1, a2, a3, hA⟩ := four (pad4_len e.g (by omega))
    have e4 := eqV4 (a0 := a0) (a1 := a1) (a2 := a2) (a3 := a3) (b0 := f0) (b1 := f1) (b2 := f2) (b3 := f3)
    simp only [inV, PT.set, mkB, hA, List.map_cons, List.map_nil]
    have hOl : O.length ≤ 28561 := by
      have := congrArg List.length hpe
      rw [List.length_append, List.length_reverse, List.length_reverse, hpath] at this
      omega
    rcases Nat.eq_zero_or_pos idx with hi | hi
    · subst hi
      rw [hG.root] at hidx
      cases hidx
      have hA' : [f0, f1, f2, f3] = [a0, a1, a2, a3] := hF.symm.trans hA
      have e5 : (decide (a0 = f0) && (decide (a1 = f1) && (decide (a2 = f2) && decide (a3 = f3)))) = true := by
        simp only [List.cons.injEq] at hA'
        simp [hA'.1, hA'.2.1, hA'.2.2.1, hA'.2.2.2.1]
      (repeat (first | refine VC.seq ?_ | refine VC.block ?_ | refine VC.kill ?_ | refine VC.skip ?_ | refine VC.exit ?_ | refine VC.regA ?_ | refine VC.condT ?_ | refine VC.condF ?_))
      (simp (config := {decide := false, maxSteps := 1000000}) (disch := omega) only [vev_call, putC_c0, putC_n0, putC_cs, ble0, List.getElem?_cons_zero, List.getElem?_cons_succ, runU, isCall, wantV, vev, evV, ofVal, ofAtom, atomB, cond_true, cond_false, PT.get, PT.set, PT.filt, PT.map, Option.getD_some, Option.getD_none, ret1V, ret1X, v_ld, v_ias, v_iad, v_fad, v_slsl, v_slarr, v_st, v_app, v_cpy, v_len, v_look, v_mset, elsV, partV, newV, free, atV, atI, atL, toVal, cellsV, okV, VSt.put, VSt.kill, VSt.alloc, VSt.frz, VSt.adopt, noref, norefB, deadB, deadV, nos, nm, nmL, nmB, nmE, Pa.eqb, Bool.not_false, Bool.not_true, Bool.and_true, Bool.true_and, Bool.false_and, Bool.and_false, bin, intOps, intBin, cvt, un, goInt, bndsV, bndV, Option.map_some, Option.map_none, List.map_cons, List.map_nil, Int.toNat_natCast, Nat.mul_one, Nat.zero_add, beq_true, beq_false, beq_self_eq_true, List.length_map, List.length_cons, List.length_nil, List.length_append, fillV, pEvV, repsV, List.append_nil, List.nil_append, if_pos, if_neg, reduceIte, List.getElem?_map, List.getElem?_drop, Nat.add_zero, List.getElem?_eq_getElem, Go.IntWalk.i64_in, wrap_u64, tmod_pos, eq_self, true_and, and_true, and_self, List.all_cons, List.all_nil, nmL_vi, flV_len, flP_len, flV_nm, flV_ok, flV_pv, flP_map, drop_flP, drop_flV, putC_flV, eqV2, eqV3, bneT, bneF, decide_true, decide_false, frzL_vi, frzL_flV, nmE_ag, nmE_at, frzE_ag, frzE_at, ofAg_len, ofAt_len, atL_vi, nmL_map_p, frzL_map_p, okL_p, toPVs_p, repsZ, nmL_reps, putC_vi, get_flV0, get_flV1, Int.toNat_zero, Int.toNat_one, Int.reduceToNat, eqV_slice, eqV_ptr, eqV_func, nilS, nilP, nilF, nmL_append, okL_vi, toPVs_vi, toPVs, toPV, frzV, frzL, frzB, resVV, vi, vb, nilV, sl1, bl1, pi, foldV, max2, min2, max_eq, min_eq, Int.tdiv_eq_ediv_of_nonneg, Int.cast_ofNat_Int, Option.isSome_none, Option.isSome_some, Option.isNone_none, Option.isNone_some, and_false, false_and, sl2, sl1P, slP, min_cast, take_map_pi, map_pi, Nat.sub_zero, Nat.zero_mul, List.length_take, decide_eq_true, decide_eq_false, Bool.true_eq_false, Bool.false_eq_true, beqT, beqF, ibeq, ibne, List.take_zero, List.take_succ_cons, List.drop_zero, List.drop_succ_cons, List.drop_nil, List.take_nil, List.cons_append, Bool.not_true, Bool.not_false, e5])
      (repeat (first | refine VC.seq ?_ | refine VC.block ?_ | refine VC.kill ?_ | refine VC.skip ?_ | refine VC.exit ?_ | refine VC.regA ?_ | refine VC.condT ?_ | refine VC.condF ?_))
      have hO2 : O = (pathTo L e0.d e0.g).reverse := by simpa [pathTo, root] using hpe
      have kv := Reverse_ok O (by omega)
      refine VC.regCA ?_
      refine VO.call [] [(p38, .cells (flV O))] .lf rfl rfl (no_orc 67 (by decide)) kv trivial ?_ (by trivial) rfl rfl rfl rfl rfl rfl rfl ?_
      · simp [mkB, PT.set, PT.Le, VSt.kill]
      (simp only [filtN, filtNB, mkB, PT.set, VSt.put, PT.filt, noref, norefB, nos, nm, nmL, nmB, nmL_vi, nmL_map_p, nmE_ag, flV_nm, List.nil_append, List.append_nil, Pa.eqb, cond_true, cond_false, Bool.and_true, Bool.not_false, Bool.not_true])
      refine VO.nil ?_
      (repeat (first | refine VC.seq ?_ | refine VC.block ?_ | refine VC.kill ?_ | refine VC.skip ?_ | refine VC.exit ?_ | refine VC.regA ?_ | refine VC.condT ?_ | refine VC.condF ?_))
      rw [hO2, List.reverse_reverse]
      refine VC.ret (Fin.frzA p38 (hb := rfl) (hc := flV_pv _) (Fin.A ?_))
      simp [slP, resX, vb, List.length_reverse]
    · obtain ⟨j, e', h1, h2, h3, h4, h5, h6⟩ := path_last hG hidx hi
      have hne : [a0, a1, a2, a3] ≠ [f0, f1, f2, f3] := by
        intro h
        have hgf : e.g = f := pad4_inj (by omega) (by rw [hA, hF, h])
        have h0l : (0 : Nat) < L.length := by omega
        obtain ⟨hk, hke⟩ := List.getElem?_eq_some_iff.1 hidx
        obtain ⟨_, hr⟩ := List.getElem?_eq_some_iff.1 hG.root
        have : idx = 0 := (List.getElem_inj (h₀ := by simpa using hk) (h₁ := by simpa using h0l) hG.nodup).1 (by simp [hke, hr, root, hgf])
        omega
      have e5 : (decide (a0 = f0) && (decide (a1 = f1) && (decide (a2 = f2) && decide (a3 = f3)))) = false := by
        rw [← Bool.not_eq_true]
        intro h
        simp at h
        exact hne (by rw [h.1, h.2.1, h.2.2.1, h.2.2.2])
      have hfs := findV_es hx4 hfe (L := L) fun e he => hG.gfill hf he
      rw [find_some hG.nodup hidx] at hfs
      have hke := keyK (g := e.g) (h := e.g) (by omega) (by omega)
      rw [decide_eq_true rfl] at hke
      simp only [kV, hA, List.map_cons, List.map_nil, Option.map_some] at hfs hke
      obtain ⟨c0, c1, c2, c3, hCp⟩ := four (pad4_len e.par (by have := hG.par_len (List.mem_of_getElem? hidx); omega))
      have hen : entP e = [pi c0, pi c1, pi c2, pi c3, pi e.st.1, pi e.st.2, pi e.d] := by simp only [entP, hCp]; rfl
      rw [hen] at hfs
      (repeat (first | refine VC.seq ?_ | refine VC.block ?_ | refine VC.kill ?_ | refine VC.skip ?_ | refine VC.exit ?_ | refine VC.regA ?_ | refine VC.condT ?_ | refine VC.condF ?_))
      (simp (config := {decide := false, maxSteps := 1000000}) (disch := omega) only [vev_call, putC_c0, putC_n0, putC_cs, ble0, List.getElem?_cons_zero, List.getElem?_cons_succ, runU, isCall, wantV, vev, evV, ofVal, ofAtom, atomB, cond_true, cond_false, PT.get, PT.set, PT.filt, PT.map, Option.getD_some, Option.getD_none, ret1V, ret1X, v_ld, v_ias, v_iad, v_fad, v_slsl, v_slarr, v_st, v_app, v_cpy, v_len, v_look, v_mset, elsV, partV, newV, free, atV, atI, atL, toVal, cellsV, okV, VSt.put, VSt.kill, VSt.alloc, VSt.frz, VSt.adopt, noref, norefB, deadB, deadV, nos, nm, nmL, nmB, nmE, Pa.eqb, Bool.not_false, Bool.not_true, Bool.and_true, Bool.true_and, Bool.false_and, Bool.and_false, bin, intOps, intBin, cvt, un, goInt, bndsV, bndV, Option.map_some, Option.map_none, List.map_cons, List.map_nil, Int.toNat_natCast, Nat.mul_one, Nat.zero_add, beq_true, beq_false, beq_self_eq_true, List.length_map, List.length_cons, List.length_nil, List.length_append, fillV, pEvV, repsV, List.append_nil, List.nil_append, if_pos, if_neg, reduceIte, List.getElem?_map, List.getElem?_drop, Nat.add_zero, List.getElem?_eq_getElem, Go.IntWalk.i64_in, wrap_u64, tmod_pos, eq_self, true_and, and_true, and_self, List.all_cons, List.all_nil, nmL_vi, flV_len, flP_len, flV_nm, flV_ok, flV_pv, flP_map, drop_flP, drop_flV, putC_flV, eqV2, eqV3, bneT, bneF, decide_true, decide_false, frzL_vi, frzL_flV, nmE_ag, nmE_at, frzE_ag, frzE_at, ofAg_len, ofAt_len, atL_vi, nmL_map_p, frzL_map_p, okL_p, toPVs_p, repsZ, nmL_reps, putC_vi, get_flV0, get_flV1, Int.toNat_zero, Int.toNat_one, Int.reduceToNat, eqV_slice, eqV_ptr, eqV_func, nilS, nilP, nilF, nmL_append, okL_vi, toPVs_vi, toPVs, toPV, frzV, frzL, frzB, resVV, vi, vb, nilV, sl1, bl1, pi, foldV, max2, min2, max_eq, min_eq, Int.tdiv_eq_ediv_of_nonneg, Int.cast_ofNat_Int, Option.isSome_none, Option.isSome_some, Option.isNone_none, Option.isNone_some, and_false, false_and, sl2, sl1P, slP, min_cast, take_map_pi, map_pi, Nat.sub_zero, Nat.zero_mul, List.length_take, decide_eq_true, decide_eq_false, Bool.true_eq_false, Bool.false_eq_true, beqT, beqF, ibeq, ibne, List.take_zero, List.take_succ_cons, List.drop_zero, List.drop_succ_cons, List.drop_nil, List.take_nil, List.cons_append, Bool.not_true, Bool.not_false, e5])
      (repeat (first | refine VC.seq ?_ | refine VC.block ?_ | refine VC.kill ?_ | refine VC.skip ?_ | refine VC.exit ?_ | refine VC.regA ?_ | refine VC.condT ?_ | refine VC.condF ?_))
      apply VC.regU
      · (simp (config := {decide := false, maxSteps := 1000000}) (disch := omega) only [vev_call, putC_c0, putC_n0, putC_cs, ble0, List.getElem?_cons_zero, List.getElem?_cons_succ, runU, isCall, wantV, vev, evV, ofVal, ofAtom, atomB, cond_true, cond_false, PT.get, PT.set, PT.filt, PT.map, Option.getD_some, Option.getD_none, ret1V, ret1X, v_ld, v_ias, v_iad, v_fad, v_slsl, v_slarr, v_st, v_app, v_cpy, v_len, v_look, v_mset, elsV, partV, newV, free, atV, atI, atL, toVal, cellsV, okV, VSt.put, VSt.kill, VSt.alloc, VSt.frz, VSt.adopt, noref, norefB, deadB, deadV, nos, nm, nmL, nmB, nmE, Pa.eqb, Bool.not_false, Bool.not_true, Bool.and_true, Bool.true_and, Bool.false_and, Bool.and_false, bin, intOps, intBin, cvt, un, goInt, bndsV, bndV, Option.map_some, Option.map_none, List.map_cons, List.map_nil, Int.toNat_natCast, Nat.mul_one, Nat.zero_add, beq_true, beq_false, beq_self_eq_true, List.length_map, List.length_cons, List.length_nil, List.length_append, fillV, pEvV, repsV, List.append_nil, List.nil_append, if_pos, if_neg, reduceIte, List.getElem?_map, List.getElem?_drop, Nat.add_zero, List.getElem?_eq_getElem, Go.IntWalk.i64_in, wrap_u64, tmod_pos, eq_self, true_and, and_true, and_self, List.all_cons, List.all_nil, nmL_vi, flV_len, flP_len, flV_nm, flV_ok, flV_pv, flP_map, drop_flP, drop_flV, putC_flV, eqV2, eqV3, bneT, bneF, decide_true, decide_false, frzL_vi, frzL_flV, nmE_ag, nmE_at, frzE_ag, frzE_at, ofAg_len, ofAt_len, atL_vi, nmL_map_p, frzL_map_p, okL_p, toPVs_p, repsZ, nmL_reps, putC_vi, get_flV0, get_flV1, Int.toNat_zero, Int.toNat_one, Int.reduceToNat, eqV_slice, eqV_ptr, eqV_func, nilS, nilP, nilF, nmL_append, okL_vi, toPVs_vi, toPVs, toPV, frzV, frzL, frzB, resVV, vi, vb, nilV, sl1, bl1, pi, foldV, max2, min2, max_eq, min_eq, Int.tdiv_eq_ediv_of_nonneg, Int.cast_ofNat_Int, Option.isSome_none, Option.isSome_some, Option.isNone_none, Option.isNone_some, and_false, false_and, sl2, sl1P, slP, min_cast, take_map_pi, map_pi, Nat.sub_zero, Nat.zero_mul, List.length_take, decide_eq_true, decide_eq_false, Bool.true_eq_false, Bool.false_eq_true, beqT, beqF, ibeq, ibne, List.take_zero, List.take_succ_cons, List.drop_zero, List.drop_succ_cons, List.drop_nil, List.take_nil, List.cons_append, Bool.not_true, Bool.not_false, hk4, hke, hfs])
        rfl
      (repeat (first | refine VC.seq ?_ | refine VC.block ?_ | refine VC.kill ?_ | refine VC.skip ?_ | refine VC.exit ?_ | refine VC.regA ?_ | refine VC.condT ?_ | refine VC.condF ?_))
      have hfl := flV_snoc O e.st.1 e.st.2
      have hle2 : (O ++ [(e.st.1, e.st.2)]).length = O.length + 1 := by simp
      refine ⟨_, (e', O ++ [(e.st.1, e.st.2)]), ?_, ⟨rfl, ⟨j, h2⟩, ?_⟩, ?_⟩
      · simp only; omega
      · rw [h6, List.reverse_append] at hpe
        rw [← hpe]; simp
      · rw [← h3] at hCp
        (apply Go.Ab.V.G.weak; constructor <;> simp (config := {decide := true}) only [PT.Le, inV, mkB, PT.set, VSt.kill, VSt.adopt, VSt.alloc, PT.filt, PT.map, List.map_cons, List.map_nil, noref, norefB, deadB, deadV, nos, nm, nmL, nmB, nmE, Pa.eqb, cond_true, cond_false, Bool.not_true, Bool.not_false, Bool.and_true, Bool.true_and, nmL_vi, flV_len, flP_len, flV_nm, flV_ok, flV_pv, flP_map, drop_flP, drop_flV, putC_flV, eqV2, eqV3, bneT, bneF, decide_true, decide_false, frzL_vi, frzL_flV, nmE_ag, nmE_at, frzE_ag, frzE_at, ofAg_len, ofAt_len, atL_vi, nmL_map_p, frzL_map_p, okL_p, toPVs_p, repsZ, nmL_reps, putC_vi, get_flV0, get_flV1, Int.toNat_zero, Int.toNat_one, Int.reduceToNat, eqV_slice, eqV_ptr, eqV_func, nilS, nilP, nilF, nmL_append, true_or, or_true, and_self, true_and, and_true, Option.some.injEq, reduceCtorEq, false_or, or_false, VV.p.injEq, PV.at.injEq, Value.int.injEq, sl1, vi, bl1, vb, nilV, hfl, hle2, hCp, List.map_cons, List.map_nil])
        (all_goals first | rfl | omega | exact ⟨rfl, by omega⟩)
end Go.Ab.Jug

namespace Go.Ab.Jug
open Go.Ab.V
set_option maxRecDepth 100000
theorem sizeF_take (x : List Int) (i : Nat) (h : i < x.length) : sizeF (x.take (i + 1)) 1 = sizeF (x.take i) 1 * (x[i] + 1).toNat := by
  unfold sizeF; rw [List.take_add_one, List.getElem?_eq_getElem h, List.foldl_append]; rfl
def cellsE (L : List En) : List VV := L.map fun e => .p (sl1P e.g)
theorem cellsE_len (L : List En) : (cellsE L).length = L.length := by simp [cellsE]
theorem cellsE_nm (L : List En) : nmL (cellsE L) = [] := by
  induction L with
  | nil => rfl
  | cons e L ih => simp only [cellsE, List.map_cons, nmL] at *; rw [ih]; rfl
theorem cellsE_get (L : List En) (i : Nat) (e : En) (h : L[i]? = some e) : (cellsE L)[i]? = some (.p (sl1P e.g)) := by simp [cellsE, h]
theorem cellsE_frz (a : Pa) (cs : List PV) (L : List En) : frzL a cs (cellsE L) = cellsE L := by
  rw [frzL_eq]; simp only [cellsE, List.map_map]; exact List.map_congr_left fun e _ => rfl
theorem cellsE_pv (L : List En) : toPVs (cellsE L) = some ((L.map En.g).map sl1P) := by
  induction L with
  | nil => rfl
  | cons e L ih => simp only [cellsE, List.map_cons, toPVs, toPV] at *; rw [ih]
set_option maxHeartbeats 8000000 in
theorem All_ok (x f : List Int) (c : Bool) (hx : okJ x) (hf : fillB x f = true) (N : Nat) (hN : N = (bf x f c N).length) (hj : ∀ j, j < N → j < (bf x f c j).length) :
    VCall cfg 21 [sl1 x, sl1 f, vb c] [] [] (.tup [sl1 (outL x (bf x f c N)), sl2 ((bf x f c N).map En.g)]) [] := by
  have hx4 : x.length ≤ 4 := hx.2.1
  have hq := okJ_mem hx
  have hlf : f.length = x.length := ((fillB_iff x f).1 hf).1
  have k1 := Code_ok x f hx hf
  have hcl : code x f < sizeF x 1 := codeF_lt x f 0 1 hf (by decide)
  have hS : sizeF x 1 ≤ 28561 := by have := sizeF_le x 1 4 hq hx4; omega
  generalize hcf : code x f = cf at k1 hcl
  have hout0 : (List.replicate (sizeF x 1) (-1)).set cf 0 = outL x [root x f] := by
    rw [← outL_nil, ← hcf]; exact (outL_snoc x [] (root x f) (by simp) hf rfl).symm
  generalize hSS : sizeF x 1 = S at *
  (refine VCall.mk (fn := a21) rfl rfl rfl ?_; simp only [a21, inV, mkB, nmsL, PT.set])
  (repeat (first | refine VC.seq ?_ | refine VC.block ?_ | refine VC.kill ?_ | refine VC.skip ?_ | refine VC.exit ?_ | refine VC.regA ?_ | refine VC.condT ?_ | refine VC.condF ?_))
  refine VC.loopG (fun (i : Nat) => ⟨inV [p0, p1, p2, p8, p9] [sl1 x, sl1 f, vb c, vi (sizeF (x.take i) 1), vi i] .lf, .lf, [], none⟩) (fun n i => n = x.length - i ∧ i ≤ x.length ∧ sizeF (x.take i) 1 ≤ 13 ^ i) (x := 0) ?_ ⟨rfl, by omega, by simp [sizeF]⟩ ?_
  · (apply Go.Ab.V.G.weak; constructor <;> simp (config := {decide := true}) only [PT.Le, inV, mkB, PT.set, VSt.kill, VSt.adopt, VSt.alloc, PT.filt, PT.map, List.map_cons, List.map_nil, noref, norefB, deadB, deadV, nos, nm, nmL, nmB, nmE, Pa.eqb, cond_true, cond_false, Bool.not_true, Bool.not_false, Bool.and_true, Bool.true_and, nmL_vi, flV_len, flP_len, flV_nm, flV_ok, flV_pv, flP_map, drop_flP, drop_flV, putC_flV, eqV2, eqV3, bneT, bneF, decide_true, decide_false, frzL_vi, frzL_flV, nmE_ag, nmE_at, frzE_ag, frzE_at, ofAg_len, ofAt_len, atL_vi, nmL_map_p, frzL_map_p, okL_p, toPVs_p, repsZ, nmL_reps, putC_vi, get_flV0, get_flV1, Int.toNat_zero, Int.toNat_one, Int.reduceToNat, eqV_slice, eqV_ptr, eqV_func, nilS, nilP, nilF, nmL_append, true_or, or_true, and_self, true_and, and_true, Option.some.injEq, reduceCtorEq, false_or, or_false, VV.p.injEq, PV.at.injEq, Value.int.injEq, sl1, vi, bl1, vb, nilV])
    simp [sizeF]
  · rintro n i ⟨hn, hi, hc⟩
    simp only [inV, PT.set]
    (repeat (first | refine VC.seq ?_ | refine VC.block ?_ | refine VC.kill ?_ | refine VC.skip ?_ | refine VC.exit ?_ | refine VC.regA ?_ | refine VC.condT ?_ | refine VC.condF ?_))
    refine VC.condA ?_ ?_ <;> intro h <;> (simp only [decide_eq_true_eq, decide_eq_false_iff_not, bne_iff_ne, ne_eq, bne_eq_false_iff_eq, beq_iff_eq, beq_eq_false_iff_ne, Bool.not_eq_true', Bool.not_eq_false', Bool.and_eq_true, Bool.or_eq_true, Int.natCast_inj] at h)
    · have h : i < x.length := by omega
      have hq := okJ_mem hx _ (List.getElem_mem h)
      have hs := sizeF_take x i h
      have h13 : 13 ^ i ≤ 13 ^ 3 := Nat.pow_le_pow_right (by decide) (by omega)
      have hpw : 13 ^ (i + 1) = 13 ^ i * 13 := Nat.pow_succ ..
      generalize hC : sizeF (x.take i) 1 = s at *
      generalize hP : 13 ^ i = P at *
      have hm : s * (x[i] + 1).toNat ≤ s * 13 := Nat.mul_le_mul_left _ (by omega)
      have hmi : (s : Int) * (x[i] + 1) = ((s * (x[i] + 1).toNat : Nat) : Int) := by rw [Int.natCast_mul]; congr 1; omega
      have hb0 : 0 ≤ (s : Int) * (x[i] + 1) ∧ (s : Int) * (x[i] + 1) ≤ 100000 := by rw [hmi]; omega
      (repeat (first | refine VC.seq ?_ | refine VC.block ?_ | refine VC.kill ?_ | refine VC.skip ?_ | refine VC.exit ?_ | refine VC.regA ?_ | refine VC.condT ?_ | refine VC.condF ?_))
      refine ⟨_, i + 1, ?_, ⟨rfl, by omega, ?_⟩, ?_⟩
      · omega
      · rw [hs, hpw]; omega
      · (apply Go.Ab.V.G.weak; constructor <;> simp (config := {decide := true}) only [PT.Le, inV, mkB, PT.set, VSt.kill, VSt.adopt, VSt.alloc, PT.filt, PT.map, List.map_cons, List.map_nil, noref, norefB, deadB, deadV, nos, nm, nmL, nmB, nmE, Pa.eqb, cond_true, cond_false, Bool.not_true, Bool.not_false, Bool.and_true, Bool.true_and, nmL_vi, flV_len, flP_len, flV_nm, flV_ok, flV_pv, flP_map, drop_flP, drop_flV, putC_flV, eqV2, eqV3, bneT, bneF, decide_true, decide_false, frzL_vi, frzL_flV, nmE_ag, nmE_at, frzE_ag, frzE_at, ofAg_len, ofAt_len, atL_vi, nmL_map_p, frzL_map_p, okL_p, toPVs_p, repsZ, nmL_reps, putC_vi, get_flV0, get_flV1, Int.toNat_zero, Int.toNat_one, Int.reduceToNat, eqV_slice, eqV_ptr, eqV_func, nilS, nilP, nilF, nmL_append, true_or, or_true, and_self, true_and, and_true, Option.some.injEq, reduceCtorEq, false_or, or_false, VV.p.injEq, PV.at.injEq, Value.int.injEq, sl1, vi, bl1, vb, nilV, hs])
        rw [hmi]
        constructor <;> omega
    · have h : i = x.length := by omega
      subst h
      rw [List.take_length, hSS]
      have hrz := repsZ S
      (repeat (first | refine VC.seq ?_ | refine VC.block ?_ | refine VC.kill ?_ | refine VC.skip ?_ | refine VC.exit ?_ | refine VC.regA ?_ | refine VC.condT ?_ | refine VC.condF ?_))
      ((try (apply VC.regU; · ((simp (config := {decide := false, maxSteps := 1000000}) (disch := omega) only [vev_call, putC_c0, putC_n0, putC_cs, ble0, List.getElem?_cons_zero, List.getElem?_cons_succ, runU, isCall, wantV, vev, evV, ofVal, ofAtom, atomB, cond_true, cond_false, PT.get, PT.set, PT.filt, PT.map, Option.getD_some, Option.getD_none, ret1V, ret1X, v_ld, v_ias, v_iad, v_fad, v_slsl, v_slarr, v_st, v_app, v_cpy, v_len, v_look, v_mset, elsV, partV, newV, free, atV, atI, atL, toVal, cellsV, okV, VSt.put, VSt.kill, VSt.alloc, VSt.frz, VSt.adopt, noref, norefB, deadB, deadV, nos, nm, nmL, nmB, nmE, Pa.eqb, Bool.not_false, Bool.not_true, Bool.and_true, Bool.true_and, Bool.false_and, Bool.and_false, bin, intOps, intBin, cvt, un, goInt, bndsV, bndV, Option.map_some, Option.map_none, List.map_cons, List.map_nil, Int.toNat_natCast, Nat.mul_one, Nat.zero_add, beq_true, beq_false, beq_self_eq_true, List.length_map, List.length_cons, List.length_nil, List.length_append, fillV, pEvV, repsV, List.append_nil, List.nil_append, if_pos, if_neg, reduceIte, List.getElem?_map, List.getElem?_drop, Nat.add_zero, List.getElem?_eq_getElem, Go.IntWalk.i64_in, wrap_u64, tmod_pos, eq_self, true_and, and_true, and_self, List.all_cons, List.all_nil, nmL_vi, flV_len, flP_len, flV_nm, flV_ok, flV_pv, flP_map, drop_flP, drop_flV, putC_flV, eqV2, eqV3, bneT, bneF, decide_true, decide_false, frzL_vi, frzL_flV, nmE_ag, nmE_at, frzE_ag, frzE_at, ofAg_len, ofAt_len, atL_vi, nmL_map_p, frzL_map_p, okL_p, toPVs_p, repsZ, nmL_reps, putC_vi, get_flV0, get_flV1, Int.toNat_zero, Int.toNat_one, Int.reduceToNat, eqV_slice, eqV_ptr, eqV_func, nilS, nilP, nilF, nmL_append, okL_vi, toPVs_vi, toPVs, toPV, frzV, frzL, frzB, resVV, vi, vb, nilV, sl1, bl1, pi, foldV, max2, min2, max_eq, min_eq, Int.tdiv_eq_ediv_of_nonneg, Int.cast_ofNat_Int, Option.isSome_none, Option.isSome_some, Option.isNone_none, Option.isNone_some, and_false, false_and, sl2, sl1P, slP, min_cast, take_map_pi, map_pi, Nat.sub_zero, Nat.zero_mul, List.length_take, decide_eq_true, decide_eq_false, Bool.true_eq_false, Bool.false_eq_true, beqT, beqF, ibeq, ibne, List.take_zero, List.take_succ_cons, List.drop_zero, List.drop_succ_cons, List.drop_nil, List.take_nil, List.cons_append, Bool.not_true, Bool.not_false, hrz]); rfl))); (repeat (first | refine VC.seq ?_ | refine VC.block ?_ | refine VC.kill ?_ | refine VC.skip ?_ | refine VC.exit ?_ | refine VC.regA ?_ | refine VC.condT ?_ | refine VC.condF ?_)))
      refine VC.loopG (fun (q : List Int × Nat) => ⟨inV [p0, p1, p2, p8, p10, p11] [sl1 x, sl1 f, vb c, vi S, .os 1 p33 S, vi q.2] .lf, mkB [(p33, .cells (q.1.map vi))] .lf, [], none⟩) (fun n q => n = S - q.2 ∧ q.2 ≤ S ∧ q.1 = List.replicate q.2 (-1) ++ List.replicate (S - q.2) 0) (x := (List.replicate S 0, 0)) ?_ ⟨rfl, Nat.zero_le _, rfl⟩ ?_
      · (apply Go.Ab.V.G.weak; constructor <;> simp (config := {decide := true}) only [PT.Le, inV, mkB, PT.set, VSt.kill, VSt.adopt, VSt.alloc, PT.filt, PT.map, List.map_cons, List.map_nil, noref, norefB, deadB, deadV, nos, nm, nmL, nmB, nmE, Pa.eqb, cond_true, cond_false, Bool.not_true, Bool.not_false, Bool.and_true, Bool.true_and, nmL_vi, flV_len, flP_len, flV_nm, flV_ok, flV_pv, flP_map, drop_flP, drop_flV, putC_flV, eqV2, eqV3, bneT, bneF, decide_true, decide_false, frzL_vi, frzL_flV, nmE_ag, nmE_at, frzE_ag, frzE_at, ofAg_len, ofAt_len, atL_vi, nmL_map_p, frzL_map_p, okL_p, toPVs_p, repsZ, nmL_reps, putC_vi, get_flV0, get_flV1, Int.toNat_zero, Int.toNat_one, Int.reduceToNat, eqV_slice, eqV_ptr, eqV_func, nilS, nilP, nilF, nmL_append, true_or, or_true, and_self, true_and, and_true, Option.some.injEq, reduceCtorEq, false_or, or_false, VV.p.injEq, PV.at.injEq, Value.int.injEq, sl1, vi, bl1, vb, nilV, repsV_one, List.map_replicate])
      rintro n' ⟨A, i⟩ ⟨hn', hi', hA⟩
      simp only at hn' hi' hA
      have hAl : A.length = S := by rw [hA]; simp; omega
      simp only [inV, PT.set, mkB]
      (repeat (first | refine VC.seq ?_ | refine VC.block ?_ | refine VC.kill ?_ | refine VC.skip ?_ | refine VC.exit ?_ | refine VC.regA ?_ | refine VC.condT ?_ | refine VC.condF ?_))
      refine VC.condA ?_ ?_ <;> intro h <;> (simp only [decide_eq_true_eq, decide_eq_false_iff_not, bne_iff_ne, ne_eq, bne_eq_false_iff_eq, beq_iff_eq, beq_eq_false_iff_ne, Bool.not_eq_true', Bool.not_eq_false', Bool.and_eq_true, Bool.or_eq_true, Int.natCast_inj] at h)
      · have h : i < S := by omega
        have hp := putC_map A i (-1) (by omega)
        simp only [vi] at hp
        (repeat (first | refine VC.seq ?_ | refine VC.block ?_ | refine VC.kill ?_ | refine VC.skip ?_ | refine VC.exit ?_ | refine VC.regA ?_ | refine VC.condT ?_ | refine VC.condF ?_))
        refine ⟨_, (A.set i (-1), i + 1), ?_, ⟨rfl, by simp only; omega, ?_⟩, ?_⟩
        · simp only; omega
        · simp only
          rw [hA, List.set_append_right _ _ (by simp), List.length_replicate, Nat.sub_self, show S - i = (S - (i + 1)) + 1 from by omega, List.replicate_succ, List.set_cons_zero, List.replicate_succ', List.append_assoc]; rfl
        · (apply Go.Ab.V.G.weak; constructor <;> simp (config := {decide := true}) only [PT.Le, inV, mkB, PT.set, VSt.kill, VSt.adopt, VSt.alloc, PT.filt, PT.map, List.map_cons, List.map_nil, noref, norefB, deadB, deadV, nos, nm, nmL, nmB, nmE, Pa.eqb, cond_true, cond_false, Bool.not_true, Bool.not_false, Bool.and_true, Bool.true_and, nmL_vi, flV_len, flP_len, flV_nm, flV_ok, flV_pv, flP_map, drop_flP, drop_flV, putC_flV, eqV2, eqV3, bneT, bneF, decide_true, decide_false, frzL_vi, frzL_flV, nmE_ag, nmE_at, frzE_ag, frzE_at, ofAg_len, ofAt_len, atL_vi, nmL_map_p, frzL_map_p, okL_p, toPVs_p, repsZ, nmL_reps, putC_vi, get_flV0, get_flV1, Int.toNat_zero, Int.toNat_one, Int.reduceToNat, eqV_slice, eqV_ptr, eqV_func, nilS, nilP, nilF, nmL_append, true_or, or_true, and_self, true_and, and_true, Option.some.injEq, reduceCtorEq, false_or, or_false, VV.p.injEq, PV.at.injEq, Value.int.injEq, sl1, vi, bl1, vb, nilV, hp])
          (all_goals first | rfl | omega | exact ⟨rfl, by omega⟩)
      · have h : S = i := by omega
        subst h
        have hA : A = List.replicate S (-1) := by rw [hA]; simp
        subst hA
        have hp := putC_map (List.replicate S (-1)) cf 0 (by omega)
        rw [hout0] at hp
        simp only [vi] at hp
        (repeat (first | refine VC.seq ?_ | refine VC.block ?_ | refine VC.kill ?_ | refine VC.skip ?_ | refine VC.exit ?_ | refine VC.regA ?_ | refine VC.condT ?_ | refine VC.condF ?_))
        refine VC.regCA ?_
        refine VO.moreA ?_
        refine VO.call0A (no_orc 23 (by decide)) k1 ?_
        refine VO.endA ?_
        (repeat (first | refine VC.seq ?_ | refine VC.block ?_ | refine VC.kill ?_ | refine VC.skip ?_ | refine VC.exit ?_ | refine VC.regA ?_ | refine VC.condT ?_ | refine VC.condF ?_))
        rw [hout0]
        have hbl := fun i => bf_len (c := c) hx hf i
        have hG := fun i => bf_good (x := x) (f0 := f) (c := c) hf i
        refine VC.loopG (fun (i : Nat) => ⟨inV [p0, p2, p10, p12, p13] [sl1 x, vb c, .os 1 p33 S, .os 1 p48 (bf x f c i).length, vi i] .lf, mkB [(p33, .cells ((outL x (bf x f c i)).map vi)), (p48, .cells (cellsE (bf x f c i)))] .lf, [], none⟩) (fun n i => n = N - i ∧ i ≤ N) (x := 0) ?_ ⟨rfl, Nat.zero_le _⟩ ?_
        · have h1 : (bf x f c 0).length = 1 := rfl
          have h2 : cellsE (bf x f c 0) = [.p (sl1P f)] := rfl
          have h3 : outL x (bf x f c 0) = outL x [root x f] := rfl
          (apply Go.Ab.V.G.weak; constructor <;> simp (config := {decide := true}) only [PT.Le, inV, mkB, PT.set, VSt.kill, VSt.adopt, VSt.alloc, PT.filt, PT.map, List.map_cons, List.map_nil, noref, norefB, deadB, deadV, nos, nm, nmL, nmB, nmE, Pa.eqb, cond_true, cond_false, Bool.not_true, Bool.not_false, Bool.and_true, Bool.true_and, nmL_vi, flV_len, flP_len, flV_nm, flV_ok, flV_pv, flP_map, drop_flP, drop_flV, putC_flV, eqV2, eqV3, bneT, bneF, decide_true, decide_false, frzL_vi, frzL_flV, nmE_ag, nmE_at, frzE_ag, frzE_at, ofAg_len, ofAt_len, atL_vi, nmL_map_p, frzL_map_p, okL_p, toPVs_p, repsZ, nmL_reps, putC_vi, get_flV0, get_flV1, Int.toNat_zero, Int.toNat_one, Int.reduceToNat, eqV_slice, eqV_ptr, eqV_func, nilS, nilP, nilF, nmL_append, true_or, or_true, and_self, true_and, and_true, Option.some.injEq, reduceCtorEq, false_or, or_false, VV.p.injEq, PV.at.injEq, Value.int.injEq, sl1, vi, bl1, vb, nilV, h1, h2, h3, sl1P])
          (all_goals first | rfl | omega | exact ⟨rfl, by omega⟩)
        rintro n i ⟨hn, hi⟩
        simp only [inV, PT.set, mkB]
        have hbli := hbl i
        (repeat (first | refine VC.seq ?_ | refine VC.block ?_ | refine VC.kill ?_ | refine VC.skip ?_ | refine VC.exit ?_ | refine VC.regA ?_ | refine VC.condT ?_ | refine VC.condF ?_))
        refine VC.condA ?_ ?_ <;> intro h <;> (simp only [decide_eq_true_eq, decide_eq_false_iff_not, bne_iff_ne, ne_eq, bne_eq_false_iff_eq, beq_iff_eq, beq_eq_false_iff_ne, Bool.not_eq_true', Bool.not_eq_false', Bool.and_eq_true, Bool.or_eq_true, Int.natCast_inj] at h)
        · have h : i < (bf x f c i).length := by omega
          have hiN : i < N := by
            rcases Nat.lt_or_ge i N with h1 | h1
            · exact h1
            · have : i = N := by omega
              rw [this] at h; omega
          have hGi := hG i
          generalize hL : bf x f c i = L at *
          obtain ⟨e, he⟩ : ∃ e, L[i]? = some e := ⟨_, List.getElem?_eq_getElem h⟩
          have hnext : bf x f c (i + 1) = addAll e.g e.d L (succs x c e.g) := by
            show (match (bf x f c i)[i]? with
              | some e => addAll e.g e.d (bf x f c i) (succs x c e.g)
              | none => bf x f c i) = _
            rw [hL, he]
          have hfe := hGi.gfill hf (List.mem_of_getElem? he)
          have hle : e.g.length = x.length := ((fillB_iff x _).1 hfe).1
          have ke := Code_ok x e.g hx hfe
          have ks := StepsR_ok x e.g c ⟨hx.1, hx4⟩ hle hq ((fillB_iff x _).1 hfe).2
          have h25 := allR_len25 x e.g c hx4
          have hss : succs x c e.g = (allR x e.g c (x.length + 1)).map fun p => (p, stepR x e.g p.1 p.2) := rfl
          generalize hAR : allR x e.g c (x.length + 1) = ss at *
          have hce := cellsE_get L i e he
          (repeat (first | refine VC.seq ?_ | refine VC.block ?_ | refine VC.kill ?_ | refine VC.skip ?_ | refine VC.exit ?_ | refine VC.regA ?_ | refine VC.condT ?_ | refine VC.condF ?_))
          apply VC.regC
          · (simp (config := {decide := false, maxSteps := 1000000}) (disch := omega) only [vev_call, putC_c0, putC_n0, putC_cs, ble0, List.getElem?_cons_zero, List.getElem?_cons_succ, runU, isCall, wantV, vev, evV, ofVal, ofAtom, atomB, cond_true, cond_false, PT.get, PT.set, PT.filt, PT.map, Option.getD_some, Option.getD_none, ret1V, ret1X, v_ld, v_ias, v_iad, v_fad, v_slsl, v_slarr, v_st, v_app, v_cpy, v_len, v_look, v_mset, elsV, partV, newV, free, atV, atI, atL, toVal, cellsV, okV, VSt.put, VSt.kill, VSt.alloc, VSt.frz, VSt.adopt, noref, norefB, deadB, deadV, nos, nm, nmL, nmB, nmE, Pa.eqb, Bool.not_false, Bool.not_true, Bool.and_true, Bool.true_and, Bool.false_and, Bool.and_false, bin, intOps, intBin, cvt, un, goInt, bndsV, bndV, Option.map_some, Option.map_none, List.map_cons, List.map_nil, Int.toNat_natCast, Nat.mul_one, Nat.zero_add, beq_true, beq_false, beq_self_eq_true, List.length_map, List.length_cons, List.length_nil, List.length_append, fillV, pEvV, repsV, List.append_nil, List.nil_append, if_pos, if_neg, reduceIte, List.getElem?_map, List.getElem?_drop, Nat.add_zero, List.getElem?_eq_getElem, Go.IntWalk.i64_in, wrap_u64, tmod_pos, eq_self, true_and, and_true, and_self, List.all_cons, List.all_nil, nmL_vi, flV_len, flP_len, flV_nm, flV_ok, flV_pv, flP_map, drop_flP, drop_flV, putC_flV, eqV2, eqV3, bneT, bneF, decide_true, decide_false, frzL_vi, frzL_flV, nmE_ag, nmE_at, frzE_ag, frzE_at, ofAg_len, ofAt_len, atL_vi, nmL_map_p, frzL_map_p, okL_p, toPVs_p, repsZ, nmL_reps, putC_vi, get_flV0, get_flV1, Int.toNat_zero, Int.toNat_one, Int.reduceToNat, eqV_slice, eqV_ptr, eqV_func, nilS, nilP, nilF, nmL_append, okL_vi, toPVs_vi, toPVs, toPV, frzV, frzL, frzB, resVV, vi, vb, nilV, sl1, bl1, pi, foldV, max2, min2, max_eq, min_eq, Int.tdiv_eq_ediv_of_nonneg, Int.cast_ofNat_Int, Option.isSome_none, Option.isSome_some, Option.isNone_none, Option.isNone_some, and_false, false_and, sl2, sl1P, slP, min_cast, take_map_pi, map_pi, Nat.sub_zero, Nat.zero_mul, List.length_take, decide_eq_true, decide_eq_false, Bool.true_eq_false, Bool.false_eq_true, beqT, beqF, ibeq, ibne, List.take_zero, List.take_succ_cons, List.drop_zero, List.drop_succ_cons, List.drop_nil, List.take_nil, List.cons_append, Bool.not_true, Bool.not_false, hce, sl1P])
            rfl
          refine VO.call0A (no_orc 19 (by decide)) ks ?_
          refine VO.endA ?_
          (repeat (first | refine VC.seq ?_ | refine VC.block ?_ | refine VC.kill ?_ | refine VC.skip ?_ | refine VC.exit ?_ | refine VC.regA ?_ | refine VC.condT ?_ | refine VC.condF ?_))
          refine VC.loopG (fun (q : List En × Nat) => ⟨inV [p0, p2, p10, p12, p13, p14, p15] [sl1 x, vb c, .os 1 p33 S, .os 1 p48 q.1.length, vi i, slP ss, vi q.2] .lf, mkB [(p33, .cells ((outL x q.1).map vi)), (p48, .cells (cellsE q.1))] .lf, [], none⟩) (fun n q => n = ss.length - q.2 ∧ q.2 ≤ ss.length ∧ q.1 = addAll e.g e.d L ((succs x c e.g).take q.2)) (x := (L, 0)) ?_ ⟨rfl, Nat.zero_le _, rfl⟩ ?_
          · (apply Go.Ab.V.G.weak; constructor <;> simp (config := {decide := true}) only [PT.Le, inV, mkB, PT.set, VSt.kill, VSt.adopt, VSt.alloc, PT.filt, PT.map, List.map_cons, List.map_nil, noref, norefB, deadB, deadV, nos, nm, nmL, nmB, nmE, Pa.eqb, cond_true, cond_false, Bool.not_true, Bool.not_false, Bool.and_true, Bool.true_and, nmL_vi, flV_len, flP_len, flV_nm, flV_ok, flV_pv, flP_map, drop_flP, drop_flV, putC_flV, eqV2, eqV3, bneT, bneF, decide_true, decide_false, frzL_vi, frzL_flV, nmE_ag, nmE_at, frzE_ag, frzE_at, ofAg_len, ofAt_len, atL_vi, nmL_map_p, frzL_map_p, okL_p, toPVs_p, repsZ, nmL_reps, putC_vi, get_flV0, get_flV1, Int.toNat_zero, Int.toNat_one, Int.reduceToNat, eqV_slice, eqV_ptr, eqV_func, nilS, nilP, nilF, nmL_append, true_or, or_true, and_self, true_and, and_true, Option.some.injEq, reduceCtorEq, false_or, or_false, VV.p.injEq, PV.at.injEq, Value.int.injEq, sl1, vi, bl1, vb, nilV, slP])
          rintro n' ⟨L', k⟩ ⟨hn', hk, hL'⟩
          simp only at hn' hk hL'
          simp only [inV, PT.set, mkB]
          have hG' : Good x c f L' := by rw [hL']; exact Good.all hf _ hGi he fun s hs => List.mem_of_mem_take hs
          have hlL' : L'.length ≤ 28561 := by have := good_len hG' hf; omega
          have he' : L'[i]? = some e := by
            obtain ⟨t, ht⟩ := addAll_pre e.g e.d ((succs x c e.g).take k) L
            rw [hL', ← ht, List.getElem?_append_left h]; exact he
          have hce' := cellsE_get L' i e he'
          have hil' := (List.getElem?_eq_some_iff.1 he').1
          have hf' : ∀ e ∈ L', fillB x e.g = true := fun e he => hG'.gfill hf he
          (repeat (first | refine VC.seq ?_ | refine VC.block ?_ | refine VC.kill ?_ | refine VC.skip ?_ | refine VC.exit ?_ | refine VC.regA ?_ | refine VC.condT ?_ | refine VC.condF ?_))
          refine VC.condA ?_ ?_ <;> intro h' <;> (simp only [decide_eq_true_eq, decide_eq_false_iff_not, bne_iff_ne, ne_eq, bne_eq_false_iff_eq, beq_iff_eq, beq_eq_false_iff_ne, Bool.not_eq_true', Bool.not_eq_false', Bool.and_eq_true, Bool.or_eq_true, Int.natCast_inj] at h')
          · have h' : k < ss.length := by omega
            generalize hs : ss[k] = s
            have hsm : (s, stepR x e.g s.1 s.2) ∈ succs x c e.g := by
              rw [hss]; exact List.mem_map.2 ⟨s, by rw [← hs]; exact List.getElem_mem h', rfl⟩
            have htk : (succs x c e.g).take (k + 1) = (succs x c e.g).take k ++ [(s, stepR x e.g s.1 s.2)] := by
              rw [List.take_add_one, hss, List.getElem?_map, List.getElem?_eq_getElem h', hs]; rfl
            obtain ⟨hR, _, _, _⟩ := succ_mem hsm
            have hfg := succ_fill hsm hfe
            have hbd := isR_bd hR
            simp only at hR hfg hbd
            have kst := stepR_ok x e.g s.1 s.2 hx4 hle (by omega) (by omega) hq ((fillB_iff x _).1 hfe).2 hx.1
            rw [hR] at kst
            simp only [if_true, ag2] at kst
            have hLn : addAll e.g e.d L ((succs x c e.g).take (k + 1)) = addOne e.g e.d L' (s, stepR x e.g s.1 s.2) := by rw [htk, addAll_snoc, ← hL']
            generalize hg : stepR x e.g s.1 s.2 = g at *
            have kg := Code_ok x g hx hfg
            have hcg : code x g < sizeF x 1 := codeF_lt x g 0 1 hfg (by decide)
            have hdg := distE_neg hf' hG'.nodup hfg
            have hogE : ∀ (h : code x g < (outL x L').length), (outL x L')[code x g] = distE x L' (code x g) := fun h => outL_get ..
            have hoeE : ∀ (h : code x e.g < (outL x L').length), (outL x L')[code x e.g] = (e.d : Int) := fun h => by rw [outL_get, distE_get hf' hG'.nodup he']
            have hed := good_d hG' i e he'
            rw [hSS] at hcg
            have hce2 : code x e.g < S := by rw [← hSS]; exact codeF_lt x e.g 0 1 hfe (by decide)
            have hol := outL_len x L'
            rw [hSS] at hol
            generalize hcg' : code x g = cg at *
            generalize hce3 : code x e.g = ce at *
            (repeat (first | refine VC.seq ?_ | refine VC.block ?_ | refine VC.kill ?_ | refine VC.skip ?_ | refine VC.exit ?_ | refine VC.regA ?_ | refine VC.condT ?_ | refine VC.condF ?_))
            apply VC.regC
            · (simp (config := {decide := false, maxSteps := 1000000}) (disch := omega) only [vev_call, putC_c0, putC_n0, putC_cs, ble0, List.getElem?_cons_zero, List.getElem?_cons_succ, runU, isCall, wantV, vev, evV, ofVal, ofAtom, atomB, cond_true, cond_false, PT.get, PT.set, PT.filt, PT.map, Option.getD_some, Option.getD_none, ret1V, ret1X, v_ld, v_ias, v_iad, v_fad, v_slsl, v_slarr, v_st, v_app, v_cpy, v_len, v_look, v_mset, elsV, partV, newV, free, atV, atI, atL, toVal, cellsV, okV, VSt.put, VSt.kill, VSt.alloc, VSt.frz, VSt.adopt, noref, norefB, deadB, deadV, nos, nm, nmL, nmB, nmE, Pa.eqb, Bool.not_false, Bool.not_true, Bool.and_true, Bool.true_and, Bool.false_and, Bool.and_false, bin, intOps, intBin, cvt, un, goInt, bndsV, bndV, Option.map_some, Option.map_none, List.map_cons, List.map_nil, Int.toNat_natCast, Nat.mul_one, Nat.zero_add, beq_true, beq_false, beq_self_eq_true, List.length_map, List.length_cons, List.length_nil, List.length_append, fillV, pEvV, repsV, List.append_nil, List.nil_append, if_pos, if_neg, reduceIte, List.getElem?_map, List.getElem?_drop, Nat.add_zero, List.getElem?_eq_getElem, Go.IntWalk.i64_in, wrap_u64, tmod_pos, eq_self, true_and, and_true, and_self, List.all_cons, List.all_nil, nmL_vi, flV_len, flP_len, flV_nm, flV_ok, flV_pv, flP_map, drop_flP, drop_flV, putC_flV, eqV2, eqV3, bneT, bneF, decide_true, decide_false, frzL_vi, frzL_flV, nmE_ag, nmE_at, frzE_ag, frzE_at, ofAg_len, ofAt_len, atL_vi, nmL_map_p, frzL_map_p, okL_p, toPVs_p, repsZ, nmL_reps, putC_vi, get_flV0, get_flV1, Int.toNat_zero, Int.toNat_one, Int.reduceToNat, eqV_slice, eqV_ptr, eqV_func, nilS, nilP, nilF, nmL_append, okL_vi, toPVs_vi, toPVs, toPV, frzV, frzL, frzB, resVV, vi, vb, nilV, sl1, bl1, pi, foldV, max2, min2, max_eq, min_eq, Int.tdiv_eq_ediv_of_nonneg, Int.cast_ofNat_Int, Option.isSome_none, Option.isSome_some, Option.isNone_none, Option.isNone_some, and_false, false_and, sl2, sl1P, slP, min_cast, take_map_pi, map_pi, Nat.sub_zero, Nat.zero_mul, List.length_take, decide_eq_true, decide_eq_false, Bool.true_eq_false, Bool.false_eq_true, beqT, beqF, ibeq, ibne, List.take_zero, List.take_succ_cons, List.drop_zero, List.drop_succ_cons, List.drop_nil, List.take_nil, List.cons_append, Bool.not_true, Bool.not_false, hce', sl1P, hs])
              rfl
            refine VO.call0A (no_orc 49 (by decide)) kst ?_
            refine VO.endA ?_
            (repeat (first | refine VC.seq ?_ | refine VC.block ?_ | refine VC.kill ?_ | refine VC.skip ?_ | refine VC.exit ?_ | refine VC.regA ?_ | refine VC.condT ?_ | refine VC.condF ?_))
            cases hh : hasE L' g with
            | true =>
              have hd0 : ¬ ((outL x L')[cg]'(by omega) < 0) := fun h => by rw [hogE (by omega)] at h; rw [hdg.1 h] at hh; cases hh
              have hLs : addOne e.g e.d L' (s, g) = L' := by unfold addOne; rw [if_pos hh]
              (refine VC.regCA ?_; refine VO.moreA ?_; refine VO.call0A (no_orc _ (by decide)) kg ?_; refine VO.endA ?_; (repeat (first | refine VC.seq ?_ | refine VC.block ?_ | refine VC.kill ?_ | refine VC.skip ?_ | refine VC.exit ?_ | refine VC.regA ?_ | refine VC.condT ?_ | refine VC.condF ?_)))
              refine ⟨_, (L', k + 1), ?_, ⟨rfl, by simp only; omega, by rw [hLn, hLs]⟩, ?_⟩
              · simp only; omega
              · (apply Go.Ab.V.G.weak; constructor <;> simp (config := {decide := true}) only [PT.Le, inV, mkB, PT.set, VSt.kill, VSt.adopt, VSt.alloc, PT.filt, PT.map, List.map_cons, List.map_nil, noref, norefB, deadB, deadV, nos, nm, nmL, nmB, nmE, Pa.eqb, cond_true, cond_false, Bool.not_true, Bool.not_false, Bool.and_true, Bool.true_and, nmL_vi, flV_len, flP_len, flV_nm, flV_ok, flV_pv, flP_map, drop_flP, drop_flV, putC_flV, eqV2, eqV3, bneT, bneF, decide_true, decide_false, frzL_vi, frzL_flV, nmE_ag, nmE_at, frzE_ag, frzE_at, ofAg_len, ofAt_len, atL_vi, nmL_map_p, frzL_map_p, okL_p, toPVs_p, repsZ, nmL_reps, putC_vi, get_flV0, get_flV1, Int.toNat_zero, Int.toNat_one, Int.reduceToNat, eqV_slice, eqV_ptr, eqV_func, nilS, nilP, nilF, nmL_append, true_or, or_true, and_self, true_and, and_true, Option.some.injEq, reduceCtorEq, false_or, or_false, VV.p.injEq, PV.at.injEq, Value.int.injEq, sl1, vi, bl1, vb, nilV, slP])
                (all_goals first | rfl | omega | exact ⟨rfl, by omega⟩)
            | false =>
              have hd0 : (outL x L')[cg]'(by omega) < 0 := by rw [hogE (by omega)]; exact hdg.2 hh
              have hLs : addOne e.g e.d L' (s, g) = L' ++ [⟨g, e.g, s, e.d + 1⟩] := by unfold addOne; rw [if_neg (by rw [hh]; simp)]
              have hos := outL_snoc x L' ⟨g, e.g, s, e.d + 1⟩ hf' hfg hh
              simp only [hcg'] at hos
              rw [show ((e.d + 1 : Nat) : Int) = (outL x L')[ce]'(by omega) + 1 from by rw [hoeE (by omega)]; rfl] at hos
              have hcs : cellsE (L' ++ [⟨g, e.g, s, e.d + 1⟩]) = cellsE L' ++ [.p (sl1P g)] := by simp [cellsE]
              have hcl' := cellsE_len L'
              have hcn := cellsE_nm L'
              have hoeB := hoeE (by omega)
              (refine VC.regCA ?_; refine VO.moreA ?_; refine VO.call0A (no_orc _ (by decide)) kg ?_; refine VO.endA ?_; (repeat (first | refine VC.seq ?_ | refine VC.block ?_ | refine VC.kill ?_ | refine VC.skip ?_ | refine VC.exit ?_ | refine VC.regA ?_ | refine VC.condT ?_ | refine VC.condF ?_)))
              apply VC.regC
              · (simp (config := {decide := false, maxSteps := 1000000}) (disch := omega) only [vev_call, putC_c0, putC_n0, putC_cs, ble0, List.getElem?_cons_zero, List.getElem?_cons_succ, runU, isCall, wantV, vev, evV, ofVal, ofAtom, atomB, cond_true, cond_false, PT.get, PT.set, PT.filt, PT.map, Option.getD_some, Option.getD_none, ret1V, ret1X, v_ld, v_ias, v_iad, v_fad, v_slsl, v_slarr, v_st, v_app, v_cpy, v_len, v_look, v_mset, elsV, partV, newV, free, atV, atI, atL, toVal, cellsV, okV, VSt.put, VSt.kill, VSt.alloc, VSt.frz, VSt.adopt, noref, norefB, deadB, deadV, nos, nm, nmL, nmB, nmE, Pa.eqb, Bool.not_false, Bool.not_true, Bool.and_true, Bool.true_and, Bool.false_and, Bool.and_false, bin, intOps, intBin, cvt, un, goInt, bndsV, bndV, Option.map_some, Option.map_none, List.map_cons, List.map_nil, Int.toNat_natCast, Nat.mul_one, Nat.zero_add, beq_true, beq_false, beq_self_eq_true, List.length_map, List.length_cons, List.length_nil, List.length_append, fillV, pEvV, repsV, List.append_nil, List.nil_append, if_pos, if_neg, reduceIte, List.getElem?_map, List.getElem?_drop, Nat.add_zero, List.getElem?_eq_getElem, Go.IntWalk.i64_in, wrap_u64, tmod_pos, eq_self, true_and, and_true, and_self, List.all_cons, List.all_nil, nmL_vi, flV_len, flP_len, flV_nm, flV_ok, flV_pv, flP_map, drop_flP, drop_flV, putC_flV, eqV2, eqV3, bneT, bneF, decide_true, decide_false, frzL_vi, frzL_flV, nmE_ag, nmE_at, frzE_ag, frzE_at, ofAg_len, ofAt_len, atL_vi, nmL_map_p, frzL_map_p, okL_p, toPVs_p, repsZ, nmL_reps, putC_vi, get_flV0, get_flV1, Int.toNat_zero, Int.toNat_one, Int.reduceToNat, eqV_slice, eqV_ptr, eqV_func, nilS, nilP, nilF, nmL_append, okL_vi, toPVs_vi, toPVs, toPV, frzV, frzL, frzB, resVV, vi, vb, nilV, sl1, bl1, pi, foldV, max2, min2, max_eq, min_eq, Int.tdiv_eq_ediv_of_nonneg, Int.cast_ofNat_Int, Option.isSome_none, Option.isSome_some, Option.isNone_none, Option.isNone_some, and_false, false_and, sl2, sl1P, slP, min_cast, take_map_pi, map_pi, Nat.sub_zero, Nat.zero_mul, List.length_take, decide_eq_true, decide_eq_false, Bool.true_eq_false, Bool.false_eq_true, beqT, beqF, ibeq, ibne, List.take_zero, List.take_succ_cons, List.drop_zero, List.drop_succ_cons, List.drop_nil, List.take_nil, List.cons_append, Bool.not_true, Bool.not_false, hce', sl1P])
                rfl
              refine VO.call0A (no_orc 23 (by decide)) ke ?_
              refine VO.endA ?_
              (repeat (first | refine VC.seq ?_ | refine VC.block ?_ | refine VC.kill ?_ | refine VC.skip ?_ | refine VC.exit ?_ | refine VC.regA ?_ | refine VC.condT ?_ | refine VC.condF ?_))
              ((try (apply VC.regU; · ((simp (config := {decide := false, maxSteps := 1000000}) (disch := omega) only [vev_call, putC_c0, putC_n0, putC_cs, ble0, List.getElem?_cons_zero, List.getElem?_cons_succ, runU, isCall, wantV, vev, evV, ofVal, ofAtom, atomB, cond_true, cond_false, PT.get, PT.set, PT.filt, PT.map, Option.getD_some, Option.getD_none, ret1V, ret1X, v_ld, v_ias, v_iad, v_fad, v_slsl, v_slarr, v_st, v_app, v_cpy, v_len, v_look, v_mset, elsV, partV, newV, free, atV, atI, atL, toVal, cellsV, okV, VSt.put, VSt.kill, VSt.alloc, VSt.frz, VSt.adopt, noref, norefB, deadB, deadV, nos, nm, nmL, nmB, nmE, Pa.eqb, Bool.not_false, Bool.not_true, Bool.and_true, Bool.true_and, Bool.false_and, Bool.and_false, bin, intOps, intBin, cvt, un, goInt, bndsV, bndV, Option.map_some, Option.map_none, List.map_cons, List.map_nil, Int.toNat_natCast, Nat.mul_one, Nat.zero_add, beq_true, beq_false, beq_self_eq_true, List.length_map, List.length_cons, List.length_nil, List.length_append, fillV, pEvV, repsV, List.append_nil, List.nil_append, if_pos, if_neg, reduceIte, List.getElem?_map, List.getElem?_drop, Nat.add_zero, List.getElem?_eq_getElem, Go.IntWalk.i64_in, wrap_u64, tmod_pos, eq_self, true_and, and_true, and_self, List.all_cons, List.all_nil, nmL_vi, flV_len, flP_len, flV_nm, flV_ok, flV_pv, flP_map, drop_flP, drop_flV, putC_flV, eqV2, eqV3, bneT, bneF, decide_true, decide_false, frzL_vi, frzL_flV, nmE_ag, nmE_at, frzE_ag, frzE_at, ofAg_len, ofAt_len, atL_vi, nmL_map_p, frzL_map_p, okL_p, toPVs_p, repsZ, nmL_reps, putC_vi, get_flV0, get_flV1, Int.toNat_zero, Int.toNat_one, Int.reduceToNat, eqV_slice, eqV_ptr, eqV_func, nilS, nilP, nilF, nmL_append, okL_vi, toPVs_vi, toPVs, toPV, frzV, frzL, frzB, resVV, vi, vb, nilV, sl1, bl1, pi, foldV, max2, min2, max_eq, min_eq, Int.tdiv_eq_ediv_of_nonneg, Int.cast_ofNat_Int, Option.isSome_none, Option.isSome_some, Option.isNone_none, Option.isNone_some, and_false, false_and, sl2, sl1P, slP, min_cast, take_map_pi, map_pi, Nat.sub_zero, Nat.zero_mul, List.length_take, decide_eq_true, decide_eq_false, Bool.true_eq_false, Bool.false_eq_true, beqT, beqF, ibeq, ibne, List.take_zero, List.take_succ_cons, List.drop_zero, List.drop_succ_cons, List.drop_nil, List.take_nil, List.cons_append, Bool.not_true, Bool.not_false, hcl', hcn, Nat.mul_one]); rfl))); (repeat (first | refine VC.seq ?_ | refine VC.block ?_ | refine VC.kill ?_ | refine VC.skip ?_ | refine VC.exit ?_ | refine VC.regA ?_ | refine VC.condT ?_ | refine VC.condF ?_)))
              refine ⟨_, (L' ++ [⟨g, e.g, s, e.d + 1⟩], k + 1), ?_, ⟨rfl, by simp only; omega, by rw [hLn, hLs]⟩, ?_⟩
              · simp only; omega
              · (apply Go.Ab.V.G.weak; constructor <;> simp (config := {decide := true}) only [PT.Le, inV, mkB, PT.set, VSt.kill, VSt.adopt, VSt.alloc, PT.filt, PT.map, List.map_cons, List.map_nil, noref, norefB, deadB, deadV, nos, nm, nmL, nmB, nmE, Pa.eqb, cond_true, cond_false, Bool.not_true, Bool.not_false, Bool.and_true, Bool.true_and, nmL_vi, flV_len, flP_len, flV_nm, flV_ok, flV_pv, flP_map, drop_flP, drop_flV, putC_flV, eqV2, eqV3, bneT, bneF, decide_true, decide_false, frzL_vi, frzL_flV, nmE_ag, nmE_at, frzE_ag, frzE_at, ofAg_len, ofAt_len, atL_vi, nmL_map_p, frzL_map_p, okL_p, toPVs_p, repsZ, nmL_reps, putC_vi, get_flV0, get_flV1, Int.toNat_zero, Int.toNat_one, Int.reduceToNat, eqV_slice, eqV_ptr, eqV_func, nilS, nilP, nilF, nmL_append, true_or, or_true, and_self, true_and, and_true, Option.some.injEq, reduceCtorEq, false_or, or_false, VV.p.injEq, PV.at.injEq, Value.int.injEq, sl1, vi, bl1, vb, nilV, slP, hcs, sl1P, List.length_append, List.length_cons, List.length_nil, hos, hcn])
                (all_goals first | rfl | omega | exact ⟨rfl, by omega⟩)
          · have h' : k = ss.length := by omega
            have hLe : L' = bf x f c (i + 1) := by rw [hL', hnext, h', List.take_of_length_le (by rw [hss]; simp)]
            subst hLe
            (repeat (first | refine VC.seq ?_ | refine VC.block ?_ | refine VC.kill ?_ | refine VC.skip ?_ | refine VC.exit ?_ | refine VC.regA ?_ | refine VC.condT ?_ | refine VC.condF ?_))
            refine ⟨_, i + 1, ?_, ⟨rfl, by omega⟩, ?_⟩
            · omega
            · (apply Go.Ab.V.G.weak; constructor <;> simp (config := {decide := true}) only [PT.Le, inV, mkB, PT.set, VSt.kill, VSt.adopt, VSt.alloc, PT.filt, PT.map, List.map_cons, List.map_nil, noref, norefB, deadB, deadV, nos, nm, nmL, nmB, nmE, Pa.eqb, cond_true, cond_false, Bool.not_true, Bool.not_false, Bool.and_true, Bool.true_and, nmL_vi, flV_len, flP_len, flV_nm, flV_ok, flV_pv, flP_map, drop_flP, drop_flV, putC_flV, eqV2, eqV3, bneT, bneF, decide_true, decide_false, frzL_vi, frzL_flV, nmE_ag, nmE_at, frzE_ag, frzE_at, ofAg_len, ofAt_len, atL_vi, nmL_map_p, frzL_map_p, okL_p, toPVs_p, repsZ, nmL_reps, putC_vi, get_flV0, get_flV1, Int.toNat_zero, Int.toNat_one, Int.reduceToNat, eqV_slice, eqV_ptr, eqV_func, nilS, nilP, nilF, nmL_append, true_or, or_true, and_self, true_and, and_true, Option.some.injEq, reduceCtorEq, false_or, or_false, VV.p.injEq, PV.at.injEq, Value.int.injEq, sl1, vi, bl1, vb, nilV])
              (all_goals first | rfl | omega | exact ⟨rfl, by omega⟩)
        · have h : i = N := by
            rcases Nat.lt_or_ge i N with h1 | h1
            · have := hj i h1; omega
            · omega
          subst h
          have hpv := cellsE_pv (bf x f c i)
          have hfz := fun a cs => cellsE_frz a cs (bf x f c i)
          (repeat (first | refine VC.seq ?_ | refine VC.block ?_ | refine VC.kill ?_ | refine VC.skip ?_ | refine VC.exit ?_ | refine VC.regA ?_ | refine VC.condT ?_ | refine VC.condF ?_))
          refine VC.ret (Fin.frzA p48 (hb := rfl) (hc := hpv) (Fin.frzA p33 (Fin.A ?_)))
          simp only [sl1, sl2, outL_len, List.length_map, hSS]; rfl
end Go.Ab.Jug

namespace Go.Ab.Jug
open Go.Ab.V
set_option maxRecDepth 100000
/-- A search ends, and finds or does not. -/
theorem search_ends {x f : List Int} {c : Bool} (hx : okJ x) (hf : fillB x f = true) (P : List Int → Bool) : ∃ M fb out, Srch x f c P M fb out := by
  obtain ⟨N, hN, hj⟩ := bf_end (c := c) hx hf
  have : ∀ n, n ≤ N → (∃ M, M < n ∧ (∀ j, j < M → ∃ e, (bf x f c j)[j]? = some e ∧ P e.g = false) ∧ ∃ e, (bf x f c M)[M]? = some e ∧ P e.g = true) ∨ ∀ j, j < n → ∃ e, (bf x f c j)[j]? = some e ∧ P e.g = false := by
    intro n
    induction n with
    | zero => exact fun _ => .inr fun j hj => absurd hj (Nat.not_lt_zero j)
    | succ n ih =>
      intro hn
      rcases ih (by omega) with ⟨M, h1, h2⟩ | h
      · exact .inl ⟨M, by omega, h2⟩
      · have hl := hj n (by omega)
        cases hP : P (bf x f c n)[n].g with
        | true => exact .inl ⟨n, by omega, h, _, List.getElem?_eq_getElem hl, hP⟩
        | false =>
          refine .inr fun j hj' => ?_
          rcases Nat.lt_or_ge j n with h1 | h1
          · exact h j h1
          · have : j = n := by omega
            subst this
            exact ⟨_, List.getElem?_eq_getElem hl, hP⟩
  rcases this N (Nat.le_refl N) with ⟨M, _, h1, e, h2, h3⟩ | h
  · exact ⟨M, true, e.g, h1, fun _ => ⟨e, h2, h3, rfl⟩, fun h => by cases h⟩
  · exact ⟨N, false, _, h, (fun h => by cases h), fun _ => ⟨hN, rfl⟩⟩
end Go.Ab.Jug

namespace Go.Ab.Jug
open Go.Ab.V
set_option maxRecDepth 100000
def idx (l : List Int) (v : Int) : Int := if v ∈ l then (l.findIdx fun y => decide (y = v) : Nat) else -1
theorem idx_hit {l : List Int} {v : Int} {i : Nat} (h : i < l.length) (hv : l[i] = v) (hn : ∀ k (hk : k < i), l[k]'(by omega) ≠ v) : idx l v = i := by
  unfold idx
  rw [if_pos (by rw [← hv]; exact List.getElem_mem h)]
  congr 1
  rw [List.findIdx_eq h]
  exact ⟨by simp [hv], fun j hj => by simp [hn j hj]⟩
theorem idx_pos (l : List Int) (v : Int) : decide (idx l v ≥ 0) = decide (v ∈ l) := by
  unfold idx
  by_cases h : v ∈ l
  · rw [if_pos h]; simp [h]
  · rw [if_neg h]; simp [h]
set_option maxHeartbeats 4000000 in
theorem Index_ok (l : List Int) (v : Int) (hl : l.length ≤ 1000000) : VCall cfg 73 [sl1 l, vi v] [] [] (vi (idx l v)) [] := by
  (refine VCall.mk (fn := a73) rfl rfl rfl ?_; simp only [a73, inV, mkB, nmsL, PT.set])
  (repeat (first | refine VC.seq ?_ | refine VC.block ?_ | refine VC.kill ?_ | refine VC.skip ?_ | refine VC.exit ?_ | refine VC.regA ?_ | refine VC.condT ?_ | refine VC.condF ?_))
  refine VC.loopG (fun (i : Nat) => ⟨inV [p0, p1, p7, p8] [sl1 l, vi v, vi l.length, vi i] .lf, .lf, [], none⟩) (fun n i => n = l.length - i ∧ i ≤ l.length ∧ ∀ k (hk : k < i) (hk' : k < l.length), l[k] ≠ v) (x := 0) ?_ ⟨rfl, by omega, fun k hk => absurd hk (Nat.not_lt_zero k)⟩ ?_
  · (apply Go.Ab.V.G.weak; constructor <;> simp (config := {decide := true}) only [PT.Le, inV, mkB, PT.set, VSt.kill, VSt.adopt, VSt.alloc, PT.filt, PT.map, List.map_cons, List.map_nil, noref, norefB, deadB, deadV, nos, nm, nmL, nmB, nmE, Pa.eqb, cond_true, cond_false, Bool.not_true, Bool.not_false, Bool.and_true, Bool.true_and, nmL_vi, flV_len, flP_len, flV_nm, flV_ok, flV_pv, flP_map, drop_flP, drop_flV, putC_flV, eqV2, eqV3, bneT, bneF, decide_true, decide_false, frzL_vi, frzL_flV, nmE_ag, nmE_at, frzE_ag, frzE_at, ofAg_len, ofAt_len, atL_vi, nmL_map_p, frzL_map_p, okL_p, toPVs_p, repsZ, nmL_reps, putC_vi, get_flV0, get_flV1, Int.toNat_zero, Int.toNat_one, Int.reduceToNat, eqV_slice, eqV_ptr, eqV_func, nilS, nilP, nilF, nmL_append, true_or, or_true, and_self, true_and, and_true, Option.some.injEq, reduceCtorEq, false_or, or_false, VV.p.injEq, PV.at.injEq, Value.int.injEq, sl1, vi, bl1, vb, nilV, sl1])
    (all_goals first | rfl | omega | exact ⟨rfl, by omega⟩)
  rintro n i ⟨hn, hi, ho⟩
  simp only [inV, PT.set]
  (repeat (first | refine VC.seq ?_ | refine VC.block ?_ | refine VC.kill ?_ | refine VC.skip ?_ | refine VC.exit ?_ | refine VC.regA ?_ | refine VC.condT ?_ | refine VC.condF ?_))
  refine VC.condA ?_ ?_ <;> intro h <;> (simp only [decide_eq_true_eq, decide_eq_false_iff_not, bne_iff_ne, ne_eq, bne_eq_false_iff_eq, beq_iff_eq, beq_eq_false_iff_ne, Bool.not_eq_true', Bool.not_eq_false', Bool.and_eq_true, Bool.or_eq_true, Int.natCast_inj] at h)
  · have h : i < l.length := by omega
    (repeat (first | refine VC.seq ?_ | refine VC.block ?_ | refine VC.kill ?_ | refine VC.skip ?_ | refine VC.exit ?_ | refine VC.regA ?_ | refine VC.condT ?_ | refine VC.condF ?_))
    refine VC.condA ?_ ?_ <;> intro h' <;> (simp only [decide_eq_true_eq, decide_eq_false_iff_not, bne_iff_ne, ne_eq, bne_eq_false_iff_eq, beq_iff_eq, beq_eq_false_iff_ne, Bool.not_eq_true', Bool.not_eq_false', Bool.and_eq_true, Bool.or_eq_true, Int.natCast_inj] at h')
    · (repeat (first | refine VC.seq ?_ | refine VC.block ?_ | refine VC.kill ?_ | refine VC.skip ?_ | refine VC.exit ?_ | refine VC.regA ?_ | refine VC.condT ?_ | refine VC.condF ?_))
      rw [idx_hit h h'.symm (fun k hk => ho k hk (by omega))]
      exact VC.ret (Fin.A rfl)
    · (repeat (first | refine VC.seq ?_ | refine VC.block ?_ | refine VC.kill ?_ | refine VC.skip ?_ | refine VC.exit ?_ | refine VC.regA ?_ | refine VC.condT ?_ | refine VC.condF ?_))
      refine ⟨_, i + 1, ?_, ⟨rfl, by omega, fun k hk hk' => ?_⟩, ?_⟩
      · omega
      · rcases Nat.lt_or_ge k i with h1 | h1
        · exact ho k h1 hk'
        · have : k = i := by omega
          subst this; exact fun h => h' h.symm
      · (apply Go.Ab.V.G.weak; constructor <;> simp (config := {decide := true}) only [PT.Le, inV, mkB, PT.set, VSt.kill, VSt.adopt, VSt.alloc, PT.filt, PT.map, List.map_cons, List.map_nil, noref, norefB, deadB, deadV, nos, nm, nmL, nmB, nmE, Pa.eqb, cond_true, cond_false, Bool.not_true, Bool.not_false, Bool.and_true, Bool.true_and, nmL_vi, flV_len, flP_len, flV_nm, flV_ok, flV_pv, flP_map, drop_flP, drop_flV, putC_flV, eqV2, eqV3, bneT, bneF, decide_true, decide_false, frzL_vi, frzL_flV, nmE_ag, nmE_at, frzE_ag, frzE_at, ofAg_len, ofAt_len, atL_vi, nmL_map_p, frzL_map_p, okL_p, toPVs_p, repsZ, nmL_reps, putC_vi, get_flV0, get_flV1, Int.toNat_zero, Int.toNat_one, Int.reduceToNat, eqV_slice, eqV_ptr, eqV_func, nilS, nilP, nilF, nmL_append, true_or, or_true, and_self, true_and, and_true, Option.some.injEq, reduceCtorEq, false_or, or_false, VV.p.injEq, PV.at.injEq, Value.int.injEq, sl1, vi, bl1, vb, nilV, sl1])
        (all_goals first | rfl | omega | exact ⟨rfl, by omega⟩)
  · have h : i = l.length := by omega
    have : idx l v = -1 := by
      unfold idx
      rw [if_neg]
      intro hm
      obtain ⟨k, hk, e⟩ := List.mem_iff_getElem.1 hm
      exact ho k (by omega) hk e
    rw [this]
    (repeat (first | refine VC.seq ?_ | refine VC.block ?_ | refine VC.kill ?_ | refine VC.skip ?_ | refine VC.exit ?_ | refine VC.regA ?_ | refine VC.condT ?_ | refine VC.condF ?_))
    exact VC.ret (Fin.A rfl)
set_option maxHeartbeats 4000000 in
theorem Contains_ok (l : List Int) (v : Int) (hl : l.length ≤ 1000000) : VCall cfg 70 [sl1 l, vi v] [] [] (vb (decide (v ∈ l))) [] := by
  have k := Index_ok l v hl
  rw [← idx_pos]
  (refine VCall.mk (fn := a70) rfl rfl rfl ?_; simp only [a70, inV, mkB, nmsL, PT.set])
  (repeat (first | refine VC.seq ?_ | refine VC.block ?_ | refine VC.kill ?_ | refine VC.skip ?_ | refine VC.exit ?_ | refine VC.regA ?_ | refine VC.condT ?_ | refine VC.condF ?_))
  (refine VC.regCA ?_; refine VO.moreA ?_; refine VO.call0A (no_orc _ (by decide)) k ?_; refine VO.endA ?_; (repeat (first | refine VC.seq ?_ | refine VC.block ?_ | refine VC.kill ?_ | refine VC.skip ?_ | refine VC.exit ?_ | refine VC.regA ?_ | refine VC.condT ?_ | refine VC.condF ?_)))
  exact VC.ret (Fin.A rfl)
set_option maxHeartbeats 4000000 in
theorem HasM_ok (l : List Int) (v : Int) (hl : l.length ≤ 1000000) : VCall cfg 36 [sl1 l, vi v] [] [] (vb (decide (v ∈ l))) [] := by
  (refine VCall.mk (fn := a36) rfl rfl rfl ?_; simp only [a36, inV, mkB, nmsL, PT.set])
  (repeat (first | refine VC.seq ?_ | refine VC.block ?_ | refine VC.kill ?_ | refine VC.skip ?_ | refine VC.exit ?_ | refine VC.regA ?_ | refine VC.condT ?_ | refine VC.condF ?_))
  refine VC.loopG (fun (i : Nat) => ⟨inV [p0, p1, p5] [sl1 l, vi v, vi i] .lf, .lf, [], none⟩) (fun n i => n = l.length - i ∧ i ≤ l.length ∧ ∀ k (hk : k < i) (hk' : k < l.length), l[k] ≠ v) (x := 0) ?_ ⟨rfl, by omega, fun k hk => absurd hk (Nat.not_lt_zero k)⟩ ?_
  · (apply Go.Ab.V.G.weak; constructor <;> simp (config := {decide := true}) only [PT.Le, inV, mkB, PT.set, VSt.kill, VSt.adopt, VSt.alloc, PT.filt, PT.map, List.map_cons, List.map_nil, noref, norefB, deadB, deadV, nos, nm, nmL, nmB, nmE, Pa.eqb, cond_true, cond_false, Bool.not_true, Bool.not_false, Bool.and_true, Bool.true_and, nmL_vi, flV_len, flP_len, flV_nm, flV_ok, flV_pv, flP_map, drop_flP, drop_flV, putC_flV, eqV2, eqV3, bneT, bneF, decide_true, decide_false, frzL_vi, frzL_flV, nmE_ag, nmE_at, frzE_ag, frzE_at, ofAg_len, ofAt_len, atL_vi, nmL_map_p, frzL_map_p, okL_p, toPVs_p, repsZ, nmL_reps, putC_vi, get_flV0, get_flV1, Int.toNat_zero, Int.toNat_one, Int.reduceToNat, eqV_slice, eqV_ptr, eqV_func, nilS, nilP, nilF, nmL_append, true_or, or_true, and_self, true_and, and_true, Option.some.injEq, reduceCtorEq, false_or, or_false, VV.p.injEq, PV.at.injEq, Value.int.injEq, sl1, vi, bl1, vb, nilV, sl1])
    (all_goals first | rfl | omega | exact ⟨rfl, by omega⟩)
  rintro n i ⟨hn, hi, ho⟩
  simp only [inV, PT.set]
  (repeat (first | refine VC.seq ?_ | refine VC.block ?_ | refine VC.kill ?_ | refine VC.skip ?_ | refine VC.exit ?_ | refine VC.regA ?_ | refine VC.condT ?_ | refine VC.condF ?_))
  refine VC.condA ?_ ?_ <;> intro h <;> (simp only [decide_eq_true_eq, decide_eq_false_iff_not, bne_iff_ne, ne_eq, bne_eq_false_iff_eq, beq_iff_eq, beq_eq_false_iff_ne, Bool.not_eq_true', Bool.not_eq_false', Bool.and_eq_true, Bool.or_eq_true, Int.natCast_inj] at h)
  · have h : i < l.length := by omega
    (repeat (first | refine VC.seq ?_ | refine VC.block ?_ | refine VC.kill ?_ | refine VC.skip ?_ | refine VC.exit ?_ | refine VC.regA ?_ | refine VC.condT ?_ | refine VC.condF ?_))
    refine VC.condA ?_ ?_ <;> intro h' <;> (simp only [decide_eq_true_eq, decide_eq_false_iff_not, bne_iff_ne, ne_eq, bne_eq_false_iff_eq, beq_iff_eq, beq_eq_false_iff_ne, Bool.not_eq_true', Bool.not_eq_false', Bool.and_eq_true, Bool.or_eq_true, Int.natCast_inj] at h')
    · (repeat (first | refine VC.seq ?_ | refine VC.block ?_ | refine VC.kill ?_ | refine VC.skip ?_ | refine VC.exit ?_ | refine VC.regA ?_ | refine VC.condT ?_ | refine VC.condF ?_))
      rw [decide_eq_true (show v ∈ l from by rw [← h']; exact List.getElem_mem h)]
      exact VC.ret (Fin.A rfl)
    · (repeat (first | refine VC.seq ?_ | refine VC.block ?_ | refine VC.kill ?_ | refine VC.skip ?_ | refine VC.exit ?_ | refine VC.regA ?_ | refine VC.condT ?_ | refine VC.condF ?_))
      refine ⟨_, i + 1, ?_, ⟨rfl, by omega, fun k hk hk' => ?_⟩, ?_⟩
      · omega
      · rcases Nat.lt_or_ge k i with h1 | h1
        · exact ho k h1 hk'
        · have : k = i := by omega
          subst this; exact h'
      · (apply Go.Ab.V.G.weak; constructor <;> simp (config := {decide := true}) only [PT.Le, inV, mkB, PT.set, VSt.kill, VSt.adopt, VSt.alloc, PT.filt, PT.map, List.map_cons, List.map_nil, noref, norefB, deadB, deadV, nos, nm, nmL, nmB, nmE, Pa.eqb, cond_true, cond_false, Bool.not_true, Bool.not_false, Bool.and_true, Bool.true_and, nmL_vi, flV_len, flP_len, flV_nm, flV_ok, flV_pv, flP_map, drop_flP, drop_flV, putC_flV, eqV2, eqV3, bneT, bneF, decide_true, decide_false, frzL_vi, frzL_flV, nmE_ag, nmE_at, frzE_ag, frzE_at, ofAg_len, ofAt_len, atL_vi, nmL_map_p, frzL_map_p, okL_p, toPVs_p, repsZ, nmL_reps, putC_vi, get_flV0, get_flV1, Int.toNat_zero, Int.toNat_one, Int.reduceToNat, eqV_slice, eqV_ptr, eqV_func, nilS, nilP, nilF, nmL_append, true_or, or_true, and_self, true_and, and_true, Option.some.injEq, reduceCtorEq, false_or, or_false, VV.p.injEq, PV.at.injEq, Value.int.injEq, sl1, vi, bl1, vb, nilV, sl1])
        (all_goals first | rfl | omega | exact ⟨rfl, by omega⟩)
  · have h : i = l.length := by omega
    have : decide (v ∈ l) = false := decide_eq_false fun hm => by
      obtain ⟨k, hk, e⟩ := List.mem_iff_getElem.1 hm
      exact ho k (by omega) hk e
    rw [this]
    (repeat (first | refine VC.seq ?_ | refine VC.block ?_ | refine VC.kill ?_ | refine VC.skip ?_ | refine VC.exit ?_ | refine VC.regA ?_ | refine VC.condT ?_ | refine VC.condF ?_))
    exact VC.ret (Fin.A rfl)
set_option maxHeartbeats 4000000 in
theorem m1_ok (x g : List Int) (v : Int) (c : Bool) (hx : okJ x) (hg : fillB x g = true) : VCall cfg 69 [.agg ((pad4 g).map vi), .p (.fp 0 [.fp 0 (jugC x c)]), .p (.fp 0 [pi v])] [] [] (vb (decide (v ∈ g))) [] := by
  have hlg : g.length = x.length := ((fillB_iff x g).1 hg).1
  have hx4 : x.length ≤ 4 := hx.2.1
  have hP1 := pad4_len g (by omega)
  have hble : Nat.ble x.length 4 = true := by rw [Nat.ble_eq]; exact hx.2.1
  have htk : List.take x.length ((pad4 g).map pi) = g.map pi := by rw [← List.map_take, pad4, List.take_append_of_le_length (by omega), ← hlg, List.take_length]
  have k3 := Contains_ok g v (by omega)
  (refine VCall.mk (fn := a69) rfl rfl rfl ?_; simp only [a69, inV, mkB, nmsL, PT.set])
  (repeat (first | refine VC.seq ?_ | refine VC.block ?_ | refine VC.kill ?_ | refine VC.skip ?_ | refine VC.exit ?_ | refine VC.regA ?_ | refine VC.condT ?_ | refine VC.condF ?_))
  apply VC.regC
  · (simp (config := {decide := false, maxSteps := 1000000}) (disch := omega) only [vev_call, putC_c0, putC_n0, putC_cs, ble0, List.getElem?_cons_zero, List.getElem?_cons_succ, runU, isCall, wantV, vev, evV, ofVal, ofAtom, atomB, cond_true, cond_false, PT.get, PT.set, PT.filt, PT.map, Option.getD_some, Option.getD_none, ret1V, ret1X, v_ld, v_ias, v_iad, v_fad, v_slsl, v_slarr, v_st, v_app, v_cpy, v_len, v_look, v_mset, elsV, partV, newV, free, atV, atI, atL, toVal, cellsV, okV, VSt.put, VSt.kill, VSt.alloc, VSt.frz, VSt.adopt, noref, norefB, deadB, deadV, nos, nm, nmL, nmB, nmE, Pa.eqb, Bool.not_false, Bool.not_true, Bool.and_true, Bool.true_and, Bool.false_and, Bool.and_false, bin, intOps, intBin, cvt, un, goInt, bndsV, bndV, Option.map_some, Option.map_none, List.map_cons, List.map_nil, Int.toNat_natCast, Nat.mul_one, Nat.zero_add, beq_true, beq_false, beq_self_eq_true, List.length_map, List.length_cons, List.length_nil, List.length_append, fillV, pEvV, repsV, List.append_nil, List.nil_append, if_pos, if_neg, reduceIte, List.getElem?_map, List.getElem?_drop, Nat.add_zero, List.getElem?_eq_getElem, Go.IntWalk.i64_in, wrap_u64, tmod_pos, eq_self, true_and, and_true, and_self, List.all_cons, List.all_nil, nmL_vi, flV_len, flP_len, flV_nm, flV_ok, flV_pv, flP_map, drop_flP, drop_flV, putC_flV, eqV2, eqV3, bneT, bneF, decide_true, decide_false, frzL_vi, frzL_flV, nmE_ag, nmE_at, frzE_ag, frzE_at, ofAg_len, ofAt_len, atL_vi, nmL_map_p, frzL_map_p, okL_p, toPVs_p, repsZ, nmL_reps, putC_vi, get_flV0, get_flV1, Int.toNat_zero, Int.toNat_one, Int.reduceToNat, eqV_slice, eqV_ptr, eqV_func, nilS, nilP, nilF, nmL_append, okL_vi, toPVs_vi, toPVs, toPV, frzV, frzL, frzB, resVV, vi, vb, nilV, sl1, bl1, pi, foldV, max2, min2, max_eq, min_eq, Int.tdiv_eq_ediv_of_nonneg, Int.cast_ofNat_Int, Option.isSome_none, Option.isSome_some, Option.isNone_none, Option.isNone_some, and_false, false_and, sl2, sl1P, slP, min_cast, take_map_pi, map_pi, Nat.sub_zero, Nat.zero_mul, List.length_take, decide_eq_true, decide_eq_false, Bool.true_eq_false, Bool.false_eq_true, beqT, beqF, ibeq, ibne, List.take_zero, List.take_succ_cons, List.drop_zero, List.drop_succ_cons, List.drop_nil, List.take_nil, List.cons_append, Bool.not_true, Bool.not_false, jugC])
    rfl
  refine VO.frzA p3 (hb := rfl) (hc := toPVs_vi (pad4 g)) ?_
  refine VO.call0A (no_orc 70 (by decide)) k3 ?_ (hl := ?_)
  rotate_left
  · (simp (config := {decide := false, maxSteps := 1000000}) (disch := omega) only [vev_call, putC_c0, putC_n0, putC_cs, ble0, List.getElem?_cons_zero, List.getElem?_cons_succ, runU, isCall, wantV, vev, evV, ofVal, ofAtom, atomB, cond_true, cond_false, PT.get, PT.set, PT.filt, PT.map, Option.getD_some, Option.getD_none, ret1V, ret1X, v_ld, v_ias, v_iad, v_fad, v_slsl, v_slarr, v_st, v_app, v_cpy, v_len, v_look, v_mset, elsV, partV, newV, free, atV, atI, atL, toVal, cellsV, okV, VSt.put, VSt.kill, VSt.alloc, VSt.frz, VSt.adopt, noref, norefB, deadB, deadV, nos, nm, nmL, nmB, nmE, Pa.eqb, Bool.not_false, Bool.not_true, Bool.and_true, Bool.true_and, Bool.false_and, Bool.and_false, bin, intOps, intBin, cvt, un, goInt, bndsV, bndV, Option.map_some, Option.map_none, List.map_cons, List.map_nil, Int.toNat_natCast, Nat.mul_one, Nat.zero_add, beq_true, beq_false, beq_self_eq_true, List.length_map, List.length_cons, List.length_nil, List.length_append, fillV, pEvV, repsV, List.append_nil, List.nil_append, if_pos, if_neg, reduceIte, List.getElem?_map, List.getElem?_drop, Nat.add_zero, List.getElem?_eq_getElem, Go.IntWalk.i64_in, wrap_u64, tmod_pos, eq_self, true_and, and_true, and_self, List.all_cons, List.all_nil, nmL_vi, flV_len, flP_len, flV_nm, flV_ok, flV_pv, flP_map, drop_flP, drop_flV, putC_flV, eqV2, eqV3, bneT, bneF, decide_true, decide_false, frzL_vi, frzL_flV, nmE_ag, nmE_at, frzE_ag, frzE_at, ofAg_len, ofAt_len, atL_vi, nmL_map_p, frzL_map_p, okL_p, toPVs_p, repsZ, nmL_reps, putC_vi, get_flV0, get_flV1, Int.toNat_zero, Int.toNat_one, Int.reduceToNat, eqV_slice, eqV_ptr, eqV_func, nilS, nilP, nilF, nmL_append, okL_vi, toPVs_vi, toPVs, toPV, frzV, frzL, frzB, resVV, vi, vb, nilV, sl1, bl1, pi, foldV, max2, min2, max_eq, min_eq, Int.tdiv_eq_ediv_of_nonneg, Int.cast_ofNat_Int, Option.isSome_none, Option.isSome_some, Option.isNone_none, Option.isNone_some, and_false, false_and, sl2, sl1P, slP, min_cast, take_map_pi, map_pi, Nat.sub_zero, Nat.zero_mul, List.length_take, decide_eq_true, decide_eq_false, Bool.true_eq_false, Bool.false_eq_true, beqT, beqF, ibeq, ibne, List.take_zero, List.take_succ_cons, List.drop_zero, List.drop_succ_cons, List.drop_nil, List.take_nil, List.cons_append, Bool.not_true, Bool.not_false, hP1, hble, htk, hlg])
  refine VO.endA ?_
  (repeat (first | refine VC.seq ?_ | refine VC.block ?_ | refine VC.kill ?_ | refine VC.skip ?_ | refine VC.exit ?_ | refine VC.regA ?_ | refine VC.condT ?_ | refine VC.condF ?_))
  exact VC.ret (Fin.A rfl)
end Go.Ab.Jug

namespace Go.Ab.Jug
set_option maxRecDepth 1000000
theorem awake_runs : (match run true cfg0 400 (.call 20 [] ⟨fun _ => none, .lf, 0, 0⟩) with
  | some (_, .nd (.bool true) _ _, _) => true
  | _ => false) = true := by decide +kernel
theorem awake_closed : ClosedAns cfg0 20 (.bool true) := by
  have h := awake_runs
  split at h
  · rename_i e l r h' he; exact ⟨400, e, l, r, h', he⟩
  · cases h
end Go.Ab.Jug

namespace Go.Ab.Jug
open Go.Ab.V
set_option maxRecDepth 100000
theorem tameJ_ok (l : List Int) (m : Nat) (hm : 1 ≤ m ∧ m ≤ 4) : okJ (tameJ l m) := by
  unfold tameJ
  split
  · rw [okJ_iff]; simp
  · rw [okJ_iff]
    refine ⟨fun x hx => ?_, ?_, ?_⟩
    · obtain ⟨y, _, rfl⟩ := List.mem_map.1 hx
      exact red12_bd y
    · rw [List.length_map]; omega
    · rw [List.length_map, List.length_take]; omega
end Go.Ab.Jug

/- Regions in which a read may come before or behind a call. -/
namespace Go.Ab.V
section
variable {C : Cfg}
end
end Go.Ab.V

namespace Go.Ab.Jug
open Go.Ab.V
set_option maxRecDepth 100000
theorem eqVb (a b : Bool) : eqV .bool (.p (.at (.bool a))) (.p (.at (.bool b))) = some (a == b) := rfl
end Go.Ab.Jug

namespace Go.Ab.Jug
open Go.Ab.V
set_option maxRecDepth 100000
theorem vr_nil {rd : Addr → List Value → Prop} {ids : Pa → Option Nat} {v : Value} (u : Nat) (h : Vr rd ids v nilV) : Vr rd ids v (.p (.sl u 0 [])) := by
  cases h with
  | p r => cases r with
    | «at» _ => exact .p .nil
theorem open_nil (x : List Int) (c : Bool) (hx : okJ x) : VCall cfg 46 [sl1 x, vb c, nilV] [] [] (.tup [jugP x c, vi 0]) [] := by
  have k := open_ok x hx c [] (by simp) (by simp)
  exact fun h ids F vals t r => match vals, r with
    | [_, _, _], r => k h ids F _ t (.cons r.head (.cons r.tail.head (.cons (vr_nil 1 r.tail.tail.head) .nil)))
    | [], r => absurd r.1 (by simp)
    | [_], r => absurd r.1 (by simp)
    | [_, _], r => absurd r.1 (by simp)
    | _ :: _ :: _ :: _ :: _, r => absurd r.1 (by simp)
def zeroJ (x : List Int) : List Int := List.replicate x.length 0
theorem zeroJ_fill {x : List Int} (hx : okJ x) : fillB x (zeroJ x) = true := by
  rw [fillB_iff]
  refine ⟨by simp [zeroJ], fun i h h' => ?_⟩
  have := okJ_mem hx _ (List.getElem_mem h')
  simp only [zeroJ, List.getElem_replicate]; omega
set_option maxHeartbeats 4000000 in
theorem measured_ok (x : List Int) (v : Int) (hx : okJ x) (hv : 0 ≤ v ∧ v ≤ 12) (M : Nat) (fb : Bool) (out : List Int) (hS : Srch x (zeroJ x) false (fun g => decide (v ∈ g)) M fb out) :
    VCall cfg 59 [sl1 x, vi v] [] [] (.tup [slP (wayOf x (zeroJ x) false M fb), vb fb, vi 0]) [] := by
  have hx4 : x.length ≤ 4 := hx.2.1
  have ho := open_nil x false hx
  have k3 := way_ok x (zeroJ x) false hx (zeroJ_fill hx) 69 (by decide) [.fp 0 [.fp 0 (jugC x false)], .fp 0 [pi v]] (fun g => decide (v ∈ g)) (fun g hg => m1_ok x g v false hx hg) M fb out hS
  have hz : pad4 (zeroJ x) = [0, 0, 0, 0] := pad4_zero _ hx4
  unfold jugP at ho k3
  rw [hz] at k3
  simp only [List.map_cons, List.map_nil] at k3
  (refine VCall.mk (fn := a59) rfl rfl rfl ?_; simp only [a59, inV, mkB, nmsL, PT.set])
  (repeat (first | refine VC.seq ?_ | refine VC.block ?_ | refine VC.kill ?_ | refine VC.skip ?_ | refine VC.exit ?_ | refine VC.regA ?_ | refine VC.condT ?_ | refine VC.condF ?_))
  (refine VC.regCA ?_; refine VO.moreA ?_; refine VO.call0A (no_orc _ (by decide)) ho ?_; refine VO.endA ?_; (repeat (first | refine VC.seq ?_ | refine VC.block ?_ | refine VC.kill ?_ | refine VC.skip ?_ | refine VC.exit ?_ | refine VC.regA ?_ | refine VC.condT ?_ | refine VC.condF ?_)))
  refine VC.regCA ?_
  refine VO.moreA ?_
  refine VO.frzA p7 ?_
  refine VO.frzA p3 ?_
  refine VO.call0A (no_orc 51 (by decide)) k3 ?_
  refine VO.endA ?_
  (repeat (first | refine VC.seq ?_ | refine VC.block ?_ | refine VC.kill ?_ | refine VC.skip ?_ | refine VC.exit ?_ | refine VC.regA ?_ | refine VC.condT ?_ | refine VC.condF ?_))
  exact VC.ret (Fin.A rfl)
set_option maxHeartbeats 4000000 in
theorem measured_arg (x : List Int) (v : Int) (hx : okJ x) (hv : v < 0 ∨ 12 < v) : VCall cfg 59 [sl1 x, vi v] [] [] (.tup [nilV, vb false, vi 1]) [] := by
  have ho := open_nil x false hx
  unfold jugP at ho
  by_cases h : v < 0
  · (refine VCall.mk (fn := a59) rfl rfl rfl ?_; simp only [a59, inV, mkB, nmsL, PT.set])
    (repeat (first | refine VC.seq ?_ | refine VC.block ?_ | refine VC.kill ?_ | refine VC.skip ?_ | refine VC.exit ?_ | refine VC.regA ?_ | refine VC.condT ?_ | refine VC.condF ?_))
    (refine VC.regCA ?_; refine VO.moreA ?_; refine VO.call0A (no_orc _ (by decide)) ho ?_; refine VO.endA ?_; (repeat (first | refine VC.seq ?_ | refine VC.block ?_ | refine VC.kill ?_ | refine VC.skip ?_ | refine VC.exit ?_ | refine VC.regA ?_ | refine VC.condT ?_ | refine VC.condF ?_)))
    exact VC.ret (Fin.A rfl)
  · have h' : v > 12 := by omega
    clear hv
    (refine VCall.mk (fn := a59) rfl rfl rfl ?_; simp only [a59, inV, mkB, nmsL, PT.set])
    (repeat (first | refine VC.seq ?_ | refine VC.block ?_ | refine VC.kill ?_ | refine VC.skip ?_ | refine VC.exit ?_ | refine VC.regA ?_ | refine VC.condT ?_ | refine VC.condF ?_))
    (refine VC.regCA ?_; refine VO.moreA ?_; refine VO.call0A (no_orc _ (by decide)) ho ?_; refine VO.endA ?_; (repeat (first | refine VC.seq ?_ | refine VC.block ?_ | refine VC.kill ?_ | refine VC.skip ?_ | refine VC.exit ?_ | refine VC.regA ?_ | refine VC.condT ?_ | refine VC.condF ?_)))
    exact VC.ret (Fin.A rfl)
theorem Measure_ok (x : List Int) (v : Int) (y : VV) (b : Bool) (e : Int) (k : VCall cfg 59 [sl1 x, vi v] [] [] (.tup [y, vb b, vi e]) []) (hy : (∃ l, y = slP l) ∨ y = nilV) : VCall cfg 34 [sl1 x, vi v] [] [] (.tup [y, vb b, vi e]) [] := by
  rcases hy with ⟨l, rfl⟩ | rfl
  all_goals
    (refine VCall.mk (fn := a34) rfl rfl rfl ?_; simp only [a34, inV, mkB, nmsL, PT.set])
    (repeat (first | refine VC.seq ?_ | refine VC.block ?_ | refine VC.kill ?_ | refine VC.skip ?_ | refine VC.exit ?_ | refine VC.regA ?_ | refine VC.condT ?_ | refine VC.condF ?_))
    (refine VC.regCA ?_; refine VO.moreA ?_; refine VO.call0A (no_orc _ (by decide)) k ?_; refine VO.endA ?_; (repeat (first | refine VC.seq ?_ | refine VC.block ?_ | refine VC.kill ?_ | refine VC.skip ?_ | refine VC.exit ?_ | refine VC.regA ?_ | refine VC.condT ?_ | refine VC.condF ?_)))
    exact VC.ret (Fin.A rfl)
theorem Fewest_ok (x : List Int) (v : Int) (l : List (Int × Int)) (b : Bool) (e : Int) (k : VCall cfg 59 [sl1 x, vi v] [] [] (.tup [slP l, vb b, vi e]) []) : VCall cfg 31 [sl1 x, vi v] [] [] (.tup [vi l.length, vb b, vi e]) [] := by
  (refine VCall.mk (fn := a31) rfl rfl rfl ?_; simp only [a31, inV, mkB, nmsL, PT.set])
  (repeat (first | refine VC.seq ?_ | refine VC.block ?_ | refine VC.kill ?_ | refine VC.skip ?_ | refine VC.exit ?_ | refine VC.regA ?_ | refine VC.condT ?_ | refine VC.condF ?_))
  (refine VC.regCA ?_; refine VO.moreA ?_; refine VO.call0A (no_orc _ (by decide)) k ?_; refine VO.endA ?_; (repeat (first | refine VC.seq ?_ | refine VC.block ?_ | refine VC.kill ?_ | refine VC.skip ?_ | refine VC.exit ?_ | refine VC.regA ?_ | refine VC.condT ?_ | refine VC.condF ?_)))
  exact VC.ret (Fin.A rfl)
theorem Fewest_arg (x : List Int) (v : Int) (b : Bool) (e : Int) (k : VCall cfg 59 [sl1 x, vi v] [] [] (.tup [nilV, vb b, vi e]) []) : VCall cfg 31 [sl1 x, vi v] [] [] (.tup [vi 0, vb b, vi e]) [] := by
  (refine VCall.mk (fn := a31) rfl rfl rfl ?_; simp only [a31, inV, mkB, nmsL, PT.set])
  (repeat (first | refine VC.seq ?_ | refine VC.block ?_ | refine VC.kill ?_ | refine VC.skip ?_ | refine VC.exit ?_ | refine VC.regA ?_ | refine VC.condT ?_ | refine VC.condF ?_))
  (refine VC.regCA ?_; refine VO.moreA ?_; refine VO.call0A (no_orc _ (by decide)) k ?_; refine VO.endA ?_; (repeat (first | refine VC.seq ?_ | refine VC.block ?_ | refine VC.kill ?_ | refine VC.skip ?_ | refine VC.exit ?_ | refine VC.regA ?_ | refine VC.condT ?_ | refine VC.condF ?_)))
  exact VC.ret (Fin.A rfl)
end Go.Ab.Jug

namespace Go.Ab.Jug
open Go.Ab.V
set_option maxRecDepth 100000
/-- Amounts with their numbers of steps, first ones first. -/
def fE (P : List (Int × Int)) (v : Int) : Int := match P.find? fun p => decide (p.1 = v) with
  | some p => p.2
  | none => -1
def few13 (P : List (Int × Int)) : List Int := (List.range 13).map fun (i : Nat) => fE P i
def prs (g : List Int) (d : Int) : List (Int × Int) := g.map fun v => (v, d)
def amtP (L : List En) : List (Int × Int) := L.flatMap fun e => prs e.g e.d
theorem few13_len (P : List (Int × Int)) : (few13 P).length = 13 := by simp [few13]
theorem few13_get (P : List (Int × Int)) (i : Nat) (h : i < (few13 P).length) : (few13 P)[i] = fE P i := by simp [few13]
theorem fE_snoc (P : List (Int × Int)) (q : Int × Int) (v : Int) : fE (P ++ [q]) v = if (P.find? fun p => decide (p.1 = v)).isSome = true then fE P v else if q.1 = v then q.2 else -1 := by
  unfold fE
  rw [List.find?_append]
  cases P.find? fun p => decide (p.1 = v) with
  | some p => rfl
  | none =>
    simp only [Option.none_or, List.find?_cons, List.find?_nil]
    by_cases h : q.1 = v
    · simp [h]
    · simp [h]
theorem fE_neg {P : List (Int × Int)} (hP : ∀ p ∈ P, 0 ≤ p.2) (v : Int) : fE P v < 0 ↔ (P.find? fun p => decide (p.1 = v)).isSome = false := by
  unfold fE
  cases h : P.find? fun p => decide (p.1 = v) with
  | some p => have := hP p (List.mem_of_find?_eq_some h); simp; omega
  | none => simp
theorem few13_snoc {P : List (Int × Int)} (hP : ∀ p ∈ P, 0 ≤ p.2) (v : Nat) (d : Int) (h : v < (few13 P).length) : few13 (P ++ [((v : Int), d)]) = if (few13 P)[v] < 0 then (few13 P).set v d else few13 P := by
  rw [few13_get]
  split
  · rename_i h0
    have h1 := (fE_neg hP v).1 h0
    refine List.ext_getElem (by rw [List.length_set, few13_len, few13_len]) fun i h2 h3 => ?_
    rw [List.getElem_set, few13_get, few13_get, fE_snoc]
    by_cases e : v = i
    · subst e
      rw [if_pos rfl, h1]; simp
    · rw [if_neg e]
      simp only [Int.natCast_inj, if_neg e]
      split
      · rfl
      · rename_i h4
        unfold fE
        cases h5 : P.find? fun p => decide (p.1 = (i : Int)) with
        | some p => rw [h5] at h4; simp at h4
        | none => rfl
  · rename_i h0
    refine List.ext_getElem (by rw [few13_len, few13_len]) fun i h2 h3 => ?_
    rw [few13_get, few13_get, fE_snoc]
    by_cases e : v = i
    · subst e
      rw [if_pos]
      have := (fE_neg hP v)
      cases h5 : (P.find? fun p => decide (p.1 = (v : Int))).isSome with
      | true => rfl
      | false => exact absurd (this.2 h5) h0
    · simp only [Int.natCast_inj, if_neg e]
      split
      · rfl
      · rename_i h4
        unfold fE
        cases h5 : P.find? fun p => decide (p.1 = (i : Int)) with
        | some p => rw [h5] at h4; simp at h4
        | none => rfl
theorem prs_take (g : List Int) (d : Int) (k : Nat) (h : k < g.length) : prs (g.take (k + 1)) d = prs (g.take k) d ++ [(g[k], d)] := by
  unfold prs; rw [List.take_add_one, List.getElem?_eq_getElem h, List.map_append]; rfl
theorem amtP_take (L : List En) (k : Nat) (h : k < L.length) : amtP (L.take (k + 1)) = amtP (L.take k) ++ prs L[k].g L[k].d := by
  unfold amtP; rw [List.take_add_one, List.getElem?_eq_getElem h, List.flatMap_append]; simp
theorem amtP_pos (L : List En) : ∀ p ∈ amtP L, 0 ≤ p.2 := by
  intro p hp
  simp only [amtP, prs, List.mem_flatMap, List.mem_map] at hp
  obtain ⟨e, _, v, _, rfl⟩ := hp
  simp
theorem prs_pos (g : List Int) (d : Nat) : ∀ p ∈ prs g d, 0 ≤ p.2 := by
  intro p hp
  simp only [prs, List.mem_map] at hp
  obtain ⟨v, _, rfl⟩ := hp
  simp
set_option maxHeartbeats 8000000 in
theorem FewestR_ok (x : List Int) (hx : okJ x) (N : Nat) (hN : N = (bf x (zeroJ x) false N).length) (hj : ∀ j, j < N → j < (bf x (zeroJ x) false j).length) :
    VCall cfg 32 [sl1 x] [] [] (sl1 (few13 (amtP (bf x (zeroJ x) false N)))) [] := by
  have hx4 : x.length ≤ 4 := hx.2.1
  have hq := okJ_mem hx
  have hf := zeroJ_fill hx
  have k1 := All_ok x (zeroJ x) false hx hf N hN hj
  have G := bf_good (c := false) hf N
  have hbl := bf_len (c := false) hx hf N
  have hS : sizeF x 1 ≤ 28561 := by have := sizeF_le x 1 4 hq hx4; omega
  have hol := outL_len x (bf x (zeroJ x) false N)
  have hzl : (zeroJ x).length = x.length := by simp [zeroJ]
  have hrz : repsV [vi 0] x.length = (zeroJ x).map vi := by rw [repsV_one]; simp [zeroJ, List.map_replicate]
  have hrz2 : repsV [.p (.at (.int .i64 0))] x.length = (zeroJ x).map vi := hrz
  generalize hL : bf x (zeroJ x) false N = L at *
  have hgf : ∀ e ∈ L, fillB x e.g = true := fun e he => G.gfill hf he
  (refine VCall.mk (fn := a32) rfl rfl rfl ?_; simp only [a32, inV, mkB, nmsL, PT.set])
  (repeat (first | refine VC.seq ?_ | refine VC.block ?_ | refine VC.kill ?_ | refine VC.skip ?_ | refine VC.exit ?_ | refine VC.regA ?_ | refine VC.condT ?_ | refine VC.condF ?_))
  refine VC.regCA ?_
  refine VO.moreA ?_
  refine VO.frzA p14 ?_
  refine VO.call0A (no_orc 21 (by decide)) k1 ?_ (hl := ?_)
  rotate_left
  · (simp (config := {decide := false, maxSteps := 1000000}) (disch := omega) only [vev_call, putC_c0, putC_n0, putC_cs, ble0, List.getElem?_cons_zero, List.getElem?_cons_succ, runU, isCall, wantV, vev, evV, ofVal, ofAtom, atomB, cond_true, cond_false, PT.get, PT.set, PT.filt, PT.map, Option.getD_some, Option.getD_none, ret1V, ret1X, v_ld, v_ias, v_iad, v_fad, v_slsl, v_slarr, v_st, v_app, v_cpy, v_len, v_look, v_mset, elsV, partV, newV, free, atV, atI, atL, toVal, cellsV, okV, VSt.put, VSt.kill, VSt.alloc, VSt.frz, VSt.adopt, noref, norefB, deadB, deadV, nos, nm, nmL, nmB, nmE, Pa.eqb, Bool.not_false, Bool.not_true, Bool.and_true, Bool.true_and, Bool.false_and, Bool.and_false, bin, intOps, intBin, cvt, un, goInt, bndsV, bndV, Option.map_some, Option.map_none, List.map_cons, List.map_nil, Int.toNat_natCast, Nat.mul_one, Nat.zero_add, beq_true, beq_false, beq_self_eq_true, List.length_map, List.length_cons, List.length_nil, List.length_append, fillV, pEvV, repsV, List.append_nil, List.nil_append, if_pos, if_neg, reduceIte, List.getElem?_map, List.getElem?_drop, Nat.add_zero, List.getElem?_eq_getElem, Go.IntWalk.i64_in, wrap_u64, tmod_pos, eq_self, true_and, and_true, and_self, List.all_cons, List.all_nil, nmL_vi, flV_len, flP_len, flV_nm, flV_ok, flV_pv, flP_map, drop_flP, drop_flV, putC_flV, eqV2, eqV3, bneT, bneF, decide_true, decide_false, frzL_vi, frzL_flV, nmE_ag, nmE_at, frzE_ag, frzE_at, ofAg_len, ofAt_len, atL_vi, nmL_map_p, frzL_map_p, okL_p, toPVs_p, repsZ, nmL_reps, putC_vi, get_flV0, get_flV1, Int.toNat_zero, Int.toNat_one, Int.reduceToNat, eqV_slice, eqV_ptr, eqV_func, nilS, nilP, nilF, nmL_append, okL_vi, toPVs_vi, toPVs, toPV, frzV, frzL, frzB, resVV, vi, vb, nilV, sl1, bl1, pi, foldV, max2, min2, max_eq, min_eq, Int.tdiv_eq_ediv_of_nonneg, Int.cast_ofNat_Int, Option.isSome_none, Option.isSome_some, Option.isNone_none, Option.isNone_some, and_false, false_and, sl2, sl1P, slP, min_cast, take_map_pi, map_pi, Nat.sub_zero, Nat.zero_mul, List.length_take, decide_eq_true, decide_eq_false, Bool.true_eq_false, Bool.false_eq_true, beqT, beqF, ibeq, ibne, List.take_zero, List.take_succ_cons, List.drop_zero, List.drop_succ_cons, List.drop_nil, List.take_nil, List.cons_append, Bool.not_true, Bool.not_false, hrz, hrz2, toPVs_vi, sl1, hzl])
    rfl
  refine VO.endA ?_
  (repeat (first | refine VC.seq ?_ | refine VC.block ?_ | refine VC.kill ?_ | refine VC.skip ?_ | refine VC.exit ?_ | refine VC.regA ?_ | refine VC.condT ?_ | refine VC.condF ?_))
  have hgl : (L.map En.g).length = L.length := by simp
  have hge : ∀ (i : Nat) (h : i < (L.map En.g).length) (h' : i < L.length), (L.map En.g)[i] = L[i].g := fun i h h' => by simp
  have hoD : ∀ (i : Nat) (h : i < L.length) (h' : code x L[i].g < (outL x L).length), (outL x L)[code x L[i].g] = (L[i].d : Int) := fun i h h' => by rw [outL_get, distE_get hgf G.nodup (List.getElem?_eq_getElem h)]
  generalize hA0 : L.map En.g = A at *
  generalize hD0 : outL x L = D at *
  refine VC.loopG (fun (q : List Int × Nat) => ⟨inV [p0, p3, p4, p5, p6] [sl1 x, sl1 D, sl2 A, .os 1 p18 13, vi q.2] .lf, mkB [(p18, .cells (q.1.map vi))] .lf, [], none⟩) (fun n q => n = 13 - q.2 ∧ q.2 ≤ 13 ∧ q.1 = List.replicate q.2 (-1) ++ List.replicate (13 - q.2) 0) (x := (List.replicate 13 0, 0)) ?_ ⟨rfl, Nat.zero_le _, rfl⟩ ?_
  · (apply Go.Ab.V.G.weak; constructor <;> simp (config := {decide := true}) only [PT.Le, inV, mkB, PT.set, VSt.kill, VSt.adopt, VSt.alloc, PT.filt, PT.map, List.map_cons, List.map_nil, noref, norefB, deadB, deadV, nos, nm, nmL, nmB, nmE, Pa.eqb, cond_true, cond_false, Bool.not_true, Bool.not_false, Bool.and_true, Bool.true_and, nmL_vi, flV_len, flP_len, flV_nm, flV_ok, flV_pv, flP_map, drop_flP, drop_flV, putC_flV, eqV2, eqV3, bneT, bneF, decide_true, decide_false, frzL_vi, frzL_flV, nmE_ag, nmE_at, frzE_ag, frzE_at, ofAg_len, ofAt_len, atL_vi, nmL_map_p, frzL_map_p, okL_p, toPVs_p, repsZ, nmL_reps, putC_vi, get_flV0, get_flV1, Int.toNat_zero, Int.toNat_one, Int.reduceToNat, eqV_slice, eqV_ptr, eqV_func, nilS, nilP, nilF, nmL_append, true_or, or_true, and_self, true_and, and_true, Option.some.injEq, reduceCtorEq, false_or, or_false, VV.p.injEq, PV.at.injEq, Value.int.injEq, sl1, vi, bl1, vb, nilV, repsV_one, List.map_replicate, sl2, hgl])
  rintro n' ⟨A', i⟩ ⟨hn', hi', hA⟩
  simp only at hn' hi' hA
  have hAl : A'.length = 13 := by rw [hA]; simp; omega
  simp only [inV, PT.set, mkB]
  (repeat (first | refine VC.seq ?_ | refine VC.block ?_ | refine VC.kill ?_ | refine VC.skip ?_ | refine VC.exit ?_ | refine VC.regA ?_ | refine VC.condT ?_ | refine VC.condF ?_))
  refine VC.condA ?_ ?_ <;> intro h <;> (simp only [decide_eq_true_eq, decide_eq_false_iff_not, bne_iff_ne, ne_eq, bne_eq_false_iff_eq, beq_iff_eq, beq_eq_false_iff_ne, Bool.not_eq_true', Bool.not_eq_false', Bool.and_eq_true, Bool.or_eq_true, Int.natCast_inj] at h)
  · have h : i < 13 := by omega
    have hp := putC_map A' i (-1) (by omega)
    simp only [vi] at hp
    (repeat (first | refine VC.seq ?_ | refine VC.block ?_ | refine VC.kill ?_ | refine VC.skip ?_ | refine VC.exit ?_ | refine VC.regA ?_ | refine VC.condT ?_ | refine VC.condF ?_))
    refine ⟨_, (A'.set i (-1), i + 1), ?_, ⟨rfl, by simp only; omega, ?_⟩, ?_⟩
    · simp only; omega
    · simp only
      rw [hA, List.set_append_right _ _ (by simp), List.length_replicate, Nat.sub_self, show 13 - i = (13 - (i + 1)) + 1 from by omega, List.replicate_succ, List.set_cons_zero, List.replicate_succ', List.append_assoc]; rfl
    · (apply Go.Ab.V.G.weak; constructor <;> simp (config := {decide := true}) only [PT.Le, inV, mkB, PT.set, VSt.kill, VSt.adopt, VSt.alloc, PT.filt, PT.map, List.map_cons, List.map_nil, noref, norefB, deadB, deadV, nos, nm, nmL, nmB, nmE, Pa.eqb, cond_true, cond_false, Bool.not_true, Bool.not_false, Bool.and_true, Bool.true_and, nmL_vi, flV_len, flP_len, flV_nm, flV_ok, flV_pv, flP_map, drop_flP, drop_flV, putC_flV, eqV2, eqV3, bneT, bneF, decide_true, decide_false, frzL_vi, frzL_flV, nmE_ag, nmE_at, frzE_ag, frzE_at, ofAg_len, ofAt_len, atL_vi, nmL_map_p, frzL_map_p, okL_p, toPVs_p, repsZ, nmL_reps, putC_vi, get_flV0, get_flV1, Int.toNat_zero, Int.toNat_one, Int.reduceToNat, eqV_slice, eqV_ptr, eqV_func, nilS, nilP, nilF, nmL_append, true_or, or_true, and_self, true_and, and_true, Option.some.injEq, reduceCtorEq, false_or, or_false, VV.p.injEq, PV.at.injEq, Value.int.injEq, sl1, vi, bl1, vb, nilV, hp, sl2])
      (all_goals first | rfl | omega | exact ⟨rfl, by omega⟩)
  have h : i = 13 := by omega
  subst h
  have hA : A' = few13 (amtP (L.take 0)) := by rw [hA]; rfl
  subst hA
  clear hAl
  (repeat (first | refine VC.seq ?_ | refine VC.block ?_ | refine VC.kill ?_ | refine VC.skip ?_ | refine VC.exit ?_ | refine VC.regA ?_ | refine VC.condT ?_ | refine VC.condF ?_))
  refine VC.loopG (fun (i : Nat) => ⟨inV [p0, p3, p4, p5, p7] [sl1 x, sl1 D, sl2 A, .os 1 p18 13, vi i] .lf, mkB [(p18, .cells ((few13 (amtP (L.take i))).map vi))] .lf, [], none⟩) (fun n i => n = L.length - i ∧ i ≤ L.length) (x := 0) ?_ ⟨rfl, Nat.zero_le _⟩ ?_
  · (apply Go.Ab.V.G.weak; constructor <;> simp (config := {decide := true}) only [PT.Le, inV, mkB, PT.set, VSt.kill, VSt.adopt, VSt.alloc, PT.filt, PT.map, List.map_cons, List.map_nil, noref, norefB, deadB, deadV, nos, nm, nmL, nmB, nmE, Pa.eqb, cond_true, cond_false, Bool.not_true, Bool.not_false, Bool.and_true, Bool.true_and, nmL_vi, flV_len, flP_len, flV_nm, flV_ok, flV_pv, flP_map, drop_flP, drop_flV, putC_flV, eqV2, eqV3, bneT, bneF, decide_true, decide_false, frzL_vi, frzL_flV, nmE_ag, nmE_at, frzE_ag, frzE_at, ofAg_len, ofAt_len, atL_vi, nmL_map_p, frzL_map_p, okL_p, toPVs_p, repsZ, nmL_reps, putC_vi, get_flV0, get_flV1, Int.toNat_zero, Int.toNat_one, Int.reduceToNat, eqV_slice, eqV_ptr, eqV_func, nilS, nilP, nilF, nmL_append, true_or, or_true, and_self, true_and, and_true, Option.some.injEq, reduceCtorEq, false_or, or_false, VV.p.injEq, PV.at.injEq, Value.int.injEq, sl1, vi, bl1, vb, nilV, sl2])
    (all_goals first | rfl | omega | exact ⟨rfl, by omega⟩)
  rintro n i ⟨hn, hi⟩
  simp only [inV, PT.set, mkB]
  (repeat (first | refine VC.seq ?_ | refine VC.block ?_ | refine VC.kill ?_ | refine VC.skip ?_ | refine VC.exit ?_ | refine VC.regA ?_ | refine VC.condT ?_ | refine VC.condF ?_))
  refine VC.condA ?_ ?_ <;> intro h <;> (simp only [decide_eq_true_eq, decide_eq_false_iff_not, bne_iff_ne, ne_eq, bne_eq_false_iff_eq, beq_iff_eq, beq_eq_false_iff_ne, Bool.not_eq_true', Bool.not_eq_false', Bool.and_eq_true, Bool.or_eq_true, Int.natCast_inj] at h)
  · have h : i < L.length := by omega
    have hgi := hge i (by omega) h
    have he : L[i]? = some L[i] := List.getElem?_eq_getElem h
    have htk := amtP_take L i h
    have hfe := hgf _ (List.getElem_mem h)
    have hle : L[i].g.length = x.length := ((fillB_iff x _).1 hfe).1
    have ke := Code_ok x L[i].g hx hfe
    have hce2 : code x L[i].g < sizeF x 1 := codeF_lt x L[i].g 0 1 hfe (by decide)
    have hoeE := hoD i h
    generalize hEE : L[i] = e at *
    generalize hce : code x e.g = ce at *
    have hb : ∀ (k : Nat) (h : k < e.g.length), 0 ≤ e.g[k] ∧ e.g[k] ≤ 12 := fun k hk => by
      have := ((fillB_iff x _).1 hfe).2 k hk (by omega)
      have := hq _ (List.getElem_mem (show k < x.length by omega))
      omega
    have hAi : i < A.length := by omega
    have hT := amtP_pos (L.take i)
    generalize hTT : amtP (L.take i) = T at *
    (repeat (first | refine VC.seq ?_ | refine VC.block ?_ | refine VC.kill ?_ | refine VC.skip ?_ | refine VC.exit ?_ | refine VC.regA ?_ | refine VC.condT ?_ | refine VC.condF ?_))
    refine VC.loopG (fun (k : Nat) => ⟨inV [p0, p3, p4, p5, p7, p8] [sl1 x, sl1 D, sl2 A, .os 1 p18 13, vi i, vi k] .lf, mkB [(p18, .cells ((few13 (T ++ prs (e.g.take k) e.d)).map vi))] .lf, [], none⟩) (fun n k => n = e.g.length - k ∧ k ≤ e.g.length) (x := 0) ?_ ⟨rfl, Nat.zero_le _⟩ ?_
    · have : prs (e.g.take 0) e.d = [] := rfl
      (apply Go.Ab.V.G.weak; constructor <;> simp (config := {decide := true}) only [PT.Le, inV, mkB, PT.set, VSt.kill, VSt.adopt, VSt.alloc, PT.filt, PT.map, List.map_cons, List.map_nil, noref, norefB, deadB, deadV, nos, nm, nmL, nmB, nmE, Pa.eqb, cond_true, cond_false, Bool.not_true, Bool.not_false, Bool.and_true, Bool.true_and, nmL_vi, flV_len, flP_len, flV_nm, flV_ok, flV_pv, flP_map, drop_flP, drop_flV, putC_flV, eqV2, eqV3, bneT, bneF, decide_true, decide_false, frzL_vi, frzL_flV, nmE_ag, nmE_at, frzE_ag, frzE_at, ofAg_len, ofAt_len, atL_vi, nmL_map_p, frzL_map_p, okL_p, toPVs_p, repsZ, nmL_reps, putC_vi, get_flV0, get_flV1, Int.toNat_zero, Int.toNat_one, Int.reduceToNat, eqV_slice, eqV_ptr, eqV_func, nilS, nilP, nilF, nmL_append, true_or, or_true, and_self, true_and, and_true, Option.some.injEq, reduceCtorEq, false_or, or_false, VV.p.injEq, PV.at.injEq, Value.int.injEq, sl1, vi, bl1, vb, nilV, this, List.append_nil, sl2])
      (all_goals first | rfl | omega | exact ⟨rfl, by omega⟩)
    rintro n' k ⟨hn', hk⟩
    simp only [inV, PT.set, mkB]
    (repeat (first | refine VC.seq ?_ | refine VC.block ?_ | refine VC.kill ?_ | refine VC.skip ?_ | refine VC.exit ?_ | refine VC.regA ?_ | refine VC.condT ?_ | refine VC.condF ?_))
    rw [hgi]
    refine VC.condA ?_ ?_ <;> intro h' <;> (simp only [decide_eq_true_eq, decide_eq_false_iff_not, bne_iff_ne, ne_eq, bne_eq_false_iff_eq, beq_iff_eq, beq_eq_false_iff_ne, Bool.not_eq_true', Bool.not_eq_false', Bool.and_eq_true, Bool.or_eq_true, Int.natCast_inj] at h')
    · have h' : k < e.g.length := by omega
      have hbk := hb k h'
      have hpt := prs_take e.g e.d k h'
      have hPP : ∀ p ∈ T ++ prs (e.g.take k) e.d, 0 ≤ p.2 := fun p hp => (List.mem_append.1 hp).elim (hT p) (prs_pos _ _ p)
      obtain ⟨v, hv⟩ := Int.eq_ofNat_of_zero_le hbk.1
      have hfl := few13_len (T ++ prs (e.g.take k) e.d)
      have hsn : ∀ (h : v < (few13 (T ++ prs (e.g.take k) e.d)).length), few13 (T ++ prs (e.g.take (k + 1)) e.d) = if (few13 (T ++ prs (e.g.take k) e.d))[v] < 0 then (few13 (T ++ prs (e.g.take k) e.d)).set v e.d else few13 (T ++ prs (e.g.take k) e.d) := fun h => by
        have := few13_snoc hPP v e.d h
        rw [← hv, List.append_assoc, ← hpt] at this
        exact this
      generalize hFF : few13 (T ++ prs (e.g.take k) e.d) = FF at *
      have hgk : ((A[i]'hAi)[k]'(by rw [hgi]; exact h')) = (v : Int) := by simp only [hgi]; exact hv
      have hkA : k < (A[i]'hAi).length := by rw [hgi]; exact h'
      have hvF : v < FF.length := by omega
      have hcD : ce < D.length := by omega
      have hoe := hoeE hcD
      have hsn := hsn hvF
      have hset : FF[v] < 0 → few13 (T ++ prs (e.g.take (k + 1)) e.d) = FF.set v e.d := fun h => by rw [hsn, if_pos h]
      have hpc := putC_map FF v e.d hvF
      have hno : ¬FF[v] < 0 → FF = few13 (T ++ prs (e.g.take (k + 1)) e.d) := fun h => by rw [hsn, if_neg h]
      clear hsn hpt hPP
      (repeat (first | refine VC.seq ?_ | refine VC.block ?_ | refine VC.kill ?_ | refine VC.skip ?_ | refine VC.exit ?_ | refine VC.regA ?_ | refine VC.condT ?_ | refine VC.condF ?_))
      simp only [hgk, Int.toNat_natCast]
      refine VC.condA ?_ ?_ <;> intro h2 <;> (simp only [decide_eq_true_eq, decide_eq_false_iff_not, bne_iff_ne, ne_eq, bne_eq_false_iff_eq, beq_iff_eq, beq_eq_false_iff_ne, Bool.not_eq_true', Bool.not_eq_false', Bool.and_eq_true, Bool.or_eq_true, Int.natCast_inj] at h2)
      · have hpos := hset h2
        (repeat (first | refine VC.seq ?_ | refine VC.block ?_ | refine VC.kill ?_ | refine VC.skip ?_ | refine VC.exit ?_ | refine VC.regA ?_ | refine VC.condT ?_ | refine VC.condF ?_))
        apply VC.regC
        · (simp (config := {decide := false, maxSteps := 1000000}) (disch := omega) only [vev_call, putC_c0, putC_n0, putC_cs, ble0, List.getElem?_cons_zero, List.getElem?_cons_succ, runU, isCall, wantV, vev, evV, ofVal, ofAtom, atomB, cond_true, cond_false, PT.get, PT.set, PT.filt, PT.map, Option.getD_some, Option.getD_none, ret1V, ret1X, v_ld, v_ias, v_iad, v_fad, v_slsl, v_slarr, v_st, v_app, v_cpy, v_len, v_look, v_mset, elsV, partV, newV, free, atV, atI, atL, toVal, cellsV, okV, VSt.put, VSt.kill, VSt.alloc, VSt.frz, VSt.adopt, noref, norefB, deadB, deadV, nos, nm, nmL, nmB, nmE, Pa.eqb, Bool.not_false, Bool.not_true, Bool.and_true, Bool.true_and, Bool.false_and, Bool.and_false, bin, intOps, intBin, cvt, un, goInt, bndsV, bndV, Option.map_some, Option.map_none, List.map_cons, List.map_nil, Int.toNat_natCast, Nat.mul_one, Nat.zero_add, beq_true, beq_false, beq_self_eq_true, List.length_map, List.length_cons, List.length_nil, List.length_append, fillV, pEvV, repsV, List.append_nil, List.nil_append, if_pos, if_neg, reduceIte, List.getElem?_map, List.getElem?_drop, Nat.add_zero, List.getElem?_eq_getElem, Go.IntWalk.i64_in, wrap_u64, tmod_pos, eq_self, true_and, and_true, and_self, List.all_cons, List.all_nil, nmL_vi, flV_len, flP_len, flV_nm, flV_ok, flV_pv, flP_map, drop_flP, drop_flV, putC_flV, eqV2, eqV3, bneT, bneF, decide_true, decide_false, frzL_vi, frzL_flV, nmE_ag, nmE_at, frzE_ag, frzE_at, ofAg_len, ofAt_len, atL_vi, nmL_map_p, frzL_map_p, okL_p, toPVs_p, repsZ, nmL_reps, putC_vi, get_flV0, get_flV1, Int.toNat_zero, Int.toNat_one, Int.reduceToNat, eqV_slice, eqV_ptr, eqV_func, nilS, nilP, nilF, nmL_append, okL_vi, toPVs_vi, toPVs, toPV, frzV, frzL, frzB, resVV, vi, vb, nilV, sl1, bl1, pi, foldV, max2, min2, max_eq, min_eq, Int.tdiv_eq_ediv_of_nonneg, Int.cast_ofNat_Int, Option.isSome_none, Option.isSome_some, Option.isNone_none, Option.isNone_some, and_false, false_and, sl2, sl1P, slP, min_cast, take_map_pi, map_pi, Nat.sub_zero, Nat.zero_mul, List.length_take, decide_eq_true, decide_eq_false, Bool.true_eq_false, Bool.false_eq_true, beqT, beqF, ibeq, ibne, List.take_zero, List.take_succ_cons, List.drop_zero, List.drop_succ_cons, List.drop_nil, List.take_nil, List.cons_append, Bool.not_true, Bool.not_false, sl1P])
          rfl
        simp only [hgi]
        refine VO.call0A (no_orc 23 (by decide)) ke ?_
        rw [← hoe] at hpc
        simp only [vi] at hpc
        refine VO.endA ?_
        (repeat (first | refine VC.seq ?_ | refine VC.block ?_ | refine VC.kill ?_ | refine VC.skip ?_ | refine VC.exit ?_ | refine VC.regA ?_ | refine VC.condT ?_ | refine VC.condF ?_))
        refine ⟨_, k + 1, ?_, ⟨rfl, by omega⟩, ?_⟩
        · omega
        · (apply Go.Ab.V.G.weak; constructor <;> simp (config := {decide := true}) only [PT.Le, inV, mkB, PT.set, VSt.kill, VSt.adopt, VSt.alloc, PT.filt, PT.map, List.map_cons, List.map_nil, noref, norefB, deadB, deadV, nos, nm, nmL, nmB, nmE, Pa.eqb, cond_true, cond_false, Bool.not_true, Bool.not_false, Bool.and_true, Bool.true_and, nmL_vi, flV_len, flP_len, flV_nm, flV_ok, flV_pv, flP_map, drop_flP, drop_flV, putC_flV, eqV2, eqV3, bneT, bneF, decide_true, decide_false, frzL_vi, frzL_flV, nmE_ag, nmE_at, frzE_ag, frzE_at, ofAg_len, ofAt_len, atL_vi, nmL_map_p, frzL_map_p, okL_p, toPVs_p, repsZ, nmL_reps, putC_vi, get_flV0, get_flV1, Int.toNat_zero, Int.toNat_one, Int.reduceToNat, eqV_slice, eqV_ptr, eqV_func, nilS, nilP, nilF, nmL_append, true_or, or_true, and_self, true_and, and_true, Option.some.injEq, reduceCtorEq, false_or, or_false, VV.p.injEq, PV.at.injEq, Value.int.injEq, sl1, vi, bl1, vb, nilV, sl2, hpc, hpos])
          · rfl
          · rw [hoe]
      · (repeat (first | refine VC.seq ?_ | refine VC.block ?_ | refine VC.kill ?_ | refine VC.skip ?_ | refine VC.exit ?_ | refine VC.regA ?_ | refine VC.condT ?_ | refine VC.condF ?_))
        refine ⟨_, k + 1, ?_, ⟨rfl, by omega⟩, ?_⟩
        · omega
        · rw [← hno h2]
          (apply Go.Ab.V.G.weak; constructor <;> simp (config := {decide := true}) only [PT.Le, inV, mkB, PT.set, VSt.kill, VSt.adopt, VSt.alloc, PT.filt, PT.map, List.map_cons, List.map_nil, noref, norefB, deadB, deadV, nos, nm, nmL, nmB, nmE, Pa.eqb, cond_true, cond_false, Bool.not_true, Bool.not_false, Bool.and_true, Bool.true_and, nmL_vi, flV_len, flP_len, flV_nm, flV_ok, flV_pv, flP_map, drop_flP, drop_flV, putC_flV, eqV2, eqV3, bneT, bneF, decide_true, decide_false, frzL_vi, frzL_flV, nmE_ag, nmE_at, frzE_ag, frzE_at, ofAg_len, ofAt_len, atL_vi, nmL_map_p, frzL_map_p, okL_p, toPVs_p, repsZ, nmL_reps, putC_vi, get_flV0, get_flV1, Int.toNat_zero, Int.toNat_one, Int.reduceToNat, eqV_slice, eqV_ptr, eqV_func, nilS, nilP, nilF, nmL_append, true_or, or_true, and_self, true_and, and_true, Option.some.injEq, reduceCtorEq, false_or, or_false, VV.p.injEq, PV.at.injEq, Value.int.injEq, sl1, vi, bl1, vb, nilV, sl2])
          (all_goals first | rfl | omega | exact ⟨rfl, by omega⟩)
    · have h' : k = e.g.length := by omega
      subst h'
      rw [List.take_length, ← htk]
      (repeat (first | refine VC.seq ?_ | refine VC.block ?_ | refine VC.kill ?_ | refine VC.skip ?_ | refine VC.exit ?_ | refine VC.regA ?_ | refine VC.condT ?_ | refine VC.condF ?_))
      refine ⟨_, i + 1, ?_, ⟨rfl, by omega⟩, ?_⟩
      · omega
      · (apply Go.Ab.V.G.weak; constructor <;> simp (config := {decide := true}) only [PT.Le, inV, mkB, PT.set, VSt.kill, VSt.adopt, VSt.alloc, PT.filt, PT.map, List.map_cons, List.map_nil, noref, norefB, deadB, deadV, nos, nm, nmL, nmB, nmE, Pa.eqb, cond_true, cond_false, Bool.not_true, Bool.not_false, Bool.and_true, Bool.true_and, nmL_vi, flV_len, flP_len, flV_nm, flV_ok, flV_pv, flP_map, drop_flP, drop_flV, putC_flV, eqV2, eqV3, bneT, bneF, decide_true, decide_false, frzL_vi, frzL_flV, nmE_ag, nmE_at, frzE_ag, frzE_at, ofAg_len, ofAt_len, atL_vi, nmL_map_p, frzL_map_p, okL_p, toPVs_p, repsZ, nmL_reps, putC_vi, get_flV0, get_flV1, Int.toNat_zero, Int.toNat_one, Int.reduceToNat, eqV_slice, eqV_ptr, eqV_func, nilS, nilP, nilF, nmL_append, true_or, or_true, and_self, true_and, and_true, Option.some.injEq, reduceCtorEq, false_or, or_false, VV.p.injEq, PV.at.injEq, Value.int.injEq, sl1, vi, bl1, vb, nilV, sl2])
        (all_goals first | rfl | omega | exact ⟨rfl, by omega⟩)
  · have h : i = L.length := by omega
    subst h
    rw [List.take_length]
    have hpv := toPVs_vi (few13 (amtP L))
    (repeat (first | refine VC.seq ?_ | refine VC.block ?_ | refine VC.kill ?_ | refine VC.skip ?_ | refine VC.exit ?_ | refine VC.regA ?_ | refine VC.condT ?_ | refine VC.condF ?_))
    refine VC.ret (Fin.frzA p18 (hb := rfl) (hc := hpv) (Fin.A ?_))
    simp only [sl1, few13_len]; rfl
end Go.Ab.Jug

namespace Go.Ab.Jug
open Go.Ab.V
set_option maxRecDepth 100000
/-- The numbers of steps rise along the list. -/
def Rise (L : List En) : Prop := ∀ (j k : Nat) (ej ek : En), j ≤ k → L[j]? = some ej → L[k]? = some ek → ej.d ≤ ek.d
theorem rise_one {f : List Int} {d : Nat} {L : List En} (h1 : Rise L) (h2 : ∀ e ∈ L, e.d ≤ d + 1) (s : (Int × Int) × List Int) : Rise (addOne f d L s) ∧ ∀ e ∈ addOne f d L s, e.d ≤ d + 1 := by
  unfold addOne
  split
  · exact ⟨h1, h2⟩
  · refine ⟨fun j k ej ek hjk hj hk => ?_, fun e he => ?_⟩
    · by_cases hkl : k < L.length
      · rw [List.getElem?_append_left hkl] at hk
        rw [List.getElem?_append_left (by omega)] at hj
        exact h1 j k ej ek hjk hj hk
      · rw [List.getElem?_append_right (by omega)] at hk
        have hkk : k - L.length = 0 := by
          rcases Nat.eq_zero_or_pos (k - L.length) with h | h
          · exact h
          · rw [List.getElem?_eq_none (by simp; omega)] at hk; cases hk
        rw [hkk] at hk
        simp at hk
        subst hk
        have hm := List.mem_of_getElem? hj
        rcases List.mem_append.1 hm with hm | hm
        · exact h2 _ hm
        · rw [List.mem_singleton.1 hm]; exact Nat.le_refl _
    · rcases List.mem_append.1 he with he | he
      · exact h2 e he
      · rw [List.mem_singleton.1 he]; exact Nat.le_refl _
theorem rise_all {f : List Int} {d : Nat} : ∀ (ss : List ((Int × Int) × List Int)) {L : List En}, Rise L → (∀ e ∈ L, e.d ≤ d + 1) → Rise (addAll f d L ss) ∧ ∀ e ∈ addAll f d L ss, e.d ≤ d + 1
  | [], L, h1, h2 => ⟨h1, h2⟩
  | s :: ss, L, h1, h2 => by
    obtain ⟨h3, h4⟩ := rise_one h1 h2 s
    rw [addAll_cons]
    exact rise_all ss h3 h4
theorem bf_succ {x f0 : List Int} {c : Bool} {i : Nat} {e : En} (he : (bf x f0 c i)[i]? = some e) : bf x f0 c (i + 1) = addAll e.g e.d (bf x f0 c i) (succs x c e.g) := by
  show (match (bf x f0 c i)[i]? with
    | some e => addAll e.g e.d (bf x f0 c i) (succs x c e.g)
    | none => bf x f0 c i) = _
  rw [he]
theorem bf_rise {x f0 : List Int} {c : Bool} : ∀ i, Rise (bf x f0 c i) ∧ ∀ e, (bf x f0 c i)[i]? = some e → ∀ e' ∈ bf x f0 c i, e'.d ≤ e.d + 1
  | 0 => by
    refine ⟨fun j k ej ek _ hj hk => ?_, fun e _ e' he' => ?_⟩
    · have h1 := List.mem_of_getElem? hj
      have h2 := List.mem_of_getElem? hk
      simp only [bf, List.mem_singleton] at h1 h2
      rw [h1, h2]; exact Nat.le_refl _
    · simp only [bf, List.mem_singleton] at he'
      rw [he']; exact Nat.zero_le _
  | i + 1 => by
    obtain ⟨h1, h2⟩ := bf_rise (x := x) (f0 := f0) (c := c) i
    cases he : (bf x f0 c i)[i]? with
    | none =>
      have : bf x f0 c (i + 1) = bf x f0 c i := by
        show (match (bf x f0 c i)[i]? with
          | some e => addAll e.g e.d (bf x f0 c i) (succs x c e.g)
          | none => bf x f0 c i) = _
        rw [he]
      rw [this]
      refine ⟨h1, fun e h => ?_⟩
      have := (List.getElem?_eq_some_iff.1 h).1
      have := List.getElem?_eq_none_iff.1 he
      omega
    | some e =>
      have hs := bf_succ he
      obtain ⟨h3, h4⟩ := rise_all (f := e.g) (succs x c e.g) h1 (h2 e he)
      rw [← hs] at h3 h4
      refine ⟨h3, fun e2 he2 e' he' => ?_⟩
      have := h4 e' he'
      have := h3 i (i + 1) e e2 (by omega) (bf_get (by omega) he) he2
      omega
theorem addAll_has {f : List Int} {d : Nat} : ∀ (ss : List ((Int × Int) × List Int)) {L : List En} {s : (Int × Int) × List Int}, s ∈ ss → hasE (addAll f d L ss) s.2 = true
  | s :: ss, L, _, .head _ => by
    rw [addAll_cons]
    have h : hasE (addOne f d L s) s.2 = true := by
      unfold addOne
      split
      · assumption
      · exact hasE_iff.2 ⟨_, List.mem_append_right _ (List.mem_singleton.2 rfl), rfl⟩
    obtain ⟨e, he, hg⟩ := hasE_iff.1 h
    obtain ⟨t, ht⟩ := addAll_pre f d ss (addOne f d L s)
    exact hasE_iff.2 ⟨e, by rw [← ht]; exact List.mem_append_left _ he, hg⟩
  | s' :: ss, L, s, .tail _ h => by rw [addAll_cons]; exact addAll_has ss h
/-- What a step leads to is known behind a round. -/
theorem succ_in {x f0 : List Int} {c : Bool} {i : Nat} {e : En} (he : (bf x f0 c i)[i]? = some e) {s : (Int × Int) × List Int} (hs : s ∈ succs x c e.g) : ∃ (k : Nat) (e' : En), (bf x f0 c (i + 1))[k]? = some e' ∧ e'.g = s.2 ∧ e'.d ≤ e.d + 1 := by
  have h1 := addAll_has (f := e.g) (d := e.d) (succs x c e.g) (L := bf x f0 c i) hs
  rw [← bf_succ he] at h1
  obtain ⟨e', he', hg⟩ := hasE_iff.1 h1
  obtain ⟨k, hk, hke⟩ := List.mem_iff_getElem.1 he'
  obtain ⟨_, h4⟩ := rise_all (f := e.g) (d := e.d) (succs x c e.g) (bf_rise (x := x) (f0 := f0) (c := c) i).1 ((bf_rise i).2 e he)
  rw [← bf_succ he] at h4
  exact ⟨k, e', by rw [List.getElem?_eq_getElem hk, hke], hg, h4 e' he'⟩
end Go.Ab.Jug

namespace Go.Ab.Jug
open Go.Ab.V
set_option maxRecDepth 100000
/-! ### What is reached is closed under steps -/
theorem mem_rowR {x f : List Int} {c : Bool} {a b : Int} (h : okR x f c a b = true) : ∀ (m : Nat) (k : Nat), k < m → b = (x.length : Int) - ((k + 1 : Nat) : Int) → (a, b) ∈ rowR x f c a m
  | 0, k, hk, _ => absurd hk (Nat.not_lt_zero k)
  | m + 1, k, hk, hb => by
    simp only [rowR, List.mem_append]
    rcases Nat.lt_or_ge k m with h1 | h1
    · exact .inr (mem_rowR h m k h1 hb)
    · have : k = m := by omega
      subst this
      refine .inl ?_
      unfold itR
      rw [← hb, if_pos h]; simp
theorem mem_allR {x f : List Int} {c : Bool} {a b : Int} (h : okR x f c a b = true) (hb : -1 ≤ b ∧ b < x.length) : ∀ (m : Nat) (k : Nat), k < m → a = (x.length : Int) - ((k + 1 : Nat) : Int) → (a, b) ∈ allR x f c m
  | 0, k, hk, _ => absurd hk (Nat.not_lt_zero k)
  | m + 1, k, hk, ha => by
    simp only [allR, List.mem_append]
    rcases Nat.lt_or_ge k m with h1 | h1
    · exact .inr (mem_allR h hb m k h1 ha)
    · have : k = m := by omega
      subst this
      refine .inl ?_
      rw [← ha]
      refine mem_rowR h (x.length + 1) (x.length - 1 - b).toNat ?_ ?_ <;> omega
theorem mem_succs {x f : List Int} {c : Bool} {a b : Int} (h : isR x.length a b = true) (hne : stepR x f a b ≠ f) (hc : c = true → a ≠ -1 ∧ b ≠ -1) : ((a, b), stepR x f a b) ∈ succs x c f := by
  have hb := isR_bd h
  have hok : okR x f c a b = true := by
    unfold okR
    rw [h]
    cases c with
    | false => simp only [Bool.false_and, Bool.not_false, Bool.true_and, Bool.not_eq_true']; exact decide_eq_false fun h => hne h.symm
    | true =>
      obtain ⟨h1, h2⟩ := hc rfl
      simp only [h1, h2, decide_false, Bool.or_false, Bool.and_false, Bool.not_false, Bool.true_and, Bool.not_eq_true']; exact decide_eq_false fun h => hne h.symm
  exact List.mem_map.2 ⟨(a, b), mem_allR hok hb.2.1 (x.length + 1) (x.length - 1 - a).toNat (by omega) (by omega), rfl⟩
theorem bf_closed {x f : List Int} {c : Bool} (hf : fillB x f = true) {N : Nat} (hN : N = (bf x f c N).length) (hj : ∀ j, j < N → j < (bf x f c j).length) {g : List Int} {a b : Int} (hg : hasE (bf x f c N) g = true) (h : isR x.length a b = true) (hc : c = true → a ≠ -1 ∧ b ≠ -1) :
    hasE (bf x f c N) (stepR x g a b) = true := by
  by_cases hne : stepR x g a b = g
  · rw [hne]; exact hg
  obtain ⟨e, he, rfl⟩ := hasE_iff.1 hg
  obtain ⟨k, hk, hke⟩ := List.mem_iff_getElem.1 he
  have hkN : k < N := by omega
  have h1 := hj k hkN
  have h2 := bf_get (j := N) (by omega) (List.getElem?_eq_getElem h1)
  rw [List.getElem?_eq_getElem hk, hke] at h2
  obtain ⟨k', e', h3, h4, _⟩ := succ_in (List.getElem?_eq_getElem h1) (s := ((a, b), stepR x e.g a b)) (by rw [← Option.some.inj h2]; exact mem_succs h hne hc)
  have h5 := bf_get (j := N) (by omega) h3
  exact hasE_iff.2 ⟨e', List.mem_of_getElem? h5, h4⟩
/-! ### Sums modulo the greatest -/
/-- What may be added. -/
def Adds (M : Nat) (S : Nat → Prop) (k : Nat) : Prop := ∀ r, r < M → S r → S ((r + k) % M)
theorem Adds.zero {M : Nat} {S : Nat → Prop} : Adds M S 0 := fun r hr h => by rw [Nat.add_zero, Nat.mod_eq_of_lt hr]; exact h
theorem Adds.add {M : Nat} {S : Nat → Prop} (hM : 0 < M) {a b : Nat} (ha : Adds M S a) (hb : Adds M S b) : Adds M S (a + b) := fun r hr h => by
  have := hb _ (Nat.mod_lt _ hM) (ha r hr h)
  rw [Nat.mod_add_mod, Nat.add_assoc] at this
  exact this
theorem Adds.mul {M : Nat} {S : Nat → Prop} (hM : 0 < M) {a : Nat} (ha : Adds M S a) : ∀ n, Adds M S (n * a)
  | 0 => by rw [Nat.zero_mul]; exact .zero
  | n + 1 => by rw [Nat.succ_mul]; exact (Adds.mul hM ha n).add hM ha
theorem Adds.congr {M : Nat} {S : Nat → Prop} {a b : Nat} (h : a % M = b % M) (ha : Adds M S a) : Adds M S b := fun r hr hs => by
  rw [show (r + b) % M = (r + a) % M from by rw [Nat.add_mod, ← h, ← Nat.add_mod]]; exact ha r hr hs
theorem Adds.mod {M : Nat} {S : Nat → Prop} (hM : 0 < M) {a b : Nat} (ha : Adds M S a) (hb : Adds M S b) : Adds M S (b % a) := by
  refine Adds.congr ?_ (hb.add hM (Adds.mul hM ha ((M - 1) * (b / a))))
  have h1 := Nat.div_add_mod b a
  have h2 : b + (M - 1) * (b / a) * a = b % a + M * (a * (b / a)) := by
    have : (M - 1) * (b / a) * a + a * (b / a) = M * (a * (b / a)) := by
      rw [Nat.mul_assoc, Nat.mul_comm (b / a) a, ← Nat.succ_mul, show (M - 1).succ = M from by omega]
    omega
  rw [h2, Nat.add_mul_mod_self_left]
theorem Adds.gcd {M : Nat} {S : Nat → Prop} (hM : 0 < M) (a b : Nat) : Adds M S a → Adds M S b → Adds M S (Nat.gcd a b) := by
  induction a, b using Nat.gcd.induction with
  | H0 n => intro _ h; rw [Nat.gcd_zero_left]; exact h
  | H1 m n hm ih =>
    intro h1 h2
    rw [Nat.gcd_rec]
    exact ih (h1.mod hM h2) h1
theorem Adds.fold {M : Nat} {S : Nat → Prop} (hM : 0 < M) : ∀ (l : List Nat) (g : Nat), Adds M S g → (∀ x ∈ l, Adds M S x) → Adds M S (l.foldl Nat.gcd g)
  | [], _, h, _ => h
  | x :: l, g, h, hl => Adds.fold hM l _ (Adds.gcd hM g x h (hl x (.head _))) fun y hy => hl y (.tail _ hy)
/-! ### Jugs -/
/-- Only jug m holds something. -/
def oneJ (x : List Int) (m : Nat) (r : Int) : List Int := (zeroJ x).set m r
theorem atQ_zero (x : List Int) (i : Nat) : (zeroJ x).getD i 0 = 0 := by
  rw [List.getD_eq_getElem?_getD]
  cases h : (zeroJ x)[i]? with
  | none => rfl
  | some y =>
    have := List.mem_of_getElem? h
    exact (List.mem_replicate.1 this).2
theorem zero_set (x : List Int) (m : Nat) : (zeroJ x).set m 0 = zeroJ x := by
  refine List.ext_getElem (by simp) fun i h1 h2 => ?_
  rw [List.getElem_set]
  simp [zeroJ]
theorem isR_of {x : List Int} {a b : Int} (ha : -1 ≤ a ∧ a < x.length) (hb : -1 ≤ b ∧ b < x.length) (hn : a ≠ b) : isR x.length a b = true := by
  simp only [isR, inR, Bool.and_eq_true, decide_eq_true_eq]; exact ⟨⟨ha, hb⟩, hn⟩
section
variable {x : List Int} {H : List Int → Prop} (hx : okJ x) (hc : ∀ g a b, H g → isR x.length a b = true → H (stepR x g a b))
include hx hc
theorem pour_one {m i : Nat} (hm : m < x.length) (hi : i < x.length) (hne : i ≠ m) {r : Int} (hr : 0 ≤ r ∧ r < x[m]) (hxi : x[i] ≤ x[m]) (h : H (oneJ x m r)) : H (oneJ x m ((r + x[i]) % x[m])) := by
  have hq := okJ_mem hx _ (List.getElem_mem hi)
  have hq2 := okJ_mem hx _ (List.getElem_mem hm)
  have hzl : (zeroJ x).length = x.length := by simp [zeroJ]
  have gx : ∀ (k : Nat) (h : k < x.length), x.getD k 0 = x[k] := fun k h => by rw [List.getD_eq_getElem?_getD, List.getElem?_eq_getElem h]; rfl
  have h1 := hc _ (-1) i h (isR_of (by omega) (by omega) (by omega))
  have e1 : stepR x (oneJ x m r) (-1) i = (oneJ x m r).set i x[i] := by
    rw [stepR, if_pos rfl, Int.toNat_natCast, atQ, Int.toNat_natCast, gx i hi]
  rw [e1] at h1
  have h2 := hc _ i m h1 (isR_of (by omega) (by omega) (by omega))
  have a1 : atQ ((oneJ x m r).set i x[i]) i = x[i] := by
    rw [atQ, Int.toNat_natCast, List.getD_eq_getElem?_getD, List.getElem?_set_self (by simp [oneJ, hzl, hi])]; rfl
  have a2 : atQ ((oneJ x m r).set i x[i]) m = r := by
    rw [atQ, Int.toNat_natCast, List.getD_eq_getElem?_getD, List.getElem?_set_ne hne, oneJ, List.getElem?_set_self (by rw [hzl]; exact hm)]; rfl
  have a3 : atQ x m = x[m] := by rw [atQ, Int.toNat_natCast, gx m hm]
  have e2 : stepR x ((oneJ x m r).set i x[i]) i m = ((oneJ x m 0).set i (x[i] - min x[i] (x[m] - r))).set m (r + min x[i] (x[m] - r)) := by
    rw [stepR, if_neg (by omega), if_neg (by omega), a1, a2, a3, Int.toNat_natCast, Int.toNat_natCast, List.set_set]
    refine List.ext_getElem (by simp [oneJ]) fun k h1 h2 => ?_
    simp only [List.getElem_set, oneJ]
    by_cases hk : m = k
    · simp only [if_pos hk]
    · simp only [if_neg hk]
  rw [e2] at h2
  by_cases hlt : r + x[i] < x[m]
  · rw [show min x[i] (x[m] - r) = x[i] from by omega, Int.sub_self] at h2
    rw [Int.emod_eq_of_lt (by omega) hlt]
    have : ((oneJ x m 0).set i 0).set m (r + x[i]) = oneJ x m (r + x[i]) := by
      unfold oneJ
      rw [zero_set, zero_set]
    rw [this] at h2; exact h2
  · rw [show min x[i] (x[m] - r) = x[m] - r from by omega, show r + (x[m] - r) = x[m] from by omega] at h2
    have hmod : (r + x[i]) % x[m] = x[i] - (x[m] - r) := by
      rw [show r + x[i] = (x[i] - (x[m] - r)) + x[m] from by omega, Int.add_emod_right, Int.emod_eq_of_lt (by omega) (by omega)]
    rw [hmod]
    have h3 := hc _ m (-1) h2 (isR_of (by omega) (by omega) (by omega))
    have e3 : stepR x (((oneJ x m 0).set i (x[i] - (x[m] - r))).set m x[m]) m (-1) = (zeroJ x).set i (x[i] - (x[m] - r)) := by
      rw [stepR, if_neg (by omega), if_pos rfl, Int.toNat_natCast, List.set_set, oneJ, zero_set, List.set_comm _ _ hne, zero_set]
    rw [e3] at h3
    have h4 := hc _ i m h3 (isR_of (by omega) (by omega) (by omega))
    have b1 : atQ ((zeroJ x).set i (x[i] - (x[m] - r))) i = x[i] - (x[m] - r) := by
      rw [atQ, Int.toNat_natCast, List.getD_eq_getElem?_getD, List.getElem?_set_self (by rw [hzl]; exact hi)]; rfl
    have b2 : atQ ((zeroJ x).set i (x[i] - (x[m] - r))) m = 0 := by
      rw [atQ, Int.toNat_natCast, List.getD_eq_getElem?_getD, List.getElem?_set_ne hne, ← List.getD_eq_getElem?_getD, atQ_zero]
    have e4 : stepR x ((zeroJ x).set i (x[i] - (x[m] - r))) i m = oneJ x m (x[i] - (x[m] - r)) := by
      rw [stepR, if_neg (by omega), if_neg (by omega), b1, b2, a3, Int.toNat_natCast, Int.toNat_natCast, List.set_set, show min (x[i] - (x[m] - r)) (x[m] - 0) = x[i] - (x[m] - r) from by omega, Int.sub_self, zero_set, Int.zero_add]; rfl
    rw [e4] at h4; exact h4
/-- Every multiple up to the greatest jug is reached. -/
theorem reach_mul (h0 : H (zeroJ x)) (v : Nat) (hv : (v : Int) ≤ maxL x) (hd : gcdL x ∣ v) : ∃ g, H g ∧ g.length = x.length ∧ (v : Int) ∈ g := by
  have hne : x ≠ [] := fun h => by have := hx.1; rw [h] at this; simp at this
  have hmem : maxL x ∈ x := by
    have key : ∀ (l : List Int) (m : Int), l.foldl max m = m ∨ l.foldl max m ∈ l := by
      intro l
      induction l with
      | nil => exact fun m => .inl rfl
      | cons a l ih =>
        intro m
        rw [List.foldl_cons]
        rcases ih (max m a) with h | h
        · rw [h]
          rcases Int.le_total m a with h' | h'
          · exact .inr (by rw [Int.max_eq_right h']; simp)
          · exact .inl (Int.max_eq_left h')
        · exact .inr (List.mem_cons_of_mem _ h)
    unfold maxL
    rcases x with _ | ⟨a, l⟩
    · exact absurd rfl hne
    · rcases key (a :: l) a with h | h
      · rw [List.headD_cons, h]; simp
      · exact h
  obtain ⟨m, hm, hme⟩ := List.mem_iff_getElem.1 hmem
  have hzl : (zeroJ x).length = x.length := by simp [zeroJ]
  have hq := okJ_mem hx
  have hq2 := hq _ (List.getElem_mem hm)
  have hmax : ∀ (k : Nat) (h : k < x.length), x[k] ≤ x[m] := fun k h => by rw [hme]; exact (foldl_max_ge x _).2 _ (List.getElem_mem h)
  obtain ⟨M, hM⟩ := Int.eq_ofNat_of_zero_le (show 0 ≤ x[m] by omega)
  have hMp : 0 < M := by omega
  have had : ∀ y ∈ x.map Int.toNat, Adds M (fun r => H (oneJ x m r)) y := by
    intro y hy
    obtain ⟨z, hz, rfl⟩ := List.mem_map.1 hy
    obtain ⟨i, hi, rfl⟩ := List.mem_iff_getElem.1 hz
    have hqi := hq _ (List.getElem_mem hi)
    intro r hr h
    by_cases hne : i = m
    · subst hne
      rw [hM, Int.toNat_natCast, Nat.add_mod_right, Nat.mod_eq_of_lt hr]; exact h
    · have := pour_one hx hc hm hi hne (r := r) (by omega) (hmax i hi) h
      obtain ⟨z, hz⟩ := Int.eq_ofNat_of_zero_le (show 0 ≤ x[i] by omega)
      rw [hz, Int.toNat_natCast]
      rw [hz, hM] at this
      have e : ((r : Int) + (z : Int)) % (M : Int) = ((r + z) % M : Nat) := by rw [Int.natCast_emod, Int.natCast_add]
      rw [e] at this
      exact this
  have hg : Adds M (fun r => H (oneJ x m r)) (gcdL x) := Adds.fold hMp _ 0 .zero had
  obtain ⟨q, rfl⟩ := hd
  have h1 := (Adds.mul hMp hg q) 0 hMp (by show H (oneJ x m 0); rw [oneJ, zero_set]; exact h0)
  rw [Nat.zero_add, Nat.mul_comm q] at h1
  have hvm : (gcdL x * q : Nat) ≤ M := by rw [← hme, hM] at hv; omega
  by_cases hlt : gcdL x * q < M
  · rw [Nat.mod_eq_of_lt hlt] at h1
    refine ⟨_, h1, by simp [oneJ, hzl], ?_⟩
    exact List.mem_iff_getElem.2 ⟨m, by simp [oneJ, hzl, hm], by simp [oneJ]⟩
  · have : gcdL x * q = M := by omega
    rw [this]
    have h2 := hc _ (-1) m h0 (isR_of (by omega) (by omega) (by omega))
    have e : stepR x (zeroJ x) (-1) m = (zeroJ x).set m x[m] := by
      rw [stepR, if_pos rfl, Int.toNat_natCast, atQ, Int.toNat_natCast, List.getD_eq_getElem?_getD, List.getElem?_eq_getElem hm]; rfl
    rw [e] at h2
    exact ⟨_, h2, by simp [hzl], List.mem_iff_getElem.2 ⟨m, by simp [hzl, hm], by simp [hM]⟩⟩
end
end Go.Ab.Jug

namespace Go.Ab.Jug
open Go.Ab.V
set_option maxRecDepth 100000
theorem fE_app (P Q : List (Int × Int)) (v : Int) (h : ∀ p ∈ P, p.1 ≠ v) : fE (P ++ Q) v = fE Q v := by
  unfold fE
  rw [List.find?_append, List.find?_eq_none.2 fun p hp => by simpa using h p hp]; rfl
theorem fE_prs (g : List Int) (d : Int) (Q : List (Int × Int)) (v : Int) (h : v ∈ g) : fE (prs g d ++ Q) v = d := by
  induction g with
  | nil => simp at h
  | cons a g ih =>
    by_cases e : a = v
    · simp [fE, prs, e]
    · have := ih (by simpa [Ne.symm e] using h)
      exact (fE_app [(a, d)] _ v (by simp [e])).trans this
theorem amtP_cons (e : En) (L : List En) : amtP (e :: L) = prs e.g e.d ++ amtP L := rfl
theorem fE_at {v : Int} : ∀ {L : List En} {k : Nat} {e : En}, L[k]? = some e → v ∈ e.g → (∀ (j : Nat) (e' : En), j < k → L[j]? = some e' → v ∉ e'.g) → fE (amtP L) v = e.d
  | [], k, e, h, _, _ => by simp at h
  | a :: L, 0, e, h, hv, _ => by
    cases h
    rw [amtP_cons, fE_prs _ _ _ _ hv]
  | a :: L, k + 1, e, h, hv, hn => by
    rw [amtP_cons, fE_app _ _ _ fun p hp => by
      simp only [prs, List.mem_map] at hp
      obtain ⟨w, hw, rfl⟩ := hp
      exact fun e => hn 0 a (by omega) rfl (by rw [← e]; exact hw)]
    exact fE_at (by simpa using h) hv fun j e' hj he' => hn (j + 1) e' (by omega) (by simpa using he')
theorem fE_none {v : Int} {L : List En} (h : ∀ e ∈ L, v ∉ e.g) : fE (amtP L) v = -1 := by
  have := fE_app (amtP L) [] v fun p hp => by
    simp only [amtP, List.mem_flatMap, prs, List.mem_map] at hp
    obtain ⟨e, he, w, hw, rfl⟩ := hp
    exact fun q => h e he (by rw [← q]; exact hw)
  rw [List.append_nil] at this
  exact this
theorem fE_nonneg {v : Int} {L : List En} : 0 ≤ fE (amtP L) v ↔ ∃ e ∈ L, v ∈ e.g := by
  have h := fE_neg (amtP_pos L) v
  constructor
  · intro h0
    cases hc : (amtP L).find? fun p => decide (p.1 = v) with
    | none => rw [hc] at h; simp at h; omega
    | some p =>
      have h1 := List.mem_of_find?_eq_some hc
      have h2 := List.find?_some hc
      simp only [amtP, List.mem_flatMap, prs, List.mem_map] at h1
      obtain ⟨e, he, w, hw, rfl⟩ := h1
      exact ⟨e, he, by simpa using (of_decide_eq_true h2) ▸ hw⟩
  · rintro ⟨e, he, hv⟩
    have : ((amtP L).find? fun p => decide (p.1 = v)).isSome = true := by
      rw [List.find?_isSome]
      exact ⟨(v, e.d), by simp only [amtP, List.mem_flatMap, prs, List.mem_map]; exact ⟨e, he, v, hv, rfl⟩, by simp⟩
    rw [this] at h; simp at h; omega
/-- What a search for an amount tells. -/
theorem srch_amt {x : List Int} (hx : okJ x) {N : Nat} (hN : N = (bf x (zeroJ x) false N).length) (hj : ∀ j, j < N → j < (bf x (zeroJ x) false j).length) {v : Int} {M : Nat} {fb : Bool} {out : List Int} (hS : Srch x (zeroJ x) false (fun g => decide (v ∈ g)) M fb out) :
    (fb = true → fE (amtP (bf x (zeroJ x) false N)) v = (wayOf x (zeroJ x) false M fb).length ∧ (∃ g, v ∈ g ∧ fillB x g = true ∧ pourR x (zeroJ x) (wayOf x (zeroJ x) false M fb) = (g, (wayOf x (zeroJ x) false M fb).length)) ∧ (∀ s ∈ wayOf x (zeroJ x) false M fb, isR x.length s.1 s.2 = true) ∧ (wayOf x (zeroJ x) false M fb).length ≤ 28561) ∧
    (fb = false → fE (amtP (bf x (zeroJ x) false N)) v = -1 ∧ wayOf x (zeroJ x) false M fb = []) := by
  have hf := zeroJ_fill hx
  have hMN : M ≤ N := by
    rcases Nat.lt_or_ge N M with h | h
    · obtain ⟨e, he, _⟩ := hS.no N h
      have := (List.getElem?_eq_some_iff.1 he).1
      omega
    · exact h
  have hbl := bf_len (c := false) hx hf M
  have GM := bf_good (c := false) hf M
  constructor
  · intro hfb
    obtain ⟨e, he, hP, _⟩ := hS.yes hfb
    have hP : v ∈ e.g := by simpa using hP
    have hw : wayOf x (zeroJ x) false M fb = pathTo (bf x (zeroJ x) false M) e.d e.g := by unfold wayOf; rw [if_pos hfb, he]
    obtain ⟨h1, h2⟩ := path_pour GM M e he
    have hl := path_len GM M e he
    have hd := good_d GM M e he
    have := (List.getElem?_eq_some_iff.1 he).1
    refine ⟨?_, ⟨e.g, hP, GM.gfill hf (List.mem_of_getElem? he), ?_⟩, ?_, ?_⟩
    · rw [hw, hl]
      refine fE_at (bf_get hMN he) hP fun j e' hjM he' => ?_
      obtain ⟨e2, h3, h4⟩ := hS.no j hjM
      have := bf_get (j := N) (by omega) h3
      rw [he'] at this
      cases this
      simpa using h4
    · rw [hw, h1, hl]
    · rw [hw]; exact fun s hs => (h2 s hs).1
    · rw [hw, hl]; omega
  · intro hfb
    obtain ⟨hM, _⟩ := hS.none hfb
    have hNM : M = N := by
      rcases Nat.lt_or_ge M N with h | h
      · have := hj M h; omega
      · omega
    refine ⟨fE_none fun e he hv => ?_, by unfold wayOf; rw [if_neg (by rw [hfb]; simp)]⟩
    obtain ⟨j, hjl, hje⟩ := List.mem_iff_getElem.1 he
    obtain ⟨e', he', hP⟩ := hS.no j (by omega)
    have := bf_get (j := N) (by omega) he'
    rw [List.getElem?_eq_getElem hjl, hje] at this
    cases this
    simp at hP
    exact hP hv
/-! ### The amounts -/
theorem gcd_dvd_int {x : List Int} (hx : okJ x) {y : Int} (hy : y ∈ x) : (gcdL x : Int) ∣ y := by
  have h := (gcd_dvd (x.map Int.toNat) 0).2 y.toNat (List.mem_map.2 ⟨y, hy, rfl⟩)
  have := okJ_mem hx y hy
  have h2 : ((gcdL x : Nat) : Int) ∣ (y.toNat : Int) := Int.natCast_dvd_natCast.2 h
  rwa [Int.toNat_of_nonneg (by omega)] at h2
theorem step_dvd {x g : List Int} {k : Int} (hxk : ∀ y ∈ x, k ∣ y) (hg : ∀ y ∈ g, k ∣ y) (a b : Int) : ∀ y ∈ stepR x g a b, k ∣ y := by
  have hat : ∀ (l : List Int) (i : Int), (∀ y ∈ l, k ∣ y) → k ∣ atQ l i := fun l i h => by
    rw [atQ, List.getD_eq_getElem?_getD]
    cases hc : l[i.toNat]? with
    | none => exact Int.dvd_zero k
    | some y => exact h y (List.mem_of_getElem? hc)
  have hset : ∀ (l : List Int) (i : Nat) (w : Int), (∀ y ∈ l, k ∣ y) → k ∣ w → ∀ y ∈ l.set i w, k ∣ y := fun l i w h hw y hy => by
    rcases List.mem_or_eq_of_mem_set hy with h' | rfl
    · exact h y h'
    · exact hw
  have hmin : ∀ p q : Int, k ∣ p → k ∣ q → k ∣ min p q := fun p q hp hq => by
    rcases Int.le_total p q with h | h
    · rw [Int.min_eq_left h]; exact hp
    · rw [Int.min_eq_right h]; exact hq
  have ha := hat g a hg
  have hb := hat g b hg
  have hxb := hat x b hxk
  have hm := hmin _ _ ha (Int.dvd_sub hxb hb)
  unfold stepR
  split
  · exact hset _ _ _ hg hxb
  · split
    · exact hset _ _ _ hg (Int.dvd_zero k)
    · exact hset _ _ _ (hset _ _ _ hg (Int.dvd_sub ha hm)) (Int.dvd_add hb hm)
theorem good_dvd {x : List Int} (hx : okJ x) {L : List En} (G : Good x false (zeroJ x) L) : ∀ (k : Nat) (e : En), L[k]? = some e → ∀ y ∈ e.g, (gcdL x : Int) ∣ y := by
  intro k
  induction k using Nat.strongRecOn with
  | _ k ih =>
    intro e he
    rcases Nat.eq_zero_or_pos k with h | h
    · subst h
      rw [G.root] at he; cases he
      intro y hy
      rw [(List.mem_replicate.1 (show y ∈ List.replicate x.length 0 from hy)).2]
      exact Int.dvd_zero _
    · obtain ⟨j, e', h1, h2, h3, h4, h5⟩ := G.par k e he h
      rw [show e.g = stepR x e'.g e.st.1 e.st.2 from (succ_mem h5).2.1]
      exact step_dvd (fun y hy => gcd_dvd_int hx hy) (ih j h1 e' h2) _ _
theorem amt_iff {x : List Int} (hx : okJ x) {N : Nat} (hN : N = (bf x (zeroJ x) false N).length) (hj : ∀ j, j < N → j < (bf x (zeroJ x) false j).length) (v : Nat) :
    0 ≤ fE (amtP (bf x (zeroJ x) false N)) v ↔ (v : Int) ≤ maxL x ∧ gcdL x ∣ v := by
  have hf := zeroJ_fill hx
  have G := bf_good (c := false) hf N
  rw [fE_nonneg]
  constructor
  · rintro ⟨e, he, hv⟩
    obtain ⟨k, hk, hke⟩ := List.mem_iff_getElem.1 he
    have hd := good_dvd hx G k e (by rw [List.getElem?_eq_getElem hk, hke]) _ hv
    obtain ⟨i, hi, hiv⟩ := List.mem_iff_getElem.1 hv
    have hfe := (fillB_iff x _).1 (G.gfill hf he)
    have := hfe.2 i hi (by omega)
    have h2 : x[i]'(by omega) ≤ maxL x := (foldl_max_ge x _).2 _ (List.getElem_mem _)
    exact ⟨by omega, Int.natCast_dvd_natCast.1 hd⟩
  · rintro ⟨h1, h2⟩
    obtain ⟨g, hg, _, hv⟩ := reach_mul hx (H := fun g => hasE (bf x (zeroJ x) false N) g = true) (fun g a b hg h => bf_closed hf hN hj hg h (fun h => by cases h)) (hasE_iff.2 ⟨_, List.mem_of_getElem? G.root, rfl⟩) v h1 h2
    obtain ⟨e, he, rfl⟩ := hasE_iff.1 hg
    exact ⟨e, he, hv⟩
theorem amts_tab : ∀ g : Nat, g < 13 → 0 < g → ∀ m : Nat, m < 13 → ((List.range 13).filter fun i => decide (i ≤ m ∧ g ∣ i)) = (List.range (m / g + 1)).map fun k => k * g := by decide +kernel
def wantA (P : List (Int × Int)) (n : Nat) : List Int := ((List.range n).filter fun (i : Nat) => decide (0 ≤ fE P i)).map fun (i : Nat) => (i : Int)
theorem wantA_succ (P : List (Int × Int)) (n : Nat) : wantA P (n + 1) = if 0 ≤ fE P n then wantA P n ++ [(n : Int)] else wantA P n := by
  unfold wantA
  rw [List.range_succ, List.filter_append, List.map_append]
  by_cases h : 0 ≤ fE P n
  · rw [if_pos h]; simp [h]
  · rw [if_neg h]; simp [h]
theorem wantA_len (P : List (Int × Int)) (n : Nat) : (wantA P n).length ≤ n := by
  unfold wantA
  rw [List.length_map]
  have := List.length_filter_le (fun (i : Nat) => decide (0 ≤ fE P i)) (List.range n)
  rw [List.length_range] at this
  exact this
theorem want_amts {x : List Int} (hx : okJ x) {N : Nat} (hN : N = (bf x (zeroJ x) false N).length) (hj : ∀ j, j < N → j < (bf x (zeroJ x) false j).length) : wantA (amtP (bf x (zeroJ x) false N)) 13 = amts x := by
  have hg := gcdL_le hx
  have hg0 := gcdL_pos hx
  have hm := maxL_pos hx
  have h1 : ((List.range 13).filter fun (i : Nat) => decide (0 ≤ fE (amtP (bf x (zeroJ x) false N)) i)) = (List.range 13).filter fun i => decide (i ≤ (maxL x).toNat ∧ gcdL x ∣ i) := by
    refine List.filter_congr fun i _ => ?_
    rw [decide_eq_decide, amt_iff hx hN hj]
    constructor <;> rintro ⟨h, h'⟩ <;> exact ⟨by omega, h'⟩
  unfold wantA amts
  rw [h1, amts_tab _ (by omega) hg0 _ (by omega), List.map_map]
  exact List.map_congr_left fun k _ => by simp
end Go.Ab.Jug
