/- Proved: for every input the law DuesChecks returns true, and each argument reads afterwards as it read before. The card says it where the package variables that the law reads hold what their initialization left. -/
import Derived.Test.YtdjpaifhmiocnaaDoorRows
import Derived.WalkKit
import Derived.ProofKit
import Derived.OpenShut
import Derived.ShutString
import Derived.ChangeOld
import Derived.Below
import Derived.Carry
import Derived.Test.YtdjpaifhmiocnaaDoorCards
import Derived.Test.YtdjpaifhmiocnaaDoorTie
import Derived.SevenTiedAt
import Derived.Handed
import Derived.Test.YtdjpaifhmiocnaaDoorA04
set_option linter.unusedSimpArgs false
set_option linter.unusedVariables false
namespace Go.Ab.Dues
open Go.Ab.V
set_option maxRecDepth 100000
def ownCan (c : Can) : Can := ⟨c.up.take 11, c.cost.take 11, c.ships.take 8⟩
theorem own_ok (c : Can) (h1 : c.up.length ≤ 9223372036854775807) (h2 : c.cost.length ≤ 9223372036854775807) (h3 : c.ships.length ≤ 9223372036854775807) : VCall cfg 48 [canV c] [] [] (canV (ownCan c)) [] := by
  have k1 := few_ok c.up 11 (by decide) (by omega)
  have k2 := few_ok c.cost 11 (by decide) (by omega)
  have k3 := few_ok c.ships 8 (by decide) (by omega)
  unfold canV ownCan
  simp only
  generalize c.up.take 11 = u at *
  generalize c.cost.take 11 = v at *
  generalize c.ships.take 8 = w at *
  (refine VCall.mk (fn := a48) rfl rfl rfl ?_; simp only [a48, inV, mkB, nmsL, PT.set])
  (repeat (first | refine VC.seq ?_ | refine VC.block ?_ | refine VC.kill ?_ | refine VC.skip ?_ | refine VC.exit ?_ | refine VC.regA ?_ | refine VC.condT ?_ | refine VC.condF ?_))
  refine VC.planP [p1] rfl ?_
  (apply VPl.run; · (exact vPl))
  refine VPl.call (no_orc _ (by decide)) k1 rfl rfl rfl rfl ?_
  (apply VPl.run; · (exact vPl))
  refine VPl.call (no_orc _ (by decide)) k2 rfl rfl rfl rfl ?_
  (apply VPl.run; · (exact vPl))
  refine VPl.call (no_orc _ (by decide)) k3 rfl rfl rfl rfl ?_
  (apply VPl.run; · (exact vPl))
  refine VPl.stop (by decide) ?_
  refine VO.endA ?_
  (repeat (first | refine VC.seq ?_ | refine VC.block ?_ | refine VC.kill ?_ | refine VC.skip ?_ | refine VC.exit ?_ | refine VC.regA ?_ | refine VC.condT ?_ | refine VC.condF ?_))
  exact VC.ret (Fin.A rfl)
theorem eqVbD (a b : Bool) : eqV .bool (.p (.at (.bool a))) (.p (.at (.bool b))) = some (a == b) := by cases a <;> cases b <;> rfl
set_option maxHeartbeats 16000000 in
/-- No canal. -/
theorem checks_no (c0 : Can) (x : Int) (l : List Int) (h1 : c0.up.length ≤ 9223372036854775807) (h2 : c0.cost.length ≤ 9223372036854775807) (h3 : c0.ships.length ≤ 9223372036854775807) (h4 : l.length ≤ 9223372036854775807) (hno : ¬okC (ownCan c0)) : VCall cfg 14 [canV c0, vi x, sl1 l] [] [] (vb true) [] := by
  have k1 := own_ok c0 h1 h2 h3
  have b1 : (ownCan c0).up.length ≤ 11 := by unfold ownCan; simp only [List.length_take]; omega
  have b2 : (ownCan c0).cost.length ≤ 11 := by unfold ownCan; simp only [List.length_take]; omega
  have b3 : (ownCan c0).ships.length ≤ 8 := by unfold ownCan; simp only [List.length_take]; omega
  generalize ownCan c0 = c at *
  have k2 := given_ok c b1 b2 b3
  have k3 := RCheck_any c false ⟨(fun h => nomatch h), fun h => absurd h hno⟩ (by omega) (by omega) (by omega)
  have k4 := Check_no c hno (by omega) (by omega) (by omega)
  have k5 := few_ok l 8 (by decide) h4
  generalize l.take 8 = o at *
  have ko := open_no c hno (by omega) (by omega) (by omega)
  have he : badE 100 := .inl rfl
  have e1 := Equal_e he ko
  have e2 := Average_e he ko
  have e3 := IsFair_e he ko
  have e4 := Pieces_e he ko
  have e5 := Power_e he ko (-1)
  have e6 := ByOrder_e he ko o
  have ks := openSet_e he ko x
  have e7 := CostOf_e he x ks
  have e8 := Gain_e he x ks
  have kh := openShip_e he ko x
  have e9 := Needs_e he x kh
  have e10 := Least_e he x kh
  have e11 := Greatest_e he x kh
  have e12 := Without_e he x kh
  clear ko ks kh
  unfold canV nilV at *
  (refine VCall.mk (fn := a14) rfl rfl rfl ?_; simp only [a14, inV, mkB, nmsL, PT.set])
  (repeat (first | refine VC.seq ?_ | refine VC.block ?_ | refine VC.kill ?_ | refine VC.skip ?_ | refine VC.exit ?_ | refine VC.regA ?_ | refine VC.condT ?_ | refine VC.condF ?_))
  (refine VC.regCA ?_; refine VO.moreA ?_; refine VO.call0A (no_orc _ (by decide)) k1 ?_; refine VO.endA ?_; (repeat (first | refine VC.seq ?_ | refine VC.block ?_ | refine VC.kill ?_ | refine VC.skip ?_ | refine VC.exit ?_ | refine VC.regA ?_ | refine VC.condT ?_ | refine VC.condF ?_)))
  (refine VC.regCA ?_; refine VO.moreA ?_; refine VO.call0A (no_orc _ (by decide)) k2 ?_; refine VO.endA ?_; (repeat (first | refine VC.seq ?_ | refine VC.block ?_ | refine VC.kill ?_ | refine VC.skip ?_ | refine VC.exit ?_ | refine VC.regA ?_ | refine VC.condT ?_ | refine VC.condF ?_)))
  (refine VC.regCA ?_; refine VO.moreA ?_; refine VO.call0A (no_orc _ (by decide)) k3 ?_; refine VO.endA ?_; (repeat (first | refine VC.seq ?_ | refine VC.block ?_ | refine VC.kill ?_ | refine VC.skip ?_ | refine VC.exit ?_ | refine VC.regA ?_ | refine VC.condT ?_ | refine VC.condF ?_)))
  (refine VC.regCA ?_; refine VO.moreA ?_; refine VO.call0A (no_orc _ (by decide)) k4 ?_)
  have d1 : decide ((100 : Int) = 0) = false := rfl
  apply VO.upto
  · exact vF (And.intro eqVbD d1)
  refine VO.call0A (no_orc _ (by decide)) k4 ?_
  (refine VO.endA ?_; (repeat (first | refine VC.seq ?_ | refine VC.block ?_ | refine VC.kill ?_ | refine VC.skip ?_ | refine VC.exit ?_ | refine VC.regA ?_ | refine VC.condT ?_ | refine VC.condF ?_)))
  (refine VC.regCA ?_; refine VO.moreA ?_; refine VO.call0A (no_orc _ (by decide)) k5 ?_; refine VO.endA ?_; (repeat (first | refine VC.seq ?_ | refine VC.block ?_ | refine VC.kill ?_ | refine VC.skip ?_ | refine VC.exit ?_ | refine VC.regA ?_ | refine VC.condT ?_ | refine VC.condF ?_)))
  (refine VC.regCA ?_; refine VO.moreA ?_; refine VO.call0A (no_orc _ (by decide)) e1 ?_; refine VO.endA ?_; (repeat (first | refine VC.seq ?_ | refine VC.block ?_ | refine VC.kill ?_ | refine VC.skip ?_ | refine VC.exit ?_ | refine VC.regA ?_ | refine VC.condT ?_ | refine VC.condF ?_)))
  (refine VC.regCA ?_; refine VO.moreA ?_; refine VO.call0A (no_orc _ (by decide)) e2 ?_; refine VO.endA ?_; (repeat (first | refine VC.seq ?_ | refine VC.block ?_ | refine VC.kill ?_ | refine VC.skip ?_ | refine VC.exit ?_ | refine VC.regA ?_ | refine VC.condT ?_ | refine VC.condF ?_)))
  (refine VC.regCA ?_; refine VO.moreA ?_; refine VO.call0A (no_orc _ (by decide)) e3 ?_; refine VO.endA ?_; (repeat (first | refine VC.seq ?_ | refine VC.block ?_ | refine VC.kill ?_ | refine VC.skip ?_ | refine VC.exit ?_ | refine VC.regA ?_ | refine VC.condT ?_ | refine VC.condF ?_)))
  (refine VC.regCA ?_; refine VO.moreA ?_; refine VO.call0A (no_orc _ (by decide)) e4 ?_; refine VO.endA ?_; (repeat (first | refine VC.seq ?_ | refine VC.block ?_ | refine VC.kill ?_ | refine VC.skip ?_ | refine VC.exit ?_ | refine VC.regA ?_ | refine VC.condT ?_ | refine VC.condF ?_)))
  (refine VC.regCA ?_; refine VO.moreA ?_; refine VO.call0A (no_orc _ (by decide)) e5 ?_; refine VO.endA ?_; (repeat (first | refine VC.seq ?_ | refine VC.block ?_ | refine VC.kill ?_ | refine VC.skip ?_ | refine VC.exit ?_ | refine VC.regA ?_ | refine VC.condT ?_ | refine VC.condF ?_)))
  (refine VC.regCA ?_; refine VO.moreA ?_; refine VO.call0A (no_orc _ (by decide)) e6 ?_; refine VO.endA ?_; (repeat (first | refine VC.seq ?_ | refine VC.block ?_ | refine VC.kill ?_ | refine VC.skip ?_ | refine VC.exit ?_ | refine VC.regA ?_ | refine VC.condT ?_ | refine VC.condF ?_)))
  (refine VC.regCA ?_; refine VO.moreA ?_; refine VO.call0A (no_orc _ (by decide)) e7 ?_; refine VO.endA ?_; (repeat (first | refine VC.seq ?_ | refine VC.block ?_ | refine VC.kill ?_ | refine VC.skip ?_ | refine VC.exit ?_ | refine VC.regA ?_ | refine VC.condT ?_ | refine VC.condF ?_)))
  (refine VC.regCA ?_; refine VO.moreA ?_; refine VO.call0A (no_orc _ (by decide)) e8 ?_; refine VO.endA ?_; (repeat (first | refine VC.seq ?_ | refine VC.block ?_ | refine VC.kill ?_ | refine VC.skip ?_ | refine VC.exit ?_ | refine VC.regA ?_ | refine VC.condT ?_ | refine VC.condF ?_)))
  (refine VC.regCA ?_; refine VO.moreA ?_; refine VO.call0A (no_orc _ (by decide)) e9 ?_; refine VO.endA ?_; (repeat (first | refine VC.seq ?_ | refine VC.block ?_ | refine VC.kill ?_ | refine VC.skip ?_ | refine VC.exit ?_ | refine VC.regA ?_ | refine VC.condT ?_ | refine VC.condF ?_)))
  (refine VC.regCA ?_; refine VO.moreA ?_; refine VO.call0A (no_orc _ (by decide)) e10 ?_; refine VO.endA ?_; (repeat (first | refine VC.seq ?_ | refine VC.block ?_ | refine VC.kill ?_ | refine VC.skip ?_ | refine VC.exit ?_ | refine VC.regA ?_ | refine VC.condT ?_ | refine VC.condF ?_)))
  (refine VC.regCA ?_; refine VO.moreA ?_; refine VO.call0A (no_orc _ (by decide)) e11 ?_; refine VO.endA ?_; (repeat (first | refine VC.seq ?_ | refine VC.block ?_ | refine VC.kill ?_ | refine VC.skip ?_ | refine VC.exit ?_ | refine VC.regA ?_ | refine VC.condT ?_ | refine VC.condF ?_)))
  (refine VC.regCA ?_; refine VO.moreA ?_; refine VO.call0A (no_orc _ (by decide)) e12 ?_; refine VO.endA ?_; (repeat (first | refine VC.seq ?_ | refine VC.block ?_ | refine VC.kill ?_ | refine VC.skip ?_ | refine VC.exit ?_ | refine VC.regA ?_ | refine VC.condT ?_ | refine VC.condF ?_)))
  refine VC.regCA ?_
  refine VO.moreA ?_
  refine VO.knownA (.bool true) rfl ?_
  refine VO.endA ?_
  (repeat (first | refine VC.seq ?_ | refine VC.block ?_ | refine VC.kill ?_ | refine VC.skip ?_ | refine VC.exit ?_ | refine VC.regA ?_ | refine VC.condT ?_ | refine VC.condF ?_))
  exact VC.ret (Fin.A rfl)
end Go.Ab.Dues

namespace Go.Ab.Dues
open Go.Ab.V
set_option maxRecDepth 100000
set_option maxHeartbeats 16000000 in
/-- A canal. -/
theorem checks_yes (c0 : Can) (x : Int) (l : List Int) (h1 : c0.up.length ≤ 9223372036854775807) (h2 : c0.cost.length ≤ 9223372036854775807) (h3 : c0.ships.length ≤ 9223372036854775807) (h4 : l.length ≤ 9223372036854775807) (h : okC (ownCan c0)) : VCall cfg 14 [canV c0, vi x, sl1 l] [] [] (vb true) [] := by
  have k1 := own_ok c0 h1 h2 h3
  generalize ownCan c0 = c at *
  have h7 := h.s7
  have h10 := h.n10
  have hcl := h.cl
  have k2 := given_ok c (by omega) (by omega) (by omega)
  have k3 := RCheck_any c true ⟨fun _ => h, fun _ => rfl⟩ (by omega) (by omega) (by omega)
  have k4 := Check_ok c h
  have k5 := few_ok l 8 (by decide) h4
  have ho8 : (l.take 8).length ≤ 8 := by rw [List.length_take]; omega
  generalize l.take 8 = o at *
  have k6 := ROrder_any c h7 o ho8
  have k7 := ByOrder_bad c h o ho8
  have he : badE 1 := .inr rfl
  have ks := fun hx => openSet_arg c h x hx
  have e7 := fun hx => CostOf_e he x (ks hx)
  have e8 := fun hx => Gain_e he x (ks hx)
  have kh := fun hx => openShip_arg c h x hx
  have e9 := fun hx => Needs_e he x (kh hx)
  have e10 := fun hx => Least_e he x (kh hx)
  have e11 := fun hx => Greatest_e he x (kh hx)
  have e12 := fun hx => Without_e he x (kh hx)
  clear ks kh
  have hp7 : 2 ^ c.ships.length ≤ 128 := (show 2 ^ c.ships.length ≤ 2 ^ 7 from Nat.pow_le_pow_right (by decide) h7)
  have hlt : c.ships.length < 2 ^ c.ships.length := Nat.lt_two_pow_self
  have hshm := shl_one (n := c.ships.length) (by omega)
  generalize 2 ^ c.ships.length = W at *
  unfold canV nilV at *
  (refine VCall.mk (fn := a14) rfl rfl rfl ?_; simp only [a14, inV, mkB, nmsL, PT.set])
  (repeat (first | refine VC.seq ?_ | refine VC.block ?_ | refine VC.kill ?_ | refine VC.skip ?_ | refine VC.exit ?_ | refine VC.regA ?_ | refine VC.condT ?_ | refine VC.condF ?_))
  (refine VC.regCA ?_; refine VO.moreA ?_; refine VO.call0A (no_orc _ (by decide)) k1 ?_; refine VO.endA ?_; (repeat (first | refine VC.seq ?_ | refine VC.block ?_ | refine VC.kill ?_ | refine VC.skip ?_ | refine VC.exit ?_ | refine VC.regA ?_ | refine VC.condT ?_ | refine VC.condF ?_)))
  (refine VC.regCA ?_; refine VO.moreA ?_; refine VO.call0A (no_orc _ (by decide)) k2 ?_; refine VO.endA ?_; (repeat (first | refine VC.seq ?_ | refine VC.block ?_ | refine VC.kill ?_ | refine VC.skip ?_ | refine VC.exit ?_ | refine VC.regA ?_ | refine VC.condT ?_ | refine VC.condF ?_)))
  (refine VC.regCA ?_; refine VO.moreA ?_; refine VO.call0A (no_orc _ (by decide)) k3 ?_; refine VO.endA ?_; (repeat (first | refine VC.seq ?_ | refine VC.block ?_ | refine VC.kill ?_ | refine VC.skip ?_ | refine VC.exit ?_ | refine VC.regA ?_ | refine VC.condT ?_ | refine VC.condF ?_)))
  refine VC.regCA ?_
  refine VO.moreA ?_
  refine VO.call0A (no_orc _ (by decide)) k4 ?_
  have d1 : decide ((0 : Int) = 0) = true := rfl
  apply VO.uptoE
  · exact vF (And.intro eqVbD d1)
  (repeat (first | refine VC.seq ?_ | refine VC.block ?_ | refine VC.kill ?_ | refine VC.skip ?_ | refine VC.exit ?_ | refine VC.regA ?_ | refine VC.condT ?_ | refine VC.condF ?_))
  (refine VC.regCA ?_; refine VO.moreA ?_; refine VO.call0A (no_orc _ (by decide)) k5 ?_; refine VO.endA ?_; (repeat (first | refine VC.seq ?_ | refine VC.block ?_ | refine VC.kill ?_ | refine VC.skip ?_ | refine VC.exit ?_ | refine VC.regA ?_ | refine VC.condT ?_ | refine VC.condF ?_)))
  refine VC.cut ⟨inV [p1, p8, p9, p10, p11] [vi x, .op 0 p8 0, vi 1, vb true, vi c.ships.length] .lf, mkB [(p8, .cells [sl1 c.up, sl1 c.cost, sl1 c.ships])] .lf, [], none⟩ ?_ ?_
  · by_cases ho : ordR c.ships.length o
    · have k6 := k6 true ⟨fun _ => ho, fun _ => rfl⟩
      (refine VC.regCA ?_; refine VO.moreA ?_; refine VO.call0A (no_orc _ (by decide)) k6 ?_; refine VO.endA ?_; (repeat (first | refine VC.seq ?_ | refine VC.block ?_ | refine VC.kill ?_ | refine VC.skip ?_ | refine VC.exit ?_ | refine VC.regA ?_ | refine VC.condT ?_ | refine VC.condF ?_)))
      exact gW
    · have k6 := k6 false ⟨(fun h => nomatch h), fun h => absurd h ho⟩
      have k7 := k7 ho
      (refine VC.regCA ?_; refine VO.moreA ?_; refine VO.call0A (no_orc _ (by decide)) k6 ?_; refine VO.endA ?_; (repeat (first | refine VC.seq ?_ | refine VC.block ?_ | refine VC.kill ?_ | refine VC.skip ?_ | refine VC.exit ?_ | refine VC.regA ?_ | refine VC.condT ?_ | refine VC.condF ?_)))
      (refine VC.regCA ?_; refine VO.moreA ?_; refine VO.call0A (no_orc _ (by decide)) k7 ?_; refine VO.endA ?_; (repeat (first | refine VC.seq ?_ | refine VC.block ?_ | refine VC.kill ?_ | refine VC.skip ?_ | refine VC.exit ?_ | refine VC.regA ?_ | refine VC.condT ?_ | refine VC.condF ?_)))
      exact gW
  simp only [inV, PT.set, mkB]
  (repeat (first | refine VC.seq ?_ | refine VC.block ?_ | refine VC.kill ?_ | refine VC.skip ?_ | refine VC.exit ?_ | refine VC.regA ?_ | refine VC.condT ?_ | refine VC.condF ?_))
  refine VC.cut ⟨inV [p1, p8, p9, p10, p11] [vi x, .op 0 p8 0, vi 1, vb true, vi c.ships.length] .lf, mkB [(p8, .cells [sl1 c.up, sl1 c.cost, sl1 c.ships])] .lf, [], none⟩ ?_ ?_
  · by_cases x0 : x < 0
    · have e7 := e7 (by omega)
      have e8 := e8 (by omega)
      ((try (apply VC.regU; · (exact vF (decide_eq_true x0)))); (repeat (first | refine VC.seq ?_ | refine VC.block ?_ | refine VC.kill ?_ | refine VC.skip ?_ | refine VC.exit ?_ | refine VC.regA ?_ | refine VC.condT ?_ | refine VC.condF ?_)))
      (refine VC.regCA ?_; refine VO.moreA ?_; refine VO.call0A (no_orc _ (by decide)) e7 ?_; refine VO.endA ?_; (repeat (first | refine VC.seq ?_ | refine VC.block ?_ | refine VC.kill ?_ | refine VC.skip ?_ | refine VC.exit ?_ | refine VC.regA ?_ | refine VC.condT ?_ | refine VC.condF ?_)))
      (refine VC.regCA ?_; refine VO.moreA ?_; refine VO.call0A (no_orc _ (by decide)) e8 ?_; refine VO.endA ?_; (repeat (first | refine VC.seq ?_ | refine VC.block ?_ | refine VC.kill ?_ | refine VC.skip ?_ | refine VC.exit ?_ | refine VC.regA ?_ | refine VC.condT ?_ | refine VC.condF ?_)))
      exact gW
    · by_cases x1 : x ≥ (W : Int)
      · have e7 := e7 (by omega)
        have e8 := e8 (by omega)
        ((try (apply VC.regU; · (exact vF (And.intro (decide_eq_false x0) (And.intro hshm (decide_eq_true x1)))))); (repeat (first | refine VC.seq ?_ | refine VC.block ?_ | refine VC.kill ?_ | refine VC.skip ?_ | refine VC.exit ?_ | refine VC.regA ?_ | refine VC.condT ?_ | refine VC.condF ?_)))
        (refine VC.regCA ?_; refine VO.moreA ?_; refine VO.call0A (no_orc _ (by decide)) e7 ?_; refine VO.endA ?_; (repeat (first | refine VC.seq ?_ | refine VC.block ?_ | refine VC.kill ?_ | refine VC.skip ?_ | refine VC.exit ?_ | refine VC.regA ?_ | refine VC.condT ?_ | refine VC.condF ?_)))
        (refine VC.regCA ?_; refine VO.moreA ?_; refine VO.call0A (no_orc _ (by decide)) e8 ?_; refine VO.endA ?_; (repeat (first | refine VC.seq ?_ | refine VC.block ?_ | refine VC.kill ?_ | refine VC.skip ?_ | refine VC.exit ?_ | refine VC.regA ?_ | refine VC.condT ?_ | refine VC.condF ?_)))
        exact gW
      · ((try (apply VC.regU; · (exact vF (And.intro (decide_eq_false x0) (And.intro hshm (decide_eq_false x1)))))); (repeat (first | refine VC.seq ?_ | refine VC.block ?_ | refine VC.kill ?_ | refine VC.skip ?_ | refine VC.exit ?_ | refine VC.regA ?_ | refine VC.condT ?_ | refine VC.condF ?_)))
        exact gW
  simp only [inV, PT.set, mkB]
  (repeat (first | refine VC.seq ?_ | refine VC.block ?_ | refine VC.kill ?_ | refine VC.skip ?_ | refine VC.exit ?_ | refine VC.regA ?_ | refine VC.condT ?_ | refine VC.condF ?_))
  by_cases x0 : x ≥ 0
  · by_cases x1 : x < (c.ships.length : Int)
    · ((try (apply VC.regU; · (exact vF (And.intro (decide_eq_true x0) (decide_eq_true x1))))); (repeat (first | refine VC.seq ?_ | refine VC.block ?_ | refine VC.kill ?_ | refine VC.skip ?_ | refine VC.exit ?_ | refine VC.regA ?_ | refine VC.condT ?_ | refine VC.condF ?_)))
      refine VC.regCA ?_
      refine VO.moreA ?_
      refine VO.knownA (.bool true) rfl ?_
      refine VO.endA ?_
      (repeat (first | refine VC.seq ?_ | refine VC.block ?_ | refine VC.kill ?_ | refine VC.skip ?_ | refine VC.exit ?_ | refine VC.regA ?_ | refine VC.condT ?_ | refine VC.condF ?_))
      exact VC.ret (Fin.A rfl)
    · have e9 := e9 (by omega)
      have e10 := e10 (by omega)
      have e11 := e11 (by omega)
      have e12 := e12 (by omega)
      ((try (apply VC.regU; · (exact vF (And.intro (decide_eq_true x0) (decide_eq_false x1))))); (repeat (first | refine VC.seq ?_ | refine VC.block ?_ | refine VC.kill ?_ | refine VC.skip ?_ | refine VC.exit ?_ | refine VC.regA ?_ | refine VC.condT ?_ | refine VC.condF ?_)))
      (refine VC.regCA ?_; refine VO.moreA ?_; refine VO.call0A (no_orc _ (by decide)) e9 ?_; refine VO.endA ?_; (repeat (first | refine VC.seq ?_ | refine VC.block ?_ | refine VC.kill ?_ | refine VC.skip ?_ | refine VC.exit ?_ | refine VC.regA ?_ | refine VC.condT ?_ | refine VC.condF ?_)))
      (refine VC.regCA ?_; refine VO.moreA ?_; refine VO.call0A (no_orc _ (by decide)) e10 ?_; refine VO.endA ?_; (repeat (first | refine VC.seq ?_ | refine VC.block ?_ | refine VC.kill ?_ | refine VC.skip ?_ | refine VC.exit ?_ | refine VC.regA ?_ | refine VC.condT ?_ | refine VC.condF ?_)))
      (refine VC.regCA ?_; refine VO.moreA ?_; refine VO.call0A (no_orc _ (by decide)) e11 ?_; refine VO.endA ?_; (repeat (first | refine VC.seq ?_ | refine VC.block ?_ | refine VC.kill ?_ | refine VC.skip ?_ | refine VC.exit ?_ | refine VC.regA ?_ | refine VC.condT ?_ | refine VC.condF ?_)))
      (refine VC.regCA ?_; refine VO.moreA ?_; refine VO.call0A (no_orc _ (by decide)) e12 ?_; refine VO.endA ?_; (repeat (first | refine VC.seq ?_ | refine VC.block ?_ | refine VC.kill ?_ | refine VC.skip ?_ | refine VC.exit ?_ | refine VC.regA ?_ | refine VC.condT ?_ | refine VC.condF ?_)))
      refine VC.regCA ?_
      refine VO.moreA ?_
      refine VO.knownA (.bool true) rfl ?_
      refine VO.endA ?_
      (repeat (first | refine VC.seq ?_ | refine VC.block ?_ | refine VC.kill ?_ | refine VC.skip ?_ | refine VC.exit ?_ | refine VC.regA ?_ | refine VC.condT ?_ | refine VC.condF ?_))
      exact VC.ret (Fin.A rfl)
  · have e9 := e9 (by omega)
    have e10 := e10 (by omega)
    have e11 := e11 (by omega)
    have e12 := e12 (by omega)
    ((try (apply VC.regU; · (exact vF (decide_eq_false x0)))); (repeat (first | refine VC.seq ?_ | refine VC.block ?_ | refine VC.kill ?_ | refine VC.skip ?_ | refine VC.exit ?_ | refine VC.regA ?_ | refine VC.condT ?_ | refine VC.condF ?_)))
    (refine VC.regCA ?_; refine VO.moreA ?_; refine VO.call0A (no_orc _ (by decide)) e9 ?_; refine VO.endA ?_; (repeat (first | refine VC.seq ?_ | refine VC.block ?_ | refine VC.kill ?_ | refine VC.skip ?_ | refine VC.exit ?_ | refine VC.regA ?_ | refine VC.condT ?_ | refine VC.condF ?_)))
    (refine VC.regCA ?_; refine VO.moreA ?_; refine VO.call0A (no_orc _ (by decide)) e10 ?_; refine VO.endA ?_; (repeat (first | refine VC.seq ?_ | refine VC.block ?_ | refine VC.kill ?_ | refine VC.skip ?_ | refine VC.exit ?_ | refine VC.regA ?_ | refine VC.condT ?_ | refine VC.condF ?_)))
    (refine VC.regCA ?_; refine VO.moreA ?_; refine VO.call0A (no_orc _ (by decide)) e11 ?_; refine VO.endA ?_; (repeat (first | refine VC.seq ?_ | refine VC.block ?_ | refine VC.kill ?_ | refine VC.skip ?_ | refine VC.exit ?_ | refine VC.regA ?_ | refine VC.condT ?_ | refine VC.condF ?_)))
    (refine VC.regCA ?_; refine VO.moreA ?_; refine VO.call0A (no_orc _ (by decide)) e12 ?_; refine VO.endA ?_; (repeat (first | refine VC.seq ?_ | refine VC.block ?_ | refine VC.kill ?_ | refine VC.skip ?_ | refine VC.exit ?_ | refine VC.regA ?_ | refine VC.condT ?_ | refine VC.condF ?_)))
    refine VC.regCA ?_
    refine VO.moreA ?_
    refine VO.knownA (.bool true) rfl ?_
    refine VO.endA ?_
    (repeat (first | refine VC.seq ?_ | refine VC.block ?_ | refine VC.kill ?_ | refine VC.skip ?_ | refine VC.exit ?_ | refine VC.regA ?_ | refine VC.condT ?_ | refine VC.condF ?_))
    exact VC.ret (Fin.A rfl)
theorem checks_law (c0 : Can) (x : Int) (l : List Int) (h1 : c0.up.length ≤ 9223372036854775807) (h2 : c0.cost.length ≤ 9223372036854775807) (h3 : c0.ships.length ≤ 9223372036854775807) (h4 : l.length ≤ 9223372036854775807) : VCall cfg 14 [canV c0, vi x, sl1 l] [] [] (vb true) [] := by
  by_cases h : okC (ownCan c0)
  · exact checks_yes c0 x l h1 h2 h3 h4 h
  · exact checks_no c0 x l h1 h2 h3 h4 h
end Go.Ab.Dues

namespace Go.Proofs.YtdjpaifhmiocnaaDoor.duesChecks
open Go.ChangeShapes Go.WideShapes Go.ChangeAt Go.RowKit
open Go.ChangeMaps (open_string shut_string)
open Go.Ab Go.Ab.V Go.Ab.Dues
set_option linter.unusedVariables false
theorem own : ownKnob Tryd.prog.godebug = none := by kernel_rfl
theorem laidOut : laidOutB Tryd.prog = true := by kernel_rfl
theorem orc : OrcOK Tryd.prog cfg := orcOK mixed tab0 (fun h => by cases h) rfl awake_closed
theorem tab : TabOK Tryd.prog cfg := tab0
set_option maxRecDepth 100000 in
theorem lifted (os : Os) (started : os.Started) (H : Type) (enc : TypeId × Value → H) :
    ReturnsInHanded {} Tryd.checked os 14 .any (fun w args => (Rows.duesChecksSpec.pre enc Tryd.prog Tryd.f14 Rows.duesChecksRow.domain false w args ∧ laidMetH Tryd.prog Rows.duesChecksRow.laid w) ∧ sizedMet enc Tryd.prog Tryd.f14 (OpenSpec.ofChange Rows.duesChecksSpec) false w args) (Rows.duesChecksSpec.post enc Tryd.prog Tryd.f14 false true false false) := by
  refine returnsInHanded_of_change_and (C := Tryd.checked) (X := fun w _ => laidMetH Tryd.prog Rows.duesChecksRow.laid w) (fun _ _ _ hh h => h.of_heap hh) own started (by kernel_rfl) Tryd.func14
    (ChangeSpec.witness_at (enc := enc) (C := Tryd.checked) (os := os) (X := fun w _ => laidMetH Tryd.prog Rows.duesChecksRow.laid w) false (laidWorld os) #[.agg #[.slice none 0 0, .slice none 0 0, .slice none 0 0], .int .i64 0, .slice none 0 0] 8 rfl (by kernel_rfl) (by kernel_rfl) (by kernel_rfl) (by kernel_rfl) (by kernel_rfl) (laidWorld_met os _)) ?_
  intro W base args ds gs before hval0 hW hcnd _ hL _
  have hval : ∀ (j : Nat) t v, Tryd.f14.params[j]? = some t → args[j]? = some v → Value.okWide Tryd.prog W .any base t v := hval0
  have hW' := hW
  obtain ⟨p, q, hA0, hV, rfl, hfz, hnd⟩ := hW
  have hA : DataW.TrodAll enc Tryd.prog W 0 (fun _ => true) true Tryd.f14.params.toList args.toList ds p := hA0
  rw [Tryd.params14] at hA hval
  obtain ⟨v0, vs0, d0, ds0, p0, q0, hargs, rfl, rfl, h0, r0⟩ := trodAll_cons hA
  obtain ⟨v1, vs1, d1, ds1, p1, q1, rfl, rfl, rfl, h1, r1⟩ := trodAll_cons r0
  obtain ⟨v2, vs2, d2, ds2, p2, q2, rfl, rfl, rfl, h2, r2⟩ := trodAll_cons r1
  obtain ⟨rfl, rfl, rfl⟩ := trodAll_nil r2
  obtain rfl : args = #[v0, v1, v2] := by cases args; simp_all
  obtain ⟨rfl, rfl⟩ := trodVars_none hV
  obtain ⟨c0, rfl⟩ := V.okWide_st Tryd.underlying24 (hval 0 24 v0 rfl rfl)
  have k0 := h0
  have lt0 : ∀ x ∈ p0, x.block < W.heap.size := by obtain ⟨m, hm⟩ := k0; exact DataW.trod_lt m _ _ _ hm
  have lv0 : V.Leaves Tryd.prog 24 [.sl [.int .i64], .sl [.int .i64], .sl [.int .i64]] := (.st Tryd.underlying24 (.cons rfl (.sl Tryd.underlying22 (.int Tryd.underlying3) (by kernel_rfl) (by simp)) (by kernel_rfl) (.cons rfl (.sl Tryd.underlying22 (.int Tryd.underlying3) (by kernel_rfl) (by simp)) (by kernel_rfl) (.cons rfl (.sl Tryd.underlying22 (.int Tryd.underlying3) (by kernel_rfl) (by simp)) (by kernel_rfl) .nil))) (by kernel_rfl))
  obtain ⟨ds0_0, wt0_0, zr0, zv0⟩ := V.arg_agg (show V.OpenR W [.sl [.int .i64], .sl [.int .i64], .sl [.int .i64]] c0.toList from by obtain ⟨fuel, hf⟩ := h0; exact V.open_all lv0 hf)
  obtain ⟨z0_0, ds0_1, eq0_0, zl0_0, zb0_0, wt0_1⟩ := V.wt_sl1 wt0_0
  obtain ⟨z0_1, ds0_2, eq0_1, zl0_1, zb0_1, wt0_2⟩ := V.wt_sl1 wt0_1
  obtain ⟨z0_2, ds0_3, eq0_2, zl0_2, zb0_2, wt0_3⟩ := V.wt_sl1 wt0_2
  rw [eq0_0, eq0_1, eq0_2, V.wt_nil wt0_3] at zv0
  obtain ⟨a1, rfl, rfl, rfl, w1⟩ := open_int Tryd.underlying3 (hval 1 3 v1 rfl rfl) h1
  obtain ⟨a2, len2, cap2, rfl⟩ := okWide_slice Tryd.underlying22 (hval 2 22 v2 rfl rfl)
  have k2 := h2
  have lt2 : ∀ x ∈ p2, x.block < W.heap.size := by obtain ⟨m, hm⟩ := k2; exact DataW.trod_lt m _ _ _ hm
  obtain ⟨z2, w2⟩ : ∃ zs, V.IsRow .i64 W a2 len2 cap2 zs := by
    obtain ⟨fuel, hf⟩ := h2
    rcases open_ints Tryd.underlying22 Tryd.underlying3 (by kernel_rfl) hf with ⟨hcs, _⟩ | ⟨x, l, c, zs, hcs, _, hl, hm, hz, _, hcell, hwz⟩
    · simp [Value.cells] at hcs
      obtain ⟨rfl, rfl, rfl⟩ := hcs
      exact ⟨[], .inl ⟨rfl, rfl, rfl, rfl⟩⟩
    · simp [Value.cells] at hcs
      obtain ⟨rfl, rfl, rfl⟩ := hcs
      exact ⟨zs, .inr ⟨_, rfl, hl, hm, by simpa using hz, hcell, hwz⟩⟩
  obtain ⟨av2, ar2, ap2, al2⟩ := arg_ints w2
  clear hA0 hval0
  refine (calls_true mixed tab orc (checks_law ⟨_, _, _⟩ _ _ zl0_0 zl0_1 zl0_2 al2) (hgl := glob_of_laid hL) (All2.cons zv0 (All2.cons (.p (.at rfl)) (All2.cons ap2 .nil))) (LR.cons zr0 (LR.cons (.int _ _) (LR.cons ar2 (LR.nil _))))).mono fun e W' ⟨he, bel⟩ => ?_
  subst he
  exact ⟨_, rfl, _, _, _, [], _, [], hW', trodAll_mk1 (shut_bool Tryd.underlying4 _), (trodAll_cons_mk (Below.trod laidOut (by kernel_rfl) (of_decide_eq_true (by kernel_rfl)) k0 bel lt0) (trodAll_cons_mk (shut_int Tryd.underlying3 w1) (trodAll_cons_mk (Below.trod laidOut (by kernel_rfl) (of_decide_eq_true (by kernel_rfl)) k2 bel lt2) trodAll_mk0))), rfl, bel.frame _, fun h => by cases h⟩
theorem over : Rows.duesChecksRow.holds Tryd.pinned (OpenSpec.ofChange Rows.duesChecksSpec) :=
  OpenClaim.holds_of_wide 14 Tryd.f14 rfl rfl rfl rfl rfl rfl rfl ⟨rfl, rfl, rfl, rfl, rfl⟩ rfl rfl rfl rfl rfl (by kernel_rfl) Tryd.func14 (by kernel_rfl)
    (of_decide_eq_true (by kernel_rfl)) (by unfold Func.isWrapper; first | (rw [if_pos (by decide +kernel)]; kernel_rfl) | (rw [if_neg (by decide +kernel)]; exact ⟨rfl, rfl⟩))
    (fun os started H enc _ => lifted os started H enc)
theorem card : Rows.DuesChecksCardSaid :=
  Claim7.holds_tied_plain_at .later [] Rows.duesChecksCard.laidKinds true Rows.duesChecksCard.stood.harness false
    over (fun _ h => by cases h) (by kernel_rfl) (fun _ h => by cases h) duesChecks_row_tie rfl ⟨rfl, rfl⟩ (by kernel_rfl) rfl
    (fun f fn hf hfn => by
      obtain rfl : f = 14 := Option.some.inj ((show Tryd.prog.funcNamed Rows.duesChecksRow.func = some 14 by kernel_rfl).symm.trans hf) |>.symm
      obtain rfl : fn = Tryd.f14 := (Option.some.inj (Tryd.func14.symm.trans hfn)).symm
      exact ⟨by kernel_rfl, fun j t ht => by
        rw [Tryd.params14] at ht
        have h3 : t = 24 ∨ t = 3 ∨ t = 22 := by
          have hm : t ∈ [24, 3, 22] := List.mem_of_getElem? (by simpa using ht)
          simpa using hm
        rcases h3 with rfl | rfl | rfl
        · exact (show Tryd.prog.wantsStandIn 24 = false by kernel_rfl)
        · exact (show Tryd.prog.wantsStandIn 3 = false by kernel_rfl)
        · exact (show Tryd.prog.wantsStandIn 22 = false by kernel_rfl)⟩)
    (by kernel_rfl)
theorem proved : Rows.DuesChecksCardSaid := card
end Go.Proofs.YtdjpaifhmiocnaaDoor.duesChecks
namespace Go.Proofs.YtdjpaifhmiocnaaDoor
/-- The row, under a short name, for the claim. -/
theorem duesChecks_holds : Rows.DuesChecksCardSaid := duesChecks.proved
end Go.Proofs.YtdjpaifhmiocnaaDoor
