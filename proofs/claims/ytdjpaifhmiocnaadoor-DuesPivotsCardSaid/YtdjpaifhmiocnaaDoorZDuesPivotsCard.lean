/- Proved: for every input the law DuesPivots returns true, and each argument reads afterwards as it read before. The card says it where the package variables that the law reads hold what their initialization left. -/
import Derived.Test.YtdjpaifhmiocnaaDoorRows
import Derived.WalkKit
import Derived.ProofKit
import Derived.OpenShut
import Derived.ShutString
import Derived.ChangeOld
import Derived.Below
import Derived.Carry
import Derived.Test.YtdjpaifhmiocnaaDoorCards
import Derived.Test.YtdjpaifhmiocnaaDoorTie
import Derived.SevenTiedAt
import Derived.Handed
import Derived.Test.YtdjpaifhmiocnaaDoorA04
set_option linter.unusedSimpArgs false
set_option linter.unusedVariables false
namespace Go.Ab.Dues
open Go.Ab.V
set_option maxRecDepth 100000
def idx (l : List Int) (v : Int) : Int := if v ∈ l then (l.findIdx fun y => decide (y = v) : Nat) else -1
theorem idx_hit {l : List Int} {v : Int} {i : Nat} (h : i < l.length) (hv : l[i] = v) (hn : ∀ k (hk : k < i), l[k]'(by omega) ≠ v) : idx l v = i := by
  unfold idx
  rw [if_pos (by rw [← hv]; exact List.getElem_mem h)]
  congr 1
  rw [List.findIdx_eq h]
  exact ⟨by simp [hv], fun j hj => by simp [hn j hj]⟩
theorem idx_pos (l : List Int) (v : Int) : decide (idx l v ≥ 0) = decide (v ∈ l) := by
  unfold idx
  by_cases h : v ∈ l
  · rw [if_pos h]; simp [h]
  · rw [if_neg h]; simp [h]
set_option maxHeartbeats 4000000 in
theorem Index_ok (l : List Int) (v : Int) (hl : l.length ≤ 1000000) : VCall cfg 88 [sl1 l, vi v] [] [] (vi (idx l v)) [] := by
  (refine VCall.mk (fn := a88) rfl rfl rfl ?_; simp only [a88, inV, mkB, nmsL, PT.set])
  (repeat (first | refine VC.seq ?_ | refine VC.block ?_ | refine VC.kill ?_ | refine VC.skip ?_ | refine VC.exit ?_ | refine VC.regA ?_ | refine VC.condT ?_ | refine VC.condF ?_))
  refine VC.loopG (fun (i : Nat) => ⟨inV [p0, p1, p7, p8] [sl1 l, vi v, vi l.length, vi i] .lf, .lf, [], none⟩) (fun n i => n = l.length - i ∧ i ≤ l.length ∧ ∀ k (hk : k < i) (hk' : k < l.length), l[k] ≠ v) (x := 0) ?_ ⟨rfl, by omega, fun k hk => absurd hk (Nat.not_lt_zero k)⟩ ?_
  · exact gW
  rintro n i ⟨hn, hi, ho⟩
  simp only [inV, PT.set]
  (repeat (first | refine VC.seq ?_ | refine VC.block ?_ | refine VC.kill ?_ | refine VC.skip ?_ | refine VC.exit ?_ | refine VC.regA ?_ | refine VC.condT ?_ | refine VC.condF ?_))
  refine VC.condA ?_ ?_ <;> intro h <;> (simp only [decide_eq_true_eq, decide_eq_false_iff_not, bne_iff_ne, ne_eq, bne_eq_false_iff_eq, beq_iff_eq, beq_eq_false_iff_ne, Bool.not_eq_true', Bool.not_eq_false', Bool.and_eq_true, Bool.or_eq_true, Int.natCast_inj] at h)
  · have h : i < l.length := by omega
    (repeat (first | refine VC.seq ?_ | refine VC.block ?_ | refine VC.kill ?_ | refine VC.skip ?_ | refine VC.exit ?_ | refine VC.regA ?_ | refine VC.condT ?_ | refine VC.condF ?_))
    refine VC.condA ?_ ?_ <;> intro h' <;> (simp only [decide_eq_true_eq, decide_eq_false_iff_not, bne_iff_ne, ne_eq, bne_eq_false_iff_eq, beq_iff_eq, beq_eq_false_iff_ne, Bool.not_eq_true', Bool.not_eq_false', Bool.and_eq_true, Bool.or_eq_true, Int.natCast_inj] at h')
    · (repeat (first | refine VC.seq ?_ | refine VC.block ?_ | refine VC.kill ?_ | refine VC.skip ?_ | refine VC.exit ?_ | refine VC.regA ?_ | refine VC.condT ?_ | refine VC.condF ?_))
      rw [idx_hit h h'.symm (fun k hk => ho k hk (by omega))]
      exact VC.ret (Fin.A rfl)
    · (repeat (first | refine VC.seq ?_ | refine VC.block ?_ | refine VC.kill ?_ | refine VC.skip ?_ | refine VC.exit ?_ | refine VC.regA ?_ | refine VC.condT ?_ | refine VC.condF ?_))
      refine ⟨_, i + 1, ?_, ⟨rfl, by omega, fun k hk hk' => ?_⟩, ?_⟩
      · omega
      · rcases Nat.lt_or_ge k i with h1 | h1
        · exact ho k h1 hk'
        · have : k = i := by omega
          subst this; exact fun h => h' h.symm
      · exact gW
  · have h : i = l.length := by omega
    have : idx l v = -1 := by
      unfold idx
      rw [if_neg]
      intro hm
      obtain ⟨k, hk, e⟩ := List.mem_iff_getElem.1 hm
      exact ho k (by omega) hk e
    rw [this]
    (repeat (first | refine VC.seq ?_ | refine VC.block ?_ | refine VC.kill ?_ | refine VC.skip ?_ | refine VC.exit ?_ | refine VC.regA ?_ | refine VC.condT ?_ | refine VC.condF ?_))
    exact VC.ret (Fin.A rfl)
set_option maxHeartbeats 4000000 in
theorem Contains_ok (l : List Int) (v : Int) (hl : l.length ≤ 1000000) : VCall cfg 87 [sl1 l, vi v] [] [] (vb (decide (v ∈ l))) [] := by
  have k := Index_ok l v hl
  rw [← idx_pos]
  (refine VCall.mk (fn := a87) rfl rfl rfl ?_; simp only [a87, inV, mkB, nmsL, PT.set])
  (repeat (first | refine VC.seq ?_ | refine VC.block ?_ | refine VC.kill ?_ | refine VC.skip ?_ | refine VC.exit ?_ | refine VC.regA ?_ | refine VC.condT ?_ | refine VC.condF ?_))
  (refine VC.regCA ?_; refine VO.moreA ?_; refine VO.call0A (no_orc _ (by decide)) k ?_; refine VO.endA ?_; (repeat (first | refine VC.seq ?_ | refine VC.block ?_ | refine VC.kill ?_ | refine VC.skip ?_ | refine VC.exit ?_ | refine VC.regA ?_ | refine VC.condT ?_ | refine VC.condF ?_)))
  exact VC.ret (Fin.A rfl)
/-! ### All orders -/
def outR (f : Nat → List (List Nat)) (n : Nat) : Nat → List (List Nat)
  | 0 => []
  | r + 1 => f (n - (r + 1)) ++ outR f n r
def outs (n : Nat) : Nat → List Nat → List (List Nat)
  | 0, l => [l]
  | d + 1, l => outR (fun s => if s ∈ l then [] else outs n d (l ++ [s])) n n
def itm (l : List Nat) : Itm := ([.os 1 p40 l.length], [(p40, .cells ((natI l).map vi))])
def itms (L : List (List Nat)) : List Itm := L.map itm
theorem itms_app (a b : List (List Nat)) : itms (a ++ b) = itms a ++ itms b := by simp [itms]
/-- The slice of the order so far, with room for 'c'. -/
def lv (m c : Nat) : VV := if m = c then .os 1 p40 m else .ob 1 p40 0 m c
def gcap (n : Nat) : List VV := [.op 0 p3 0, .p (.fp 0 [pi n]), .op 0 p2 0, .op 0 p4 0]
def gB (kk m c : Nat) (n : Nat) : List (Pa × VB) := [(p3, .cells [lv m c]), (p2, .cells [.yl kk]), (p4, .cells [.clos 86 [] (gcap n)])]
def gR (kk n m : Nat) (l : List Nat) (rest : List Itm) (y : VV) (B' : List (Pa × VB)) (rest' : List Itm) (live : Bool) : Prop :=
  (live = true ∧ y = vb true ∧ rest' = rest ∧ ∃ (c : Nat) (A : List Int), m ≤ c ∧ c ≤ n ∧ A.length = c ∧ A.take m = natI l ∧ B' = gB kk m c n ++ [(p40, .cells (A.map vi))]) ∨ (live = false ∧ y = vb false ∧ B' = [])
theorem take_set_succ (A : List Int) (m : Nat) (x : Int) (h : m < A.length) : (A.set m x).take (m + 1) = A.take m ++ [x] := by
  rw [List.take_add_one, List.getElem?_set_self h]
  simp [List.take_set_of_le]
theorem VC.exG {C : Cfg} {S : VSt} {c : ACode} {Q : Ex → VSt → Prop} {α : Type} (st : α → VSt) (P : α → Prop) (hg : ∃ x, P x ∧ G S (st x)) (hq : ∀ x, P x → VC C c (st x) Q) : VC C c S Q :=
  let ⟨x, hx, g⟩ := hg; VC.ghost g (hq x hx)
def GrowAt (kk n d : Nat) : Prop := ∀ (rest : List Itm) (l : List Nat) (c : Nat) (A : List Int), l.length + d = n → l.length ≤ c → c ≤ n → A.length = c → A.take l.length = natI l →
    VYCall cfg 86 kk (gcap n) (gB kk l.length c n) [(p40, .cells (A.map vi))] false (itms (outs n d l) ++ rest) (gR kk n l.length l rest)
set_option maxHeartbeats 8000000 in
theorem grow_0 (kk n : Nat) : GrowAt kk n 0 := by
    intro rest l c A hd h1 h2 h3 h4
    have hc : c = l.length := by omega
    have hA : A = natI l := by rw [← h4, List.take_of_length_le (by omega)]
    have hln : l.length = n := by omega
    subst hA hc
    refine VYCall.mk (fn := a86) rfl rfl ?_
    simp only [a86, gcap, gB, lv, if_pos, inV, PT.set, mkB, nmsL, List.cons_append, List.nil_append, outs, itms, List.map_cons, List.map_nil, itm]
    (repeat (first | refine VC.seq ?_ | refine VC.block ?_ | refine VC.kill ?_ | refine VC.skip ?_ | refine VC.exit ?_ | refine VC.regA ?_ | refine VC.condT ?_ | refine VC.condF ?_))
    apply VC.regC
    · exact vN
    refine VO.yieldA (fun b _ => ?_) (hB := by simp [mkB, PT.set, PT.Le]) (hn := by simp only [nmsB, nmB, nmL_vi]; rfl)
    refine VO.endA ?_
    (repeat (first | refine VC.seq ?_ | refine VC.block ?_ | refine VC.kill ?_ | refine VC.skip ?_ | refine VC.exit ?_ | refine VC.regA ?_ | refine VC.condT ?_ | refine VC.condF ?_))
    cases b with
    | false => exact VC.ret ⟨_, _, [], rest, false, G.refl, rfl, rfl, .inr ⟨rfl, rfl, rfl⟩, trivial, rfl, rfl⟩
    | true =>
      refine VC.ret ⟨_, _, gB kk l.length l.length n ++ [(p40, .cells ((natI l).map vi))], rest, true, G.refl, rfl, rfl, .inl ⟨rfl, rfl, rfl, l.length, natI l, Nat.le_refl _, by omega, natI_len l, by rw [List.take_of_length_le (by rw [natI_len]; exact Nat.le_refl _)], rfl⟩, ?_, rfl, rfl⟩
      simp [gB, lv, gcap, mkB, PT.set, PT.Le, pi]
set_option maxHeartbeats 8000000 in
theorem grow_s (kk n d : Nat) (hn : n ≤ 7) (ih : GrowAt kk n d) : GrowAt kk n (d + 1) := by
    intro rest l c A hd h1 h2 h3 h4
    have hmn : l.length < n := by omega
    refine VYCall.mk (fn := a86) rfl rfl ?_
    obtain ⟨m, hm⟩ : ∃ m, l.length = m := ⟨_, rfl⟩
    rw [hm] at h1 h4 hmn ⊢
    obtain ⟨f, hf⟩ : ∃ f : Nat → List (List Nat), (fun s => if s ∈ l then [] else outs n d (l ++ [s])) = f := ⟨_, rfl⟩
    have hfi : ∀ s, f s = if s ∈ l then [] else outs n d (l ++ [s]) := fun s => by rw [← hf]
    have ho : outs n (d + 1) l = outR f n n := by rw [← hf]; rfl
    rw [ho]
    simp only [a86, gcap, gB, inV, PT.set, mkB, nmsL, List.cons_append, List.nil_append]
    by_cases hmc : m = c
    case' pos =>
      have hlv : lv m c = .os 1 p40 m := if_pos hmc
      rw [hlv]
      (repeat (first | refine VC.seq ?_ | refine VC.block ?_ | refine VC.kill ?_ | refine VC.skip ?_ | refine VC.exit ?_ | refine VC.regA ?_ | refine VC.condT ?_ | refine VC.condF ?_))
    case' neg =>
      have hlv : lv m c = .ob 1 p40 0 m c := if_neg hmc
      rw [hlv]
      (repeat (first | refine VC.seq ?_ | refine VC.block ?_ | refine VC.kill ?_ | refine VC.skip ?_ | refine VC.exit ?_ | refine VC.regA ?_ | refine VC.condT ?_ | refine VC.condF ?_))
    all_goals
      refine VC.loopG (fun (q : Nat × Nat × List Int) => ⟨inV [p0, p3, p13, p14] [.op 0 p3 0, .op 0 p4 0, vi n, vi q.1] .lf, mkB [(p3, .cells [lv m q.2.1]), (p2, .cells [.yl kk]), (p4, .cells [.clos 86 [] (gcap n)]), (p40, .cells (q.2.2.map vi))] .lf, [p3, p2, p4], some ⟨kk, itms (outR f n (n - q.1)) ++ rest, true, false⟩⟩)
        (fun k q => k = n - q.1 ∧ q.1 ≤ n ∧ m ≤ q.2.1 ∧ q.2.1 ≤ n ∧ q.2.2.length = q.2.1 ∧ q.2.2.take m = natI l) (x := (0, c, A)) ?_ ⟨rfl, Nat.zero_le _, h1, h2, h3, h4⟩ ?_
      · rw [hlv]
        (apply Go.Ab.V.G.weak; constructor <;> simp (config := {decide := true}) only [PT.Le, inV, mkB, PT.set, VSt.kill, VSt.adopt, VSt.alloc, PT.filt, PT.map, List.map_cons, List.map_nil, noref, norefB, deadB, deadV, nos, nm, nmL, nmB, nmE, Pa.eqb, cond_true, cond_false, Bool.not_true, Bool.not_false, Bool.and_true, Bool.true_and, nmL_vi, flV_len, flP_len, flV_nm, flV_ok, flV_pv, flP_map, drop_flP, drop_flV, putC_flV, eqV2, eqV3, bneT, bneF, decide_true, decide_false, frzL_vi, frzL_flV, nmE_ag, nmE_at, frzE_ag, frzE_at, ofAg_len, ofAt_len, atL_vi, nmL_map_p, frzL_map_p, okL_p, toPVs_p, repsZ, nmL_reps, putC_vi, get_flV0, get_flV1, Int.toNat_zero, Int.toNat_one, Int.reduceToNat, eqV_slice, eqV_ptr, eqV_func, nilS, nilP, nilF, nmL_append, true_or, or_true, and_self, true_and, and_true, Option.some.injEq, reduceCtorEq, false_or, or_false, VV.p.injEq, PV.at.injEq, Value.int.injEq, sl1, vi, bl1, vb, nilV, gcap, pi])
        (all_goals first | rfl | omega | exact ⟨rfl, by omega⟩)
      rintro k0 ⟨i, c', A'⟩ ⟨hk0, hi, g1, g2, g3, g4⟩
      simp only at hk0 hi g1 g2 g3 g4
      clear hlv hmc h1 h2 h3 h4 A c
      simp only [inV, PT.set, mkB, gcap, pi]
      (repeat (first | refine VC.seq ?_ | refine VC.block ?_ | refine VC.kill ?_ | refine VC.skip ?_ | refine VC.exit ?_ | refine VC.regA ?_ | refine VC.condT ?_ | refine VC.condF ?_))
      refine VC.condA ?_ ?_ <;> intro h' <;> (simp only [decide_eq_true_eq, decide_eq_false_iff_not, bne_iff_ne, ne_eq, bne_eq_false_iff_eq, beq_iff_eq, beq_eq_false_iff_ne, Bool.not_eq_true', Bool.not_eq_false', Bool.and_eq_true, Bool.or_eq_true, Int.natCast_inj] at h')
      · have h' : i < n := by omega
        obtain ⟨r, hr⟩ : ∃ r, n - i = r + 1 := ⟨n - i - 1, by omega⟩
        have hr2 : n - (i + 1) = r := by omega
        have hr3 : n - (r + 1) = i := by omega
        have hH : outR f n (n - i) = f i ++ outR f n r := by rw [hr]; show f (n - (r + 1)) ++ _ = _; rw [hr3]
        rw [hH]
        have kc := Contains_ok (natI l) i (by rw [natI_len]; omega)
        have hmem : decide ((i : Int) ∈ natI l) = decide (i ∈ l) := by
          rw [decide_eq_decide]
          unfold natI
          rw [List.mem_map]
          exact ⟨fun ⟨a, ha, e⟩ => by have e : a = i := by omega
                                      rw [← e]; exact ha, fun h => ⟨i, h, rfl⟩⟩
        rw [hmem] at kc
        have hbor : borL [(p40, A'.map pi)] [lv m c', vi i] = [sl1 (natI l), vi i] := by
          have e : lv m c' = .os 1 p40 m ∧ m = c' ∨ lv m c' = .ob 1 p40 0 m c' := by
            unfold lv
            split
            · exact .inl ⟨rfl, by assumption⟩
            · exact .inr rfl
          have hz : (natI l).length = m := by rw [natI_len]; exact hm
          rcases e with ⟨e, e2⟩ | e
          · have : A' = natI l := by rw [← g4, List.take_of_length_le (by omega)]
            rw [e, this, sl1, hz]
            rfl
          · rw [e, ← g4, sl1, List.length_take, Nat.min_eq_left (by omega), List.map_take]
            have hb : Nat.ble (0 + m) (A'.map pi).length = true := by rw [List.length_map, Nat.ble_eq]; omega
            simp only [borL, borV, frzV, hb, Pa.eqb, Bool.and_true, cond_true, List.drop_zero, Nat.mul_one, vi]
        (repeat (first | refine VC.seq ?_ | refine VC.block ?_ | refine VC.kill ?_ | refine VC.skip ?_ | refine VC.exit ?_ | refine VC.regA ?_ | refine VC.condT ?_ | refine VC.condF ?_))
        refine VC.regCA ?_
        refine VO.moreA ?_
        refine VO.call [(p40, A'.map pi)] [] (mkB [(p3, .cells [lv m c']), (p2, .cells [.yl kk]), (p4, .cells [.clos 86 [] [.op 0 p3 0, .p (.fp 0 [.at (.int .i64 n)]), .op 0 p2 0, .op 0 p4 0]]), (p40, .cells (A'.map vi))] .lf) (y := vb (decide (i ∈ l))) (N := []) (B' := []) rfl rfl (no_orc 87 (by decide)) ?_ ⟨⟨_, rfl, toPVs_vi _⟩, trivial⟩ ?_ ?_ rfl rfl rfl rfl rfl rfl rfl ?_
        · show VCall cfg 87 (borL [(p40, A'.map pi)] [lv m c', vi i]) [] [] _ []
          rw [hbor]; exact kc
        · trivial
        · simp [mkB, PT.set, PT.Le]
        (simp only [filtN, filtNB, mkB, PT.set, VSt.put, PT.filt, noref, norefB, nos, nm, nmL, nmB, nmL_vi, nmL_map_p, nmE_ag, flV_nm, List.nil_append, List.append_nil, Pa.eqb, cond_true, cond_false, Bool.and_true, Bool.not_false, Bool.not_true])
        refine VO.endA ?_
        (repeat (first | refine VC.seq ?_ | refine VC.block ?_ | refine VC.kill ?_ | refine VC.skip ?_ | refine VC.exit ?_ | refine VC.regA ?_ | refine VC.condT ?_ | refine VC.condF ?_))
        clear hbor kc hmem
        refine VC.condA ?_ ?_ <;> intro hs <;> (simp only [decide_eq_true_eq, decide_eq_false_iff_not, bne_iff_ne, ne_eq, bne_eq_false_iff_eq, beq_iff_eq, beq_eq_false_iff_ne, Bool.not_eq_true', Bool.not_eq_false', Bool.and_eq_true, Bool.or_eq_true, Int.natCast_inj] at hs)
        · rw [hfi, if_pos hs, List.nil_append]
          (repeat (first | refine VC.seq ?_ | refine VC.block ?_ | refine VC.kill ?_ | refine VC.skip ?_ | refine VC.exit ?_ | refine VC.regA ?_ | refine VC.condT ?_ | refine VC.condF ?_))
          refine ⟨_, (i + 1, c', A'), ?_, ⟨rfl, by simp only; omega, g1, g2, g3, g4⟩, ?_⟩
          · simp only; omega
          · rw [← hr2]
            (apply Go.Ab.V.G.weak; constructor <;> simp (config := {decide := true}) only [PT.Le, inV, mkB, PT.set, VSt.kill, VSt.adopt, VSt.alloc, PT.filt, PT.map, List.map_cons, List.map_nil, noref, norefB, deadB, deadV, nos, nm, nmL, nmB, nmE, Pa.eqb, cond_true, cond_false, Bool.not_true, Bool.not_false, Bool.and_true, Bool.true_and, nmL_vi, flV_len, flP_len, flV_nm, flV_ok, flV_pv, flP_map, drop_flP, drop_flV, putC_flV, eqV2, eqV3, bneT, bneF, decide_true, decide_false, frzL_vi, frzL_flV, nmE_ag, nmE_at, frzE_ag, frzE_at, ofAg_len, ofAt_len, atL_vi, nmL_map_p, frzL_map_p, okL_p, toPVs_p, repsZ, nmL_reps, putC_vi, get_flV0, get_flV1, Int.toNat_zero, Int.toNat_one, Int.reduceToNat, eqV_slice, eqV_ptr, eqV_func, nilS, nilP, nilF, nmL_append, true_or, or_true, and_self, true_and, and_true, Option.some.injEq, reduceCtorEq, false_or, or_false, VV.p.injEq, PV.at.injEq, Value.int.injEq, sl1, vi, bl1, vb, nilV, gcap, pi])
            (all_goals first | rfl | omega | exact ⟨rfl, by omega⟩)
        · have hH2 : itms (f i ++ outR f n r) ++ rest = itms (outs n d (l ++ [i])) ++ (itms (outR f n r) ++ rest) := by
            rw [hfi, if_neg hs, itms_app, List.append_assoc]
          rw [hH2]
          have hl1 : (l ++ [i]).length = m + 1 := by rw [List.length_append, hm]; rfl
          have ih := ih (itms (outR f n r) ++ rest) (l ++ [i])
          rw [hl1] at ih
          have hni : natI (l ++ [i]) = natI l ++ [(i : Int)] := by simp [natI]
          have hnl : (natI l).length = m := by rw [natI_len]; exact hm
          by_cases hmc : m = c'
          case' pos =>
            have hA : A' = natI l := by rw [← g4, List.take_of_length_le (by omega)]
            have e : lv m c' = .os 1 p40 m := if_pos hmc
            subst hmc
            rw [e]
            (repeat (first | refine VC.seq ?_ | refine VC.block ?_ | refine VC.kill ?_ | refine VC.skip ?_ | refine VC.exit ?_ | refine VC.regA ?_ | refine VC.condT ?_ | refine VC.condF ?_))
            refine VC.exG (fun q : Nat × List Int => ⟨inV [p0, p3, p13, p14] [.op 0 p3 0, .op 0 p4 0, vi n, vi i] .lf, mkB (gB kk (m + 1) q.1 n ++ [(p40, .cells (q.2.map vi))]) .lf, [p3, p2, p4], some ⟨kk, itms (outs n d (l ++ [i])) ++ (itms (outR f n r) ++ rest), true, false⟩⟩) (fun q => m + 1 ≤ q.1 ∧ q.1 ≤ n ∧ q.2.length = q.1 ∧ q.2.take (m + 1) = natI (l ++ [i])) ⟨(m + 1, natI l ++ [(i : Int)]), ⟨Nat.le_refl _, by simp only; omega, by simp [hnl], by rw [hni, List.take_of_length_le (by simp [hnl])]⟩, ?_⟩ ?_
            · rw [hA]
              have e2 : lv (m + 1) (m + 1) = .os 1 p40 (m + 1) := if_pos rfl
              simp only [gB, e2]
              (apply Go.Ab.V.G.weak; constructor <;> simp (config := {decide := true}) only [PT.Le, inV, mkB, PT.set, VSt.kill, VSt.adopt, VSt.alloc, PT.filt, PT.map, List.map_cons, List.map_nil, noref, norefB, deadB, deadV, nos, nm, nmL, nmB, nmE, Pa.eqb, cond_true, cond_false, Bool.not_true, Bool.not_false, Bool.and_true, Bool.true_and, nmL_vi, flV_len, flP_len, flV_nm, flV_ok, flV_pv, flP_map, drop_flP, drop_flV, putC_flV, eqV2, eqV3, bneT, bneF, decide_true, decide_false, frzL_vi, frzL_flV, nmE_ag, nmE_at, frzE_ag, frzE_at, ofAg_len, ofAt_len, atL_vi, nmL_map_p, frzL_map_p, okL_p, toPVs_p, repsZ, nmL_reps, putC_vi, get_flV0, get_flV1, Int.toNat_zero, Int.toNat_one, Int.reduceToNat, eqV_slice, eqV_ptr, eqV_func, nilS, nilP, nilF, nmL_append, true_or, or_true, and_self, true_and, and_true, Option.some.injEq, reduceCtorEq, false_or, or_false, VV.p.injEq, PV.at.injEq, Value.int.injEq, sl1, vi, bl1, vb, nilV, gcap, pi, List.cons_append, List.nil_append, List.map_append, vi])
              (all_goals first | rfl | omega | exact ⟨rfl, by omega⟩)
          case' neg =>
            have e : lv m c' = .ob 1 p40 0 m c' := if_neg hmc
            rw [e]
            (repeat (first | refine VC.seq ?_ | refine VC.block ?_ | refine VC.kill ?_ | refine VC.skip ?_ | refine VC.exit ?_ | refine VC.regA ?_ | refine VC.condT ?_ | refine VC.condF ?_))
            refine VC.exG (fun q : Nat × List Int => ⟨inV [p0, p3, p13, p14] [.op 0 p3 0, .op 0 p4 0, vi n, vi i] .lf, mkB (gB kk (m + 1) q.1 n ++ [(p40, .cells (q.2.map vi))]) .lf, [p3, p2, p4], some ⟨kk, itms (outs n d (l ++ [i])) ++ (itms (outR f n r) ++ rest), true, false⟩⟩) (fun q => m + 1 ≤ q.1 ∧ q.1 ≤ n ∧ q.2.length = q.1 ∧ q.2.take (m + 1) = natI (l ++ [i])) ⟨(c', A'.set m i), ⟨by simp only; omega, g2, by simp only [List.length_set]; exact g3, by rw [hni, ← g4]; exact take_set_succ _ _ _ (by omega)⟩, ?_⟩ ?_
            · by_cases hc1 : m + 1 = c'
              · subst hc1
                have e2 : lv (m + 1) (m + 1) = .os 1 p40 (m + 1) := if_pos rfl
                simp only [gB, e2]
                refine (G.obos (p := p3) (i := 0) (u := 1) (a := p40) (n := m + 1) (cs := [.ob 1 p40 0 (m + 1) (m + 1)]) rfl rfl).trans ?_
                simp only [VSt.obos, List.set_cons_zero]
                (apply Go.Ab.V.G.weak; constructor <;> simp (config := {decide := true}) only [PT.Le, inV, mkB, PT.set, VSt.kill, VSt.adopt, VSt.alloc, PT.filt, PT.map, List.map_cons, List.map_nil, noref, norefB, deadB, deadV, nos, nm, nmL, nmB, nmE, Pa.eqb, cond_true, cond_false, Bool.not_true, Bool.not_false, Bool.and_true, Bool.true_and, nmL_vi, flV_len, flP_len, flV_nm, flV_ok, flV_pv, flP_map, drop_flP, drop_flV, putC_flV, eqV2, eqV3, bneT, bneF, decide_true, decide_false, frzL_vi, frzL_flV, nmE_ag, nmE_at, frzE_ag, frzE_at, ofAg_len, ofAt_len, atL_vi, nmL_map_p, frzL_map_p, okL_p, toPVs_p, repsZ, nmL_reps, putC_vi, get_flV0, get_flV1, Int.toNat_zero, Int.toNat_one, Int.reduceToNat, eqV_slice, eqV_ptr, eqV_func, nilS, nilP, nilF, nmL_append, true_or, or_true, and_self, true_and, and_true, Option.some.injEq, reduceCtorEq, false_or, or_false, VV.p.injEq, PV.at.injEq, Value.int.injEq, sl1, vi, bl1, vb, nilV, gcap, pi, List.cons_append, List.nil_append, List.map_append, vi])
                (all_goals first | rfl | omega | exact ⟨rfl, by omega⟩)
              · have e : lv (m + 1) c' = .ob 1 p40 0 (m + 1) c' := if_neg hc1
                simp only [gB, e]
                (apply Go.Ab.V.G.weak; constructor <;> simp (config := {decide := true}) only [PT.Le, inV, mkB, PT.set, VSt.kill, VSt.adopt, VSt.alloc, PT.filt, PT.map, List.map_cons, List.map_nil, noref, norefB, deadB, deadV, nos, nm, nmL, nmB, nmE, Pa.eqb, cond_true, cond_false, Bool.not_true, Bool.not_false, Bool.and_true, Bool.true_and, nmL_vi, flV_len, flP_len, flV_nm, flV_ok, flV_pv, flP_map, drop_flP, drop_flV, putC_flV, eqV2, eqV3, bneT, bneF, decide_true, decide_false, frzL_vi, frzL_flV, nmE_ag, nmE_at, frzE_ag, frzE_at, ofAg_len, ofAt_len, atL_vi, nmL_map_p, frzL_map_p, okL_p, toPVs_p, repsZ, nmL_reps, putC_vi, get_flV0, get_flV1, Int.toNat_zero, Int.toNat_one, Int.reduceToNat, eqV_slice, eqV_ptr, eqV_func, nilS, nilP, nilF, nmL_append, true_or, or_true, and_self, true_and, and_true, Option.some.injEq, reduceCtorEq, false_or, or_false, VV.p.injEq, PV.at.injEq, Value.int.injEq, sl1, vi, bl1, vb, nilV, gcap, pi, List.cons_append, List.nil_append, List.map_append, vi])
                (all_goals first | rfl | omega | exact ⟨rfl, by omega⟩)
          all_goals
            rintro ⟨c2, A2⟩ ⟨q1, q2, q3, q4⟩
            simp only at q1 q2 q3 q4
            clear g1 g2 g3 g4
            simp only [gB, gcap, inV, PT.set, mkB, List.cons_append, List.nil_append]
            (repeat (first | refine VC.seq ?_ | refine VC.block ?_ | refine VC.kill ?_ | refine VC.skip ?_ | refine VC.exit ?_ | refine VC.regA ?_ | refine VC.condT ?_ | refine VC.condF ?_))
            refine VC.regCA ?_
            refine VO.moreA ?_
            refine VO.ycall (gB kk (m + 1) c2 n) [(p40, .cells (A2.map vi))] (inV [p0, p3, p13, p14] [.op 0 p3 0, .op 0 p4 0, vi n, vi i] .lf) rfl rfl (no_orc 86 (by decide)) (ih c2 A2 (by omega) q1 q2 q3 q4) rfl ?_ ?_ ?_ rfl rfl ?_
            · exact PT.Le.refl _
            · simp [inV, PT.set, PT.Le, vi]
            · simp [inV, PT.set, NmOk, nm, nmsL, gB, vi]
            rintro y B' rest' live (⟨rfl, rfl, rfl, c3, A3, t1, t2, t3, t4, rfl⟩ | ⟨rfl, rfl, rfl⟩)
            · simp only [gB, gcap, pi, inV, PT.set, mkB, VSt.put, List.cons_append, List.nil_append]
              refine VO.endA ?_
              (repeat (first | refine VC.seq ?_ | refine VC.block ?_ | refine VC.kill ?_ | refine VC.skip ?_ | refine VC.exit ?_ | refine VC.regA ?_ | refine VC.condT ?_ | refine VC.condF ?_))
              have hsub : ((m + 1 : Nat) : Int) - 1 = (m : Int) := by omega
              have t5 : A3.take m = natI l := by
                have : A3.take m = (A3.take (m + 1)).take m := by rw [List.take_take, Nat.min_eq_left (by omega)]
                rw [this, t4, hni, List.take_append_of_le_length (by omega), List.take_of_length_le (by omega)]
              have e4 : lv m c3 = .ob 1 p40 0 m c3 := if_neg (by omega)
              by_cases hc3 : m + 1 = c3
              case' pos =>
                have e3 : lv (m + 1) c3 = .os 1 p40 (m + 1) := if_pos hc3
                rw [e3]
                have e4 : lv m c3 = .ob 1 p40 0 m (m + 1) := by rw [e4, hc3]
                (repeat (first | refine VC.seq ?_ | refine VC.block ?_ | refine VC.kill ?_ | refine VC.skip ?_ | refine VC.exit ?_ | refine VC.regA ?_ | refine VC.condT ?_ | refine VC.condF ?_))
                ((try (apply VC.regU; · (exact vF @hsub))); (repeat (first | refine VC.seq ?_ | refine VC.block ?_ | refine VC.kill ?_ | refine VC.skip ?_ | refine VC.exit ?_ | refine VC.regA ?_ | refine VC.condT ?_ | refine VC.condF ?_)))
              case' neg =>
                have e3 : lv (m + 1) c3 = .ob 1 p40 0 (m + 1) c3 := if_neg hc3
                rw [e3]
                (repeat (first | refine VC.seq ?_ | refine VC.block ?_ | refine VC.kill ?_ | refine VC.skip ?_ | refine VC.exit ?_ | refine VC.regA ?_ | refine VC.condT ?_ | refine VC.condF ?_))
                ((try (apply VC.regU; · (exact vF @hsub))); (repeat (first | refine VC.seq ?_ | refine VC.block ?_ | refine VC.kill ?_ | refine VC.skip ?_ | refine VC.exit ?_ | refine VC.regA ?_ | refine VC.condT ?_ | refine VC.condF ?_)))
              all_goals
                try simp only [hsub, Int.toNat_natCast]
                refine ⟨_, (i + 1, c3, A3), ?_, ⟨rfl, by simp only; omega, by simp only; omega, t2, t3, t5⟩, ?_⟩
                · simp only; omega
                · rw [← hr2]
                  simp only [e4]
                  (apply Go.Ab.V.G.weak; constructor <;> simp (config := {decide := true}) only [PT.Le, inV, mkB, PT.set, VSt.kill, VSt.adopt, VSt.alloc, PT.filt, PT.map, List.map_cons, List.map_nil, noref, norefB, deadB, deadV, nos, nm, nmL, nmB, nmE, Pa.eqb, cond_true, cond_false, Bool.not_true, Bool.not_false, Bool.and_true, Bool.true_and, nmL_vi, flV_len, flP_len, flV_nm, flV_ok, flV_pv, flP_map, drop_flP, drop_flV, putC_flV, eqV2, eqV3, bneT, bneF, decide_true, decide_false, frzL_vi, frzL_flV, nmE_ag, nmE_at, frzE_ag, frzE_at, ofAg_len, ofAt_len, atL_vi, nmL_map_p, frzL_map_p, okL_p, toPVs_p, repsZ, nmL_reps, putC_vi, get_flV0, get_flV1, Int.toNat_zero, Int.toNat_one, Int.reduceToNat, eqV_slice, eqV_ptr, eqV_func, nilS, nilP, nilF, nmL_append, true_or, or_true, and_self, true_and, and_true, Option.some.injEq, reduceCtorEq, false_or, or_false, VV.p.injEq, PV.at.injEq, Value.int.injEq, sl1, vi, bl1, vb, nilV, gcap, pi, vi])
                  (all_goals first | rfl | omega | exact ⟨rfl, by omega⟩)
            · simp only [inV, PT.set, mkB, VSt.put]
              refine VO.endA ?_
              (repeat (first | refine VC.seq ?_ | refine VC.block ?_ | refine VC.kill ?_ | refine VC.skip ?_ | refine VC.exit ?_ | refine VC.regA ?_ | refine VC.condT ?_ | refine VC.condF ?_))
              exact VC.ret ⟨_, _, [], rest', false, G.refl, rfl, rfl, .inr ⟨rfl, rfl, rfl⟩, trivial, rfl, rfl⟩
      · have hin : n - i = 0 := by omega
        clear h'
        rw [hin]
        (repeat (first | refine VC.seq ?_ | refine VC.block ?_ | refine VC.kill ?_ | refine VC.skip ?_ | refine VC.exit ?_ | refine VC.regA ?_ | refine VC.condT ?_ | refine VC.condF ?_))
        refine VC.ret ⟨_, _, gB kk m c' n ++ [(p40, .cells (A'.map vi))], rest, true, G.refl, rfl, rfl, .inl ⟨rfl, rfl, rfl, c', A', g1, g2, g3, g4, rfl⟩, ?_, rfl, rfl⟩
        simp [gB, gcap, mkB, PT.set, PT.Le, pi]
theorem grow_ok (kk n : Nat) (hn : n ≤ 7) : ∀ d, GrowAt kk n d
  | 0 => grow_0 kk n
  | d + 1 => grow_s kk n d hn (grow_ok kk n hn d)
set_option maxHeartbeats 4000000 in
theorem orders1_ok (n : Nat) (hn : n ≤ 7) : VIter cfg 85 [] [.p (.fp 0 [pi n])] false (itms (outs n n [])) := by
  refine VIter.mk (fn := a85) rfl rfl rfl fun kk => ?_
  have ih := grow_ok kk n hn n [] [] 0 [] (by simp) (Nat.le_refl _) (Nat.zero_le _) rfl rfl
  rw [List.append_nil] at ih
  simp only [a85, inV, PT.set, List.nil_append, List.cons_append]
  (repeat (first | refine VC.seq ?_ | refine VC.block ?_ | refine VC.kill ?_ | refine VC.skip ?_ | refine VC.exit ?_ | refine VC.regA ?_ | refine VC.condT ?_ | refine VC.condF ?_))
  refine VC.ghost (S' := ⟨inV [p4] [.op 0 p4 0] .lf, mkB (gB kk 0 0 n ++ [(p40, .cells (([] : List Int).map vi))]) .lf, [], some ⟨kk, itms (outs n n []), true, false⟩⟩) ?_ ?_
  · refine G.adoptBA (p := p3) (cs := [.p (.at (.slice none 0 0))]) 0 1 p40 ?_
    have e2 : lv 0 0 = .os 1 p40 0 := if_pos rfl
    simp only [gB, e2, gcap, pi, VSt.adoptB, List.set_cons_zero]
    (apply Go.Ab.V.G.weak; constructor <;> simp (config := {decide := true}) only [PT.Le, inV, mkB, PT.set, VSt.kill, VSt.adopt, VSt.alloc, PT.filt, PT.map, List.map_cons, List.map_nil, noref, norefB, deadB, deadV, nos, nm, nmL, nmB, nmE, Pa.eqb, cond_true, cond_false, Bool.not_true, Bool.not_false, Bool.and_true, Bool.true_and, nmL_vi, flV_len, flP_len, flV_nm, flV_ok, flV_pv, flP_map, drop_flP, drop_flV, putC_flV, eqV2, eqV3, bneT, bneF, decide_true, decide_false, frzL_vi, frzL_flV, nmE_ag, nmE_at, frzE_ag, frzE_at, ofAg_len, ofAt_len, atL_vi, nmL_map_p, frzL_map_p, okL_p, toPVs_p, repsZ, nmL_reps, putC_vi, get_flV0, get_flV1, Int.toNat_zero, Int.toNat_one, Int.reduceToNat, eqV_slice, eqV_ptr, eqV_func, nilS, nilP, nilF, nmL_append, true_or, or_true, and_self, true_and, and_true, Option.some.injEq, reduceCtorEq, false_or, or_false, VV.p.injEq, PV.at.injEq, Value.int.injEq, sl1, vi, bl1, vb, nilV, List.cons_append, List.nil_append])
    (all_goals first | rfl | omega | exact ⟨rfl, by omega⟩)
  simp only [gB, gcap, pi, inV, PT.set, mkB, List.cons_append, List.nil_append]
  refine VC.regCA ?_
  refine VO.moreA ?_
  refine VO.ycall (gB kk 0 0 n) [(p40, .cells (([] : List Int).map vi))] .lf rfl rfl (no_orc 86 (by decide)) ih rfl ?_ trivial trivial rfl rfl ?_
  · exact PT.Le.refl _
  rintro y B' rest' live (⟨rfl, rfl, rfl, c3, A3, t1, t2, t3, t4, rfl⟩ | ⟨rfl, rfl, rfl⟩)
  · simp only [gB, gcap, pi, inV, PT.set, mkB, VSt.put, List.cons_append, List.nil_append]
    refine VO.endA ?_
    (repeat (first | refine VC.seq ?_ | refine VC.block ?_ | refine VC.kill ?_ | refine VC.skip ?_ | refine VC.exit ?_ | refine VC.regA ?_ | refine VC.condT ?_ | refine VC.condF ?_))
    exact ⟨rfl, _, _, rfl, .inr ⟨rfl, trivial⟩⟩
  · simp only [inV, PT.set, mkB, VSt.put]
    refine VO.endA ?_
    (repeat (first | refine VC.seq ?_ | refine VC.block ?_ | refine VC.kill ?_ | refine VC.skip ?_ | refine VC.exit ?_ | refine VC.regA ?_ | refine VC.condT ?_ | refine VC.condF ?_))
    exact ⟨rfl, _, _, rfl, .inl rfl⟩
set_option maxHeartbeats 4000000 in
theorem orders_ok (n : Nat) : VCall cfg 81 [vi n] [] [] (.clos 85 [] [.p (.fp 0 [pi n])]) [] := by
  (refine VCall.mk (fn := a81) rfl rfl rfl ?_; simp only [a81, inV, mkB, nmsL, PT.set])
  (repeat (first | refine VC.seq ?_ | refine VC.block ?_ | refine VC.kill ?_ | refine VC.skip ?_ | refine VC.exit ?_ | refine VC.regA ?_ | refine VC.condT ?_ | refine VC.condF ?_))
  exact VC.ret (Fin.frzA p1 (Fin.A rfl))
end Go.Ab.Dues

namespace Go.Ab.Dues
/-! ### What the list of all orders is -/
theorem outR_mem {f : Nat → List (List Nat)} {n : Nat} {x : List Nat} : ∀ {r : Nat}, r ≤ n → x ∈ outR f n r → ∃ s, s < n ∧ x ∈ f s
  | 0, _, h => by cases h
  | r + 1, hr, h => by
    rcases List.mem_append.1 h with h | h
    · exact ⟨n - (r + 1), by omega, h⟩
    · exact outR_mem (by omega) h
theorem outs_mem {n : Nat} : ∀ {d : Nat} {l x : List Nat}, (∀ s ∈ l, s < n) → x ∈ outs n d l → x.length = l.length + d ∧ ∀ s ∈ x, s < n
  | 0, l, x, hl, h => by
    rw [show outs n 0 l = [l] from rfl, List.mem_singleton] at h
    subst h; exact ⟨rfl, hl⟩
  | d + 1, l, x, hl, h => by
    obtain ⟨s, hs, h⟩ := outR_mem (Nat.le_refl n) h
    split at h
    · cases h
    · have := outs_mem (l := l ++ [s]) (fun t ht => by
        rcases List.mem_append.1 ht with ht | ht
        · exact hl t ht
        · rw [List.mem_singleton] at ht; omega) h
      rw [List.length_append, List.length_singleton] at this
      exact ⟨by omega, this.2⟩
theorem outR_len {f : Nat → List (List Nat)} {n b : Nat} (hf : ∀ s, (f s).length ≤ b) : ∀ r, (outR f n r).length ≤ r * b
  | 0 => Nat.zero_le _
  | r + 1 => by
    have := outR_len (n := n) hf r
    have := hf (n - (r + 1))
    rw [show outR f n (r + 1) = f (n - (r + 1)) ++ outR f n r from rfl, List.length_append, Nat.add_mul]
    omega
theorem outs_len (n : Nat) : ∀ (d : Nat) (l : List Nat), (outs n d l).length ≤ n ^ d
  | 0, l => Nat.le_refl _
  | d + 1, l => by
    rw [Nat.pow_succ, Nat.mul_comm]
    refine outR_len (fun s => ?_) n
    split
    · exact Nat.zero_le _
    · exact outs_len n d _
theorem outs_len7 {n : Nat} (h : n ≤ 7) : (outs n n []).length ≤ 823543 :=
  Nat.le_trans (outs_len n n []) (Nat.le_trans (Nat.pow_le_pow_left h n) (Nat.pow_le_pow_right (by decide) h))
theorem outs_pos {n : Nat} (h : n ≤ 7) : 0 < (outs n n []).length := by
  have : n = 0 ∨ n = 1 ∨ n = 2 ∨ n = 3 ∨ n = 4 ∨ n = 5 ∨ n = 6 ∨ n = 7 := by omega
  have key : ∀ {l : List (List Nat)}, l.isEmpty = false → 0 < l.length := by
    intro l hl
    cases l with
    | nil => cases hl
    | cons => simp
  rcases this with rfl | rfl | rfl | rfl | rfl | rfl | rfl | rfl <;> exact key rfl
end Go.Ab.Dues

namespace Go.Ab.Dues
/-! ### All orders: each list of all ships once -/
theorem outR_iff {f : Nat → List (List Nat)} {n : Nat} {x : List Nat} : ∀ {r : Nat}, r ≤ n → (x ∈ outR f n r ↔ ∃ s, n - r ≤ s ∧ s < n ∧ x ∈ f s)
  | 0, _ => ⟨fun h => (by cases h), fun ⟨s, h1, h2, _⟩ => (by omega)⟩
  | r + 1, hr => by
    rw [show outR f n (r + 1) = f (n - (r + 1)) ++ outR f n r from rfl, List.mem_append, outR_iff (r := r) (by omega)]
    constructor
    · rintro (h | ⟨s, h1, h2, h3⟩)
      · exact ⟨n - (r + 1), Nat.le_refl _, by omega, h⟩
      · exact ⟨s, by omega, h2, h3⟩
    · rintro ⟨s, h1, h2, h3⟩
      rcases Nat.lt_or_ge s (n - r) with h | h
      · have : s = n - (r + 1) := by omega
        subst this; exact .inl h3
      · exact .inr ⟨s, h, h2, h3⟩
theorem outR_nodup {f : Nat → List (List Nat)} {n : Nat} (hf : ∀ s, (f s).Nodup) (hd : ∀ s t x, x ∈ f s → x ∈ f t → s = t) : ∀ {r : Nat}, r ≤ n → (outR f n r).Nodup
  | 0, _ => List.nodup_nil
  | r + 1, hr => by
    rw [show outR f n (r + 1) = f (n - (r + 1)) ++ outR f n r from rfl, List.nodup_append]
    refine ⟨hf _, outR_nodup hf hd (by omega), fun x hx y hy e => ?_⟩
    subst e
    obtain ⟨s, h1, h2, h3⟩ := (outR_iff (by omega)).1 hy
    have := hd _ _ _ hx h3
    omega
theorem outs_iff {n : Nat} : ∀ {d : Nat} {l x : List Nat}, l.Nodup → (∀ s ∈ l, s < n) → (x ∈ outs n d l ↔ l <+: x ∧ x.length = l.length + d ∧ x.Nodup ∧ ∀ s ∈ x, s < n)
  | 0, l, x, hl, hn => by
    rw [show outs n 0 l = [l] from rfl, List.mem_singleton]
    constructor
    · rintro rfl; exact ⟨List.prefix_refl _, rfl, hl, hn⟩
    · rintro ⟨h1, h2, _, _⟩; exact (h1.eq_of_length (by omega)).symm
  | d + 1, l, x, hl, hn => by
    rw [show outs n (d + 1) l = outR (fun s => if s ∈ l then [] else outs n d (l ++ [s])) n n from rfl, outR_iff (Nat.le_refl n)]
    have key : ∀ s, s < n → s ∉ l → (x ∈ outs n d (l ++ [s]) ↔ (l ++ [s]) <+: x ∧ x.length = (l ++ [s]).length + d ∧ x.Nodup ∧ ∀ t ∈ x, t < n) := fun s hs hsl => by
      refine outs_iff ?_ ?_
      · rw [List.nodup_append]
        exact ⟨hl, by simp, fun a ha b hb e => by rw [List.mem_singleton] at hb; subst hb; subst e; exact hsl ha⟩
      · intro t ht
        rcases List.mem_append.1 ht with ht | ht
        · exact hn t ht
        · rw [List.mem_singleton] at ht; omega
    constructor
    · rintro ⟨s, _, hs, h⟩
      split at h
      · cases h
      · rename_i hsl
        obtain ⟨h1, h2, h3, h4⟩ := (key s hs hsl).1 h
        rw [List.length_append, List.length_singleton] at h2
        exact ⟨(List.prefix_append l [s]).trans h1, by omega, h3, h4⟩
    · rintro ⟨⟨t, rfl⟩, h2, h3, h4⟩
      rw [List.length_append] at h2
      cases t with
      | nil => simp at h2
      | cons s t =>
        have hs : s < n := h4 s (by simp)
        have hsl : s ∉ l := fun hm => by
          rw [List.nodup_append] at h3
          exact h3.2.2 s hm s (by simp) rfl
        refine ⟨s, by omega, hs, ?_⟩
        rw [if_neg hsl, key s hs hsl]
        refine ⟨⟨t, by simp⟩, by simp only [List.length_append, List.length_cons] at h2 ⊢; simp only [List.length_nil]; omega, h3, h4⟩
theorem outs_nodup {n : Nat} : ∀ {d : Nat} {l : List Nat}, l.Nodup → (∀ s ∈ l, s < n) → (outs n d l).Nodup
  | 0, l, _, _ => by rw [show outs n 0 l = [l] from rfl]; simp
  | d + 1, l, hl, hn => by
    rw [show outs n (d + 1) l = outR (fun s => if s ∈ l then [] else outs n d (l ++ [s])) n n from rfl]
    have hok : ∀ s, s ∉ l → (l ++ [s]).Nodup := fun s hsl => by
      rw [List.nodup_append]
      exact ⟨hl, by simp, fun a ha b hb e => by rw [List.mem_singleton] at hb; subst hb; subst e; exact hsl ha⟩
    -- beyond n nothing is asked
    have hcong : ∀ r, r ≤ n → outR (fun s => if s ∈ l then [] else outs n d (l ++ [s])) n r = outR (fun s => if s ∈ l ∨ n ≤ s then [] else outs n d (l ++ [s])) n r := by
      intro r
      induction r with
      | zero => intro _; rfl
      | succ r ih =>
        intro hr
        show _ ++ _ = _ ++ _
        rw [ih (by omega)]
        congr 1
        have : ¬n ≤ n - (r + 1) := by omega
        simp only [this, or_false]
    rw [hcong n (Nat.le_refl n)]
    have hlt : ∀ s, ¬n ≤ s → ∀ t ∈ l ++ [s], t < n := fun s hs t ht => by
      rcases List.mem_append.1 ht with ht | ht
      · exact hn t ht
      · rw [List.mem_singleton] at ht; omega
    refine outR_nodup (fun s => ?_) (fun s t x hs ht => ?_) (Nat.le_refl n)
    · split
      · exact List.nodup_nil
      · rename_i h
        rw [not_or] at h
        exact outs_nodup (hok s h.1) (hlt s h.2)
    · split at hs
      · cases hs
      · split at ht
        · cases ht
        · rename_i h1 h2
          rw [not_or] at h1 h2
          have e1 := ((outs_iff (hok s h1.1) (hlt s h1.2)).1 hs).1
          have e2 := ((outs_iff (hok t h2.1) (hlt t h2.2)).1 ht).1
          have := List.prefix_of_prefix_length_le e1 e2 (by simp)
          have := this.eq_of_length (by simp)
          simpa using this
/-- All orders of n ships. -/
def aord (n : Nat) : List (List Nat) := outs n n []
theorem aord_iff {n : Nat} {x : List Nat} : x ∈ aord n ↔ x.length = n ∧ x.Nodup ∧ ∀ s ∈ x, s < n := by
  unfold aord
  rw [outs_iff List.nodup_nil (fun s hs => by cases hs)]
  simp
theorem aord_nodup (n : Nat) : (aord n).Nodup := outs_nodup List.nodup_nil (fun s hs => by cases hs)
theorem nodup_len {l m : List Nat} (h : l.Nodup) (hs : ∀ a ∈ l, a ∈ m) : l.length ≤ m.length := by
  induction l generalizing m with
  | nil => exact Nat.zero_le _
  | cons a l ih =>
    rw [List.nodup_cons] at h
    have ha := hs a (.head _)
    have := ih (m := m.erase a) h.2 fun b hb => (List.mem_erase_of_ne (fun e => h.1 (by rw [← e]; exact hb))).2 (hs b (.tail _ hb))
    rw [List.length_erase_of_mem ha] at this
    have := List.length_pos_of_mem ha
    rw [List.length_cons]; omega
theorem aord_all {n : Nat} {x : List Nat} (h : x ∈ aord n) {s : Nat} (hs : s < n) : s ∈ x := by
  obtain ⟨h1, h2, h3⟩ := aord_iff.1 h
  refine Decidable.byContradiction fun hn => ?_
  have := nodup_len (l := s :: x) (m := List.range n) (List.nodup_cons.2 ⟨hn, h2⟩) fun a ha => by
    rcases List.mem_cons.1 ha with rfl | ha
    · exact List.mem_range.2 hs
    · exact List.mem_range.2 (h3 a ha)
  rw [List.length_range, List.length_cons] at this
  omega
/-- Two ships change places. -/
def sw (a b s : Nat) : Nat := if s = a then b else if s = b then a else s
theorem sw_sw (a b s : Nat) : sw a b (sw a b s) = s := by unfold sw; split <;> split <;> (try split) <;> omega
theorem sw_lt {a b n s : Nat} (ha : a < n) (hb : b < n) (hs : s < n) : sw a b s < n := by unfold sw; split <;> (try split) <;> omega
theorem sw_inj {a b s t : Nat} (h : sw a b s = sw a b t) : s = t := by rw [← sw_sw a b s, h, sw_sw]
theorem map_sw_sw (a b : Nat) (l : List Nat) : (l.map (sw a b)).map (sw a b) = l := by
  rw [List.map_map]
  conv => rhs; rw [← List.map_id l]
  exact List.map_congr_left fun s _ => sw_sw a b s
theorem nodup_map {α β : Type} {f : α → β} (hf : ∀ x y, f x = f y → x = y) {l : List α} (h : l.Nodup) : (l.map f).Nodup := by
  unfold List.Nodup at *
  rw [List.pairwise_map]
  exact h.imp fun h e => h (hf _ _ e)
theorem aord_sw {n a b : Nat} (ha : a < n) (hb : b < n) : ((aord n).map fun l => l.map (sw a b)).Perm (aord n) := by
  have h1 : ∀ {x}, x ∈ aord n → x.map (sw a b) ∈ aord n := fun {x} hx => by
    rw [aord_iff] at *
    refine ⟨by rw [List.length_map]; exact hx.1, nodup_map (fun _ _ => sw_inj) hx.2.1, fun s hs => ?_⟩
    obtain ⟨t, ht, rfl⟩ := List.mem_map.1 hs
    exact sw_lt ha hb (hx.2.2 t ht)
  refine (List.perm_ext_iff_of_nodup (nodup_map (fun x y e => ?_) (aord_nodup n)) (aord_nodup n)).2 fun x => ?_
  · rw [← map_sw_sw a b x, e, map_sw_sw]
  · rw [List.mem_map]
    constructor
    · rintro ⟨y, hy, rfl⟩; exact h1 hy
    · intro hx; exact ⟨_, h1 hx, map_sw_sw a b x⟩
end Go.Ab.Dues

namespace Go.Ab.Dues
open Go.Ab.V
set_option maxRecDepth 100000
end Go.Ab.Dues

namespace Go.Ab.Dues
open Go.Ab.V
set_option maxRecDepth 100000
/-! ### Plain facts about margins -/
theorem sq_mul (k : Int) (f : Nat → Int) (q : Nat → Bool) : ∀ n, sq (fun i => k * f i) q n = k * sq f q n
  | 0 => by simp [sq]
  | n + 1 => by
    unfold sq
    rw [sq_mul k f q n, Int.mul_add]
    cases q n <;> simp
theorem costS_zero (c : Can) : costS c 0 = 0 := by
  have h : bitsN 0 = [] := by decide
  unfold costS
  rw [pieces_zero]
  unfold costP
  rw [h]; rfl
end Go.Ab.Dues

namespace Go.Ab.Dues
open Go.Ab.V
set_option maxRecDepth 100000
end Go.Ab.Dues

namespace Go.Ab.Dues
open Go.Ab.V
set_option maxRecDepth 100000
/-! ### Averages over all orders -/
def addL (a b : List Int) : List Int := List.zipWith (· + ·) a b
def avS (g : List Nat → List Int) (n : Nat) (L : List (List Nat)) : List Int := L.foldl (fun a l => addL a (g l)) (List.replicate n 0)
def avN (g : List Nat → List Int) (n : Nat) (L : List (List Nat)) : List (Nat × Nat) := (avS g n L).map fun x => nrm x.toNat L.length
theorem avS_len {g : List Nat → List Int} {n : Nat} {L : List (List Nat)} (h : ∀ l ∈ L, (g l).length = n) : (avS g n L).length = n := by
  unfold avS
  have : ∀ (L : List (List Nat)) (a : List Int), (∀ l ∈ L, (g l).length = n) → a.length = n → (L.foldl (fun a l => addL a (g l)) a).length = n := by
    intro L
    induction L with
    | nil => intro a _ ha; exact ha
    | cons l L ih =>
      intro a h ha
      rw [List.foldl_cons]
      refine ih _ (fun x hx => h x (.tail _ hx)) ?_
      unfold addL
      rw [List.length_zipWith, ha, h l (.head _), Nat.min_self]
  exact this L _ h (by simp)
theorem avS_snoc (g : List Nat → List Int) (n : Nat) (L : List (List Nat)) (i : Nat) (h : i < L.length) : avS g n (L.take (i + 1)) = addL (avS g n (L.take i)) (g L[i]) := by
  unfold avS
  rw [List.take_add_one, List.getElem?_eq_getElem h, Option.toList_some, List.foldl_append]
  rfl
theorem avS_bd {g : List Nat → List Int} {n : Nat} {B : Int} : ∀ {L : List (List Nat)}, (∀ l ∈ L, ∀ x ∈ g l, 0 ≤ x ∧ x ≤ B) → ∀ x ∈ avS g n L, 0 ≤ x ∧ x ≤ L.length * B := by
  unfold avS
  have : ∀ (L : List (List Nat)) (a : List Int) (k : Nat), (∀ l ∈ L, ∀ x ∈ g l, 0 ≤ x ∧ x ≤ B) → (∀ x ∈ a, 0 ≤ x ∧ x ≤ k * B) → ∀ x ∈ L.foldl (fun a l => addL a (g l)) a, 0 ≤ x ∧ x ≤ (k + L.length : Nat) * B := by
    intro L
    induction L with
    | nil => intro a k _ ha; exact ha
    | cons l L ih =>
      intro a k h ha
      rw [List.foldl_cons, show k + (l :: L).length = k + 1 + L.length from by simp only [List.length_cons]; omega]
      refine ih _ _ (fun x hx => h x (.tail _ hx)) fun x hx => ?_
      unfold addL at hx
      rw [List.mem_iff_getElem] at hx
      obtain ⟨i, hi, rfl⟩ := hx
      rw [List.getElem_zipWith]
      rw [List.length_zipWith] at hi
      have h1 := ha _ (List.getElem_mem (show i < a.length by omega))
      have h2 := h l (.head _) _ (List.getElem_mem (show i < (g l).length by omega))
      have : ((k + 1 : Nat) : Int) * B = k * B + B := by rw [Int.natCast_add, Int.add_mul]; omega
      omega
  intro L h x hx
  have := this L (List.replicate n 0) 0 h (fun x hx => by rw [List.eq_of_mem_replicate hx]; simp) x hx
  rwa [Nat.zero_add] at this
def addT (a b : List Int) (s : Nat) : List Int := (addL a b).take s ++ a.drop s
theorem addT_len {a b : List Int} (h : a.length = b.length) (s : Nat) : (addT a b s).length = a.length := by
  unfold addT addL
  simp only [List.length_append, List.length_take, List.length_zipWith, List.length_drop]
  omega
theorem addT_get {a b : List Int} (h : a.length = b.length) {s : Nat} (hs : s < a.length) : (addT a b s)[s]? = some a[s] := by
  unfold addT
  have hl : ((addL a b).take s).length = s := by unfold addL; simp only [List.length_take, List.length_zipWith]; omega
  rw [List.getElem?_append_right (by omega), hl, Nat.sub_self, List.getElem?_drop, Nat.add_zero, List.getElem?_eq_getElem hs]
theorem addT_set {a b : List Int} (h : a.length = b.length) {s : Nat} (hs : s < a.length) : (addT a b s).set s (a[s] + b[s]'(by omega)) = addT a b (s + 1) := by
  unfold addT
  have hl : ((addL a b).take s).length = s := by unfold addL; simp only [List.length_take, List.length_zipWith]; omega
  have hl2 : (addL a b).length = a.length := by unfold addL; simp only [List.length_zipWith]; omega
  rw [List.set_append_right _ _ (by omega), hl, Nat.sub_self, List.drop_eq_getElem_cons hs, List.set_cons_zero, List.take_add_one, List.getElem?_eq_getElem (by omega), Option.toList_some, List.append_assoc]
  have : (addL a b)[s]'(by omega) = a[s] + b[s]'(by omega) := by unfold addL; exact List.getElem_zipWith
  rw [this]; rfl
theorem addT_end {a b : List Int} (h : a.length = b.length) : addT a b a.length = addL a b := by
  unfold addT
  rw [List.drop_length, List.append_nil, List.take_of_length_le (by unfold addL; simp only [List.length_zipWith]; omega)]
end Go.Ab.Dues

namespace Go.Ab.Dues
open Go.Ab.V
set_option maxRecDepth 100000
/-! ### Sums with weights -/
/-! ### The shares by an order, piece by piece -/
theorem orF_bit (t : Nat) : ∀ (l : List Nat) (b : Nat), (l.foldl (fun a s => a ||| 2 ^ s) b).testBit t = (b.testBit t || decide (t ∈ l))
  | [], b => by simp
  | s :: l, b => by
    rw [List.foldl_cons, orF_bit t l, Nat.testBit_or, Nat.testBit_two_pow]
    by_cases h : s = t
    · subst h; simp
    · have : ¬t = s := fun e => h e.symm
      simp [h, this]
/-- The first ship of an order that needs a piece. -/
def fst1 (c : Can) (o : List Nat) (p : Nat) : Option Nat := o.find? fun t => nbC c t p
def w1 (c : Can) (o : List Nat) (s p : Nat) : Int := if fst1 c o p = some s then 1 else 0
/-! ### How often a ship is the first one -/
theorem addL_getD {a b : List Int} (h : a.length = b.length) (s : Nat) : (addL a b).getD s 0 = a.getD s 0 + b.getD s 0 := by
  unfold addL
  rw [List.getD_eq_getElem?_getD, List.getD_eq_getElem?_getD, List.getD_eq_getElem?_getD, List.getElem?_zipWith]
  rcases Nat.lt_or_ge s a.length with hs | hs
  · rw [List.getElem?_eq_getElem hs, List.getElem?_eq_getElem (by omega)]; rfl
  · rw [List.getElem?_eq_none hs, List.getElem?_eq_none (by omega)]; rfl
theorem sq_ind (u : Nat) : ∀ n, sq (fun s => if some u = some s then (1 : Int) else 0) (fun _ => true) n = if u < n then 1 else 0
  | 0 => rfl
  | n + 1 => by
    unfold sq
    rw [sq_ind u n, cond_true]
    by_cases h : u = n
    · subst h; simp
    · have : ¬some u = some n := fun e => h (Option.some.inj e)
      rw [if_neg this]
      by_cases h2 : u < n
      · rw [if_pos h2, if_pos (by omega)]; rfl
      · rw [if_neg h2, if_neg (by omega)]; rfl
theorem sq_add2 (f g : Nat → Int) (q : Nat → Bool) : ∀ n, sq (fun s => f s + g s) q n = sq f q n + sq g q n
  | 0 => rfl
  | n + 1 => by
    unfold sq; rw [sq_add2 f g q n]
    cases q n <;> simp only [cond_true, cond_false] <;> omega
theorem sq_congr2 {f g : Nat → Int} {q : Nat → Bool} : ∀ {n : Nat}, (∀ s, s < n → f s = g s) → sq f q n = sq g q n
  | 0, _ => rfl
  | n + 1, h => by unfold sq; rw [sq_congr2 fun s hs => h s (by omega), h n (by omega)]
/-! ### The average is the equal share -/
end Go.Ab.Dues

namespace Go.Ab.Dues
open Go.Ab.V
set_option maxRecDepth 100000
/-! ### Fair lists -/
/-- A share, within its limits. -/
def okQ (q : Int × Int) : Prop := (-1000000000 ≤ q.1 ∧ q.1 ≤ 1000000000) ∧ 1 ≤ q.2 ∧ 5040 % q.2 = 0 ∧ Int.gcd q.1 q.2 = 1
instance (q : Int × Int) : Decidable (okQ q) := by unfold okQ; infer_instance
def okSh (c : Can) (l : List (Int × Int)) : Prop := l.length = c.ships.length ∧ ∀ q ∈ l, okQ q
instance (c : Can) (l : List (Int × Int)) : Decidable (okSh c l) := by unfold okSh; infer_instance
theorem okQ_le {q : Int × Int} (h : okQ q) : q.2 ≤ 5040 := by
  obtain ⟨_, h1, h2, _⟩ := h
  exact Int.le_of_dvd (by decide) (Int.dvd_of_emod_eq_zero h2)
def pay (q : Int × Int) : Int := q.1 * (5040 / q.2)
def ovL (l : List (Int × Int)) (S : List Nat) : List Int := S.map fun s => pay (l.getD s (0, 1))
theorem mul_bd {x : Int} {z : Nat} (hx : -1000000000 ≤ x ∧ x ≤ 1000000000) (hz : z ≤ 5040) : -5040000000000 ≤ x * (z : Int) ∧ x * (z : Int) ≤ 5040000000000 := by
  have h0 : (0 : Int) ≤ z := Int.natCast_nonneg z
  have h1 := Int.mul_le_mul_of_nonneg_right hx.1 h0
  have h2 := Int.mul_le_mul_of_nonneg_right hx.2 h0
  constructor <;> omega
theorem pay_bd {q : Int × Int} (h : okQ q) : -5040000000000 ≤ pay q ∧ pay q ≤ 5040000000000 := by
  obtain ⟨u, hu⟩ := Int.eq_ofNat_of_zero_le (show 0 ≤ q.2 by have := h.2.1; omega)
  unfold pay
  have e : (5040 : Int) / q.2 = ((5040 / u : Nat) : Int) := by rw [hu]; rfl
  rw [e]
  exact mul_bd h.1 (Nat.div_le_self ..)
theorem q5040 {u : Nat} : IntKind.i64.wrap ((5040 : Int) / (u : Int)) = ((5040 / u : Nat) : Int) := quoI (a := 5040) (g := u) (by decide)
end Go.Ab.Dues

namespace Go.Ab.Dues
open Go.Ab.V
set_option maxRecDepth 100000
end Go.Ab.Dues

namespace Go.Ab.Dues
open Go.Ab.V
set_option maxRecDepth 100000
def sgn (x : Int) : Int := if 0 < x then 1 else if x < 0 then -1 else 0
def payS (l : List (Int × Int)) (S : Nat) (k : Nat) : Int := sumL (ovL l (bitsTo S k))
theorem payS_succ (l : List (Int × Int)) (S k : Nat) : payS l S (k + 1) = payS l S k + (if S.testBit k = true then pay (l.getD k (0, 1)) else 0) := by
  unfold payS
  rw [bitsTo_succ]
  split
  · unfold ovL
    rw [List.map_append, List.map_cons, List.map_nil]
    unfold sumL
    rw [List.foldl_append]; rfl
  · omega
theorem payS_bd (l : List (Int × Int)) (S K : Nat) (hq : ∀ q ∈ l, -(K : Int) ≤ pay q ∧ pay q ≤ (K : Int)) : ∀ i, i ≤ l.length → -((i * K : Nat) : Int) ≤ payS l S i ∧ payS l S i ≤ ((i * K : Nat) : Int)
  | 0, _ => by simp [payS, bitsTo, ovL, sumL]
  | i + 1, hi => by
    have := payS_bd l S K hq i (by omega)
    rw [payS_succ, Nat.succ_mul]
    split
    · have hp := hq _ (List.getElem_mem (show i < l.length by omega))
      have hgd : l.getD i (0, 1) = l[i] := by rw [List.getD_eq_getElem?_getD, List.getElem?_eq_getElem (show i < l.length by omega)]; rfl
      rw [hgd]; omega
    · omega
set_option maxHeartbeats 8000000 in
theorem RPays_ok (l : List (Int × Int)) (hl : l.length ≤ 10) (hq : ∀ q ∈ l, okQ q) (S : Nat) (hS : S < 4611686018427387904) (k : Int) (hk : 0 ≤ k ∧ k ≤ 100000) : VCall cfg 33 [slP l, vi S, vi k] [] [] (vi (sgn (payS l S l.length - 5040 * k))) [] := by
  have hbd := payS_bd l S 5040000000000 (fun q h => pay_bd (hq q h))
  unfold slP
  (refine VCall.mk (fn := a33) rfl rfl rfl ?_; simp only [a33, inV, mkB, nmsL, PT.set])
  (repeat (first | refine VC.seq ?_ | refine VC.block ?_ | refine VC.kill ?_ | refine VC.skip ?_ | refine VC.exit ?_ | refine VC.regA ?_ | refine VC.condT ?_ | refine VC.condF ?_))
  refine VC.loopG (fun (i : Nat) => ⟨inV [p0, p1, p7, p8] [slP l, vi S, vi (payS l S i - 5040 * k), vi i] .lf, .lf, [], none⟩) (fun n i => n = l.length - i ∧ i ≤ l.length) (x := 0) ?_ ⟨rfl, Nat.zero_le _⟩ ?_
  · have h0 : payS l S 0 = 0 := by simp [payS, bitsTo, ovL, sumL]
    rw [h0]
    exact gW
  rintro n i ⟨hn, hi⟩
  simp only [inV, PT.set, slP]
  have hb := hbd i hi
  have hb2 : i * 5040000000000 ≤ 10 * 5040000000000 := Nat.mul_le_mul_right _ (by omega)
  have hps := payS_succ l S i
  have hend : i = l.length → payS l S i = payS l S l.length := fun e => by rw [e]
  generalize payS l S i = u at *
  (repeat (first | refine VC.seq ?_ | refine VC.block ?_ | refine VC.kill ?_ | refine VC.skip ?_ | refine VC.exit ?_ | refine VC.regA ?_ | refine VC.condT ?_ | refine VC.condF ?_))
  refine VC.condA ?_ ?_ <;> intro h' <;> (simp only [decide_eq_true_eq, decide_eq_false_iff_not, bne_iff_ne, ne_eq, bne_eq_false_iff_eq, beq_iff_eq, beq_eq_false_iff_ne, Bool.not_eq_true', Bool.not_eq_false', Bool.and_eq_true, Bool.or_eq_true, Int.natCast_inj] at h')
  · have h' : i < l.length := by omega
    have hqs := hq _ (List.getElem_mem h')
    have hgd : l.getD i (0, 1) = l[i] := by rw [List.getD_eq_getElem?_getD, List.getElem?_eq_getElem h']; rfl
    rw [hgd] at hps
    have hfd := fdivI (a := S) (p := i) (by omega)
    have hbm := bit_mod S i
    generalize hw : S >>> i = w at *
    have htm : (w : Int).tmod 2 = ((w % 2 : Nat) : Int) := by rw [Int.tmod_eq_emod_of_nonneg (by omega)]; omega
    cases hbt : S.testBit i with
    | true =>
      rw [hbt] at hps hbm
      simp only [if_true] at hps hbm
      rw [hbm] at htm
      obtain ⟨z0, hz0⟩ := Int.eq_ofNat_of_zero_le (show 0 ≤ l[i].2 by have := hqs.2.1; omega)
      have hu0 : ¬(z0 : Int) = 0 := by have := hqs.2.1; omega
      have hpb := pay_bd hqs
      have hpe : pay l[i] = l[i].1 * ((5040 / z0 : Nat) : Int) := by unfold pay; rw [hz0]; rfl
      rw [hpe] at hps hpb
      have hq5 := q5040 (u := z0)
      generalize 5040 / z0 = z at *
      generalize hy : l[i].1 * (z : Int) = y at *
      have hw1 := wrapI (x := y) (by omega) (by omega)
      have hw2 := wrapI (x := u - 5040 * k + y) (by omega) (by omega)
      (repeat (first | refine VC.seq ?_ | refine VC.block ?_ | refine VC.kill ?_ | refine VC.skip ?_ | refine VC.exit ?_ | refine VC.regA ?_ | refine VC.condT ?_ | refine VC.condF ?_))
      simp only [hfd, htm]
      (repeat (first | refine VC.seq ?_ | refine VC.block ?_ | refine VC.kill ?_ | refine VC.skip ?_ | refine VC.exit ?_ | refine VC.regA ?_ | refine VC.condT ?_ | refine VC.condF ?_))
      ((try (apply VC.regU; · (exact vF (And.intro @hz0 (And.intro @hq5 (And.intro @hy (And.intro @hw1 @hw2))))))); (repeat (first | refine VC.seq ?_ | refine VC.block ?_ | refine VC.kill ?_ | refine VC.skip ?_ | refine VC.exit ?_ | refine VC.regA ?_ | refine VC.condT ?_ | refine VC.condF ?_)))
      refine ⟨_, i + 1, ?_, ⟨rfl, by omega⟩, ?_⟩
      · omega
      · exact gF (And.intro @hps (And.intro @hz0 (And.intro @hq5 (And.intro @hy (And.intro @hw1 @hw2)))))
    | false =>
      rw [hbt] at hps hbm
      simp only [Bool.false_eq_true, if_false] at hps hbm
      rw [hbm] at htm
      (repeat (first | refine VC.seq ?_ | refine VC.block ?_ | refine VC.kill ?_ | refine VC.skip ?_ | refine VC.exit ?_ | refine VC.regA ?_ | refine VC.condT ?_ | refine VC.condF ?_))
      simp only [hfd, htm]
      (repeat (first | refine VC.seq ?_ | refine VC.block ?_ | refine VC.kill ?_ | refine VC.skip ?_ | refine VC.exit ?_ | refine VC.regA ?_ | refine VC.condT ?_ | refine VC.condF ?_))
      refine ⟨_, i + 1, ?_, ⟨rfl, by omega⟩, ?_⟩
      · omega
      · exact gF @hps
  · have hu := hend (by omega)
    rw [← hu]
    generalize u - 5040 * k = x at *
    (repeat (first | refine VC.seq ?_ | refine VC.block ?_ | refine VC.kill ?_ | refine VC.skip ?_ | refine VC.exit ?_ | refine VC.regA ?_ | refine VC.condT ?_ | refine VC.condF ?_))
    refine VC.condA ?_ ?_ <;> intro h1 <;> (simp only [decide_eq_true_eq, decide_eq_false_iff_not, bne_iff_ne, ne_eq, bne_eq_false_iff_eq, beq_iff_eq, beq_eq_false_iff_ne, Bool.not_eq_true', Bool.not_eq_false', Bool.and_eq_true, Bool.or_eq_true, Int.natCast_inj] at h1)
    · have : sgn x = 1 := by unfold sgn; rw [if_pos (by omega)]
      rw [this]
      (repeat (first | refine VC.seq ?_ | refine VC.block ?_ | refine VC.kill ?_ | refine VC.skip ?_ | refine VC.exit ?_ | refine VC.regA ?_ | refine VC.condT ?_ | refine VC.condF ?_))
      exact VC.ret (Fin.A rfl)
    · (repeat (first | refine VC.seq ?_ | refine VC.block ?_ | refine VC.kill ?_ | refine VC.skip ?_ | refine VC.exit ?_ | refine VC.regA ?_ | refine VC.condT ?_ | refine VC.condF ?_))
      refine VC.condA ?_ ?_ <;> intro h2 <;> (simp only [decide_eq_true_eq, decide_eq_false_iff_not, bne_iff_ne, ne_eq, bne_eq_false_iff_eq, beq_iff_eq, beq_eq_false_iff_ne, Bool.not_eq_true', Bool.not_eq_false', Bool.and_eq_true, Bool.or_eq_true, Int.natCast_inj] at h2)
      · have : sgn x = -1 := by unfold sgn; rw [if_neg (by omega), if_pos (by omega)]
        rw [this]
        (repeat (first | refine VC.seq ?_ | refine VC.block ?_ | refine VC.kill ?_ | refine VC.skip ?_ | refine VC.exit ?_ | refine VC.regA ?_ | refine VC.condT ?_ | refine VC.condF ?_))
        exact VC.ret (Fin.A rfl)
      · have : sgn x = 0 := by unfold sgn; rw [if_neg (by omega), if_neg (by omega)]
        rw [this]
        (repeat (first | refine VC.seq ?_ | refine VC.block ?_ | refine VC.kill ?_ | refine VC.skip ?_ | refine VC.exit ?_ | refine VC.regA ?_ | refine VC.condT ?_ | refine VC.condF ?_))
        exact VC.ret (Fin.A rfl)
end Go.Ab.Dues

namespace Go.Ab.Dues
open Go.Ab.V
set_option maxRecDepth 100000
end Go.Ab.Dues

namespace Go.Ab.Dues
open Go.Ab.V
set_option maxRecDepth 100000
set_option maxHeartbeats 4000000 in
theorem right_ok (l : List (Int × Int)) (hl : l.length ≤ 1000) (hq : ∀ q ∈ l, 1 ≤ q.2 ∧ 5040 % q.2 = 0 ∧ -1000000000 ≤ q.1 ∧ q.1 ≤ 1000000000) (n : Int) : VCall cfg 32 [slP l, vi n] [] [] (vb (decide ((l.length : Int) = n))) [] := by
  unfold slP
  (refine VCall.mk (fn := a32) rfl rfl rfl ?_; simp only [a32, inV, mkB, nmsL, PT.set])
  (repeat (first | refine VC.seq ?_ | refine VC.block ?_ | refine VC.kill ?_ | refine VC.skip ?_ | refine VC.exit ?_ | refine VC.regA ?_ | refine VC.condT ?_ | refine VC.condF ?_))
  refine VC.loopG (fun (i : Nat) => ⟨inV [p0, p1, p5] [slP l, vi n, vi i] .lf, .lf, [], none⟩) (fun n i => n = l.length - i ∧ i ≤ l.length) (x := 0) ?_ ⟨rfl, Nat.zero_le _⟩ ?_
  · (apply Go.Ab.V.G.weak; constructor <;> simp (config := {decide := true}) only [PT.Le, inV, mkB, PT.set, VSt.kill, VSt.adopt, VSt.alloc, PT.filt, PT.map, List.map_cons, List.map_nil, noref, norefB, deadB, deadV, nos, nm, nmL, nmB, nmE, Pa.eqb, cond_true, cond_false, Bool.not_true, Bool.not_false, Bool.and_true, Bool.true_and, nmL_vi, flV_len, flP_len, flV_nm, flV_ok, flV_pv, flP_map, drop_flP, drop_flV, putC_flV, eqV2, eqV3, bneT, bneF, decide_true, decide_false, frzL_vi, frzL_flV, nmE_ag, nmE_at, frzE_ag, frzE_at, ofAg_len, ofAt_len, atL_vi, nmL_map_p, frzL_map_p, okL_p, toPVs_p, repsZ, nmL_reps, putC_vi, get_flV0, get_flV1, Int.toNat_zero, Int.toNat_one, Int.reduceToNat, eqV_slice, eqV_ptr, eqV_func, nilS, nilP, nilF, nmL_append, true_or, or_true, and_self, true_and, and_true, Option.some.injEq, reduceCtorEq, false_or, or_false, VV.p.injEq, PV.at.injEq, Value.int.injEq, sl1, vi, bl1, vb, nilV, slP])
  rintro n i ⟨hn, hi⟩
  simp only [inV, PT.set, slP]
  (repeat (first | refine VC.seq ?_ | refine VC.block ?_ | refine VC.kill ?_ | refine VC.skip ?_ | refine VC.exit ?_ | refine VC.regA ?_ | refine VC.condT ?_ | refine VC.condF ?_))
  refine VC.condA ?_ ?_ <;> intro h <;> (simp only [decide_eq_true_eq, decide_eq_false_iff_not, bne_iff_ne, ne_eq, bne_eq_false_iff_eq, beq_iff_eq, beq_eq_false_iff_ne, Bool.not_eq_true', Bool.not_eq_false', Bool.and_eq_true, Bool.or_eq_true, Int.natCast_inj] at h)
  · have h : i < l.length := by omega
    obtain ⟨q1, q2, q3, q4⟩ := hq _ (List.getElem_mem h)
    have q5 : ¬l[i].2 = 0 := by omega
    (repeat (first | refine VC.seq ?_ | refine VC.block ?_ | refine VC.kill ?_ | refine VC.skip ?_ | refine VC.exit ?_ | refine VC.regA ?_ | refine VC.condT ?_ | refine VC.condF ?_))
    ((try (apply VC.regU; · (exact vF @q2))); (repeat (first | refine VC.seq ?_ | refine VC.block ?_ | refine VC.kill ?_ | refine VC.skip ?_ | refine VC.exit ?_ | refine VC.regA ?_ | refine VC.condT ?_ | refine VC.condF ?_)))
    refine ⟨_, i + 1, ?_, ⟨rfl, by omega⟩, ?_⟩
    · omega
    · exact gW
  · (repeat (first | refine VC.seq ?_ | refine VC.block ?_ | refine VC.kill ?_ | refine VC.skip ?_ | refine VC.exit ?_ | refine VC.regA ?_ | refine VC.condT ?_ | refine VC.condF ?_))
    exact VC.ret (Fin.A rfl)
end Go.Ab.Dues

namespace Go.Ab.Dues
open Go.Ab.V
set_option maxRecDepth 100000
/-! ### Fair lists -/
theorem sumL_ovL (l : List (Int × Int)) (S n : Nat) : sumL (ovL l (bitsTo S n)) = sq (fun s => pay (l.getD s (0, 1))) (fun s => S.testBit s) n := by
  unfold ovL bitsTo
  exact sum_sq (fun s => pay (l.getD s (0, 1))) (fun s => S.testBit s) n
theorem full_bit {n s : Nat} : (2 ^ n - 1).testBit s = decide (s < n) := by
  rw [Nat.testBit_two_pow_sub_one]
/-! ### What is paid -/
end Go.Ab.Dues

namespace Go.Ab.Dues
open Go.Ab.V
set_option maxRecDepth 100000
/-! ### The ship with which the cost is greater than a limit for the first time -/
def piv (c : Can) (lim : Int) : Nat → List Nat → Option Nat
  | _, [] => none
  | b, s :: l => if costS c (b ||| 2 ^ s) > lim then some s else piv c lim (b ||| 2 ^ s) l
def pvO (n : Nat) : Option Nat → List Int
  | none => List.replicate n 0
  | some s => (List.replicate n 0).set s 1
def pwO (c : Can) (lim : Int) (l : List Nat) : List Int := pvO l.length (piv c lim 0 l)
def pwM (c : Can) (lim : Int) : List (Nat × Int) → Nat → List Nat → List (Nat × Int)
  | M, _, [] => M
  | M, b, s :: l => if costS c (b ||| 2 ^ s) > lim then memo c M (b ||| 2 ^ s) else pwM c lim (memo c M (b ||| 2 ^ s)) (b ||| 2 ^ s) l
theorem pwO_len (c : Can) (lim : Int) (l : List Nat) : (pwO c lim l).length = l.length := by
  unfold pwO; cases piv c lim 0 l <;> simp [pvO]
theorem pwO_bd (c : Can) (lim : Int) (l : List Nat) : ∀ x ∈ pwO c lim l, 0 ≤ x ∧ x ≤ 10000 := by
  unfold pwO
  cases piv c lim 0 l with
  | none => intro x hx; rw [List.eq_of_mem_replicate hx]; decide
  | some s =>
    intro x hx
    rcases List.mem_or_eq_of_mem_set hx with hx | rfl
    · rw [List.eq_of_mem_replicate hx]; decide
    · decide
theorem pwM_okM {c : Can} (lim : Int) : ∀ (l : List Nat) {M : List (Nat × Int)} (b : Nat), okM c M → okM c (pwM c lim M b l)
  | [], M, b, h => h
  | s :: l, M, b, h => by
    unfold pwM
    split
    · exact okM_memo h _
    · exact pwM_okM lim l _ (okM_memo h _)
set_option maxHeartbeats 8000000 in
theorem Power1_ok (c : Can) (h : okC c) (lim : Int) (M : List (Nat × Int)) (hM : okM c M) (l : List Nat) (hl : l.length = c.ships.length) (hm : ∀ s ∈ l, s < c.ships.length) :
    VCall cfg 67 [.os 1 p40 l.length, .op 0 p150 0, .op 0 p151 0] [(p16, .cells (flC c (needK c c.ships.length) p14)), (p14, .map (esM M)), (p150, .cells [.op 0 p16 0]), (p151, .cells [vi lim]), (p40, .cells ((natI l).map vi))] [] (sl1 (pwO c lim l)) [(p16, .cells (flC c (needK c c.ships.length) p14)), (p14, .map (esM (pwM c lim M 0 l))), (p150, .cells [.op 0 p16 0]), (p151, .cells [vi lim]), (p40, .cells ((natI l).map vi))] := by
  have h7 := h.s7
  have kc := cost_ok c h
  have hcb := costS_bd h
  have hnm := fl_nm c (needK c c.ships.length) p14
  have hfz := fl_frz c (needK c c.ships.length) p14
  generalize flC c (needK c c.ships.length) p14 = FL at *
  obtain ⟨L, hLL⟩ : ∃ L, natI l = L := ⟨_, rfl⟩
  have hlL : L.length = l.length := by rw [← hLL]; exact natI_len l
  have hgL : ∀ i (h : i < L.length) (h2 : i < l.length), L[i] = ((l[i] : Nat) : Int) := fun i h h2 => by subst hLL; exact natI_get l i h
  have hds : ∀ i (h : i < l.length), l.drop i = l[i] :: l.drop (i + 1) := fun i h => List.drop_eq_getElem_cons h
  have hde : ∀ i, i = L.length → l.drop i = [] := fun i e => List.drop_of_length_le (by omega)
  have hpw : pwO c lim l = pvO L.length (piv c lim 0 (l.drop 0)) := by unfold pwO; rw [hlL, List.drop_zero]
  have hpm : pwM c lim M 0 l = pwM c lim M 0 (l.drop 0) := rfl
  have hm' : ∀ i (h : i < l.length), l[i] < c.ships.length := fun i h => hm _ (List.getElem_mem h)
  rw [hpw, hpm, hLL, ← hlL]
  generalize hPv : piv c lim 0 (l.drop 0) = P
  generalize hPm : pwM c lim M 0 (l.drop 0) = PM
  clear hLL hpw hpm hm
  refine VCall.mk (fn := a67) rfl rfl rfl ?_
  simp only [a67, inV, mkB, nmsL, PT.set]
  (repeat (first | refine VC.seq ?_ | refine VC.block ?_ | refine VC.kill ?_ | refine VC.skip ?_ | refine VC.exit ?_ | refine VC.regA ?_ | refine VC.condT ?_ | refine VC.condF ?_))
  refine VC.loopG (fun (q : Nat × Nat × List (Nat × Int)) => ⟨inV [p1, p2, p5, p6, p12, p13, p14] [.op 0 p150 0, .op 0 p151 0, .os 1 p11 L.length, vi (q.2.1 : Nat), .os 1 p40 L.length, vi L.length, vi (q.1 : Nat)] .lf, mkB [(p16, .cells FL), (p14, .map (esM q.2.2)), (p150, .cells [.op 0 p16 0]), (p151, .cells [vi lim]), (p11, .cells ((List.replicate L.length (0 : Int)).map vi)), (p40, .cells (L.map vi))] .lf, [p16, p14, p150, p151, p40], none⟩) (fun n q => n = L.length - q.1 ∧ q.1 ≤ L.length ∧ q.2.1 < 2 ^ c.ships.length ∧ okM c q.2.2 ∧ piv c lim q.2.1 (l.drop q.1) = P ∧ pwM c lim q.2.2 q.2.1 (l.drop q.1) = PM) (x := (0, 0, M)) ?_ ⟨rfl, Nat.zero_le _, Nat.pow_pos (by decide), hM, hPv, hPm⟩ ?_
  · exact gF (And.intro @hnm @es_nm)
  rintro n ⟨i, b, M'⟩ ⟨hn, hi, i2, i3, i4, i5⟩
  simp only at hn hi i2 i3 i4 i5
  simp only [inV, PT.set, mkB]
  have hb7 : b < 128 := Nat.lt_of_lt_of_le i2 (show 2 ^ c.ships.length ≤ 2 ^ 7 from Nat.pow_le_pow_right (by decide) h7)
  have hds := hds i
  have hde := hde i
  generalize l.drop i = D at *
  (repeat (first | refine VC.seq ?_ | refine VC.block ?_ | refine VC.kill ?_ | refine VC.skip ?_ | refine VC.exit ?_ | refine VC.regA ?_ | refine VC.condT ?_ | refine VC.condF ?_))
  refine VC.condA ?_ ?_ <;> intro h' <;> (simp only [decide_eq_true_eq, decide_eq_false_iff_not, bne_iff_ne, ne_eq, bne_eq_false_iff_eq, beq_iff_eq, beq_eq_false_iff_ne, Bool.not_eq_true', Bool.not_eq_false', Bool.and_eq_true, Bool.or_eq_true, Int.natCast_inj] at h')
  · have h' : i < L.length := by omega
    have h'' : i < l.length := by omega
    have hg := hgL i h' h''
    have hsm := hm' i h''
    have hds := hds h''
    generalize hs : l[i] = s at *
    rw [hds] at i4 i5
    unfold piv at i4
    unfold pwM at i5
    have hbs : b ||| 2 ^ s < 2 ^ c.ships.length := Nat.or_lt_two_pow i2 (Nat.pow_lt_pow_right (by decide) hsm)
    have k1 := kc M' i3 (b ||| 2 ^ s) hbs
    have hc1 := hcb (b ||| 2 ^ s)
    have hp7 : 2 ^ s < 128 := Nat.lt_of_lt_of_le (Nat.pow_lt_pow_right (by decide) hsm) (show 2 ^ c.ships.length ≤ 2 ^ 7 from Nat.pow_le_pow_right (by decide) h7)
    have hor := or_i64 (a := b) (b := 2 ^ s) (by omega) (by omega)
    have hmod : (s : Int) % 18446744073709551616 = (s : Int) := by omega
    have hsh := shl_one (n := s) (by omega)
    have hshw := shl_w (q := s) (by omega)
    have i3' : okM c (memo c M' (b ||| 2 ^ s)) := okM_memo i3 _
    generalize costS c (b ||| 2 ^ s) = x1 at *
    generalize memo c M' (b ||| 2 ^ s) = M1 at *
    have e1 := es_nm M'
    have e2 := es_nm M1
    generalize hE0 : esM M' = E0 at *
    generalize hE1 : esM M1 = E1 at *
    generalize b ||| 2 ^ s = b2 at *
    have hse : s < (List.replicate L.length (0 : Int)).length := by rw [List.length_replicate]; omega
    have hpv := putC_vi (List.replicate L.length (0 : Int)) s 1 hse
    generalize 2 ^ s = w at *
    (repeat (first | refine VC.seq ?_ | refine VC.block ?_ | refine VC.kill ?_ | refine VC.skip ?_ | refine VC.exit ?_ | refine VC.regA ?_ | refine VC.condT ?_ | refine VC.condF ?_))
    simp only [hg]
    apply VC.regU
    · exact vF (And.intro @hmod (And.intro @hsh @hor))
    (repeat (first | refine VC.seq ?_ | refine VC.block ?_ | refine VC.kill ?_ | refine VC.skip ?_ | refine VC.exit ?_ | refine VC.regA ?_ | refine VC.condT ?_ | refine VC.condF ?_))
    refine VC.planP [p151] rfl ?_
    (apply VPl.run; · (exact vPl))
    refine VPl.callB [(p16, .cells FL), (p14, .map E0)] (mkB [(p11, .cells ((List.replicate L.length (0 : Int)).map vi)), (p40, .cells (L.map vi)), (p150, .cells [.op 0 p16 0]), (p151, .cells [vi lim])] .lf) (no_orc 68 (by decide)) k1 rfl ?_ ?_ rfl rfl rfl rfl rfl rfl rfl ?_
    · simp [mkB, PT.set, PT.Le, VSt.kill, sl1, vi]
    · simp [mkB, PT.set, PT.Le, VSt.kill, sl1, vi]
    (simp only [filtN, filtNB, mkB, PT.set, VSt.put, PT.filt, noref, norefB, nos, nm, nmL, nmB, nmL_vi, nmL_map_p, nmE_ag, flV_nm, List.nil_append, List.append_nil, Pa.eqb, cond_true, cond_false, Bool.and_true, Bool.not_false, Bool.not_true])
    (apply VPl.run; · (exact vPlF (And.intro @e2 @hnm)))
    refine VPl.stop (by decide) ?_
    refine VO.endA ?_
    (repeat (first | refine VC.seq ?_ | refine VC.block ?_ | refine VC.kill ?_ | refine VC.skip ?_ | refine VC.exit ?_ | refine VC.regA ?_ | refine VC.condT ?_ | refine VC.condF ?_))
    refine VC.condA ?_ ?_ <;> intro h2 <;> (simp only [decide_eq_true_eq, decide_eq_false_iff_not, bne_iff_ne, ne_eq, bne_eq_false_iff_eq, beq_iff_eq, beq_eq_false_iff_ne, Bool.not_eq_true', Bool.not_eq_false', Bool.and_eq_true, Bool.or_eq_true, Int.natCast_inj] at h2)
    · rw [if_pos h2] at i4 i5
      rw [← i4, ← i5, hE1]
      have hfz3 : ∀ a cs, (E1.map fun e => (e.1, frzV a cs e.2)) = E1 := fun a cs => by rw [← hE1]; exact es_frz a cs M1
      have hlo : ((List.replicate L.length (0 : Int)).set s 1).length = L.length := by simp
      rw [show sl1 (pvO L.length (some s)) = .p (.sl 1 L.length (((List.replicate L.length (0 : Int)).set s 1).map pi)) from by unfold pvO sl1; rw [hlo]]
      (repeat (first | refine VC.seq ?_ | refine VC.block ?_ | refine VC.kill ?_ | refine VC.skip ?_ | refine VC.exit ?_ | refine VC.regA ?_ | refine VC.condT ?_ | refine VC.condF ?_))
      refine VC.frzA p11 (hb := rfl) (hc := toPVs_vi _) ?_
      simp only [VSt.frz, PT.map, frzL, frzV, frzB, Option.map_some, Option.map_none, hfz, hfz3, PT.set, PT.filt, VSt.kill, Pa.eqb, cond_true, cond_false, Bool.and_true, Bool.and_false, Bool.false_and, Bool.true_and, frzL_vi]
      (repeat (first | refine VC.seq ?_ | refine VC.block ?_ | refine VC.kill ?_ | refine VC.skip ?_ | refine VC.exit ?_ | refine VC.regA ?_ | refine VC.condT ?_ | refine VC.condF ?_))
      refine VC.ret (Fin.of rfl rfl ?_ rfl rfl ?_)
      · simp [mkB, PT.set, PT.Le, VSt.kill, vi]
      · simp [subs, nm, nmL, nmsB, nmB, es_nm, e2, hnm, nos, Pa.eqb, vi, sl1, nmL_vi]
    · rw [if_neg h2] at i4 i5
      (repeat (first | refine VC.seq ?_ | refine VC.block ?_ | refine VC.kill ?_ | refine VC.skip ?_ | refine VC.exit ?_ | refine VC.regA ?_ | refine VC.condT ?_ | refine VC.condF ?_))
      refine ⟨_, (i + 1, b2, M1), ?_, ⟨rfl, by simp only; omega, hbs, i3', i4, i5⟩, ?_⟩
      · simp only; omega
      · simp only
        exact gF (And.intro @hnm @hE1)
  · have h' : i = L.length := by omega
    have hde := hde h'
    rw [hde] at i4 i5
    rw [← i4, ← i5]
    unfold piv pwM
    have e1 := es_nm M'
    have hfz3 := fun a cs => es_frz a cs M'
    generalize hE0 : esM M' = E0 at *
    rw [show sl1 (pvO L.length none) = .p (.sl 1 L.length ((List.replicate L.length (0 : Int)).map pi)) from by unfold pvO sl1; rw [List.length_replicate]]
    (repeat (first | refine VC.seq ?_ | refine VC.block ?_ | refine VC.kill ?_ | refine VC.skip ?_ | refine VC.exit ?_ | refine VC.regA ?_ | refine VC.condT ?_ | refine VC.condF ?_))
    refine VC.frzA p11 (hb := rfl) (hc := toPVs_vi _) ?_
    simp only [VSt.frz, PT.map, frzL, frzV, frzB, Option.map_some, Option.map_none, hfz, hfz3, PT.set, PT.filt, VSt.kill, Pa.eqb, cond_true, cond_false, Bool.and_true, Bool.and_false, Bool.false_and, Bool.true_and, frzL_vi]
    (repeat (first | refine VC.seq ?_ | refine VC.block ?_ | refine VC.kill ?_ | refine VC.skip ?_ | refine VC.exit ?_ | refine VC.regA ?_ | refine VC.condT ?_ | refine VC.condF ?_))
    refine VC.ret (Fin.of rfl rfl ?_ rfl rfl ?_)
    · simp [mkB, PT.set, PT.Le, VSt.kill, vi]
    · simp [subs, nm, nmL, nmsB, nmB, es_nm, e1, hnm, nos, Pa.eqb, vi, sl1, nmL_vi]
end Go.Ab.Dues

namespace Go.Ab.Dues
open Go.Ab.V
set_option maxRecDepth 100000
def pwMM (c : Can) (lim : Int) (L : List (List Nat)) (M : List (Nat × Int)) : List (Nat × Int) := L.foldl (fun M l => pwM c lim M 0 l) M
set_option maxHeartbeats 8000000 in
theorem averagedP_ok (c : Can) (h : okC c) (lim : Int) (M : List (Nat × Int)) (hM : okM c M) :
    VCall cfg 66 [.op 0 p16 0, .clos 67 [] [.op 0 p150 0, .op 0 p151 0]] [(p16, .cells (flC c (needK c c.ships.length) p14)), (p14, .map (esM M)), (p150, .cells [.op 0 p16 0]), (p151, .cells [vi lim])] [] (slP (frI (avN (pwO c lim) c.ships.length (outs c.ships.length c.ships.length [])))) [(p16, .cells (flC c (needK c c.ships.length) p14)), (p14, .map (esM (pwMM c lim (outs c.ships.length c.ships.length []) M))), (p150, .cells [.op 0 p16 0]), (p151, .cells [vi lim])] := by
  have h7 := h.s7
  have ko := orders_ok c.ships.length
  have hit := orders1_ok c.ships.length (by omega)
  have kb := Power1_ok c h lim
  have hLm := fun x hx => outs_mem (n := c.ships.length) (d := c.ships.length) (l := []) (x := x) (fun s hs => by cases hs) hx
  have hLl := outs_len7 h7
  have hLp := outs_pos h7
  have hbb := pwO_bd c lim
  have hg2 : (flC c (needK c c.ships.length) p14)[2]? = some (sl1 c.ships) := rfl
  have hnm := fl_nm c (needK c c.ships.length) p14
  have hfz := fl_frz c (needK c c.ships.length) p14
  generalize hFL : flC c (needK c c.ships.length) p14 = FL at *
  generalize hL : outs c.ships.length c.ships.length [] = L at *
  refine VCall.mk (fn := a66) rfl rfl rfl ?_
  simp only [a66, inV, mkB, nmsL, PT.set]
  have hs1 : sl1 c.ships = .p (.sl 1 c.ships.length (c.ships.map pi)) := rfl
  rw [hs1] at hg2
  (repeat (first | refine VC.seq ?_ | refine VC.block ?_ | refine VC.kill ?_ | refine VC.skip ?_ | refine VC.exit ?_ | refine VC.regA ?_ | refine VC.condT ?_ | refine VC.condF ?_))
  simp only [hnm, es_nm, nos, Pa.eqb, Bool.not_false, Bool.and_true, cond_true]
  ((try (apply VC.regU; · (exact vF @hg2))); (repeat (first | refine VC.seq ?_ | refine VC.block ?_ | refine VC.kill ?_ | refine VC.skip ?_ | refine VC.exit ?_ | refine VC.regA ?_ | refine VC.condT ?_ | refine VC.condF ?_)))
  simp only [hnm, es_nm, nos, Pa.eqb, Bool.not_false, Bool.and_true, cond_true]
  (refine VC.regCA ?_; refine VO.moreA ?_; refine VO.call0A (no_orc _ (by decide)) ko ?_; refine VO.endA ?_; (repeat (first | refine VC.seq ?_ | refine VC.block ?_ | refine VC.kill ?_ | refine VC.skip ?_ | refine VC.exit ?_ | refine VC.regA ?_ | refine VC.condT ?_ | refine VC.condF ?_)))
  (simp only [List.nil_append, List.append_nil, VSt.kill, VSt.osob, VSt.adoptB, VSt.adopt, VSt.alloc, PT.filt, norefB, deadB, deadV, PT.map, Option.map_some, Option.map_none, List.map_cons, List.map_nil, noref, nos, nm, nmL, nmB, nmE, Pa.eqb, PT.set, mkB, inV, cond_true, cond_false, Bool.and_true, Bool.not_false, Bool.not_true, List.set_cons_zero, List.set_cons_succ])
  have hits : ∀ i (hlt : i < (itms L).length), (itms L)[i] = itm (L[i]'(by simpa [itms] using hlt)) := fun i hlt => by simp [itms]
  have hNB : ∀ it ∈ itms L, ∀ a ∈ nmsL it.2, a = p40 := fun it hit a ha => by
    obtain ⟨l, _, rfl⟩ := List.mem_map.1 hit
    simpa [itm, nmsL] using ha
  refine VC.rangeF (fun (q : Nat × List Int × List (Nat × Int)) => mkB [(p3, .cells [.clos 67 [] [.op 0 p150 0, .op 0 p151 0]]), (p6, .cells [.os 1 p21 c.ships.length]), (p7, .cells [vi q.1]), (p21, .cells (q.2.1.map vi)), (p16, .cells FL), (p14, .map (esM q.2.2)), (p150, .cells [.op 0 p16 0]), (p151, .cells [vi lim])] .lf) (fun _ => none)
    (fun i q => q.1 = i ∧ q.2.1 = avS (pwO c lim) c.ships.length (L.take i) ∧ okM c q.2.2 ∧ q.2.2 = pwMM c lim (L.take i) M) (x0 := (0, List.replicate c.ships.length 0, M)) [p3, p6, p7, p21, p16, p14, p150, p151] rfl rfl (no_orc 85 (by decide)) hit
    (fun _ _ hp => NmOk.get (N := [p3, p6, p7, p21, p16, p14, p150, p151]) ?_ hp) (subs_spec (l := [p16, p14, p150, p151]) (m := [p3, p6, p7, p21, p16, p14, p150, p151]) rfl) (fun _ _ _ a ha => mkB_some (t := .lf) ha) ?_ ⟨rfl, rfl, hM, rfl⟩ ?_ (fun i x hlt _ => by rw [hits]; rfl) (fun i x hlt _ => by rw [hits]; rfl) (fun it hit a ha => by rw [hNB it hit a ha]; decide) ?_ ?_
  · simp [NmOk, nm, nmL]
  · simp [mkB, PT.set, PT.Le, vi]
  · intro x hx
    obtain ⟨l, _, rfl⟩ := List.mem_map.1 hx
    rfl
  · rintro i ⟨q1, q2, q3⟩ hlt ⟨h1, h2, h3, h4⟩
    simp only at h1 h2 h3 h4
    rw [hits i hlt]
    have hlt' : i < L.length := by simpa [itms] using hlt
    have hlm := hLm _ (List.getElem_mem hlt')
    have kl := kb q3 h3 L[i] (by rw [hlm.1]; simp) hlm.2
    have hgl : (pwO c lim L[i]).length = c.ships.length := by rw [pwO_len, hlm.1]; simp
    have hq2 : q2.length = c.ships.length := by
      rw [h2]; exact avS_len fun l hl => by rw [pwO_len, (hLm l (List.mem_of_mem_take hl)).1]; simp
    have hqb : ∀ x ∈ q2, 0 ≤ x ∧ x ≤ 8235430000 := fun x hx => by
      rw [h2] at hx
      have := avS_bd (B := 10000) (fun l _ => hbb l) x hx
      rw [List.length_take] at this
      omega
    have hxb := hbb L[i]
    have hsn := avS_snoc (pwO c lim) c.ships.length L i hlt'
    have hbm : pwMM c lim (L.take (i + 1)) M = pwM c lim (pwMM c lim (L.take i) M) 0 L[i] := by
      unfold pwMM
      rw [List.take_add_one, List.getElem?_eq_getElem hlt', Option.toList_some, List.foldl_append]; rfl
    have hok : okM c (pwM c lim q3 0 L[i]) := pwM_okM lim L[i] 0 h3
    have hll : L[i].length = c.ships.length := by rw [hlm.1]; simp
    rw [← h4] at hbm
    rw [← h2] at hsn
    rw [hll] at kl
    generalize (pwM c lim q3 0 L[i]) = q3' at *
    generalize pwO c lim L[i] = X at *
    simp only [itm, mkB, nmsL, filtNB, PT.set, PT.filt, norefB, nmB, nmL_vi, hnm, es_nm, nm, nmL, nos, Pa.eqb, Bool.not_false, Bool.and_true, cond_true, inV, List.cons_append, List.nil_append, vi, hll]
    (repeat (first | refine VC.seq ?_ | refine VC.block ?_ | refine VC.kill ?_ | refine VC.skip ?_ | refine VC.exit ?_ | refine VC.regA ?_ | refine VC.condT ?_ | refine VC.condF ?_))
    refine VC.regCA ?_
    refine VO.moreA ?_
    refine VO.call [] [(p16, .cells FL), (p14, .map (esM q3)), (p150, .cells [.op 0 p16 0]), (p151, .cells [vi lim]), (p40, .cells ((natI L[i]).map vi))] (mkB [(p3, .cells [.clos 67 [] [.op 0 p150 0, .op 0 p151 0]]), (p6, .cells [.os 1 p21 c.ships.length]), (p7, .cells [vi ((q1 : Int) + 1)]), (p21, .cells (q2.map vi))] .lf) rfl rfl (no_orc 67 (by decide)) kl trivial ?_ ?_ rfl rfl rfl rfl rfl rfl rfl ?_
    · simp [mkB, PT.set, PT.Le, VSt.kill, vi]
    · simp [mkB, PT.set, PT.Le, VSt.kill, vi]
    (simp only [filtN, filtNB, mkB, PT.set, VSt.put, PT.filt, noref, norefB, nos, nm, nmL, nmB, nmL_vi, nmL_map_p, nmE_ag, flV_nm, List.nil_append, List.append_nil, Pa.eqb, cond_true, cond_false, Bool.and_true, Bool.not_false, Bool.not_true])
    have hql : q2.length = X.length := by omega
    have hT0 : addT q2 X 0 = q2 := by simp [addT]
    have hTl := addT_len hql
    have hTg := fun {s} => addT_get hql (s := s)
    have hTs := fun {s} => addT_set hql (s := s)
    have hTe := addT_end hql
    refine VO.endA ?_
    (repeat (first | refine VC.seq ?_ | refine VC.block ?_ | refine VC.kill ?_ | refine VC.skip ?_ | refine VC.exit ?_ | refine VC.regA ?_ | refine VC.condT ?_ | refine VC.condF ?_))
    refine VC.loopG (fun (s : Nat) => ⟨inV [p6, p29, p30, p31] [.op 0 p6 0, sl1 X, vi X.length, vi s] .lf, mkB [(p3, .cells [.clos 67 [] [.op 0 p150 0, .op 0 p151 0]]), (p6, .cells [.os 1 p21 c.ships.length]), (p7, .cells [vi ((q1 : Int) + 1)]), (p21, .cells ((addT q2 X s).map vi)), (p16, .cells FL), (p14, .map (esM q3')), (p150, .cells [.op 0 p16 0]), (p151, .cells [vi lim]), (p40, .cells ((natI L[i]).map vi))] .lf, [p3, p6, p7, p21, p16, p14, p150, p151, p40], none⟩) (fun k s => k = X.length - s ∧ s ≤ X.length) (x := 0) ?_ ⟨rfl, Nat.zero_le _⟩ ?_
    · rw [hT0]
      exact gW
    rintro k s ⟨hk, hs⟩
    simp only [inV, PT.set, mkB]
    (repeat (first | refine VC.seq ?_ | refine VC.block ?_ | refine VC.kill ?_ | refine VC.skip ?_ | refine VC.exit ?_ | refine VC.regA ?_ | refine VC.condT ?_ | refine VC.condF ?_))
    have hTl := hTl s
    refine VC.condA ?_ ?_ <;> intro h' <;> (simp only [decide_eq_true_eq, decide_eq_false_iff_not, bne_iff_ne, ne_eq, bne_eq_false_iff_eq, beq_iff_eq, beq_eq_false_iff_ne, Bool.not_eq_true', Bool.not_eq_false', Bool.and_eq_true, Bool.or_eq_true, Int.natCast_inj] at h')
    · have h' : s < X.length := by omega
      have hs2 : s < q2.length := by rw [hql]; exact h'
      have hTg := hTg (s := s) hs2
      have hTs := hTs (s := s) hs2
      have hq := hqb _ (List.getElem_mem hs2)
      have hx := hxb _ (List.getElem_mem h')
      generalize addT q2 X s = Y at *
      have hYl : s < Y.length := by omega
      have hYs : Y[s] = q2[s]'hs2 := by
        rw [List.getElem?_eq_getElem hYl] at hTg
        exact Option.some.inj hTg
      rw [← hYs] at hTs hq
      clear hTg hTe hT0
      (repeat (first | refine VC.seq ?_ | refine VC.block ?_ | refine VC.kill ?_ | refine VC.skip ?_ | refine VC.exit ?_ | refine VC.regA ?_ | refine VC.condT ?_ | refine VC.condF ?_))
      refine ⟨_, s + 1, ?_, ⟨rfl, by omega⟩, ?_⟩
      · omega
      · rw [← hTs]
        exact gW
    · have h' : s = q2.length := by omega
      have hE : addT q2 X s = avS (pwO c lim) c.ships.length (L.take (i + 1)) := by rw [h', hTe, hsn]
      rw [hE]
      (repeat (first | refine VC.seq ?_ | refine VC.block ?_ | refine VC.kill ?_ | refine VC.skip ?_ | refine VC.exit ?_ | refine VC.regA ?_ | refine VC.condT ?_ | refine VC.condF ?_))
      refine ⟨(fun h => nomatch h), (q1 + 1, avS (pwO c lim) c.ships.length (L.take (i + 1)), q3'), ⟨by simp only; omega, rfl, hok, hbm.symm⟩, ?_⟩
      have hc1 : ((q1 + 1 : Nat) : Int) = (q1 : Int) + 1 := by omega
      simp only [hc1]
      (apply Go.Ab.V.G.weak; constructor <;> simp (config := {decide := true}) only [PT.Le, inV, mkB, PT.set, VSt.kill, VSt.adopt, VSt.alloc, PT.filt, PT.map, List.map_cons, List.map_nil, noref, norefB, deadB, deadV, nos, nm, nmL, nmB, nmE, Pa.eqb, cond_true, cond_false, Bool.not_true, Bool.not_false, Bool.and_true, Bool.true_and, nmL_vi, flV_len, flP_len, flV_nm, flV_ok, flV_pv, flP_map, drop_flP, drop_flV, putC_flV, eqV2, eqV3, bneT, bneF, decide_true, decide_false, frzL_vi, frzL_flV, nmE_ag, nmE_at, frzE_ag, frzE_at, ofAg_len, ofAt_len, atL_vi, nmL_map_p, frzL_map_p, okL_p, toPVs_p, repsZ, nmL_reps, putC_vi, get_flV0, get_flV1, Int.toNat_zero, Int.toNat_one, Int.reduceToNat, eqV_slice, eqV_ptr, eqV_func, nilS, nilP, nilF, nmL_append, true_or, or_true, and_self, true_and, and_true, Option.some.injEq, reduceCtorEq, false_or, or_false, VV.p.injEq, PV.at.injEq, Value.int.injEq, sl1, vi, bl1, vb, nilV, sl1, vi, nmsL])
      (all_goals first | rfl | omega | exact ⟨rfl, by omega⟩)
  · rintro _ ⟨q1, q2, q3⟩ ⟨h1, h2, h3, h4⟩
    simp only at h1 h2 h3 h4
    have hil : (itms L).length = L.length := by simp [itms]
    rw [hil] at h1 h2 h4
    rw [List.take_length] at h2 h4
    have hq2 : q2.length = c.ships.length := by
      rw [h2]; exact avS_len fun l hl => by rw [pwO_len, (hLm l hl).1]; simp
    have hqb : ∀ x ∈ q2, 0 ≤ x ∧ x ≤ 8235430000 := fun x hx => by
      rw [h2] at hx
      have := avS_bd (B := 10000) (fun l _ => hbb l) x hx
      omega
    have hL0 : 0 < L.length := hLp
    obtain ⟨W, hW⟩ : ∃ W, W = frI (avN (pwO c lim) c.ships.length L) := ⟨_, rfl⟩
    have hWl : W.length = q2.length := by rw [hW]; simp [frI, avN, h2]
    have hWg : ∀ i (hi : i < W.length) (hi2 : i < q2.length), W[i] = (((nrm q2[i].toNat L.length).1 : Int), ((nrm q2[i].toNat L.length).2 : Int)) := fun i hi hi2 => by
      subst hW h2
      simp [frI, avN]
    rw [← hW, ← h4]
    subst h1
    clear hW h2 h4 hLm hbb kb hit hits hNB
    simp only [mkB, PT.set, vi]
    (repeat (first | refine VC.seq ?_ | refine VC.block ?_ | refine VC.kill ?_ | refine VC.skip ?_ | refine VC.exit ?_ | refine VC.regA ?_ | refine VC.condT ?_ | refine VC.condF ?_))
    have hm3 := es_nm q3
    have hz3 := fun a cs => es_frz a cs q3
    generalize esM q3 = E3 at *
    refine VC.loopG (fun (i : Nat) => ⟨inV [p7, p11, p44, p45, p46] [.op 0 p7 0, .os 2 p19 i, .os 1 p21 c.ships.length, vi c.ships.length, vi i] .lf, mkB [(p7, .cells [vi L.length]), (p21, .cells (q2.map vi)), (p16, .cells FL), (p14, .map E3), (p150, .cells [.op 0 p16 0]), (p151, .cells [vi lim]), (p19, .cells (flV (W.take i)))] .lf, [p16, p14, p150, p151], none⟩) (fun k i => k = c.ships.length - i ∧ i ≤ c.ships.length) (x := 0) ?_ ⟨rfl, Nat.zero_le _⟩ ?_
    · refine G.adoptA (p := p11) 2 p19 ?_
      (apply Go.Ab.V.G.weak; constructor <;> simp (config := {decide := true}) only [PT.Le, inV, mkB, PT.set, VSt.kill, VSt.adopt, VSt.alloc, PT.filt, PT.map, List.map_cons, List.map_nil, noref, norefB, deadB, deadV, nos, nm, nmL, nmB, nmE, Pa.eqb, cond_true, cond_false, Bool.not_true, Bool.not_false, Bool.and_true, Bool.true_and, nmL_vi, flV_len, flP_len, flV_nm, flV_ok, flV_pv, flP_map, drop_flP, drop_flV, putC_flV, eqV2, eqV3, bneT, bneF, decide_true, decide_false, frzL_vi, frzL_flV, nmE_ag, nmE_at, frzE_ag, frzE_at, ofAg_len, ofAt_len, atL_vi, nmL_map_p, frzL_map_p, okL_p, toPVs_p, repsZ, nmL_reps, putC_vi, get_flV0, get_flV1, Int.toNat_zero, Int.toNat_one, Int.reduceToNat, eqV_slice, eqV_ptr, eqV_func, nilS, nilP, nilF, nmL_append, true_or, or_true, and_self, true_and, and_true, Option.some.injEq, reduceCtorEq, false_or, or_false, VV.p.injEq, PV.at.injEq, Value.int.injEq, sl1, vi, bl1, vb, nilV, vi, hnm, hm3, List.take_zero, flV])
      exact ⟨⟨⟨rfl, rfl⟩, rfl⟩, rfl⟩
    rintro k i ⟨hk, hi⟩
    simp only [inV, PT.set, mkB]
    have hll : (flV (W.take i)).length = i * 2 := by rw [flV_len, List.length_take]; omega
    have hn2 := flV_nm (W.take i)
    have htk : ∀ h : i < W.length, flV (W.take (i + 1)) = flV (W.take i) ++ [vi W[i].1, vi W[i].2] := fun h => by rw [List.take_add_one, List.getElem?_eq_getElem h]; exact flV_snoc _ _ _
    have hfz2 : i = W.length → flV (W.take i) = flV W := fun e => by rw [e, List.take_length]
    generalize flV (W.take i) = Z at *
    (repeat (first | refine VC.seq ?_ | refine VC.block ?_ | refine VC.kill ?_ | refine VC.skip ?_ | refine VC.exit ?_ | refine VC.regA ?_ | refine VC.condT ?_ | refine VC.condF ?_))
    refine VC.condA ?_ ?_ <;> intro h' <;> (simp only [decide_eq_true_eq, decide_eq_false_iff_not, bne_iff_ne, ne_eq, bne_eq_false_iff_eq, beq_iff_eq, beq_eq_false_iff_ne, Bool.not_eq_true', Bool.not_eq_false', Bool.and_eq_true, Bool.or_eq_true, Int.natCast_inj] at h')
    · have h' : i < c.ships.length := by omega
      have hi2 : i < q2.length := by rw [hq2]; exact h'
      have hi3 : i < W.length := by rw [hWl]; exact hi2
      have htk := htk hi3
      have hb := hqb _ (List.getElem_mem hi2)
      have k1 := lowest_ok q2[i].toNat L.length (by omega) (by omega) hL0
      rw [Int.toNat_of_nonneg hb.1] at k1
      rw [hWg i hi3 hi2] at htk
      (repeat (first | refine VC.seq ?_ | refine VC.block ?_ | refine VC.kill ?_ | refine VC.skip ?_ | refine VC.exit ?_ | refine VC.regA ?_ | refine VC.condT ?_ | refine VC.condF ?_))
      refine VC.regCA ?_
      refine VO.moreA ?_
      refine VO.call0A (no_orc 78 (by decide)) k1 ?_
      apply VO.upto
      · exact vF (And.intro @hll @hn2)
      refine VO.nil ?_
      (repeat (first | refine VC.seq ?_ | refine VC.block ?_ | refine VC.kill ?_ | refine VC.skip ?_ | refine VC.exit ?_ | refine VC.regA ?_ | refine VC.condT ?_ | refine VC.condF ?_))
      refine ⟨_, i + 1, ?_, ⟨rfl, by omega⟩, ?_⟩
      · omega
      · exact gF (And.intro @htk (And.intro @hnm @hm3))
    · have h' : i = W.length := by omega
      have hz := hfz2 h'
      have kl := list_ok W (by omega)
      rw [hz]
      subst h'
      refine VC.frzA p19 (hb := rfl) (hc := flV_pv W) ?_
      simp only [VSt.frz, PT.map, frzL, frzV, frzB, Option.map_some, Option.map_none, hfz, hz3, PT.set, PT.filt, VSt.kill, Pa.eqb, cond_true, cond_false, Bool.and_true, Bool.and_false, Bool.false_and, Bool.true_and, frzL_vi]
      (repeat (first | refine VC.seq ?_ | refine VC.block ?_ | refine VC.kill ?_ | refine VC.skip ?_ | refine VC.exit ?_ | refine VC.regA ?_ | refine VC.condT ?_ | refine VC.condF ?_))
      have esl : slP W = .p (.sl 2 W.length (flP W)) := rfl
      rw [esl] at kl ⊢
      refine VC.regCA ?_
      refine VO.moreA ?_
      refine VO.call0A (no_orc 56 (by decide)) kl ?_
      refine VO.endA ?_
      (repeat (first | refine VC.seq ?_ | refine VC.block ?_ | refine VC.kill ?_ | refine VC.skip ?_ | refine VC.exit ?_ | refine VC.regA ?_ | refine VC.condT ?_ | refine VC.condF ?_))
      refine VC.ret (Fin.of rfl rfl ?_ rfl rfl ?_)
      · simp [mkB, PT.set, PT.Le, VSt.kill, vi]
      · simp [subs, nm, nmL, nmsB, nmB, hm3, hnm, nos, Pa.eqb, vi]
end Go.Ab.Dues

namespace Go.Ab.Dues
open Go.Ab.V
set_option maxRecDepth 100000
def powN (c : Can) (lim : Int) : List (Nat × Nat) := avN (pwO c lim) c.ships.length (outs c.ships.length c.ships.length [])
set_option maxHeartbeats 4000000 in
theorem Power_ok (c : Can) (h : okC c) (lim : Int) (h0 : 0 ≤ lim) (h1 : lim ≤ 10000) : VCall cfg 28 [canV c, vi lim] [] [] (.tup [slP (frI (powN c lim)), vi 0]) [] := by
  have k1 := open_ok c h
  have k2 := averagedP_ok c h lim [] (fun q hq => by cases hq)
  have he : esM [] = [] := rfl
  rw [he] at k2
  have hnm := fl_nm c (needK c c.ships.length) p14
  have hfz := fl_frz c (needK c c.ships.length) p14
  have hr1 : renL p6 p150 (flC c (needK c c.ships.length) p14) = flC c (needK c c.ships.length) p14 := renL_id (by rw [hnm]; decide)
  have hr2 : renL p3 p151 (flC c (needK c c.ships.length) p14) = flC c (needK c c.ships.length) p14 := renL_id (by rw [hnm]; decide)
  generalize flC c (needK c c.ships.length) p14 = FL at *
  unfold canV at k1 ⊢
  (refine VCall.mk (fn := a28) rfl rfl rfl ?_; simp only [a28, inV, mkB, nmsL, PT.set])
  (repeat (first | refine VC.seq ?_ | refine VC.block ?_ | refine VC.kill ?_ | refine VC.skip ?_ | refine VC.exit ?_ | refine VC.regA ?_ | refine VC.condT ?_ | refine VC.condF ?_))
  refine VC.regCA ?_
  refine VO.moreA ?_
  refine VO.callN (no_orc 52 (by decide)) k1 rfl rfl rfl rfl rfl rfl ?_
  (simp only [filtN, filtNB, mkB, PT.set, VSt.put, PT.filt, noref, norefB, nos, nm, nmL, nmB, nmL_vi, nmL_map_p, nmE_ag, flV_nm, List.nil_append, List.append_nil, Pa.eqb, cond_true, cond_false, Bool.and_true, Bool.not_false, Bool.not_true])
  refine VO.endA ?_
  (repeat (first | refine VC.seq ?_ | refine VC.block ?_ | refine VC.kill ?_ | refine VC.skip ?_ | refine VC.exit ?_ | refine VC.regA ?_ | refine VC.condT ?_ | refine VC.condF ?_))
  have d1 : decide (lim < 0) = false := decide_eq_false (by omega)
  have d2 : decide (lim > 10000) = false := decide_eq_false (by omega)
  ((try (apply VC.regU; · (exact vF (And.intro @d1 @d2)))); (repeat (first | refine VC.seq ?_ | refine VC.block ?_ | refine VC.kill ?_ | refine VC.skip ?_ | refine VC.exit ?_ | refine VC.regA ?_ | refine VC.condT ?_ | refine VC.condF ?_)))
  simp only [VSt.kill, PT.set, hnm, nos, Pa.eqb, Bool.not_false, Bool.and_true, cond_true]
  refine VC.ghost (G.ren p6 p150 rfl rfl rfl rfl G.refl) ?_
  simp only [VSt.ren, PT.map, PT.filt, PT.set, noref, norefB, deadB, nm, nmL, nmB, nmE, hnm, nos, Pa.eqb, renV, renL, renB, rnP, hr1, hr2, List.map_nil, Option.map_some, Option.map_none, Bool.not_false, Bool.not_true, Bool.and_true, Bool.and_false, cond_true, cond_false, List.append_nil, List.nil_append]
  refine VC.ghost (G.ren p3 p151 rfl rfl rfl rfl G.refl) ?_
  simp only [VSt.ren, PT.map, PT.filt, PT.set, noref, norefB, deadB, nm, nmL, nmB, nmE, hnm, nos, Pa.eqb, renV, renL, renB, rnP, hr1, hr2, List.map_nil, Option.map_some, Option.map_none, Bool.not_false, Bool.not_true, Bool.and_true, Bool.and_false, cond_true, cond_false, List.append_nil, List.nil_append]
  refine VC.regCA ?_
  refine VO.moreA ?_
  refine VO.call [] [(p16, .cells FL), (p14, .map []), (p150, .cells [.op 0 p16 0]), (p151, .cells [vi lim])] .lf rfl rfl (no_orc 66 (by decide)) k2 trivial ?_ ?_ rfl rfl rfl rfl rfl rfl rfl ?_
  · simp [mkB, PT.set, PT.Le, VSt.kill, vi]
  · trivial
  (simp only [filtN, filtNB, mkB, PT.set, VSt.put, PT.filt, noref, norefB, nos, nm, nmL, nmB, nmL_vi, nmL_map_p, nmE_ag, flV_nm, List.nil_append, List.append_nil, Pa.eqb, cond_true, cond_false, Bool.and_true, Bool.not_false, Bool.not_true])
  refine VO.endA ?_
  (repeat (first | refine VC.seq ?_ | refine VC.block ?_ | refine VC.kill ?_ | refine VC.skip ?_ | refine VC.exit ?_ | refine VC.regA ?_ | refine VC.condT ?_ | refine VC.condF ?_))
  exact VC.ret (Fin.A rfl)
end Go.Ab.Dues

namespace Go.Ab.Dues
open Go.Ab.V
set_option maxRecDepth 1000000
/-! ### Pivots -/
theorem aord_dvd {n : Nat} (h : n ≤ 7) : (aord n).length ∣ 5040 := by
  have : n = 0 ∨ n = 1 ∨ n = 2 ∨ n = 3 ∨ n = 4 ∨ n = 5 ∨ n = 6 ∨ n = 7 := by omega
  rcases this with rfl | rfl | rfl | rfl | rfl | rfl | rfl | rfl <;> decide +kernel
theorem piv_mem {c : Can} {lim : Int} {s : Nat} : ∀ {l : List Nat} {b : Nat}, piv c lim b l = some s → s ∈ l
  | [], b, h => by cases h
  | x :: l, b, h => by
    unfold piv at h
    split at h
    · cases h; exact .head _
    · exact .tail _ (piv_mem h)
theorem costS_mono {c : Can} (h : okC c) {x y : Nat} (hb : ∀ t, x.testBit t = true → y.testBit t = true) : costS c x ≤ costS c y := by
  rw [costS_sq, costS_sq]
  exact cost_mono (ft_pos h) (nbC c) hb 10 10
theorem piv_none {c : Can} {lim : Int} : ∀ {l : List Nat} {b : Nat}, costS c b ≤ lim → piv c lim b l = none → costS c (l.foldl (fun a s => a ||| 2 ^ s) b) ≤ lim
  | [], b, h, _ => h
  | x :: l, b, _, hp => by
    unfold piv at hp
    split at hp
    · cases hp
    · rename_i h2
      rw [List.foldl_cons]
      exact piv_none (by omega) hp
theorem piv_some {c : Can} (h : okC c) {lim : Int} {s : Nat} : ∀ {l : List Nat} {b : Nat}, piv c lim b l = some s → lim < costS c (l.foldl (fun a s => a ||| 2 ^ s) b)
  | [], b, hp => by cases hp
  | x :: l, b, hp => by
    unfold piv at hp
    rw [List.foldl_cons]
    split at hp
    · rename_i h2
      refine Int.lt_of_lt_of_le h2 (costS_mono h fun t ht => ?_)
      rw [orF_bit, ht]; rfl
    · exact piv_some h hp
theorem or_full {n : Nat} {o : List Nat} (ho : o ∈ aord n) : o.foldl (fun a s => a ||| 2 ^ s) 0 = 2 ^ n - 1 := by
  apply Nat.eq_of_testBit_eq
  intro t
  rw [orF_bit, full_bit, Nat.zero_testBit, Bool.false_or]
  by_cases ht : t < n
  · rw [decide_eq_true ht, decide_eq_true (aord_all ho ht)]
  · rw [decide_eq_false ht, decide_eq_false (fun hm => ht ((aord_iff.1 ho).2.2 t hm))]
def cntP (c : Can) (lim : Int) (L : List (List Nat)) (s : Nat) : Nat := L.countP fun o => decide (piv c lim 0 o = some s)
theorem pvO_getD (n : Nat) (p : Option Nat) {s : Nat} (hs : s < n) : (pvO n p).getD s 0 = if p = some s then 1 else 0 := by
  unfold pvO
  cases p with
  | none => rw [List.getD_eq_getElem?_getD, List.getElem?_replicate, if_pos hs]; simp
  | some u =>
    simp only [Option.some.injEq]
    rw [List.getD_eq_getElem?_getD, List.getElem?_set]
    by_cases e : u = s
    · subst e; simp [hs]
    · rw [if_neg e, if_neg e, List.getElem?_replicate, if_pos hs]; rfl
theorem avS_cntP {c : Can} {lim : Int} {n s : Nat} (hs : s < n) {L : List (List Nat)} (hL : ∀ o ∈ L, o.length = n) : (avS (pwO c lim) n L).getD s 0 = (cntP c lim L s : Nat) := by
  unfold avS
  have : ∀ (L : List (List Nat)) (a : List Int), (∀ o ∈ L, o.length = n) → a.length = n → (L.foldl (fun a l => addL a (pwO c lim l)) a).getD s 0 = a.getD s 0 + (cntP c lim L s : Nat) := by
    intro L
    induction L with
    | nil => intro a _ _; simp [cntP]
    | cons o L ih =>
      intro a h ha
      have ho := h o (.head _)
      have hb : (pwO c lim o).length = n := by rw [pwO_len, ho]
      rw [List.foldl_cons, ih _ (fun x hx => h x (.tail _ hx)) (by unfold addL; rw [List.length_zipWith]; omega), addL_getD (by omega)]
      have : (pwO c lim o).getD s 0 = if piv c lim 0 o = some s then 1 else 0 := by unfold pwO; rw [ho, pvO_getD n _ hs]
      rw [this]
      unfold cntP
      rw [List.countP_cons]
      by_cases e : piv c lim 0 o = some s
      · rw [if_pos e, if_pos (decide_eq_true e)]; omega
      · rw [if_neg e, if_neg (by simp [e])]; omega
  rw [this L _ hL (by simp)]
  rw [List.getD_eq_getElem?_getD, List.getElem?_replicate]
  split <;> simp
theorem cntP_sum {c : Can} {lim : Int} {n : Nat} : ∀ {L : List (List Nat)}, (∀ o ∈ L, ∃ u, u < n ∧ piv c lim 0 o = some u) → sq (fun s => (cntP c lim L s : Nat)) (fun _ => true) n = L.length
  | [], _ => by
    rw [sq_congr2 (g := fun s => 0 * 0) fun s _ => by simp [cntP], sq_mul]; simp
  | o :: L, h => by
    obtain ⟨u, hu, e⟩ := h o (.head _)
    rw [sq_congr2 (g := fun s => (if some u = some s then (1 : Int) else 0) + (cntP c lim L s : Nat)) fun s _ => by
      unfold cntP
      rw [List.countP_cons, e]
      by_cases e2 : some u = some s
      · rw [if_pos e2, if_pos (decide_eq_true e2)]; omega
      · rw [if_neg e2, if_neg (by simpa using e2)]; omega, sq_add2, cntP_sum fun x hx => h x (.tail _ hx), sq_ind, if_pos hu, List.length_cons]
    omega
theorem cntP_zero {c : Can} {lim : Int} {s : Nat} {L : List (List Nat)} (h : ∀ o ∈ L, piv c lim 0 o = none) : cntP c lim L s = 0 := by
  unfold cntP
  rw [List.countP_eq_zero]
  intro o ho e
  have := of_decide_eq_true e
  rw [h o ho] at this; cases this
/-! ### A ship that needs no more -/
theorem cost_needs {c : Can} (h : okC c) {s t : Nat} (ht : t < 10) (hst : ∀ p, nbC c s p = true → nbC c t p = true) (b m : Nat) : costS c ((b ||| 2 ^ s) ||| m) ≤ costS c ((b ||| 2 ^ t) ||| m) := by
  rw [costS_sq, costS_sq]
  refine sq_mono (ft_pos h) (fun p hp => ?_) 10
  unfold unB at *
  obtain ⟨x, hx, e⟩ := List.any_eq_true.1 hp
  simp only [Bool.and_eq_true, Nat.testBit_or, Nat.testBit_two_pow, Bool.or_eq_true, decide_eq_true_eq] at e
  rw [List.any_eq_true]
  rcases e with ⟨(h1 | h1) | h1, h2⟩
  · exact ⟨x, hx, by simp [Nat.testBit_or, h1, h2]⟩
  · subst h1; exact ⟨t, List.mem_range.2 ht, by simp [Nat.testBit_or, Nat.testBit_two_pow, hst p h2]⟩
  · exact ⟨x, hx, by simp [Nat.testBit_or, h1, h2]⟩
theorem or_swap (a b c : Nat) : (a ||| b) ||| c = (a ||| c) ||| b := by rw [Nat.or_assoc, Nat.or_comm b c, ← Nat.or_assoc]
theorem sw_other {s t x : Nat} (h1 : x ≠ s) (h2 : x ≠ t) : sw s t x = x := by unfold sw; rw [if_neg h1, if_neg h2]
theorem sw_l (s t : Nat) : sw s t s = t := by unfold sw; rw [if_pos rfl]
theorem sw_r (s t : Nat) : sw s t t = s := by unfold sw; split; assumption; rw [if_pos rfl]
/-- The other ship has been seen. -/
theorem piv_swB {c : Can} {lim : Int} {s t : Nat} : ∀ {l : List Nat} {b b' : Nat}, l.Nodup → t ∉ l → b' ||| 2 ^ t = b ||| 2 ^ s → (∀ m, costS c (b' ||| m) ≤ costS c (b ||| m)) → piv c lim b l = some s → piv c lim b' (l.map (sw s t)) = some t
  | [], b, b', _, _, _, _, hp => by cases hp
  | x :: l, b, b', hn, ht, he, hc, hp => by
    rw [List.nodup_cons] at hn
    have htl : t ∉ l := fun e => ht (.tail _ e)
    have hxt : x ≠ t := fun e => ht (by rw [e]; exact .head _)
    rw [List.map_cons]
    unfold piv at hp ⊢
    by_cases hxs : x = s
    · subst hxs
      rw [sw_l, he]
      split at hp
      · rename_i h2; rw [if_pos h2]
      · exact absurd (piv_mem hp) hn.1
    · rw [sw_other hxs hxt]
      split at hp
      · exact absurd (Option.some.inj hp) hxs
      · rename_i h2
        have := hc (2 ^ x)
        rw [if_neg (by omega)]
        refine piv_swB hn.2 htl ?_ (fun m => ?_) hp
        · rw [or_swap, he, or_swap]
        · rw [Nat.or_assoc, Nat.or_assoc]; exact hc _
theorem piv_swA {c : Can} (h : okC c) {lim : Int} {s t : Nat} (ht10 : t < 10) (hne : s ≠ t) (hst : ∀ p, nbC c s p = true → nbC c t p = true) : ∀ {l : List Nat} {b : Nat}, l.Nodup → piv c lim b l = some s → piv c lim b (l.map (sw s t)) = some t
  | [], b, _, hp => by cases hp
  | x :: l, b, hn, hp => by
    rw [List.nodup_cons] at hn
    rw [List.map_cons]
    have hc := cost_needs h ht10 hst b
    have hc0 := hc 0
    rw [Nat.or_zero, Nat.or_zero] at hc0
    unfold piv at hp ⊢
    by_cases hxs : x = s
    · subst hxs
      rw [sw_l]
      split at hp
      · rw [if_pos (by omega)]
      · exact absurd (piv_mem hp) hn.1
    · by_cases hxt : x = t
      · subst hxt
        rw [sw_r]
        split at hp
        · exact absurd (Option.some.inj hp) hxs
        · rename_i h2
          rw [if_neg (by omega)]
          exact piv_swB hn.2 hn.1 (or_swap _ _ _) hc hp
      · rw [sw_other hxs hxt]
        split at hp
        · exact absurd (Option.some.inj hp) hxs
        · rename_i h2
          rw [if_neg h2]
          exact piv_swA h ht10 hne hst hn.2 hp
theorem cntP_le {c : Can} (h : okC c) (lim : Int) {s t : Nat} (hs : s < c.ships.length) (ht : t < c.ships.length) (hst : ∀ p, nbC c s p = true → nbC c t p = true) : cntP c lim (aord c.ships.length) s ≤ cntP c lim (aord c.ships.length) t := by
  have h7 := h.s7
  by_cases e : s = t
  · subst e; exact Nat.le_refl _
  unfold cntP
  rw [← (aord_sw hs ht).countP_eq (fun o => decide (piv c lim 0 o = some t)), List.countP_map]
  refine List.countP_mono_left fun o ho hp => ?_
  have hp := of_decide_eq_true hp
  exact decide_eq_true (piv_swA h (by omega) e hst (aord_iff.1 ho).2.1 hp)
/-! ### The shares -/
theorem nrm_cross {A B D : Nat} (hD : 0 < D) (h : A ≤ B) : (nrm A D).1 * (nrm B D).2 ≤ (nrm B D).1 * (nrm A D).2 := by
  obtain ⟨a1, _, _, a4⟩ := nrm_den (a := A) hD
  obtain ⟨b1, _, _, b4⟩ := nrm_den (a := B) hD
  refine Nat.le_of_mul_le_mul_right (c := D) ?_ hD
  calc (nrm A D).1 * (nrm B D).2 * D = (nrm A D).1 * D * (nrm B D).2 := by rw [Nat.mul_right_comm]
    _ = A * (nrm A D).2 * (nrm B D).2 := by rw [a4]
    _ ≤ B * (nrm A D).2 * (nrm B D).2 := Nat.mul_le_mul_right _ (Nat.mul_le_mul_right _ h)
    _ = B * (nrm B D).2 * (nrm A D).2 := by rw [Nat.mul_right_comm]
    _ = (nrm B D).1 * D * (nrm A D).2 := by rw [b4]
    _ = (nrm B D).1 * (nrm A D).2 * D := by rw [Nat.mul_right_comm]
theorem pay_nrm2 {A D : Nat} (hD : 0 < D) (hd : D ∣ 5040) : pay (((nrm A D).1 : Int), ((nrm A D).2 : Int)) * D = 5040 * A := by
  obtain ⟨a1, _, _, a4⟩ := nrm_den (a := A) hD
  have hd : (nrm A D).2 ∣ 5040 := Nat.dvd_trans (Nat.div_dvd_of_dvd (Nat.gcd_dvd_right A D)) hd
  obtain ⟨k, hk⟩ := hd
  unfold pay
  simp only
  generalize (nrm A D).1 = x at *
  generalize (nrm A D).2 = y at *
  have e : (5040 : Int) / (y : Int) = k := by
    rw [show (5040 : Int) = ((5040 : Nat) : Int) from rfl, ← Int.natCast_ediv, hk, Nat.mul_div_cancel_left _ a1]
  rw [e]
  have h2 : x * k * D = 5040 * A := by
    calc x * k * D = x * D * k := by rw [Nat.mul_right_comm]
      _ = A * y * k := by rw [a4]
      _ = A * (y * k) := by rw [Nat.mul_assoc]
      _ = 5040 * A := by rw [← hk, Nat.mul_comm]
  exact_mod_cast h2
theorem powN_len (c : Can) (lim : Int) : (frI (powN c lim)).length = c.ships.length := by
  simp only [frI, powN, avN, List.length_map]
  exact avS_len fun l hl => by rw [pwO_len]; exact (aord_iff.1 hl).1
theorem powN_get (c : Can) (lim : Int) {s : Nat} (hs : s < c.ships.length) (h2 : s < (frI (powN c lim)).length) : (frI (powN c lim))[s] = (((nrm (cntP c lim (aord c.ships.length) s) (aord c.ships.length).length).1 : Int), ((nrm (cntP c lim (aord c.ships.length) s) (aord c.ships.length).length).2 : Int)) := by
  have hl : (avS (pwO c lim) c.ships.length (aord c.ships.length)).length = c.ships.length := avS_len fun l hl => by rw [pwO_len]; exact (aord_iff.1 hl).1
  have e := avS_cntP (c := c) (lim := lim) hs (L := aord c.ships.length) (fun o ho => (aord_iff.1 ho).1)
  rw [List.getD_eq_getElem?_getD, List.getElem?_eq_getElem (by omega), Option.getD_some] at e
  simp only [frI, powN, avN, List.getElem_map]
  show (((nrm ((avS (pwO c lim) c.ships.length (aord c.ships.length))[s]).toNat (aord c.ships.length).length).1 : Int), ((nrm ((avS (pwO c lim) c.ships.length (aord c.ships.length))[s]).toNat (aord c.ships.length).length).2 : Int)) = _
  rw [e, Int.toNat_natCast]
theorem cntP_leN (c : Can) (lim : Int) (L : List (List Nat)) (s : Nat) : cntP c lim L s ≤ L.length := List.countP_le_length
theorem pow_right {c : Can} (h : okC c) (lim : Int) : ∀ q ∈ frI (powN c lim), 1 ≤ q.2 ∧ 5040 % q.2 = 0 ∧ -1000000000 ≤ q.1 ∧ q.1 ≤ 1000000000 := by
  intro q hq
  have h7 := h.s7
  obtain ⟨s, hs, rfl⟩ := List.mem_iff_getElem.1 hq
  have hs2 := hs
  rw [powN_len] at hs2
  rw [powN_get c lim hs2 hs]
  have hN : 0 < (aord c.ships.length).length := outs_pos h7
  have hd := aord_dvd h7
  have hc := cntP_leN c lim (aord c.ships.length) s
  have h5 := Nat.le_of_dvd (by decide) hd
  obtain ⟨a1, a2, a3, _⟩ := nrm_den (a := cntP c lim (aord c.ships.length) s) hN
  have hd2 : (nrm (cntP c lim (aord c.ships.length) s) (aord c.ships.length).length).2 ∣ 5040 := Nat.dvd_trans (Nat.div_dvd_of_dvd (Nat.gcd_dvd_right _ _)) hd
  refine ⟨by simp only; omega, Int.emod_eq_zero_of_dvd (by simp only; exact_mod_cast hd2), by simp only; omega, by simp only; omega⟩
theorem pow_okQ {c : Can} (h : okC c) (lim : Int) : ∀ q ∈ frI (powN c lim), okQ q := by
  intro q hq
  have hr := pow_right h lim q hq
  refine ⟨⟨hr.2.2.1, hr.2.2.2⟩, hr.1, hr.2.1, ?_⟩
  obtain ⟨s, hs, rfl⟩ := List.mem_iff_getElem.1 hq
  have hs2 := hs
  rw [powN_len] at hs2
  rw [powN_get c lim hs2 hs]
  simp only [Int.gcd_natCast_natCast]
  unfold nrm
  exact Nat.coprime_div_gcd_div_gcd (Nat.gcd_pos_of_pos_right _ (outs_pos h.s7))
theorem sq_mulr (f : Nat → Int) (k : Int) (q : Nat → Bool) : ∀ n, sq f q n * k = sq (fun i => f i * k) q n
  | 0 => by simp [sq]
  | n + 1 => by
    show (sq f q n + bif q n then f n else 0) * k = sq (fun i => f i * k) q n + bif q n then f n * k else 0
    rw [Int.add_mul, sq_mulr f k q n]
    cases q n <;> simp
theorem sq_full {f : Nat → Int} {n : Nat} : sq f (fun s => (2 ^ n - 1).testBit s) n = sq f (fun _ => true) n := by
  have : ∀ m, m ≤ n → sq f (fun s => (2 ^ n - 1).testBit s) m = sq f (fun _ => true) m := by
    intro m
    induction m with
    | zero => intro _; rfl
    | succ m ih =>
      intro hm
      show sq f _ m + (bif (2 ^ n - 1).testBit m then f m else 0) = sq f _ m + f m
      rw [ih (by omega), full_bit, decide_eq_true (by omega : m < n)]; rfl
  exact this n (Nat.le_refl _)
theorem pow_pays {c : Can} (h : okC c) {lim : Int} (h0 : 0 ≤ lim) : sgn (payS (frI (powN c lim)) (2 ^ c.ships.length - 1) (frI (powN c lim)).length - 5040 * (if costS c (2 ^ c.ships.length - 1) > lim then 1 else 0)) = 0 := by
  have h7 := h.s7
  have hN : 0 < (aord c.ships.length).length := outs_pos h7
  have e1 : payS (frI (powN c lim)) (2 ^ c.ships.length - 1) (frI (powN c lim)).length * (aord c.ships.length).length = 5040 * sq (fun s => (cntP c lim (aord c.ships.length) s : Nat)) (fun _ => true) c.ships.length := by
    unfold payS
    rw [powN_len, sumL_ovL, sq_full, sq_mulr, ← sq_mul]
    refine sq_congr2 fun s hs => ?_
    rw [List.getD_eq_getElem?_getD, List.getElem?_eq_getElem (by rw [powN_len]; exact hs), Option.getD_some, powN_get c lim hs]
    exact pay_nrm2 hN (aord_dvd h7)
  have hc0 : costS c 0 ≤ lim := by rw [costS_zero]; exact h0
  have e2 : payS (frI (powN c lim)) (2 ^ c.ships.length - 1) (frI (powN c lim)).length = 5040 * (if costS c (2 ^ c.ships.length - 1) > lim then 1 else 0) := by
    have hz : ((aord c.ships.length).length : Int) ≠ 0 := by omega
    refine Int.eq_of_mul_eq_mul_right hz ?_
    rw [e1]
    split
    · rename_i hk
      rw [cntP_sum]
      · omega
      · intro o ho
        cases hp : piv c lim 0 o with
        | none =>
          have := piv_none hc0 hp
          rw [or_full ho] at this; omega
        | some u => exact ⟨u, (aord_iff.1 ho).2.2 u (piv_mem hp), rfl⟩
    · rename_i hk
      rw [sq_congr2 (g := fun s => 0 * 0) fun s _ => by
        rw [cntP_zero fun o ho => ?_]; rfl
        cases hp : piv c lim 0 o with
        | none => rfl
        | some u =>
          have := piv_some h hp
          rw [or_full ho] at this
          exact absurd this hk, sq_mul]
      simp
  rw [e2, Int.sub_self]; rfl
end Go.Ab.Dues

namespace Go.Ab.Dues
set_option maxRecDepth 1000000
end Go.Ab.Dues

namespace Go.Ab.Dues
open Go.Ab.V
set_option maxRecDepth 100000
end Go.Ab.Dues

namespace Go.Ab.Dues
open Go.Ab.V
set_option maxRecDepth 100000
/-! ### careenref10.Orders -/
end Go.Ab.Dues

namespace Go.Ab.Dues
open Go.Ab.V
set_option maxRecDepth 100000
end Go.Ab.Dues

namespace Go.Ab.Dues
open Go.Ab.V
set_option maxRecDepth 100000
end Go.Ab.Dues

namespace Go.Ab.Dues
open Go.Ab.V
set_option maxRecDepth 100000
end Go.Ab.Dues

namespace Go.Ab.Dues
open Go.Ab.V
set_option maxRecDepth 100000
theorem andN_zero {a b : Nat} : andN a b = 0 ↔ ∀ p, a.testBit p = true → b.testBit p = true := by
  constructor
  · intro h p hp
    have := congrArg (fun x => x.testBit p) h
    simp only [andN_bit, Nat.zero_testBit, hp, Bool.true_and] at this
    simpa using this
  · intro h
    apply Nat.eq_of_testBit_eq
    intro p
    rw [andN_bit, Nat.zero_testBit]
    cases hp : a.testBit p with
    | false => rfl
    | true => rw [h p hp]; rfl
set_option maxHeartbeats 16000000 in
theorem pivots_law (c0 : Can) (x : Int) (h1 : c0.up.length ≤ 9223372036854775807) (h2 : c0.cost.length ≤ 9223372036854775807) (h3 : c0.ships.length ≤ 9223372036854775807) : VCall cfg 6 [canV c0, vi x] [] [] (vb true) [] := by
  have k1 := tame_ok c0 7 (by decide) h1 h2 h3
  have h := tame_okC c0 7 (by decide)
  generalize tameC c0 7 = c at *
  have h7 := h.s7
  have h10 := h.n10
  have hcl := h.cl
  have k2 := given_ok c (by omega) (by omega) (by omega)
  have hp0 : 0 < 2 ^ c.ships.length := Nat.pow_pos (by decide)
  have hp7 : 2 ^ c.ships.length ≤ 128 := (show 2 ^ c.ships.length ≤ 2 ^ 7 from Nat.pow_le_pow_right (by decide) h7)
  have k3 := CostOf_ok c h (2 ^ c.ships.length - 1) (by omega)
  have hcb := costS_bd h (2 ^ c.ships.length - 1)
  obtain ⟨lim, hlim⟩ : ∃ lim : Int, lim = x % 18446744073709551616 % min (costS c (2 ^ c.ships.length - 1) + 2) 10001 := ⟨_, rfl⟩
  have hE1 := Int.emod_nonneg (x % 18446744073709551616) (show min (costS c (2 ^ c.ships.length - 1) + 2) 10001 ≠ 0 by omega)
  have hE2 := Int.emod_lt_of_pos (x % 18446744073709551616) (show 0 < min (costS c (2 ^ c.ships.length - 1) + 2) 10001 by omega)
  rw [← hlim] at hE1 hE2
  have hl2 : lim ≤ 10000 := by omega
  have hpp := pow_pays h hE1
  have k4 := Power_ok c h lim hE1 hl2
  have hPl := powN_len c lim
  have hPr := pow_right h lim
  have hPq := pow_okQ h lim
  have k5 := right_ok (frI (powN c lim)) (by omega) hPr c.ships.length
  rw [hPl, decide_eq_true rfl] at k5
  have k6 := fun w hw => RPays_ok (frI (powN c lim)) (by omega) hPq (2 ^ c.ships.length - 1) (by omega) w hw
  have kn := RNeeds_ok c h
  have hndl := fun s => needK_lt2 h s
  have hgd : ∀ s, s < c.ships.length → ch c (c.ships.getD s (-1)) = (needK c c.ships.length).getD s 0 := fun s hs => by
    rw [List.getD_eq_getElem?_getD (l := needK c c.ships.length), List.getElem?_eq_getElem (by rw [needK_len]; omega), Option.getD_some, needK_get, if_pos hs]
  have hp10 : 2 ^ c.cost.length ≤ 1024 := (show 2 ^ c.cost.length ≤ 2 ^ 10 from Nat.pow_le_pow_right (by decide) (by omega))
  have hcr : ∀ s t (h1 : s < (frI (powN c lim)).length) (h2 : t < (frI (powN c lim)).length), andN ((needK c c.ships.length).getD s 0) ((needK c c.ships.length).getD t 0) = 0 → (frI (powN c lim))[s].1 * (frI (powN c lim))[t].2 ≤ (frI (powN c lim))[t].1 * (frI (powN c lim))[s].2 := fun s t h1 h2 he => by
    have s1 : s < c.ships.length := by omega
    have t1 : t < c.ships.length := by omega
    rw [powN_get c lim s1 h1, powN_get c lim t1 h2]
    have := nrm_cross (outs_pos h7) (cntP_le h lim s1 t1 (andN_zero.1 he))
    simp only
    exact_mod_cast this
  have hge : ∀ s (h1 : s < (frI (powN c lim)).length), 0 ≤ (frI (powN c lim))[s].1 := fun s h1 => by
    rw [powN_get c lim (by omega) h1]; exact Int.natCast_nonneg _
  have hshm := shl_one (n := c.ships.length) (by omega)
  have hshw := shl_w (q := c.ships.length) (by omega)
  have hsub : ((2 ^ c.ships.length : Nat) : Int) - 1 = ((2 ^ c.ships.length - 1 : Nat) : Int) := by omega
  have hwE := wrapI (x := lim) (by omega) (by omega)
  generalize costS c (2 ^ c.ships.length - 1) = x1 at *
  generalize 2 ^ c.ships.length - 1 = A at *
  generalize 2 ^ c.ships.length = W at *
  generalize frI (powN c lim) = P at *
  have hm1 : x1 % 18446744073709551616 = x1 := by omega
  have hmn : (min (x1 + 2) 10001) % 18446744073709551616 = min (x1 + 2) 10001 := by omega
  have hmz : ¬min (x1 + 2) 10001 = 0 := by omega
  unfold canV at *
  have esP : slP P = .p (.sl 2 c.ships.length (flP P)) := by unfold slP; rw [hPl]
  rw [esP] at k4 k5
  simp only [esP] at k6
  (refine VCall.mk (fn := a6) rfl rfl rfl ?_; simp only [a6, inV, mkB, nmsL, PT.set])
  (repeat (first | refine VC.seq ?_ | refine VC.block ?_ | refine VC.kill ?_ | refine VC.skip ?_ | refine VC.exit ?_ | refine VC.regA ?_ | refine VC.condT ?_ | refine VC.condF ?_))
  (refine VC.regCA ?_; refine VO.moreA ?_; refine VO.call0A (no_orc _ (by decide)) k1 ?_; refine VO.endA ?_; (repeat (first | refine VC.seq ?_ | refine VC.block ?_ | refine VC.kill ?_ | refine VC.skip ?_ | refine VC.exit ?_ | refine VC.regA ?_ | refine VC.condT ?_ | refine VC.condF ?_)))
  (refine VC.regCA ?_; refine VO.moreA ?_; refine VO.call0A (no_orc _ (by decide)) k2 ?_; refine VO.endA ?_; (repeat (first | refine VC.seq ?_ | refine VC.block ?_ | refine VC.kill ?_ | refine VC.skip ?_ | refine VC.exit ?_ | refine VC.regA ?_ | refine VC.condT ?_ | refine VC.condF ?_)))
  refine VC.regCA ?_
  apply VO.upto
  · exact vF (And.intro hshm (And.intro hshw hsub))
  refine VO.call0A (no_orc 31 (by decide)) k3 ?_
  (refine VO.endA ?_; (repeat (first | refine VC.seq ?_ | refine VC.block ?_ | refine VC.kill ?_ | refine VC.skip ?_ | refine VC.exit ?_ | refine VC.regA ?_ | refine VC.condT ?_ | refine VC.condF ?_)))
  have d1 : decide (x1 < 0) = false := decide_eq_false (by omega)
  have d2 : decide (x1 > 10000) = false := decide_eq_false (by omega)
  ((try (apply VC.regU; · (exact vF (And.intro d1 d2)))); (repeat (first | refine VC.seq ?_ | refine VC.block ?_ | refine VC.kill ?_ | refine VC.skip ?_ | refine VC.exit ?_ | refine VC.regA ?_ | refine VC.condT ?_ | refine VC.condF ?_)))
  simp only [hmn, ← hlim, hwE]
  (refine VC.regCA ?_; refine VO.moreA ?_; refine VO.call0A (no_orc _ (by decide)) k4 ?_; refine VO.endA ?_; (repeat (first | refine VC.seq ?_ | refine VC.block ?_ | refine VC.kill ?_ | refine VC.skip ?_ | refine VC.exit ?_ | refine VC.regA ?_ | refine VC.condT ?_ | refine VC.condF ?_)))
  (refine VC.regCA ?_; refine VO.moreA ?_; refine VO.call0A (no_orc _ (by decide)) k5 ?_; refine VO.endA ?_; (repeat (first | refine VC.seq ?_ | refine VC.block ?_ | refine VC.kill ?_ | refine VC.skip ?_ | refine VC.exit ?_ | refine VC.regA ?_ | refine VC.condT ?_ | refine VC.condF ?_)))
  obtain ⟨w, hw⟩ : ∃ w : Int, w = if x1 > lim then 1 else 0 := ⟨_, rfl⟩
  rw [← hw] at hpp
  have k6 := k6 w (by rw [hw]; split <;> omega)
  rw [hpp] at k6
  refine VC.cut1 ⟨inV [p5, p7, p10, p12] [.op 0 p5 0, vi c.ships.length, .p (.sl 2 c.ships.length (flP P)), vi w] .lf, mkB [(p5, .cells [sl1 c.up, sl1 c.cost, sl1 c.ships])] .lf, [], none⟩ ?_ ?_
  · by_cases hk : x1 > lim
    · rw [if_pos hk] at hw
      subst hw
      (repeat (first | refine VC.seq ?_ | refine VC.block ?_ | refine VC.kill ?_ | refine VC.skip ?_ | refine VC.exit ?_ | refine VC.regA ?_ | refine VC.condT ?_ | refine VC.condF ?_))
      exact gW
    · rw [if_neg hk] at hw
      subst hw
      (repeat (first | refine VC.seq ?_ | refine VC.block ?_ | refine VC.kill ?_ | refine VC.skip ?_ | refine VC.exit ?_ | refine VC.regA ?_ | refine VC.condT ?_ | refine VC.condF ?_))
      exact gW
  simp only [inV, PT.set, mkB]
  (repeat (first | refine VC.seq ?_ | refine VC.block ?_ | refine VC.kill ?_ | refine VC.skip ?_ | refine VC.exit ?_ | refine VC.regA ?_ | refine VC.condT ?_ | refine VC.condF ?_))
  refine VC.regCA ?_
  apply VO.upto
  · exact vF (And.intro hshm (And.intro hshw hsub))
  refine VO.call0A (no_orc 33 (by decide)) k6 ?_
  (refine VO.endA ?_; (repeat (first | refine VC.seq ?_ | refine VC.block ?_ | refine VC.kill ?_ | refine VC.skip ?_ | refine VC.exit ?_ | refine VC.regA ?_ | refine VC.condT ?_ | refine VC.condF ?_)))
  have hPlen : (flP P).length = c.ships.length * 2 := by rw [flP_len, hPl]
  refine VC.loopG (fun (s : Nat) => ⟨inV [p5, p7, p10, p13] [.op 0 p5 0, vi c.ships.length, .p (.sl 2 c.ships.length (flP P)), vi s] .lf, mkB [(p5, .cells [sl1 c.up, sl1 c.cost, sl1 c.ships])] .lf, [], none⟩) (fun n s => n = c.ships.length - s ∧ s ≤ c.ships.length) (x := 0) ?_ ⟨rfl, Nat.zero_le _⟩ ?_
  · exact gW
  rintro n s ⟨hn, hs⟩
  simp only [inV, PT.set, mkB]
  (repeat (first | refine VC.seq ?_ | refine VC.block ?_ | refine VC.kill ?_ | refine VC.skip ?_ | refine VC.exit ?_ | refine VC.regA ?_ | refine VC.condT ?_ | refine VC.condF ?_))
  refine VC.condA ?_ ?_ <;> intro h' <;> (simp only [decide_eq_true_eq, decide_eq_false_iff_not, bne_iff_ne, ne_eq, bne_eq_false_iff_eq, beq_iff_eq, beq_eq_false_iff_ne, Bool.not_eq_true', Bool.not_eq_false', Bool.and_eq_true, Bool.or_eq_true, Int.natCast_inj] at h')
  · have h' : s < c.ships.length := by omega
    have hsP : s < P.length := by omega
    (repeat (first | refine VC.seq ?_ | refine VC.block ?_ | refine VC.kill ?_ | refine VC.skip ?_ | refine VC.exit ?_ | refine VC.regA ?_ | refine VC.condT ?_ | refine VC.condF ?_))
    refine VC.loopG (fun (t : Nat) => ⟨inV [p5, p7, p10, p13, p14] [.op 0 p5 0, vi c.ships.length, .p (.sl 2 c.ships.length (flP P)), vi s, vi t] .lf, mkB [(p5, .cells [sl1 c.up, sl1 c.cost, sl1 c.ships])] .lf, [], none⟩) (fun n t => n = c.ships.length - t ∧ t ≤ c.ships.length) (x := 0) ?_ ⟨rfl, Nat.zero_le _⟩ ?_
    · exact gW
    rintro n t ⟨hn, ht⟩
    simp only [inV, PT.set, mkB]
    (repeat (first | refine VC.seq ?_ | refine VC.block ?_ | refine VC.kill ?_ | refine VC.skip ?_ | refine VC.exit ?_ | refine VC.regA ?_ | refine VC.condT ?_ | refine VC.condF ?_))
    refine VC.condA ?_ ?_ <;> intro h2 <;> (simp only [decide_eq_true_eq, decide_eq_false_iff_not, bne_iff_ne, ne_eq, bne_eq_false_iff_eq, beq_iff_eq, beq_eq_false_iff_ne, Bool.not_eq_true', Bool.not_eq_false', Bool.and_eq_true, Bool.or_eq_true, Int.natCast_inj] at h2)
    · have h2 : t < c.ships.length := by omega
      have htP : t < P.length := by omega
      have ks := kn s h'
      have kt := kn t h2
      rw [hgd s h'] at ks
      rw [hgd t h2] at kt
      have d0 : decide (P[s].1 < 0) = false := decide_eq_false (by have := hge s hsP; omega)
      have hcr := hcr s t hsP htP
      have ls := hndl s
      have lt := hndl t
      have rs := hPr _ (List.getElem_mem hsP)
      have rt := hPr _ (List.getElem_mem htP)
      have qs := okQ_le (hPq _ (List.getElem_mem hsP))
      have qt := okQ_le (hPq _ (List.getElem_mem htP))
      have gs : s * 2 ≤ (flP P).length := by omega
      have gt : t * 2 ≤ (flP P).length := by omega
      have ds := drop_flP hsP
      have dt := drop_flP htP
      generalize (needK c c.ships.length).getD s 0 = ns at *
      generalize (needK c c.ships.length).getD t 0 = nt at *
      have handn := andn_i64 (a := ns) (b := nt) (by omega) (by omega)
      have b1 := mul_bd (x := P[s].1) (z := P[t].2.toNat) ⟨rs.2.2.1, rs.2.2.2⟩ (by omega)
      have b2 := mul_bd (x := P[t].1) (z := P[s].2.toNat) ⟨rt.2.2.1, rt.2.2.2⟩ (by omega)
      rw [Int.toNat_of_nonneg (by omega)] at b1 b2
      generalize P[s] = Ps at *
      generalize P[t] = Pt at *
      generalize hm1 : Ps.1 * Pt.2 = m1 at *
      generalize hm2 : Pt.1 * Ps.2 = m2 at *
      have w1 := wrapI (x := m1) (by omega) (by omega)
      have w2 := wrapI (x := m2) (by omega) (by omega)
      (repeat (first | refine VC.seq ?_ | refine VC.block ?_ | refine VC.kill ?_ | refine VC.skip ?_ | refine VC.exit ?_ | refine VC.regA ?_ | refine VC.condT ?_ | refine VC.condF ?_))
      by_cases hz : andN ns nt = 0
      · have hcr := hcr hz
        have z0 : (0 : Int) = 0 := rfl
        rw [hz] at handn
        have dc : decide (m1 > m2) = false := decide_eq_false (by omega)
        refine VC.planP [p5] rfl ?_
        (apply VPl.run; · (exact vPlF (And.intro hPlen (And.intro ds (And.intro gs d0)))))
        refine VPl.call (no_orc 34 (by decide)) ks rfl rfl rfl rfl ?_
        (apply VPl.run; · (exact vPl))
        refine VPl.call (no_orc 34 (by decide)) kt rfl rfl rfl rfl ?_
        (apply VPl.run; · (exact vPlF (And.intro handn (And.intro hPlen (And.intro ds (And.intro dt (And.intro gs (And.intro gt (And.intro hm1 (And.intro hm2 (And.intro w1 (And.intro w2 dc))))))))))))
        refine VPl.stop (by decide) ?_
        refine VO.endA ?_
        (repeat (first | refine VC.seq ?_ | refine VC.block ?_ | refine VC.kill ?_ | refine VC.skip ?_ | refine VC.exit ?_ | refine VC.regA ?_ | refine VC.condT ?_ | refine VC.condF ?_))
        refine ⟨_, t + 1, ?_, ⟨rfl, by omega⟩, ?_⟩
        · omega
        · exact gW
      · have dz : decide (((andN ns nt : Nat) : Int) = 0) = false := decide_eq_false (by omega)
        refine VC.planP [p5] rfl ?_
        (apply VPl.run; · (exact vPlF (And.intro hPlen (And.intro ds (And.intro gs d0)))))
        refine VPl.call (no_orc 34 (by decide)) ks rfl rfl rfl rfl ?_
        (apply VPl.run; · (exact vPl))
        refine VPl.call (no_orc 34 (by decide)) kt rfl rfl rfl rfl ?_
        (apply VPl.run; · (exact vPlF (And.intro handn dz)))
        refine VPl.stop (by decide) ?_
        refine VO.endA ?_
        (repeat (first | refine VC.seq ?_ | refine VC.block ?_ | refine VC.kill ?_ | refine VC.skip ?_ | refine VC.exit ?_ | refine VC.regA ?_ | refine VC.condT ?_ | refine VC.condF ?_))
        refine ⟨_, t + 1, ?_, ⟨rfl, by omega⟩, ?_⟩
        · omega
        · exact gW
    · (repeat (first | refine VC.seq ?_ | refine VC.block ?_ | refine VC.kill ?_ | refine VC.skip ?_ | refine VC.exit ?_ | refine VC.regA ?_ | refine VC.condT ?_ | refine VC.condF ?_))
      refine ⟨_, s + 1, ?_, ⟨rfl, by omega⟩, ?_⟩
      · omega
      · exact gW
  · (repeat (first | refine VC.seq ?_ | refine VC.block ?_ | refine VC.kill ?_ | refine VC.skip ?_ | refine VC.exit ?_ | refine VC.regA ?_ | refine VC.condT ?_ | refine VC.condF ?_))
    refine VC.regCA ?_
    refine VO.moreA ?_
    refine VO.knownA (.bool true) rfl ?_
    refine VO.endA ?_
    (repeat (first | refine VC.seq ?_ | refine VC.block ?_ | refine VC.kill ?_ | refine VC.skip ?_ | refine VC.exit ?_ | refine VC.regA ?_ | refine VC.condT ?_ | refine VC.condF ?_))
    exact VC.ret (Fin.A rfl)
end Go.Ab.Dues

namespace Go.Proofs.YtdjpaifhmiocnaaDoor.duesPivots
open Go.ChangeShapes Go.WideShapes Go.ChangeAt Go.RowKit
open Go.ChangeMaps (open_string shut_string)
open Go.Ab Go.Ab.V Go.Ab.Dues
set_option linter.unusedVariables false
theorem own : ownKnob Tryd.prog.godebug = none := by kernel_rfl
theorem laidOut : laidOutB Tryd.prog = true := by kernel_rfl
theorem orc : OrcOK Tryd.prog cfg := orcOK mixed tab0 (fun h => by cases h) rfl awake_closed
theorem tab : TabOK Tryd.prog cfg := tab0
set_option maxRecDepth 100000 in
theorem lifted (os : Os) (started : os.Started) (H : Type) (enc : TypeId × Value → H) :
    ReturnsInHanded {} Tryd.checked os 6 .any (fun w args => (Rows.duesPivotsSpec.pre enc Tryd.prog Tryd.f6 Rows.duesPivotsRow.domain false w args ∧ laidMetH Tryd.prog Rows.duesPivotsRow.laid w) ∧ sizedMet enc Tryd.prog Tryd.f6 (OpenSpec.ofChange Rows.duesPivotsSpec) false w args) (Rows.duesPivotsSpec.post enc Tryd.prog Tryd.f6 false true false false) := by
  refine returnsInHanded_of_change_and (C := Tryd.checked) (X := fun w _ => laidMetH Tryd.prog Rows.duesPivotsRow.laid w) (fun _ _ _ hh h => h.of_heap hh) own started (by kernel_rfl) Tryd.func6
    (ChangeSpec.witness_at (enc := enc) (C := Tryd.checked) (os := os) (X := fun w _ => laidMetH Tryd.prog Rows.duesPivotsRow.laid w) false (laidWorld os) #[.agg #[.slice none 0 0, .slice none 0 0, .slice none 0 0], .int .i64 0] 8 rfl (by kernel_rfl) (by kernel_rfl) (by kernel_rfl) (by kernel_rfl) (by kernel_rfl) (laidWorld_met os _)) ?_
  intro W base args ds gs before hval0 hW hcnd _ hL _
  have hval : ∀ (j : Nat) t v, Tryd.f6.params[j]? = some t → args[j]? = some v → Value.okWide Tryd.prog W .any base t v := hval0
  have hW' := hW
  obtain ⟨p, q, hA0, hV, rfl, hfz, hnd⟩ := hW
  have hA : DataW.TrodAll enc Tryd.prog W 0 (fun _ => true) true Tryd.f6.params.toList args.toList ds p := hA0
  rw [Tryd.params6] at hA hval
  obtain ⟨v0, vs0, d0, ds0, p0, q0, hargs, rfl, rfl, h0, r0⟩ := trodAll_cons hA
  obtain ⟨v1, vs1, d1, ds1, p1, q1, rfl, rfl, rfl, h1, r1⟩ := trodAll_cons r0
  obtain ⟨rfl, rfl, rfl⟩ := trodAll_nil r1
  obtain rfl : args = #[v0, v1] := by cases args; simp_all
  obtain ⟨rfl, rfl⟩ := trodVars_none hV
  obtain ⟨c0, rfl⟩ := V.okWide_st Tryd.underlying24 (hval 0 24 v0 rfl rfl)
  have k0 := h0
  have lt0 : ∀ x ∈ p0, x.block < W.heap.size := by obtain ⟨m, hm⟩ := k0; exact DataW.trod_lt m _ _ _ hm
  have lv0 : V.Leaves Tryd.prog 24 [.sl [.int .i64], .sl [.int .i64], .sl [.int .i64]] := (.st Tryd.underlying24 (.cons rfl (.sl Tryd.underlying22 (.int Tryd.underlying3) (by kernel_rfl) (by simp)) (by kernel_rfl) (.cons rfl (.sl Tryd.underlying22 (.int Tryd.underlying3) (by kernel_rfl) (by simp)) (by kernel_rfl) (.cons rfl (.sl Tryd.underlying22 (.int Tryd.underlying3) (by kernel_rfl) (by simp)) (by kernel_rfl) .nil))) (by kernel_rfl))
  obtain ⟨ds0_0, wt0_0, zr0, zv0⟩ := V.arg_agg (show V.OpenR W [.sl [.int .i64], .sl [.int .i64], .sl [.int .i64]] c0.toList from by obtain ⟨fuel, hf⟩ := h0; exact V.open_all lv0 hf)
  obtain ⟨z0_0, ds0_1, eq0_0, zl0_0, zb0_0, wt0_1⟩ := V.wt_sl1 wt0_0
  obtain ⟨z0_1, ds0_2, eq0_1, zl0_1, zb0_1, wt0_2⟩ := V.wt_sl1 wt0_1
  obtain ⟨z0_2, ds0_3, eq0_2, zl0_2, zb0_2, wt0_3⟩ := V.wt_sl1 wt0_2
  rw [eq0_0, eq0_1, eq0_2, V.wt_nil wt0_3] at zv0
  obtain ⟨a1, rfl, rfl, rfl, w1⟩ := open_int Tryd.underlying3 (hval 1 3 v1 rfl rfl) h1
  clear hA0 hval0
  refine (calls_true mixed tab orc (pivots_law ⟨_, _, _⟩ _ zl0_0 zl0_1 zl0_2) (hgl := glob_of_laid hL) (All2.cons zv0 (All2.cons (.p (.at rfl)) .nil)) (LR.cons zr0 (LR.cons (.int _ _) (LR.nil _)))).mono fun e W' ⟨he, bel⟩ => ?_
  subst he
  exact ⟨_, rfl, _, _, _, [], _, [], hW', trodAll_mk1 (shut_bool Tryd.underlying4 _), (trodAll_cons_mk (Below.trod laidOut (by kernel_rfl) (of_decide_eq_true (by kernel_rfl)) k0 bel lt0) (trodAll_cons_mk (shut_int Tryd.underlying3 w1) trodAll_mk0)), rfl, bel.frame _, fun h => by cases h⟩
theorem over : Rows.duesPivotsRow.holds Tryd.pinned (OpenSpec.ofChange Rows.duesPivotsSpec) :=
  OpenClaim.holds_of_wide 6 Tryd.f6 rfl rfl rfl rfl rfl rfl rfl ⟨rfl, rfl, rfl, rfl, rfl⟩ rfl rfl rfl rfl rfl (by kernel_rfl) Tryd.func6 (by kernel_rfl)
    (of_decide_eq_true (by kernel_rfl)) (by unfold Func.isWrapper; first | (rw [if_pos (by decide +kernel)]; kernel_rfl) | (rw [if_neg (by decide +kernel)]; exact ⟨rfl, rfl⟩))
    (fun os started H enc _ => lifted os started H enc)
theorem card : Rows.DuesPivotsCardSaid :=
  Claim7.holds_tied_plain_at .later [] Rows.duesPivotsCard.laidKinds true Rows.duesPivotsCard.stood.harness false
    over (fun _ h => by cases h) (by kernel_rfl) (fun _ h => by cases h) duesPivots_row_tie rfl ⟨rfl, rfl⟩ (by kernel_rfl) rfl
    (fun f fn hf hfn => by
      obtain rfl : f = 6 := Option.some.inj ((show Tryd.prog.funcNamed Rows.duesPivotsRow.func = some 6 by kernel_rfl).symm.trans hf) |>.symm
      obtain rfl : fn = Tryd.f6 := (Option.some.inj (Tryd.func6.symm.trans hfn)).symm
      exact ⟨by kernel_rfl, fun j t ht => by
        rw [Tryd.params6] at ht
        have h3 : t = 24 ∨ t = 3 := by
          have hm : t ∈ [24, 3] := List.mem_of_getElem? (by simpa using ht)
          simpa using hm
        rcases h3 with rfl | rfl
        · exact (show Tryd.prog.wantsStandIn 24 = false by kernel_rfl)
        · exact (show Tryd.prog.wantsStandIn 3 = false by kernel_rfl)⟩)
    (by kernel_rfl)
theorem proved : Rows.DuesPivotsCardSaid := card
end Go.Proofs.YtdjpaifhmiocnaaDoor.duesPivots
namespace Go.Proofs.YtdjpaifhmiocnaaDoor
/-- The row, under a short name, for the claim. -/
theorem duesPivots_holds : Rows.DuesPivotsCardSaid := duesPivots.proved
end Go.Proofs.YtdjpaifhmiocnaaDoor
