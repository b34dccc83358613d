/- A part of the proof of a law: an evaluator of the code, proved sound against the model, and contracts of functions over it. No condition. -/
import Derived.RangeFuncRecord
import Derived.RangeFuncCalls
import Derived.OrdersIn
import Derived.Scope
import Derived.Test.YtdjpaifhmiocnaaDoorA00
set_option linter.unusedSimpArgs false
set_option linter.unusedVariables false
/- One operation in a region. -/
namespace Go.Ab

def FW (ro : Option Nat) : Fence := { Fence.wide with round := ro }
section
variable (P : Program) (nt : Nat)
def dstB : Option Tmp → Option Pa → Bool
  | none, none => true
  | some d, some p => d == ix p && Nat.blt d nt
  | _, _ => false
def guardB (ops : List Oper) : Option (Nat × Bool) → Option (Pa × Bool) → Bool
  | none, none => true
  | some (j, want), some (p, want') => want == want' && Nat.blt (ix p) nt && (match ops[j]? with | some o => (match o.dst with | some d => d == ix p | none => false) | none => false)
  | _, _ => false
def chkOper (ops : List Oper) (o : Oper) (ao : AOper) : Bool :=
  dstB nt o.dst ao.dst && guardB nt ops o.guard ao.guard && chkOp P nt o.op ao.op
end

section
variable {OK : Nat → Code → ACode → Prop} {P : Program} {J : Inj} {h h' : AHeap} {w : World} {nt : Nat} {sl : Slots} {a : Act} {o : Oper} {v : Value}
  {b : Bool} {C : Cfg} {self : Task → Option Res}

theorem put_sound {J : Inj} (hr : SR J nt sl a.tmps) {d : Option Tmp} {p : Option Pa} (hd : dstB nt d p = true) {v v' : Value} (r : VR J v v') :
    SR J nt (setO p sl v fun s => s) (a.put d v').tmps ∧ (a.put d v').defers = a.defers := by
  unfold dstB at hd
  split at hd
  · exact ⟨hr, rfl⟩
  · rename_i d p
    simp only [Bool.and_eq_true, beq_iff_eq] at hd
    obtain ⟨rfl, _⟩ := hd
    refine ⟨?_, rfl⟩
    show SR J nt (setK p sl v fun s => s) _
    exact hr.set r p
  · cases hd
theorem wanted_sound {J : Inj} (hr : SR J nt sl a.tmps) {ops : Array Oper} {ag : Option (Pa × Bool)} {t : Bool} (hg : guardB nt ops.toList o.guard ag = true) (hw : wantedA sl ag = some t) :
    Region.wanted o (yielded ops a.tmps) = t := by
  unfold guardB at hg
  split at hg
  · rename_i e1
    simp only [wantedA, Option.some.injEq] at hw
    subst hw
    simp [Region.wanted, e1]
  · rename_i j want p want' e1
    simp only [Bool.and_eq_true, beq_iff_eq] at hg
    obtain ⟨⟨rfl, h1⟩, h2⟩ := hg
    rw [Nat.blt_eq] at h1
    have hx' := hr.2 p h1
    have hlt : ix p < a.tmps.size := by rw [hr.1]; exact h1
    have hget : a.tmps[ix p]? = some (a.tmps.getD (ix p) undef) := by
      rw [Array.getD_eq_getD_getElem?, Array.getElem?_eq_getElem hlt]; rfl
    split at h2
    rotate_left
    · cases h2
    rename_i o' ho'
    split at h2
    rotate_left
    · cases h2
    rename_i d hd'
    have h2 := eq_of_beq h2
    have ho2 : ops[j]? = some o' := by rw [← Array.getElem?_toList]; exact ho'
    simp only [wantedA] at hw
    split at hw
    · rename_i x hx
      rw [hx] at hx'
      have hb := vr_bool hx'
      rw [hb] at hget
      cases hw
      simp [Region.wanted, e1, yielded, ho2, hd', h2, hget]
    · rename_i hx
      rw [hx] at hx'
      have hb : a.tmps.getD (ix p) undef = undef := by
        generalize a.tmps.getD (ix p) undef = z at hx'
        generalize e : Value.chan none = y at hx'
        cases hx' <;> first | rfl | cases e
      rw [hb] at hget
      cases hw
      simp [Region.wanted, e1, yielded, ho2, hd', h2, hget, undef]
    · cases hw
  · cases hg

def isCall : AOp → Bool
  | .call .. | .app .. | .cpy .. | .len .. | .mov _ | .min .. | .max .. | .clr .. => true
  | _ => false
theorem callB_false {c : Call} {ao : AOp} (h : isCall ao = false) : callB P nt c ao = false := by
  unfold callB
  split <;> first | rfl | (cases h; done)
theorem call_mov (sm : Sim OK J h w) {y : Opd} {c : Call} (hop : o.op = .call c) (hc : callB P nt c (.mov y) = true) (he : o_mov y b C self sl h = some (v, h')) : Done OK J h w ((execOp a.eval o).run P w) v h' := by
  unfold callB at hc
  split at hc <;> (try contradiction)
  rename_i m hcal e
  cases e
  split at hc
  · rename_i x t ts h1 h2
    exact op_lenc sm hop hcal h1 h2 hc he
  · cases hc
theorem call_app (sm : Sim OK J h w) (f : Fresh J h) (hr : SR J nt sl a.tmps) {size : Nat} {x y : Opd} {c : Call} (hop : o.op = .call c) (hc : callB P nt c (.app size x y) = true) (he : o_app size x y b C self sl h = some (v, h')) : Done OK J h w ((execOp a.eval o).run P w) v h' := by
  unfold callB at hc
  split at hc <;> (try contradiction)
  rename_i size' s' x' hcal e
  cases e
  split at hc
  · rename_i x' y' t t' h1 h2
    rw [Bool.and_eq_true] at hc
    obtain ⟨hc1, hc3⟩ := hc
    rw [Bool.and_eq_true] at hc1
    obtain ⟨hc1, hc2⟩ := hc1
    rw [Bool.and_eq_true] at hc1
    exact op_app sm (f _ (Nat.le_refl _)) hr hop hcal h1 h2 hc1.1 hc1.2 hc2 hc3 he
  · cases hc
theorem call_cpy (sm : Sim OK J h w) (hr : SR J nt sl a.tmps) {size : Nat} {x y : Opd} {c : Call} (hop : o.op = .call c) (hc : callB P nt c (.cpy size x y) = true) (he : o_cpy size x y b C self sl h = some (v, h')) : Done OK J h w ((execOp a.eval o).run P w) v h' := by
  unfold callB at hc
  split at hc <;> (try contradiction)
  rename_i size' s' x' hcal e
  cases e
  split at hc
  · rename_i x' y' t ts h1 h2
    simp only [Bool.and_eq_true] at hc
    exact op_cpy sm hr hop hcal h1 h2 hc.1.1 hc.1.2 hc.2 he
  · cases hc
theorem call_len (sm : Sim OK J h w) (hr : SR J nt sl a.tmps) {k : Nat} {x : Opd} {c : Call} (hop : o.op = .call c) (hc : callB P nt c (.len k x) = true) (he : o_len k x b C self sl h = some (v, h')) : Done OK J h w ((execOp a.eval o).run P w) v h' := by
  unfold callB at hc
  split at hc <;> (try contradiction)
  rename_i k' x' hcal e
  cases e
  split at hc
  · rename_i x' t ts h1 h2
    simp only [Bool.and_eq_true] at hc
    exact op_len sm hr hop hcal h1 h2 hc.1 hc.2 he
  · cases hc
theorem call_min (sm : Sim OK J h w) (hr : SR J nt sl a.tmps) {x : Opd} {r : List Opd} {c : Call} (hop : o.op = .call c) (hc : callB P nt c (.min x r) = true) (he : o_min x r b C self sl h = some (v, h')) : Done OK J h w ((execOp a.eval o).run P w) v h' := by
  unfold callB at hc
  split at hc <;> (try contradiction)
  rename_i k' x' hcal e
  cases e
  split at hc
  · rename_i x' r' h1
    simp only [Bool.and_eq_true] at hc
    exact op_min sm hr hop hcal h1 hc.1 hc.2 he
  · cases hc
theorem call_max (sm : Sim OK J h w) (hr : SR J nt sl a.tmps) {x : Opd} {r : List Opd} {c : Call} (hop : o.op = .call c) (hc : callB P nt c (.max x r) = true) (he : o_max x r b C self sl h = some (v, h')) : Done OK J h w ((execOp a.eval o).run P w) v h' := by
  unfold callB at hc
  split at hc <;> (try contradiction)
  rename_i k' x' hcal e
  cases e
  split at hc
  · rename_i x' r' h1
    simp only [Bool.and_eq_true] at hc
    exact op_max sm hr hop hcal h1 hc.1 hc.2 he
  · cases hc
theorem call_clr (sm : Sim OK J h w) (hr : SR J nt sl a.tmps) {z : List Value} {x : Opd} {c : Call} (hop : o.op = .call c) (hc : callB P nt c (.clr z x) = true) (he : o_clr z x b C self sl h = some (v, h')) : Done OK J h w ((execOp a.eval o).run P w) v h' := by
  unfold callB at hc
  split at hc <;> (try contradiction)
  rename_i k' x' hcal e
  cases e
  split at hc
  · rename_i x' t ts h1 h2
    simp only [Bool.and_eq_true] at hc
    exact op_clr sm hr hop hcal h1 h2 hc.1 hc.2 he
  · cases hc

set_option maxHeartbeats 4000000 in
/-- The pure part: every operation but a call. -/
theorem op_sound (sm : Sim OK J h w) (f : Fresh J h) (hr : SR J nt sl a.tmps) {ao : AOp} (hc : chkOp P nt o.op ao = true) (hcall : ∀ g args, ao ≠ .call g args)
    (he : aev ao b C self sl h = some (v, h')) : Done OK J h w ((execOp a.eval o).run P w) v h' := by
  generalize hop : o.op = op at hc
  cases ao with
  | mov y =>
    have he : o_mov y b C self sl h = some (v, h') := he
    cases op
    case move x => exact op_mov sm hr (.inl hop) hc he
    case assign x => exact op_mov sm hr (.inr hop) hc he
    case call c => exact call_mov sm hop (by simpa [chkOp] using hc) he
    all_goals (first | exact absurd (show false = true from hc) (by decide) | exact absurd (Eq.trans (Eq.symm hc) (callB_false rfl)) (by decide) | (unfold chkOp at hc; split at hc <;> first | contradiction | (exact absurd hc (by decide))) | (cases hc; done))
  | pick x y z =>
    have he : o_pick x y z b C self sl h = some (v, h') := he
    cases op
    case pick x' y' z' => simp only [chkOp, Bool.and_eq_true] at hc; exact op_pick sm hr hop hc.1.1 hc.1.2 hc.2 he
    all_goals (first | exact absurd (show false = true from hc) (by decide) | exact absurd (Eq.trans (Eq.symm hc) (callB_false rfl)) (by decide) | (unfold chkOp at hc; split at hc <;> first | contradiction | (exact absurd hc (by decide))) | (cases hc; done))
  | box x =>
    have he : o_box x b C self sl h = some (v, h') := he
    cases op
    case box t x' => exact op_box sm (f _ (Nat.le_refl _)) hr hop hc he
    all_goals (first | exact absurd (show false = true from hc) (by decide) | exact absurd (Eq.trans (Eq.symm hc) (callB_false rfl)) (by decide) | (unfold chkOp at hc; split at hc <;> first | contradiction | (exact absurd hc (by decide))) | (cases hc; done))
  | zero z =>
    have he : o_zero z b C self sl h = some (v, h') := he
    cases op
    case alloc e => exact op_zero sm (f _ (Nat.le_refl _)) hop hc he
    all_goals (first | exact absurd (show false = true from hc) (by decide) | exact absurd (Eq.trans (Eq.symm hc) (callB_false rfl)) (by decide) | (unfold chkOp at hc; split at hc <;> first | contradiction | (exact absurd hc (by decide))) | (cases hc; done))
  | build z ps =>
    have he : o_build z ps b C self sl h = some (v, h') := he
    cases op
    case build t qs => simp only [chkOp, Bool.and_eq_true] at hc; exact op_build sm hr hop hc.1 hc.2 he
    all_goals (first | exact absurd (show false = true from hc) (by decide) | exact absurd (Eq.trans (Eq.symm hc) (callB_false rfl)) (by decide) | (unfold chkOp at hc; split at hc <;> first | contradiction | (exact absurd hc (by decide))) | (cases hc; done))
  | bslice len size z ps =>
    have he : o_bslice len size z ps b C self sl h = some (v, h') := he
    cases op
    case buildSlice t n qs => 
      simp only [chkOp, Bool.and_eq_true, beq_iff_eq] at hc
      obtain ⟨rfl, hc⟩ := hc
      exact op_bslice sm (f _ (Nat.le_refl _)) hr hop hc he
    all_goals (first | exact absurd (show false = true from hc) (by decide) | exact absurd (Eq.trans (Eq.symm hc) (callB_false rfl)) (by decide) | (unfold chkOp at hc; split at hc <;> first | contradiction | (exact absurd hc (by decide))) | (cases hc; done))
  | ld n x =>
    have he : o_ld n x b C self sl h = some (v, h') := he
    cases op
    case load t y => simp only [chkOp, Bool.and_eq_true] at hc; exact op_ld sm hr hop hc.1 hc.2 he
    all_goals (first | exact absurd (show false = true from hc) (by decide) | exact absurd (Eq.trans (Eq.symm hc) (callB_false rfl)) (by decide) | (unfold chkOp at hc; split at hc <;> first | contradiction | (exact absurd hc (by decide))) | (cases hc; done))
  | st n x y =>
    have he : o_st n x y b C self sl h = some (v, h') := he
    cases op
    case store t x' y' => simp only [chkOp, Bool.and_eq_true] at hc; exact op_st sm hr hop hc.1.1 hc.1.2 hc.2 he
    all_goals (first | exact absurd (show false = true from hc) (by decide) | exact absurd (Eq.trans (Eq.symm hc) (callB_false rfl)) (by decide) | (unfold chkOp at hc; split at hc <;> first | contradiction | (exact absurd hc (by decide))) | (cases hc; done))
  | nilchk x =>
    have he : o_nilchk x b C self sl h = some (v, h') := he
    cases op
    case nilCheck y => exact op_nilchk sm hr hop hc he
    all_goals (first | exact absurd (show false = true from hc) (by decide) | exact absurd (Eq.trans (Eq.symm hc) (callB_false rfl)) (by decide) | (unfold chkOp at hc; split at hc <;> first | contradiction | (exact absurd hc (by decide))) | (cases hc; done))
  | bin op' x y =>
    have he : o_bin op' x y b C self sl h = some (v, h') := he
    cases op
    case binOp op'' t x' y' t' => simp only [chkOp, Bool.and_eq_true, decide_eq_true_eq] at hc; obtain ⟨⟨rfl, h1⟩, h2⟩ := hc; exact op_bin sm hr hop h1 h2 he
    all_goals (first | exact absurd (show false = true from hc) (by decide) | exact absurd (Eq.trans (Eq.symm hc) (callB_false rfl)) (by decide) | (unfold chkOp at hc; split at hc <;> first | contradiction | (exact absurd hc (by decide))) | (cases hc; done))
  | eqs k neg x y =>
    have he : o_eqs k neg x y b C self sl h = some (v, h') := he
    cases op
    case binOp op'' t x' y' t' => simp only [chkOp, Bool.and_eq_true] at hc; exact op_eqs sm hr hop hc.1.1.1 hc.1.1.2 hc.1.2 hc.2 he
    all_goals (first | exact absurd (show false = true from hc) (by decide) | exact absurd (Eq.trans (Eq.symm hc) (callB_false rfl)) (by decide) | (unfold chkOp at hc; split at hc <;> first | contradiction | (exact absurd hc (by decide))) | (cases hc; done))
  | un op' x =>
    have he : o_un op' x b C self sl h = some (v, h') := he
    cases op
    case unOp op'' t x' => simp only [chkOp, Bool.and_eq_true, decide_eq_true_eq] at hc; obtain ⟨rfl, h1⟩ := hc; exact op_un sm hr hop h1 he
    all_goals (first | exact absurd (show false = true from hc) (by decide) | exact absurd (Eq.trans (Eq.symm hc) (callB_false rfl)) (by decide) | (unfold chkOp at hc; split at hc <;> first | contradiction | (exact absurd hc (by decide))) | (cases hc; done))
  | cvt k x =>
    have he : o_cvt k x b C self sl h = some (v, h') := he
    cases op
    case convert s d x' => simp only [chkOp, Bool.and_eq_true] at hc; exact op_cvt sm hr hop hc.1.1 hc.1.2 hc.2 he
    all_goals (first | exact absurd (show false = true from hc) (by decide) | exact absurd (Eq.trans (Eq.symm hc) (callB_false rfl)) (by decide) | (unfold chkOp at hc; split at hc <;> first | contradiction | (exact absurd hc (by decide))) | (cases hc; done))
  | str x =>
    have he : o_str x b C self sl h = some (v, h') := he
    cases op
    case convert s d x' => simp only [chkOp, Bool.and_eq_true] at hc; exact op_str sm hr hop hc.1.1 hc.1.2 hc.2 he
    all_goals (first | exact absurd (show false = true from hc) (by decide) | exact absurd (Eq.trans (Eq.symm hc) (callB_false rfl)) (by decide) | (unfold chkOp at hc; split at hc <;> first | contradiction | (exact absurd hc (by decide))) | (cases hc; done))
  | b2s x =>
    have he : o_b2s x b C self sl h = some (v, h') := he
    cases op
    case convert s d x' => simp only [chkOp, Bool.and_eq_true] at hc; exact op_b2s sm hr hop hc.1.1 hc.1.2 hc.2 he
    all_goals (first | exact absurd (show false = true from hc) (by decide) | exact absurd (Eq.trans (Eq.symm hc) (callB_false rfl)) (by decide) | (unfold chkOp at hc; split at hc <;> first | contradiction | (exact absurd hc (by decide))) | (cases hc; done))
  | clos fn xs ys =>
    have he : o_clos fn xs ys b C self sl h = some (v, h') := he
    cases op
    case makeFunc fn' xs' ys' => 
      cases fn' <;> cases fn <;> (try (first | exact absurd (show false = true from hc) (by decide) | exact absurd (Eq.trans (Eq.symm hc) (callB_false rfl)) (by decide) | (unfold chkOp at hc; split at hc <;> first | contradiction | (exact absurd hc (by decide))) | (cases hc; done)))
      simp only [chkOp, Bool.and_eq_true, beq_iff_eq] at hc
      obtain ⟨⟨rfl, h1⟩, h2⟩ := hc
      exact op_clos sm hr hop h1 h2 he
    all_goals (cases fn <;> (first | exact absurd (show false = true from hc) (by decide) | exact absurd (Eq.trans (Eq.symm hc) (callB_false rfl)) (by decide) | (unfold chkOp at hc; split at hc <;> first | contradiction | (exact absurd hc (by decide))) | (cases hc; done)))
  | mkmap =>
    have he : o_mkmap b C self sl h = some (v, h') := he
    cases op
    case makeMap t r => 
      cases r with
      | some _ => (first | exact absurd (show false = true from hc) (by decide) | exact absurd (Eq.trans (Eq.symm hc) (callB_false rfl)) (by decide) | (unfold chkOp at hc; split at hc <;> first | contradiction | (exact absurd hc (by decide))) | (cases hc; done))
      | none => exact op_mkmap sm (f _ (Nat.le_refl _)) hop he
    all_goals (first | exact absurd (show false = true from hc) (by decide) | exact absurd (Eq.trans (Eq.symm hc) (callB_false rfl)) (by decide) | (unfold chkOp at hc; split at hc <;> first | contradiction | (exact absurd hc (by decide))) | (cases hc; done))
  | mks size bytes z l c =>
    have he : o_mks size bytes z l c b C self sl h = some (v, h') := he
    cases op
    case makeSlice t l' c' => 
      simp only [chkOp, Bool.and_eq_true] at hc
      exact op_mks sm (f _ (Nat.le_refl _)) hr hop hc.1.1 hc.1.2 hc.2 he
    all_goals (first | exact absurd (show false = true from hc) (by decide) | exact absurd (Eq.trans (Eq.symm hc) (callB_false rfl)) (by decide) | (unfold chkOp at hc; split at hc <;> first | contradiction | (exact absurd hc (by decide))) | (cases hc; done))
  | slstr x lo hi =>
    have he : o_slstr x lo hi b C self sl h = some (v, h') := he
    cases op
    case slice t x' lo' hi' mx' => 
      cases mx' with
      | some _ => (first | exact absurd (show false = true from hc) (by decide) | exact absurd (Eq.trans (Eq.symm hc) (callB_false rfl)) (by decide) | (unfold chkOp at hc; split at hc <;> first | contradiction | (exact absurd hc (by decide))) | (cases hc; done))
      | none => simp only [chkOp, Bool.and_eq_true] at hc; exact op_slstr sm hr hop hc.1.1.1 hc.1.1.2 hc.1.2 hc.2 he
    all_goals (first | exact absurd (show false = true from hc) (by decide) | exact absurd (Eq.trans (Eq.symm hc) (callB_false rfl)) (by decide) | (unfold chkOp at hc; split at hc <;> first | contradiction | (exact absurd hc (by decide))) | (cases hc; done))
  | slsl size x lo hi mx =>
    have he : o_slsl size x lo hi mx b C self sl h = some (v, h') := he
    cases op
    case slice t x' lo' hi' mx' => 
      have hc : (sliceB P t size && opd nt x' x && opdO nt lo' lo && opdO nt hi' hi && opdO nt mx' mx) = true := by cases mx' <;> exact hc
      simp only [Bool.and_eq_true] at hc
      exact op_slsl sm hr hop hc.1.1.1.1 hc.1.1.1.2 hc.1.1.2 hc.1.2 hc.2 he
    all_goals (first | exact absurd (show false = true from hc) (by decide) | exact absurd (Eq.trans (Eq.symm hc) (callB_false rfl)) (by decide) | (unfold chkOp at hc; split at hc <;> first | contradiction | (exact absurd hc (by decide))) | (cases hc; done))
  | slarr n size x lo hi mx =>
    have he : o_slarr n size x lo hi mx b C self sl h = some (v, h') := he
    cases op
    case slice t x' lo' hi' mx' => 
      have hc : ((arrB P t n size || (match P.underlying t with | some (.pointer a) => arrB P a n size | _ => false)) && opd nt x' x && opdO nt lo' lo && opdO nt hi' hi && opdO nt mx' mx) = true := by cases mx' <;> exact hc
      simp only [Bool.and_eq_true] at hc
      exact op_slarr sm hr hop hc.1.1.1.1 hc.1.1.1.2 hc.1.1.2 hc.1.2 hc.2 he
    all_goals (first | exact absurd (show false = true from hc) (by decide) | exact absurd (Eq.trans (Eq.symm hc) (callB_false rfl)) (by decide) | (unfold chkOp at hc; split at hc <;> first | contradiction | (exact absurd hc (by decide))) | (cases hc; done))
  | fad off x =>
    have he : o_fad off x b C self sl h = some (v, h') := he
    cases op
    case fieldAddr t x' f' => simp only [chkOp, Bool.and_eq_true] at hc; exact op_fad sm hr hop hc.1 hc.2 he
    all_goals (first | exact absurd (show false = true from hc) (by decide) | exact absurd (Eq.trans (Eq.symm hc) (callB_false rfl)) (by decide) | (unfold chkOp at hc; split at hc <;> first | contradiction | (exact absurd hc (by decide))) | (cases hc; done))
  | iad len size x i =>
    have he : o_iad len size x i b C self sl h = some (v, h') := he
    cases op
    case indexAddr t x' i' => simp only [chkOp, Bool.and_eq_true] at hc; exact op_iad sm hr hop hc.1.1 hc.1.2 hc.2 he
    all_goals (first | exact absurd (show false = true from hc) (by decide) | exact absurd (Eq.trans (Eq.symm hc) (callB_false rfl)) (by decide) | (unfold chkOp at hc; split at hc <;> first | contradiction | (exact absurd hc (by decide))) | (cases hc; done))
  | ias size x i =>
    have he : o_ias size x i b C self sl h = some (v, h') := he
    cases op
    case indexAddr t x' i' => simp only [chkOp, Bool.and_eq_true] at hc; exact op_ias sm hr hop hc.1.1 hc.1.2 hc.2 he
    all_goals (first | exact absurd (show false = true from hc) (by decide) | exact absurd (Eq.trans (Eq.symm hc) (callB_false rfl)) (by decide) | (unfold chkOp at hc; split at hc <;> first | contradiction | (exact absurd hc (by decide))) | (cases hc; done))
  | fld n off x =>
    have he : o_fld n off x b C self sl h = some (v, h') := he
    cases op
    case field t x' f' => simp only [chkOp, Bool.and_eq_true] at hc; exact op_fld sm hr hop hc.1 hc.2 he
    all_goals (first | exact absurd (show false = true from hc) (by decide) | exact absurd (Eq.trans (Eq.symm hc) (callB_false rfl)) (by decide) | (unfold chkOp at hc; split at hc <;> first | contradiction | (exact absurd hc (by decide))) | (cases hc; done))
  | idx len size n x i =>
    have he : o_idx len size n x i b C self sl h = some (v, h') := he
    cases op
    case index t x' i' => simp only [chkOp, Bool.and_eq_true] at hc; exact op_idx sm hr hop hc.1.1.1 hc.1.1.2 hc.1.2 hc.2 he
    all_goals (first | exact absurd (show false = true from hc) (by decide) | exact absurd (Eq.trans (Eq.symm hc) (callB_false rfl)) (by decide) | (unfold chkOp at hc; split at hc <;> first | contradiction | (exact absurd hc (by decide))) | (cases hc; done))
  | idxs x i =>
    have he : o_idxs x i b C self sl h = some (v, h') := he
    cases op
    case index t x' i' => simp only [chkOp, Bool.and_eq_true] at hc; exact op_idxs sm hr hop hc.1.1 hc.1.2 hc.2 he
    all_goals (first | exact absurd (show false = true from hc) (by decide) | exact absurd (Eq.trans (Eq.symm hc) (callB_false rfl)) (by decide) | (unfold chkOp at hc; split at hc <;> first | contradiction | (exact absurd hc (by decide))) | (cases hc; done))
  | look ok ts z m k =>
    have he : o_look ok ts z m k b C self sl h = some (v, h') := he
    cases op
    case lookup t m' k' ok' => simp only [chkOp, Bool.and_eq_true, beq_iff_eq] at hc; obtain ⟨⟨⟨rfl, h1⟩, h2⟩, h3⟩ := hc; exact op_look sm hr hop h1 h2 h3 he
    all_goals (first | exact absurd (show false = true from hc) (by decide) | exact absurd (Eq.trans (Eq.symm hc) (callB_false rfl)) (by decide) | (unfold chkOp at hc; split at hc <;> first | contradiction | (exact absurd hc (by decide))) | (cases hc; done))
  | mset ts m k x =>
    have he : o_mset ts m k x b C self sl h = some (v, h') := he
    cases op
    case mapUpdate t m' k' x' => simp only [chkOp, Bool.and_eq_true] at hc; exact op_mset sm hr (.inl hop) hc.1.1.1 hc.1.1.2 hc.1.2 hc.2 he
    case insert t m' k' x' => simp only [chkOp, Bool.and_eq_true] at hc; exact op_mset sm hr (.inr hop) hc.1.1.1 hc.1.1.2 hc.1.2 hc.2 he
    all_goals (first | exact absurd (show false = true from hc) (by decide) | exact absurd (Eq.trans (Eq.symm hc) (callB_false rfl)) (by decide) | (unfold chkOp at hc; split at hc <;> first | contradiction | (exact absurd hc (by decide))) | (cases hc; done))
  | rstr x =>
    have he : o_rstr x b C self sl h = some (v, h') := he
    cases op
    case range t x' => 
      simp only [chkOp, Bool.and_eq_true] at hc
      exact op_rstr sm (f _ (Nat.le_refl _)) hr hop hc.1 hc.2 he
    all_goals (first | exact absurd (show false = true from hc) (by decide) | exact absurd (Eq.trans (Eq.symm hc) (callB_false rfl)) (by decide) | (unfold chkOp at hc; split at hc <;> first | contradiction | (exact absurd hc (by decide))) | (cases hc; done))
  | rmap x =>
    have he : o_rmap x b C self sl h = some (v, h') := he
    cases op
    all_goals (first | exact absurd (show false = true from hc) (by decide) | exact absurd (Eq.trans (Eq.symm hc) (callB_false rfl)) (by decide) | (unfold chkOp at hc; split at hc <;> first | contradiction | (exact absurd hc (by decide))) | (cases hc; done))
  | nexts x =>
    have he : o_nexts x b C self sl h = some (v, h') := he
    cases op
    case next x' st => 
      cases st with
      | false => (first | exact absurd (show false = true from hc) (by decide) | exact absurd (Eq.trans (Eq.symm hc) (callB_false rfl)) (by decide) | (unfold chkOp at hc; split at hc <;> first | contradiction | (exact absurd hc (by decide))) | (cases hc; done))
      | true => exact op_nexts sm hr hop hc he
    all_goals (first | exact absurd (show false = true from hc) (by decide) | exact absurd (Eq.trans (Eq.symm hc) (callB_false rfl)) (by decide) | (unfold chkOp at hc; split at hc <;> first | contradiction | (exact absurd hc (by decide))) | (cases hc; done))
  | nextm x =>
    have he : o_nextm x b C self sl h = some (v, h') := he
    cases op
    all_goals (first | exact absurd (show false = true from hc) (by decide) | exact absurd (Eq.trans (Eq.symm hc) (callB_false rfl)) (by decide) | (unfold chkOp at hc; split at hc <;> first | contradiction | (exact absurd hc (by decide))) | (cases hc; done))
  | entry x =>
    have he : o_entry x b C self sl h = some (v, h') := he
    cases op
    all_goals (first | exact absurd (show false = true from hc) (by decide) | exact absurd (Eq.trans (Eq.symm hc) (callB_false rfl)) (by decide) | (unfold chkOp at hc; split at hc <;> first | contradiction | (exact absurd hc (by decide))) | (cases hc; done))
  | ext i x =>
    have he : o_ext i x b C self sl h = some (v, h') := he
    cases op
    case extract x' i' => simp only [chkOp, Bool.and_eq_true, beq_iff_eq] at hc; obtain ⟨rfl, h1⟩ := hc; exact op_ext sm hr hop h1 he
    all_goals (first | exact absurd (show false = true from hc) (by decide) | exact absurd (Eq.trans (Eq.symm hc) (callB_false rfl)) (by decide) | (unfold chkOp at hc; split at hc <;> first | contradiction | (exact absurd hc (by decide))) | (cases hc; done))
  | call g args => exact absurd rfl (hcall g args)
  | app size x y =>
    have he : o_app size x y b C self sl h = some (v, h') := he
    cases op
    case call c => exact call_app sm f hr hop (by simpa [chkOp] using hc) he
    all_goals (first | exact absurd (show false = true from hc) (by decide) | exact absurd (Eq.trans (Eq.symm hc) (callB_false rfl)) (by decide) | (unfold chkOp at hc; split at hc <;> first | contradiction | (exact absurd hc (by decide))) | (cases hc; done))
  | cpy size x y =>
    have he : o_cpy size x y b C self sl h = some (v, h') := he
    cases op
    case call c => exact call_cpy sm hr hop (by simpa [chkOp] using hc) he
    all_goals (first | exact absurd (show false = true from hc) (by decide) | exact absurd (Eq.trans (Eq.symm hc) (callB_false rfl)) (by decide) | (unfold chkOp at hc; split at hc <;> first | contradiction | (exact absurd hc (by decide))) | (cases hc; done))
  | len k x =>
    have he : o_len k x b C self sl h = some (v, h') := he
    cases op
    case call c => exact call_len sm hr hop (by simpa [chkOp] using hc) he
    all_goals (first | exact absurd (show false = true from hc) (by decide) | exact absurd (Eq.trans (Eq.symm hc) (callB_false rfl)) (by decide) | (unfold chkOp at hc; split at hc <;> first | contradiction | (exact absurd hc (by decide))) | (cases hc; done))
  | min x r =>
    have he : o_min x r b C self sl h = some (v, h') := he
    cases op
    case call c => exact call_min sm hr hop (by simpa [chkOp] using hc) he
    all_goals (first | exact absurd (show false = true from hc) (by decide) | exact absurd (Eq.trans (Eq.symm hc) (callB_false rfl)) (by decide) | (unfold chkOp at hc; split at hc <;> first | contradiction | (exact absurd hc (by decide))) | (cases hc; done))
  | max x r =>
    have he : o_max x r b C self sl h = some (v, h') := he
    cases op
    case call c => exact call_max sm hr hop (by simpa [chkOp] using hc) he
    all_goals (first | exact absurd (show false = true from hc) (by decide) | exact absurd (Eq.trans (Eq.symm hc) (callB_false rfl)) (by decide) | (unfold chkOp at hc; split at hc <;> first | contradiction | (exact absurd hc (by decide))) | (cases hc; done))
  | clr z x =>
    have he : o_clr z x b C self sl h = some (v, h') := he
    cases op
    case call c => exact call_clr sm hr hop (by simpa [chkOp] using hc) he
    all_goals (first | exact absurd (show false = true from hc) (by decide) | exact absurd (Eq.trans (Eq.symm hc) (callB_false rfl)) (by decide) | (unfold chkOp at hc; split at hc <;> first | contradiction | (exact absurd hc (by decide))) | (cases hc; done))
  | bad => cases he
end
end Go.Ab

/- Code: what is evaluated is what the machine does. -/
namespace Go.Ab

section
variable {OK : Nat → Code → ACode → Prop} {P : Program} {J : Inj} {h h' : AHeap} {w : World} {nt : Nat} {sl : Slots} {a : Act} {o : Oper} {v : Value}
  {b : Bool} {C : Cfg} {self : Task → Option Res}

/-! ### Marks among the deferred calls -/
def markOf (r : Nat) : Deferred := { target := .collected r, args := #[] }
def Marks (lo : Nat) (J : Inj) (h : AHeap) (w : World) (ds : List Deferred) : Prop :=
  ∃ rs : List Nat, ds = rs.map markOf ∧ rs.Nodup ∧ ∀ r ∈ rs, lo ≤ r ∧ w.heap[r]? = some (.deferred (some [])) ∧ ¬Live J h r
theorem Marks.next {lo : Nat} {J J' : Inj} {h h' : AHeap} {w w' : World} {ds : List Deferred} (m : Marks lo J h w ds) (n : Next OK J h w J' h' w') : Marks lo J' h' w' ds := by
  obtain ⟨rs, e, hn, hr⟩ := m
  refine ⟨rs, e, hn, fun r hm => ?_⟩
  obtain ⟨h1, h2, h3⟩ := hr r hm
  have hlt := (Array.getElem?_eq_some_iff.1 h2).1
  refine ⟨h1, (n.keep r hlt h3).trans h2, fun l => ?_⟩
  rcases n.came r l with h | h
  · omega
  · exact h3 h

def exitOf : Ex → Exit
  | .normal => .normal
  | .exit id => .exit id
  | .ret => .ret
/-- What a piece of code is known to do. -/
def CodeSound (OK : Nat → Code → ACode → Prop) (P : Program) (ro : Option Nat) (nt : Nat) (c : Code) (s : Slots) (h : AHeap) (e : Ex) (s' : Slots) (h' : AHeap) : Prop :=
  ∀ lo J a w Q, SR J nt s a.tmps → Sim OK J h w → Fresh J h → Marks lo J h w a.defers → lo ≤ w.heap.size →
    (∀ J' a' w', Next OK J h w J' h' w' → SR J' nt s' a'.tmps → Marks lo J' h' w' a'.defers → Q (exitOf e) a' w') → c.wpIn (FW ro) 0 P Q a w
/-- What the recursion is known to do. -/
structure SelfOK (P : Program) (C : Cfg) (OK : Nat → Code → ACode → Prop) (sf : Task → Option Res) : Prop where
  mixed : P.follows .mixedOrders = true
  call : ∀ {f args h e v l r h'}, sf (.call f args h) = some (e, .nd v l r, h') → ∀ {J w} {args' : Array Value}, Sim OK J h w → LR J args args'.toList → Fresh J h →
    (∃ fn, P.funcs[f]? = some fn ∧ fn.body.isSome = true ∧ fn.name ≠ "runtime.NumGoroutine") ∧
    CallsIn Fence.wide 0 P f args' w (fun e w' => ∃ v' J', e = .returned v' ∧ VR J' v v' ∧ Next OK J h w J' h' w')
  orc : ∀ {f args v h}, C.orc f args h.base = some v → ∀ {J w} {args' : Array Value}, Sim OK J h w → LR J args args'.toList → Fresh J h →
    (∃ fn, P.funcs[f]? = some fn ∧ fn.body.isSome = true ∧ fn.name ≠ "runtime.NumGoroutine") ∧
    CallsIn Fence.wide 0 P f args' w (fun e w' => ∃ v' J', e = .returned v' ∧ VR J' v v' ∧ Next OK J h w J' h w')
  code : ∀ {ac s h e s' h'}, sf (.code ac s h) = some (e, s', h') → ∀ {nt c ro}, OK nt c ac → CodeSound OK P ro nt c s h e s' h'

/-! ### One operation -/
theorem semAt_call {ro : Option Nat} {ρ : Operand → Value} (hd : ∀ c, o.op ≠ .defer c) : o.semAt (FW ro).round ρ = execOp ρ o := Oper.semAt_eq _ _ _ hd

theorem chk_nodefer {ao : AOp} (hc : chkOp P nt o.op ao = true) (hb : ao ≠ .bad) : ∀ c, o.op ≠ .defer c := by
  intro c e
  rw [e] at hc
  cases ao <;> first | exact absurd rfl hb | exact absurd (show false = true from hc) (by decide) | (rename_i fn _ _; cases fn <;> exact absurd (show false = true from hc) (by decide))

theorem done_upon {ro : Option Nat} {next : Act → World → Prop} {Q : Exit → Act → World → Prop} {r : Result Go.Next} (hd : Done OK J h w r v h')
    (hk : ∀ J' v' w', Next OK J h w J' h' w' → VR J' v v' → next (a.put o.dst v') w') : o.uponIn (FW ro) 0 P a next Q r := by
  obtain ⟨v', w', J', h1 | ⟨h1, h2⟩, h3, h4⟩ := hd
  · rw [h1]; exact hk J' v' w' h4 h3
  · rw [h1]; exact hk J' undef w' h4 (by rw [h2]; exact .undef _)

/-- The function value of a call. -/
theorem vr_func {f : FuncId} {xs ys : Array Value} {v : Value} (r : VR J (.func (.func f) xs ys) v) : ∃ xs' ys' : Array Value, v = .func (.func f) xs' ys' ∧ LR J xs.toList xs'.toList ∧ LR J ys.toList ys'.toList := by
  generalize e : Value.func (.func f) xs ys = u at r
  cases r with
  | func g h1 h2 h3 h4 => cases e; exact ⟨_, _, rfl, ⟨by simpa using h1, fun i x y hx hy => h2 i x y (by simpa using hx) (by simpa using hy)⟩, ⟨by simpa using h3, fun i x y hx hy => h4 i x y (by simpa using hx) (by simpa using hy)⟩⟩
  | undef => cases e
  | _ => cases e
theorem vr_yield {l : Nat} {xs ys : Array Value} {v : Value} (r : VR J (.func (.yield l) xs ys) v) : ∃ pl, v = .func (.yield pl.b) #[] #[] ∧ J l = some pl ∧ xs = #[] ∧ ys = #[] := by
  generalize e : Value.func (.yield l) xs ys = u at r
  cases r with
  | yield h => cases e; exact ⟨_, rfl, h, rfl, rfl⟩
  | undef => cases e
  | _ => cases e

theorem callFunc_enter {f : FuncId} {fn : Func} (hf : P.funcs[f]? = some fn) (hb : fn.body.isSome = true) (hn : fn.name ≠ "runtime.NumGoroutine") (args : Array Value) :
    (callFunc f args).run P w = .ok (.enter f args) w := by
  have hbn : fn.body.isNone = false := by cases h : fn.body <;> simp_all
  simp only [callFunc, Sem.run_bind, run_program, Result.andThen_ok, hf]
  simp [hn, hbn]

theorem callF_sound (so : SelfOK P C OK self) (sm : Sim OK J h w) (f : Fresh J h) {g : FuncId} {args : List Value} {args' : Array Value} (he : callF b C self g args h = some (v, h')) (r : LR J args args'.toList) :
    (∃ fn, P.funcs[g]? = some fn ∧ fn.body.isSome = true ∧ fn.name ≠ "runtime.NumGoroutine") ∧
    CallsIn Fence.wide 0 P g args' w (fun e w' => ∃ v' J', e = .returned v' ∧ VR J' v v' ∧ Next OK J h w J' h' w') := by
  unfold callF at he
  split at he
  · rename_i u hu
    cases he
    exact so.orc hu sm r f
  · simp only [frcS_eq] at he
    split at he
    · rename_i e v1 l r1 h1 hs
      cases he
      exact so.call hs sm r f
    · cases he

theorem foldl_params : ∀ (ps : List Pa) (params : List Nat) (vs vs' : List Value) {s : Slots} {t : Array Value}, ps.map ix = params → LR J vs vs' → vs.length = ps.length → SR J nt s t →
    SR J nt (putL ps vs s fun s => s) ((params.zip vs').foldl (fun tmps (x : Nat × Value) => tmps.setIfInBounds x.1 x.2) t)
  | [], _, vs, vs', s, t, e, r, hl, hs => by
    subst e
    simp; exact hs
  | p :: ps, _, [], vs', s, t, e, r, hl, hs => by simp at hl
  | p :: ps, _, v :: vs, [], s, t, e, r, hl, hs => by have := r.1; simp at this
  | p :: ps, _, v :: vs, v' :: vs', s, t, e, r, hl, hs => by
    subst e
    have : (putL (p :: ps) (v :: vs) s fun s => s) = putL ps vs (setS p s v) fun s => s := by
      show setK p s v (fun s => putL ps vs s fun s => s) = _
      rw [setK_eq]
    rw [this]
    simp only [List.map_cons, List.zip_cons_cons, List.foldl_cons]
    exact foldl_params ps _ vs vs' rfl r.tail (by simpa using hl) (hs.set r.head p)
theorem putL_eq {β : Sort _} : ∀ (ps : List Pa) (vs : List Value) (s : Slots) (k : Slots → β), putL ps vs s k = k (putL ps vs s fun s => s)
  | [], vs, s, k => rfl
  | p :: ps, [], s, k => rfl
  | p :: ps, v :: vs, s, k => by
    show setK p s v (fun s => putL ps vs s k) = k (setK p s v fun s => putL ps vs s fun s => s)
    rw [setK_eq, setK_eq (k := fun s => putL ps vs s fun s => s), putL_eq]

theorem setBlk_putObj (w : World) (r : Nat) (o : Obj) : w.putObj r o = setBlk w r o := rfl
theorem loop_obj (sm : Sim OK J h w) {l : Nat} {st : LoopState} {pend : Option ACode} {tmps : ST} {ps : List Pa} {asg body : ACode} {pl : Place} (hg : h.get l = some (.loop st pend tmps ps asg body)) (hj : J l = some pl) :
    ∃ L, w.heap[pl.b]? = some (.loop L) ∧ pl.off = 0 ∧ L.state = st ∧ PendR L.pending pend ∧ ps.map ix = L.params.toList ∧
      ∃ nt, SR J nt tmps L.tmps ∧ OK nt L.assign asg ∧ OK nt L.body body ∧ (∀ p ∈ ps, ix p < nt) := by
  obtain ⟨_, pl', ob, hj', hb, hob⟩ := sm.obj _ _ hg
  rw [hj] at hj'; cases hj'
  cases ob <;> simp only [ObjR] at hob
  exact ⟨_, hb, hob⟩

theorem round_sound (so : SelfOK P C OK self) (sm : Sim OK J h w) (f : Fresh J h) {l : Nat} {pl : Place} {args : List Value} {args' : Array Value} (hj : J l = some pl) (he : roundA b self l args h = some (v, h')) (r : LR J args args'.toList) :
    ∃ L : Loop, ((Instr.yield pl.b args').run P w = .ok (.round pl.b L.fn ((L.params.zip args').foldl (fun tmps (t, a) => tmps.setIfInBounds t a) L.tmps) L.assign L.body) w) ∧
      RoundIn Fence.wide 0 P pl.b L.fn ((L.params.zip args').foldl (fun tmps (t, a) => tmps.setIfInBounds t a) L.tmps) L.assign L.body w
        (fun e w' => ∃ v' J', e = .returned v' ∧ VR J' v v' ∧ Next OK J h w J' h' w') := by
  unfold roundA at he
  split at he
  rotate_left
  · cases he
  rename_i pend tmps ps asg body hg
  obtain ⟨L, hb, h0, hst, hpend, hps, nt, hsr, hasg, hbody, hlt⟩ := loop_obj sm hg hj
  split at he
  rotate_left
  · cases he
  rename_i hlen
  have hpl : L.params.size = ps.length := by rw [← Array.length_toList, ← hps]; simp
  have hal := r.1
  simp only [Array.length_toList] at hal
  refine ⟨L, run_yield hb (by omega), ?_⟩
  simp only [frcS_eq] at he
  rw [putL_eq] at he
  have hs0 : SR J nt (putL ps args tmps fun s => s) ((L.params.zip args').foldl (fun tmps (t, a) => tmps.setIfInBounds t a) L.tmps) := by
    have := foldl_params (J := J) (nt := nt) ps L.params.toList args args'.toList hps r hlen hsr
    rw [← Array.foldl_toList, Array.toList_zip]
    exact this
  split at he
  rotate_left
  · cases he
  rename_i s1 h1 hasg1
  split at he
  rotate_left
  · cases he
  rename_i pend1 tmps1 ps1 asg1 body1 hg1
  refine roundIn_of_wpIn trivial ?_
  refine so.code hasg1 (ro := some pl.b) hasg w.heap.size J _ w _ hs0 sm f ⟨[], rfl, .nil, fun r hr => by cases hr⟩ (Nat.le_refl _) ?_
  intro J1 a1 w1 n1 sr1 mk1
  have hj1 : J1 l = some pl := n1.le _ _ hj
  obtain ⟨L1, hb1, h01, hst1, hpend1, hps1, nt1, hsr1, hasg1', hbody1, hlt1⟩ := loop_obj n1.sim hg1 hj1
  show ∃ w₂, _ ∧ _
  refine ⟨_, run_beginRound hb1 hst1, ?_⟩
  rw [setBlk_putObj]
  have n2 : Next OK J1 h1 w1 J1 (h1.put b l (.loop .busy pend1 tmps1 ps1 asg1 body1)) (setBlk w1 pl.b (.loop { L1 with state := .busy })) := by
    refine Next.put n1.sim b hg1 hj1 ?_
    simp only [ObjR]
    exact ⟨h01, trivial, hpend1, hps1, nt1, hsr1, hasg1', hbody1, hlt1⟩
  have n12 := n1.trans n2
  split at he
  rotate_left
  · cases he
  rename_i e2 s2 h2 hbody2
  refine so.code hbody2 (ro := some pl.b) hbody w.heap.size J1 a1 _ _ sr1 n2.sim (n12.fresh f) (mk1.next n2) n12.size ?_
  intro J3 a3 w3 n3 sr3 mk3
  have n13 := n12.trans n3
  have hj3 : J3 l = some pl := n13.le _ _ hj
  split at he
  rotate_left
  · cases he
  rename_i st2 pend2 tmps2 ps2 asg2 body2 hg3
  obtain ⟨L3, hb3, h03, hst3, hpend3, hps3, nt3, hsr3, hasg3, hbody3, hlt3⟩ := loop_obj n3.sim hg3 hj3
  have fin : ∀ (jump : Option Code) (aj : Option ACode), PendR jump aj → h' = h2.put b l (.loop (if jump.isNone then .ready else .done) aj tmps2 ps2 asg2 body2) →
      Next OK J h w J3 h' (w3.putObj pl.b (.loop { L3 with state := if jump.isNone then .ready else .done, pending := jump })) := by
    intro jump aj hja hh
    subst hh
    refine n13.trans (Next.put n3.sim b hg3 hj3 ?_)
    simp only [ObjR]
    exact ⟨h03, trivial, hja, hps3, nt3, hsr3, hasg3, hbody3, hlt3⟩
  cases e2 with
  | normal =>
    simp only [Option.some.injEq, Prod.mk.injEq] at he
    exact ⟨_, _, run_endRound none hb3, .bool true, J3, rfl, by rw [← he.1]; exact .bool _, fin none none trivial he.2.symm⟩
  | ret =>
    simp only [Option.some.injEq, Prod.mk.injEq] at he
    exact ⟨_, _, run_endRound (some .ret) hb3, .bool false, J3, rfl, by rw [← he.1]; exact .bool _, fin (some .ret) (some .ret) trivial he.2.symm⟩
  | exit id =>
    simp only [Option.some.injEq, Prod.mk.injEq] at he
    exact ⟨_, _, run_endRound (some (.exit id)) hb3, .bool false, J3, rfl, by rw [← he.1]; exact .bool _, fin (some (.exit id)) (some (.exit id)) rfl he.2.symm⟩

/-- One operation of a region that is wanted. -/
theorem oper_sound (so : SelfOK P C OK self) (sm : Sim OK J h w) (f : Fresh J h) (hr : SR J nt sl a.tmps) {ao : AOp} {ro : Option Nat} {next : Act → World → Prop} {Q : Exit → Act → World → Prop}
    (hc : chkOp P nt o.op ao = true) (he : aev ao b C self sl h = some (v, h'))
    (hk : ∀ J' v' w', Next OK J h w J' h' w' → VR J' v v' → next (a.put o.dst v') w') : o.wpIn (FW ro) 0 P a w next Q := by
  refine ⟨fun _ _ => trivial, ?_⟩
  by_cases hbad : ao = .bad
  · subst hbad; cases he
  rw [semAt_call (chk_nodefer hc hbad)]
  by_cases hcall : ∃ g args, ao = .call g args
  · obtain ⟨g, args, rfl⟩ := hcall
    generalize hop : o.op = op at hc
    cases op
    case call c =>
      have hc : callB P nt c (.call g args) = true := hc
      unfold callB at hc
      split at hc <;> (try contradiction)
      rename_i fo g' args' hcal e
      cases e
      rw [Bool.and_eq_true] at hc
      have rg := opd_sound hr hc.1
      have ra := opdL_sound hr hc.2
      have he : callV b C self (evA sl g) (args.map (evA sl)) h = some (v, h') := he
      unfold callV at he
      split at he
      rotate_left
      · cases he
      rename_i fn first cap eg
      rw [eg] at rg
      have hargs : (c.args.map a.eval).toList = c.args.toList.map a.eval := by simp
      split at he
      · rename_i f1
        obtain ⟨first', cap', ev, r1, r2⟩ := vr_func rg
        have rall : LR J (first.toList ++ args.map (evA sl) ++ cap.toList) (first' ++ c.args.map a.eval ++ cap').toList := by
          simp only [Array.toList_append, hargs]
          exact (r1.append ra).append r2
        obtain ⟨⟨fn, hf, hb, hn⟩, hcl⟩ := callF_sound so sm f he rall
        have hrun : (execOp a.eval o).run P w = .ok (.enter f1 (first' ++ c.args.map a.eval ++ cap')) w := by
          simp only [execOp, hop, resolve, hcal, ev, Deferred.ofValue, Sem.run_bind, Sem.run_pure, Result.andThen_ok, invoke]
          exact callFunc_enter hf hb hn _
        rw [hrun]
        refine ⟨fun h => (by cases h), ?_⟩
        refine CallsIn.mono (R := fun e w' => ∃ v' J', e = .returned v' ∧ VR J' v v' ∧ Next OK J h w J' h' w') hcl ?_
        rintro e w' ⟨v', J', rfl, h3, h4⟩
        exact hk J' v' w' h4 h3
      · rename_i l
        obtain ⟨pl, ev, hj, rfl, rfl⟩ := vr_yield rg
        have ra' : LR J (args.map (evA sl)) (c.args.map a.eval).toList := by rw [hargs]; exact ra
        obtain ⟨L, hy, hround⟩ := round_sound so sm f hj he ra'
        have hrun : (execOp a.eval o).run P w = (Instr.yield pl.b (c.args.map a.eval)).run P w := by
          simp only [execOp, hop, resolve, hcal, ev, Deferred.ofValue, Sem.run_bind, Sem.run_pure, Result.andThen_ok, invoke]
          congr 2
          simp
        rw [hrun, hy]
        refine ⟨fun h => (by cases h), ?_⟩
        refine RoundIn.mono (R := fun e w' => ∃ v' J', e = .returned v' ∧ VR J' v v' ∧ Next OK J h w J' h' w') hround ?_
        rintro e w' ⟨v', J', rfl, h3, h4⟩
        exact hk J' v' w' h4 h3
      · cases he
    all_goals (first | exact absurd (show false = true from hc) (by decide) | (rename_i fn _ _; cases fn <;> exact absurd (show false = true from hc) (by decide)))
  · exact done_upon (op_sound sm f hr hc (fun g args e => hcall ⟨g, args, e⟩) he) hk
end
end Go.Ab

/- What an operation reads; what changes the heap. -/
namespace Go.Ab
def opdP : Opd → List Pa
  | .t p => [p]
  | .c _ => []
def opdsP : List Opd → List Pa
  | [] => []
  | x :: r => opdP x ++ opdsP r
def opdOP : Option Opd → List Pa
  | some x => opdP x
  | none => []
def psP : List (Nat × Nat × Opd) → List Pa
  | [] => []
  | (_, _, x) :: r => opdP x ++ psP r
def rdA : AOp → List Pa
  | .mov x => opdP x
  | .pick x y z => opdP x ++ (opdP y ++ (opdP z))
  | .box x => opdP x
  | .zero _ => []
  | .build _ ps => psP ps
  | .bslice _ _ _ ps => psP ps
  | .ld _ x => opdP x
  | .st _ x y => opdP x ++ (opdP y)
  | .nilchk x => opdP x
  | .bin _ x y => opdP x ++ (opdP y)
  | .eqs _ _ x y => opdP x ++ (opdP y)
  | .un _ x => opdP x
  | .cvt _ x => opdP x
  | .str x => opdP x
  | .b2s x => opdP x
  | .clos _ xs ys => opdsP xs ++ (opdsP ys)
  | .mkmap => []
  | .mks _ _ _ x y => opdP x ++ (opdP y)
  | .slstr x lo hi => opdP x ++ (opdOP lo ++ (opdOP hi))
  | .slsl _ x lo hi mx => opdP x ++ (opdOP lo ++ (opdOP hi ++ (opdOP mx)))
  | .slarr _ _ x lo hi mx => opdP x ++ (opdOP lo ++ (opdOP hi ++ (opdOP mx)))
  | .fad _ x => opdP x
  | .iad _ _ x y => opdP x ++ (opdP y)
  | .ias _ x y => opdP x ++ (opdP y)
  | .fld _ _ x => opdP x
  | .idx _ _ _ x y => opdP x ++ (opdP y)
  | .idxs x y => opdP x ++ (opdP y)
  | .look _ _ _ x y => opdP x ++ (opdP y)
  | .mset _ x y z => opdP x ++ (opdP y ++ (opdP z))
  | .rstr x => opdP x
  | .rmap x => opdP x
  | .nexts x => opdP x
  | .nextm x => opdP x
  | .entry x => opdP x
  | .ext _ x => opdP x
  | .call x xs => opdP x ++ (opdsP xs)
  | .app _ x y => opdP x ++ (opdP y)
  | .cpy _ x y => opdP x ++ (opdP y)
  | .len _ x => opdP x
  | .min x xs => opdP x ++ (opdsP xs)
  | .max x xs => opdP x ++ (opdsP xs)
  | .clr _ x => opdP x
  | .bad => []
/-- 0: no heap; 1: it reads; 2: it acts. -/
def kindA : AOp → Nat
  | .box .. => 2
  | .zero .. => 2
  | .bslice .. => 2
  | .ld .. => 1
  | .st .. => 2
  | .b2s .. => 1
  | .mkmap => 2
  | .mks .. => 2
  | .look .. => 1
  | .mset .. => 2
  | .rstr .. => 2
  | .rmap .. => 2
  | .nexts .. => 2
  | .nextm .. => 2
  | .entry .. => 1
  | .call .. => 2
  | .app .. => 2
  | .cpy .. => 2
  | .len .. => 1
  | .clr .. => 2
  | .bad => 2
  | _ => 0

section
variable {h h' : AHeap} {v : Value} {b : Bool} {C : Cfg} {self : Task → Option Res}
theorem evc {s s' : Slots} {x : Opd} (H : ∀ p ∈ opdP x, getS p s = getS p s') : evA s x = evA s' x := by
  cases x with
  | t p => exact H p (by simp [opdP])
  | c v => rfl
theorem lec {s s' : Slots} : ∀ {x : List Opd}, (∀ p ∈ opdsP x, getS p s = getS p s') → x.map (evA s) = x.map (evA s')
  | [], _ => rfl
  | x :: r, H => by
    simp only [List.map_cons]
    rw [evc (fun p hp => H p (List.mem_append_left _ hp)), lec (fun p hp => H p (List.mem_append_right _ hp))]
theorem oec {s s' : Slots} {x : Option Opd} (H : ∀ p ∈ opdOP x, getS p s = getS p s') : x.map (evA s) = x.map (evA s') := by
  cases x with
  | none => rfl
  | some x => simp only [Option.map_some]; rw [evc H]
theorem pec {s s' : Slots} : ∀ {x : List (Nat × Nat × Opd)}, (∀ p ∈ psP x, getS p s = getS p s') → pEv s x = pEv s' x
  | [], _ => rfl
  | (_, _, x) :: r, H => by
    simp only [pEv]
    rw [evc (fun p hp => H p (List.mem_append_left _ hp)), pec (fun p hp => H p (List.mem_append_right _ hp))]
theorem ret1_pure {u : Option Value} (he : ret1 u h = some (v, h')) : h' = h ∧ ∀ h2, ret1 u h2 = some (v, h2) := by
  obtain ⟨e1, e2⟩ := ret1_some he
  subst e1
  exact ⟨e2, fun _ => rfl⟩
theorem aev_congr {s s' : Slots} : ∀ (op : AOp), (∀ p ∈ rdA op, getS p s = getS p s') → aev op b C self s h = aev op b C self s' h
  | .mov x, H => by show o_mov x b C self s h = o_mov x b C self s' h; simp only [o_mov, evc (x := x) (fun p hp => H p (hp))]
  | .pick x y z, H => by show o_pick x y z b C self s h = o_pick x y z b C self s' h; simp only [o_pick, evc (x := x) (fun p hp => H p (List.mem_append_left _ hp)), evc (x := y) (fun p hp => H p (List.mem_append_right _ (List.mem_append_left _ hp))), evc (x := z) (fun p hp => H p (List.mem_append_right _ (List.mem_append_right _ (hp))))]
  | .box x, H => by show o_box x b C self s h = o_box x b C self s' h; simp only [o_box, evc (x := x) (fun p hp => H p (hp))]
  | .zero z, H => rfl
  | .build z ps, H => by show o_build z ps b C self s h = o_build z ps b C self s' h; simp only [o_build, pec (x := ps) (fun p hp => H p (hp))]
  | .bslice u1 u2 z ps, H => by show o_bslice u1 u2 z ps b C self s h = o_bslice u1 u2 z ps b C self s' h; simp only [o_bslice, pec (x := ps) (fun p hp => H p (hp))]
  | .ld n x, H => by show o_ld n x b C self s h = o_ld n x b C self s' h; simp only [o_ld, evc (x := x) (fun p hp => H p (hp))]
  | .st n x y, H => by show o_st n x y b C self s h = o_st n x y b C self s' h; simp only [o_st, evc (x := x) (fun p hp => H p (List.mem_append_left _ hp)), evc (x := y) (fun p hp => H p (List.mem_append_right _ (hp)))]
  | .nilchk x, H => by show o_nilchk x b C self s h = o_nilchk x b C self s' h; simp only [o_nilchk, evc (x := x) (fun p hp => H p (hp))]
  | .bin o x y, H => by show o_bin o x y b C self s h = o_bin o x y b C self s' h; simp only [o_bin, evc (x := x) (fun p hp => H p (List.mem_append_left _ hp)), evc (x := y) (fun p hp => H p (List.mem_append_right _ (hp)))]
  | .eqs k n x y, H => by show o_eqs k n x y b C self s h = o_eqs k n x y b C self s' h; simp only [o_eqs, evc (x := x) (fun p hp => H p (List.mem_append_left _ hp)), evc (x := y) (fun p hp => H p (List.mem_append_right _ (hp)))]
  | .un o x, H => by show o_un o x b C self s h = o_un o x b C self s' h; simp only [o_un, evc (x := x) (fun p hp => H p (hp))]
  | .cvt k x, H => by show o_cvt k x b C self s h = o_cvt k x b C self s' h; simp only [o_cvt, evc (x := x) (fun p hp => H p (hp))]
  | .str x, H => by show o_str x b C self s h = o_str x b C self s' h; simp only [o_str, evc (x := x) (fun p hp => H p (hp))]
  | .b2s x, H => by show o_b2s x b C self s h = o_b2s x b C self s' h; simp only [o_b2s, evc (x := x) (fun p hp => H p (hp))]
  | .clos f xs ys, H => by show o_clos f xs ys b C self s h = o_clos f xs ys b C self s' h; simp only [o_clos, lec (x := xs) (fun p hp => H p (List.mem_append_left _ hp)), lec (x := ys) (fun p hp => H p (List.mem_append_right _ (hp)))]
  | .mkmap, H => rfl
  | .mks u1 u2 z x y, H => by show o_mks u1 u2 z x y b C self s h = o_mks u1 u2 z x y b C self s' h; simp only [o_mks, evc (x := x) (fun p hp => H p (List.mem_append_left _ hp)), evc (x := y) (fun p hp => H p (List.mem_append_right _ (hp)))]
  | .slstr x lo hi, H => by show o_slstr x lo hi b C self s h = o_slstr x lo hi b C self s' h; simp only [o_slstr, evc (x := x) (fun p hp => H p (List.mem_append_left _ hp)), oec (x := lo) (fun p hp => H p (List.mem_append_right _ (List.mem_append_left _ hp))), oec (x := hi) (fun p hp => H p (List.mem_append_right _ (List.mem_append_right _ (hp))))]
  | .slsl n x lo hi mx, H => by show o_slsl n x lo hi mx b C self s h = o_slsl n x lo hi mx b C self s' h; simp only [o_slsl, evc (x := x) (fun p hp => H p (List.mem_append_left _ hp)), oec (x := lo) (fun p hp => H p (List.mem_append_right _ (List.mem_append_left _ hp))), oec (x := hi) (fun p hp => H p (List.mem_append_right _ (List.mem_append_right _ (List.mem_append_left _ hp)))), oec (x := mx) (fun p hp => H p (List.mem_append_right _ (List.mem_append_right _ (List.mem_append_right _ (hp)))))]
  | .slarr n m x lo hi mx, H => by show o_slarr n m x lo hi mx b C self s h = o_slarr n m x lo hi mx b C self s' h; simp only [o_slarr, evc (x := x) (fun p hp => H p (List.mem_append_left _ hp)), oec (x := lo) (fun p hp => H p (List.mem_append_right _ (List.mem_append_left _ hp))), oec (x := hi) (fun p hp => H p (List.mem_append_right _ (List.mem_append_right _ (List.mem_append_left _ hp)))), oec (x := mx) (fun p hp => H p (List.mem_append_right _ (List.mem_append_right _ (List.mem_append_right _ (hp)))))]
  | .fad n x, H => by show o_fad n x b C self s h = o_fad n x b C self s' h; simp only [o_fad, evc (x := x) (fun p hp => H p (hp))]
  | .iad n m x y, H => by show o_iad n m x y b C self s h = o_iad n m x y b C self s' h; simp only [o_iad, evc (x := x) (fun p hp => H p (List.mem_append_left _ hp)), evc (x := y) (fun p hp => H p (List.mem_append_right _ (hp)))]
  | .ias n x y, H => by show o_ias n x y b C self s h = o_ias n x y b C self s' h; simp only [o_ias, evc (x := x) (fun p hp => H p (List.mem_append_left _ hp)), evc (x := y) (fun p hp => H p (List.mem_append_right _ (hp)))]
  | .fld n m x, H => by show o_fld n m x b C self s h = o_fld n m x b C self s' h; simp only [o_fld, evc (x := x) (fun p hp => H p (hp))]
  | .idx n m l x y, H => by show o_idx n m l x y b C self s h = o_idx n m l x y b C self s' h; simp only [o_idx, evc (x := x) (fun p hp => H p (List.mem_append_left _ hp)), evc (x := y) (fun p hp => H p (List.mem_append_right _ (hp)))]
  | .idxs x y, H => by show o_idxs x y b C self s h = o_idxs x y b C self s' h; simp only [o_idxs, evc (x := x) (fun p hp => H p (List.mem_append_left _ hp)), evc (x := y) (fun p hp => H p (List.mem_append_right _ (hp)))]
  | .look o t z x y, H => by show o_look o t z x y b C self s h = o_look o t z x y b C self s' h; simp only [o_look, evc (x := x) (fun p hp => H p (List.mem_append_left _ hp)), evc (x := y) (fun p hp => H p (List.mem_append_right _ (hp)))]
  | .mset t x y z, H => by show o_mset t x y z b C self s h = o_mset t x y z b C self s' h; simp only [o_mset, evc (x := x) (fun p hp => H p (List.mem_append_left _ hp)), evc (x := y) (fun p hp => H p (List.mem_append_right _ (List.mem_append_left _ hp))), evc (x := z) (fun p hp => H p (List.mem_append_right _ (List.mem_append_right _ (hp))))]
  | .rstr x, H => by show o_rstr x b C self s h = o_rstr x b C self s' h; simp only [o_rstr, evc (x := x) (fun p hp => H p (hp))]
  | .rmap x, H => by show o_rmap x b C self s h = o_rmap x b C self s' h; simp only [o_rmap, evc (x := x) (fun p hp => H p (hp))]
  | .nexts x, H => by show o_nexts x b C self s h = o_nexts x b C self s' h; simp only [o_nexts, evc (x := x) (fun p hp => H p (hp))]
  | .nextm x, H => by show o_nextm x b C self s h = o_nextm x b C self s' h; simp only [o_nextm, evc (x := x) (fun p hp => H p (hp))]
  | .entry x, H => by show o_entry x b C self s h = o_entry x b C self s' h; simp only [o_entry, evc (x := x) (fun p hp => H p (hp))]
  | .ext i x, H => by show o_ext i x b C self s h = o_ext i x b C self s' h; simp only [o_ext, evc (x := x) (fun p hp => H p (hp))]
  | .call x xs, H => by show o_call x xs b C self s h = o_call x xs b C self s' h; simp only [o_call, evc (x := x) (fun p hp => H p (List.mem_append_left _ hp)), lec (x := xs) (fun p hp => H p (List.mem_append_right _ (hp)))]
  | .app n x y, H => by show o_app n x y b C self s h = o_app n x y b C self s' h; simp only [o_app, evc (x := x) (fun p hp => H p (List.mem_append_left _ hp)), evc (x := y) (fun p hp => H p (List.mem_append_right _ (hp)))]
  | .cpy n x y, H => by show o_cpy n x y b C self s h = o_cpy n x y b C self s' h; simp only [o_cpy, evc (x := x) (fun p hp => H p (List.mem_append_left _ hp)), evc (x := y) (fun p hp => H p (List.mem_append_right _ (hp)))]
  | .len k x, H => by show o_len k x b C self s h = o_len k x b C self s' h; simp only [o_len, evc (x := x) (fun p hp => H p (hp))]
  | .min x xs, H => by show o_min x xs b C self s h = o_min x xs b C self s' h; simp only [o_min, evc (x := x) (fun p hp => H p (List.mem_append_left _ hp)), lec (x := xs) (fun p hp => H p (List.mem_append_right _ (hp)))]
  | .max x xs, H => by show o_max x xs b C self s h = o_max x xs b C self s' h; simp only [o_max, evc (x := x) (fun p hp => H p (List.mem_append_left _ hp)), lec (x := xs) (fun p hp => H p (List.mem_append_right _ (hp)))]
  | .clr z x, H => by show o_clr z x b C self s h = o_clr z x b C self s' h; simp only [o_clr, evc (x := x) (fun p hp => H p (hp))]
  | .bad, H => rfl
theorem aev_pure {s : Slots} : ∀ (op : AOp), kindA op = 0 → aev op b C self s h = some (v, h') → h' = h ∧ ∀ h2, aev op b C self s h2 = some (v, h2)
  | .mov _, _, he => by cases he; exact ⟨rfl, fun _ => rfl⟩
  | .pick _ _ _, _, he => ret1_pure he
  | .box .., hk, _ => by cases hk
  | .zero .., hk, _ => by cases hk
  | .build _ _, _, he => ret1_pure he
  | .bslice .., hk, _ => by cases hk
  | .ld .., hk, _ => by cases hk
  | .st .., hk, _ => by cases hk
  | .nilchk _, _, he => ret1_pure he
  | .bin _ _ _, _, he => ret1_pure he
  | .eqs _ _ _ _, _, he => ret1_pure he
  | .un _ _, _, he => ret1_pure he
  | .cvt _ _, _, he => ret1_pure he
  | .str _, _, he => ret1_pure he
  | .b2s .., hk, _ => by cases hk
  | .clos _ _ _, _, he => by cases he; exact ⟨rfl, fun _ => rfl⟩
  | .mkmap, hk, _ => by cases hk
  | .mks .., hk, _ => by cases hk
  | .slstr _ _ _, _, he => ret1_pure he
  | .slsl _ _ _ _ _, _, he => ret1_pure he
  | .slarr _ _ _ _ _ _, _, he => ret1_pure he
  | .fad _ _, _, he => ret1_pure he
  | .iad _ _ _ _, _, he => ret1_pure he
  | .ias _ _ _, _, he => ret1_pure he
  | .fld _ _ _, _, he => ret1_pure he
  | .idx _ _ _ _ _, _, he => ret1_pure he
  | .idxs _ _, _, he => ret1_pure he
  | .look .., hk, _ => by cases hk
  | .mset .., hk, _ => by cases hk
  | .rstr .., hk, _ => by cases hk
  | .rmap .., hk, _ => by cases hk
  | .nexts .., hk, _ => by cases hk
  | .nextm .., hk, _ => by cases hk
  | .entry .., hk, _ => by cases hk
  | .ext _ _, _, he => ret1_pure he
  | .call .., hk, _ => by cases hk
  | .app .., hk, _ => by cases hk
  | .cpy .., hk, _ => by cases hk
  | .len .., hk, _ => by cases hk
  | .min _ _, _, he => ret1_pure he
  | .max _ _, _, he => ret1_pure he
  | .clr .., hk, _ => by cases hk
  | .bad, hk, _ => by cases hk
theorem aev_read {s : Slots} : ∀ (op : AOp), kindA op = 1 → aev op b C self s h = some (v, h') → h' = h
  | .mov .., hk, _ => by cases hk
  | .pick .., hk, _ => by cases hk
  | .box .., hk, _ => by cases hk
  | .zero .., hk, _ => by cases hk
  | .build .., hk, _ => by cases hk
  | .bslice .., hk, _ => by cases hk
  | .ld _ _, _, he => (ret1_some he).2
  | .st .., hk, _ => by cases hk
  | .nilchk .., hk, _ => by cases hk
  | .bin .., hk, _ => by cases hk
  | .eqs .., hk, _ => by cases hk
  | .un .., hk, _ => by cases hk
  | .cvt .., hk, _ => by cases hk
  | .str .., hk, _ => by cases hk
  | .b2s _, _, he => (ret1_some he).2
  | .clos .., hk, _ => by cases hk
  | .mkmap, hk, _ => by cases hk
  | .mks .., hk, _ => by cases hk
  | .slstr .., hk, _ => by cases hk
  | .slsl .., hk, _ => by cases hk
  | .slarr .., hk, _ => by cases hk
  | .fad .., hk, _ => by cases hk
  | .iad .., hk, _ => by cases hk
  | .ias .., hk, _ => by cases hk
  | .fld .., hk, _ => by cases hk
  | .idx .., hk, _ => by cases hk
  | .idxs .., hk, _ => by cases hk
  | .look _ _ _ _ _, _, he => (ret1_some he).2
  | .mset .., hk, _ => by cases hk
  | .rstr .., hk, _ => by cases hk
  | .rmap .., hk, _ => by cases hk
  | .nexts .., hk, _ => by cases hk
  | .nextm .., hk, _ => by cases hk
  | .entry _, _, he => (ret1_some he).2
  | .ext .., hk, _ => by cases hk
  | .call .., hk, _ => by cases hk
  | .app .., hk, _ => by cases hk
  | .cpy .., hk, _ => by cases hk
  | .len _ _, _, he => (ret1_some he).2
  | .min .., hk, _ => by cases hk
  | .max .., hk, _ => by cases hk
  | .clr .., hk, _ => by cases hk
  | .bad, hk, _ => by cases hk
end
end Go.Ab

/- Regions that draw their order of evaluation. -/
namespace Go.Ab

section
variable (P : Program) (nt : Nat)
def regB (all : List Oper) : List Oper → List AOper → Bool
  | [], [] => true
  | o :: os, ao :: aos => chkOper P nt all o ao && regB all os aos
  | _, _ => false
end
/-- The bits of the operations that must come before. -/
def befOf (acc : List Nat) : List Edge → Nat
  | [] => 0
  | e :: r => if Region.binds .any e then 2 ^ e.on ||| acc.getD e.on 0 ||| befOf acc r else befOf acc r
def befs : List Oper → List Nat → List Nat
  | [], acc => acc
  | o :: r, acc => befs r (acc ++ [befOf acc o.after.toList])
def bf (B : List Nat) (i j : Nat) : Bool := (B.getD j 0).testBit i
def gdP : Option (Pa × Bool) → List Pa
  | some (p, _) => [p]
  | none => []
def rdO (o : AOper) : List Pa := gdP o.guard ++ rdA o.op
def planHas (plan : List (Nat × List Nat)) (j p : Nat) : Bool := plan.any fun q => q.1 == j && q.2.any (· == p)
def tmpB (B : List Nat) (j : Nat) (oj : AOper) (i : Nat) (oi : AOper) : Bool := match oi.dst with
  | none => true
  | some d => (i == j || oj.dst != some d) && (!(rdO oj).any (· == d) || ((!Nat.blt i j || bf B i j) && (!Nat.blt j i || bf B j i)))
def actB (B : List Nat) (acts : List Nat) (j : Nat) : Bool := acts.all fun i => !Nat.blt i j || bf B i j
def readB (B : List Nat) (acts : List Nat) (N : Nat) (plan : List (Nat × List Nat)) (j : Nat) : Bool :=
  (N :: acts).all fun p =>
    !(acts.all fun i => if Nat.blt i p then !bf B j i else !bf B i j) ||
      (acts.all fun i => Nat.blt i (min j p) || Nat.ble (max j p) i) || planHas plan j p
def drawB (ops : List Oper) (aops : List AOper) (plan : List (Nat × List Nat)) : Bool :=
  let B := befs ops []
  let az := aops.zipIdx
  let acts := (az.filter fun x => kindA x.1.op == 2).map (·.2)
  ops.zipIdx.all (fun x => x.1.after.toList.all fun e => !Region.binds .any e || Nat.blt e.on x.2) &&
  az.all fun x => (az.all fun y => tmpB B x.2 x.1 y.2 y.1) && (if kindA x.1.op == 2 then actB B acts x.2 else if kindA x.1.op == 1 then readB B acts aops.length plan x.2 else true)

/-! ### What must come before -/
theorem befOf_spec {acc : List Nat} : ∀ {es : List Edge} {i : Nat}, (befOf acc es).testBit i = true → ∃ e ∈ es, Region.binds .any e = true ∧ (i = e.on ∨ (acc.getD e.on 0).testBit i = true)
  | [], i, h => by simp [befOf] at h
  | e :: r, i, h => by
    unfold befOf at h
    split at h
    · rename_i hb
      simp only [Nat.testBit_or, Bool.or_eq_true, Nat.testBit_two_pow, decide_eq_true_eq] at h
      rcases h with (h | h) | h
      · exact ⟨e, .head _, hb, .inl h.symm⟩
      · exact ⟨e, .head _, hb, .inr h⟩
      · obtain ⟨e', h1, h2⟩ := befOf_spec h
        exact ⟨e', .tail _ h1, h2⟩
    · obtain ⟨e', h1, h2⟩ := befOf_spec h
      exact ⟨e', .tail _ h1, h2⟩
def Closed (ops : List Oper) (L : Nat → Prop) : Prop := ∀ j o, ops[j]? = some o → L j → ∀ e ∈ o.after, Region.binds .any e = true → L e.on
theorem befs_spec (ops : List Oper) (hedge : ∀ j o, ops[j]? = some o → ∀ e ∈ o.after, Region.binds .any e = true → e.on < j) {L : Nat → Prop} (hc : Closed ops L) :
    ∀ (r : List Oper) (acc : List Nat), ops.drop acc.length = r →
      (∀ j o, j < acc.length → ops[j]? = some o → (∀ e ∈ o.after, Region.binds .any e = true → L e.on) → ∀ i, (acc.getD j 0).testBit i = true → L i) →
      ∀ j o, ops[j]? = some o → (∀ e ∈ o.after, Region.binds .any e = true → L e.on) → ∀ i, ((befs r acc).getD j 0).testBit i = true → L i
  | [], acc, hd, ha => fun j o ho he i hi => by
    have hlt := (List.getElem?_eq_some_iff.1 ho).1
    have : ops.length ≤ acc.length := by have := congrArg List.length hd; simp at this; omega
    exact ha j o (by omega) ho he i hi
  | x :: r, acc, hd, ha => by
    have hx : ops[acc.length]? = some x := by
      have : (ops.drop acc.length)[0]? = some x := by rw [hd]; rfl
      rw [List.getElem?_drop] at this; simpa using this
    refine befs_spec ops hedge hc r (acc ++ [befOf acc x.after.toList]) ?_ ?_
    · rw [List.length_append, ← List.drop_drop, hd]; rfl
    · intro j o hj ho he i hi
      rw [List.length_append] at hj
      by_cases hlt : j < acc.length
      · rw [List.getD_eq_getElem?_getD, List.getElem?_append_left hlt, ← List.getD_eq_getElem?_getD] at hi
        exact ha j o hlt ho he i hi
      · have hj : j = acc.length := by simp at hj; omega
        subst hj
        rw [hx] at ho; cases ho
        rw [List.getD_eq_getElem?_getD, List.getElem?_append_right (Nat.le_refl _)] at hi
        simp at hi
        obtain ⟨e, h1, h2, h3⟩ := befOf_spec hi
        have h1 : e ∈ x.after := by simpa using h1
        rcases h3 with rfl | h3
        · exact he e h1 h2
        · have hlt' := hedge _ _ hx e h1 h2
          cases hoe : ops[e.on]? with
          | none => have := (List.getElem?_eq_none_iff.1 hoe); have := (List.getElem?_eq_some_iff.1 hx).1; omega
          | some oe => exact ha e.on oe hlt' hoe (hc e.on oe hoe (he e h1 h2)) i h3

/-! ### The states of a run -/
section
variable {h h' : AHeap} {v : Value} {b : Bool} {C : Cfg} {self : Task → Option Res}
def StepR (b : Bool) (C : Cfg) (self : Task → Option Res) (o : AOper) (s : Slots) (h : AHeap) (s' : Slots) (h' : AHeap) : Prop :=
  (wantedA s o.guard = some false ∧ s' = (setO o.dst s skipV fun s => s) ∧ h' = h) ∨
  (wantedA s o.guard = some true ∧ ∃ v, aev o.op b C self s h = some (v, h') ∧ s' = setO o.dst s v fun s => s)
theorem run_step {o : AOper} {r : List AOper} {s : Slots} {h : AHeap} {q : Slots × AHeap} (he : runOps b C self (o :: r) s h = some q) :
    ∃ s1 h1, StepR b C self o s h s1 h1 ∧ runOps b C self r s1 h1 = some q ∧ states b C self (o :: r) s h = (s, h) :: states b C self r s1 h1 := by
  have he : (match wantedA s o.guard with
      | none => none
      | some t => Bool.casesOn t (setO o.dst s skipV fun s => runOps b C self r s h)
        (match aev o.op b C self s h with
          | some (v, h') => frcV b v fun v => frcH b h' fun h' => setO o.dst s v fun s => runOps b C self r s h'
          | none => none)) = some q := he
  split at he
  · cases he
  · rename_i t hw
    cases t with
    | false =>
      have he : setO o.dst s skipV (fun s => runOps b C self r s h) = some q := he
      rw [setO_eq] at he
      exact ⟨_, h, .inl ⟨hw, rfl, rfl⟩, he, by simp [states, hw]⟩
    | true =>
      have he : (match aev o.op b C self s h with
          | some (v, h') => frcV b v fun v => frcH b h' fun h' => setO o.dst s v fun s => runOps b C self r s h'
          | none => none) = some q := he
      split at he
      · rename_i v h1 hv
        simp only [frcV_eq, frcH_eq] at he
        rw [setO_eq] at he
        exact ⟨_, h1, .inr ⟨hw, v, hv, rfl⟩, he, by simp [states, hw, hv]⟩
      · cases he
theorem states_spec : ∀ {ops : List AOper} {s : Slots} {h : AHeap} {q : Slots × AHeap}, runOps b C self ops s h = some q →
    ∃ T : Nat → Slots × AHeap, T 0 = (s, h) ∧ T ops.length = q ∧ (∀ j o, ops[j]? = some o → StepR b C self o (T j).1 (T j).2 (T (j + 1)).1 (T (j + 1)).2) ∧ ∀ j, j ≤ ops.length → (states b C self ops s h)[j]? = some (T j)
  | [], s, h, q, he => by
    cases he
    exact ⟨fun _ => (s, h), rfl, rfl, fun j o ho => by simp at ho, fun j hj => by
      have : j = 0 := by simpa using hj
      subst this
      rfl⟩
  | o :: r, s, h, q, he => by
    obtain ⟨s1, h1, hst, hr, hss⟩ := run_step he
    obtain ⟨T, t0, tn, ts, tt⟩ := states_spec hr
    refine ⟨fun | 0 => (s, h) | j + 1 => T j, rfl, tn, fun j o' ho => ?_, fun j hj => ?_⟩
    · cases j with
      | zero =>
        simp at ho
        subst ho
        show StepR b C self o s h (T 0).1 (T 0).2
        rw [t0]; exact hst
      | succ j => exact ts j o' (by simpa using ho)
    · rw [hss]
      cases j with
      | zero => rfl
      | succ j => simpa using tt j (by simpa using hj)
theorem getS_setO (d : Option Pa) (s : Slots) (v : Value) (p : Pa) : getS p (setO d s v fun s => s) = if d = some p then v else getS p s := by
  cases d with
  | none => simp [setO]
  | some q =>
    show getS p (setS q s v) = _
    rw [getS_setS]
    by_cases e : p = q
    · subst e; simp
    · rw [if_neg e, if_neg (by intro e'; exact e (Option.some.inj e').symm)]
theorem StepR.heap {o : AOper} {s s' : Slots} {h h' : AHeap} (r : StepR b C self o s h s' h') (hk : kindA o.op ≠ 2) : h' = h := by
  rcases r with ⟨_, _, e⟩ | ⟨_, v, he, _⟩
  · exact e
  · have hk3 : kindA o.op = 0 ∨ kindA o.op = 1 := by
      cases ho : o.op <;> rw [ho] at hk <;> simp [kindA] at hk ⊢
    rcases hk3 with h0 | h1
    · exact (aev_pure _ h0 he).1
    · exact aev_read _ h1 he
theorem StepR.slot {o : AOper} {s s' : Slots} {h h' : AHeap} (r : StepR b C self o s h s' h') {p : Pa} (hd : o.dst ≠ some p) : getS p s' = getS p s := by
  rcases r with ⟨_, e, _⟩ | ⟨_, v, _, e⟩ <;> rw [e, getS_setO, if_neg hd]
/-- Slots of which only some are known. -/
noncomputable def mask (s : Slots) : List Pa → Slots
  | [] => .lf
  | p :: r => setS p (mask s r) (getS p s)
theorem getS_mask (s : Slots) : ∀ (l : List Pa) (p : Pa), getS p (mask s l) = if p ∈ l then getS p s else undef
  | [], p => by simp [mask, getS_lf]
  | q :: r, p => by
    simp only [mask, getS_setS, getS_mask s r p, List.mem_cons]
    by_cases e : p = q
    · subst e; simp
    · simp [e]

theorem StepR.const {ops : List AOper} {T : Nat → Slots × AHeap} (ts : ∀ j o, ops[j]? = some o → StepR b C self o (T j).1 (T j).2 (T (j + 1)).1 (T (j + 1)).2) (i : Nat) : ∀ n, i + n ≤ ops.length →
    (∀ k o, i ≤ k → k < i + n → ops[k]? = some o → kindA o.op ≠ 2) → (T (i + n)).2 = (T i).2
  | 0, _, _ => rfl
  | n + 1, hl, hk => by
    have hlt : i + n < ops.length := by omega
    have h1 := (ts (i + n) _ (List.getElem?_eq_getElem hlt)).heap (hk _ _ (by omega) (by omega) (List.getElem?_eq_getElem hlt))
    rw [← Nat.add_assoc, h1]
    exact StepR.const ts i n (by omega) (fun k o h1 h2 h3 => hk k o h1 (by omega) h3)
theorem StepR.between {ops : List AOper} {T : Nat → Slots × AHeap} (ts : ∀ j o, ops[j]? = some o → StepR b C self o (T j).1 (T j).2 (T (j + 1)).1 (T (j + 1)).2) {i k : Nat} (hik : i ≤ k) (hl : k ≤ ops.length)
    (hk : ∀ m o, i ≤ m → m < k → ops[m]? = some o → kindA o.op ≠ 2) : (T k).2 = (T i).2 := by
  have := StepR.const ts i (k - i) (by omega) (fun m o h1 h2 h3 => hk m o h1 (by omega) h3)
  rwa [show i + (k - i) = k by omega] at this
theorem StepR.slots {ops : List AOper} {T : Nat → Slots × AHeap} (ts : ∀ j o, ops[j]? = some o → StepR b C self o (T j).1 (T j).2 (T (j + 1)).1 (T (j + 1)).2) {p : Pa} (i : Nat) : ∀ n, i + n ≤ ops.length →
    (∀ k o, i ≤ k → k < i + n → ops[k]? = some o → o.dst ≠ some p) → getS p (T (i + n)).1 = getS p (T i).1
  | 0, _, _ => rfl
  | n + 1, hl, hk => by
    have hlt : i + n < ops.length := by omega
    have h1 := (ts (i + n) _ (List.getElem?_eq_getElem hlt)).slot (hk _ _ (by omega) (by omega) (List.getElem?_eq_getElem hlt))
    rw [← Nat.add_assoc, h1]
    exact StepR.slots ts i n (by omega) (fun k o h1 h2 h3 => hk k o h1 (by omega) h3)
theorem veq1_eq {x y : Value} (h : veq1 x y = true) : x = y := by
  unfold veq1 at h
  split at h
  · simp only [Bool.and_eq_true, decide_eq_true_eq, beq_iff_eq] at h; rw [h.1, h.2]
  · rw [eq_of_beq h]
  · rename_i p q; rw [show p = q from ByteArray.ext (Array.toList_inj.1 (eq_of_beq h))]
  · rw [eq_of_beq h]
  · simp only [Bool.and_eq_true, beq_iff_eq] at h; rw [h.1.1, h.1.2, h.2]
  · rw [eq_of_beq h]
  · cases h
theorem veqL_eq : ∀ {x y : List Value}, veqL x y = true → x = y
  | [], [], _ => rfl
  | [], _ :: _, h => by simp [veqL] at h
  | _ :: _, [], h => by simp [veqL] at h
  | x :: xs, y :: ys, h => by
    simp only [veqL, Bool.and_eq_true] at h
    rw [veq1_eq h.1, veqL_eq h.2]
theorem veq_eq {x y : Value} (h : veq x y = true) : x = y := by
  unfold veq at h
  split at h
  · rw [Array.toList_inj.1 (veqL_eq h)]
  · rw [Array.toList_inj.1 (veqL_eq h)]
  · exact veq1_eq h
theorem least {p : Nat → Prop} (h : ∃ i, p i) : ∃ i, p i ∧ ∀ k, p k → i ≤ k := by
  obtain ⟨i, hi⟩ := h
  induction i using Nat.strongRecOn with
  | _ i ih =>
    by_cases hk : ∃ k, k < i ∧ p k
    · obtain ⟨k, hlt, hpk⟩ := hk
      exact ih k hlt hpk
    · exact ⟨i, hi, fun k hpk => Nat.le_of_not_lt fun hlt => hk ⟨k, hlt, hpk⟩⟩
theorem countP_lt {p q : Nat → Bool} : ∀ {l : List Nat}, (∀ x ∈ l, q x = true → p x = true) → ∀ {j}, j ∈ l → p j = true → q j = false → l.countP q < l.countP p
  | x :: l, h, j, hj, hp, hq => by
    have hle : l.countP q ≤ l.countP p := List.countP_mono_left (fun y hy => h y (.tail _ hy))
    rcases List.mem_cons.1 hj with rfl | hj
    · simp only [List.countP_cons, hp, hq]; simp; omega
    · have ih := countP_lt (fun y hy => h y (.tail _ hy)) hj hp hq
      have hx := h x (.head _)
      simp only [List.countP_cons]
      cases hqx : q x with
      | true => simp [hx hqx]; exact ih
      | false => simp; split <;> omega
end

section
variable {P : Program} {nt : Nat} {b : Bool} {C : Cfg} {self : Task → Option Res}
theorem regB_spec (all : List Oper) : ∀ {os : List Oper} {aos : List AOper}, regB P nt all os aos = true → os.length = aos.length ∧ ∀ (j : Nat) o ao, os[j]? = some o → aos[j]? = some ao → chkOper P nt all o ao = true
  | [], [], _ => ⟨rfl, fun j o ao h => by simp at h⟩
  | [], _ :: _, h => by simp [regB] at h
  | _ :: _, [], h => by simp [regB] at h
  | x :: os, y :: aos, h => by
    simp only [regB, Bool.and_eq_true] at h
    obtain ⟨h1, h2⟩ := regB_spec all h.2
    refine ⟨by simp [h1], fun j o ao ho hao => ?_⟩
    cases j with
    | zero => simp at ho hao; subst ho; subst hao; exact h.1
    | succ j => exact h2 j o ao (by simpa using ho) (by simpa using hao)

/-- What holds while a region runs in whatever order. -/
structure Inv (OK : Nat → Code → ACode → Prop) (nt : Nat) (lo : Nat) (ops : List Oper) (aops : List AOper) (T : Nat → Slots × AHeap) (J0 : Inj) (w0 : World) (L : Array Bool) (m : Nat) (J : Inj) (a : Act) (w : World) : Prop where
  size : L.size = aops.length
  closed : Closed ops (fun j => L.getD j false = true)
  le : m ≤ aops.length
  acts : ∀ i o, aops[i]? = some o → kindA o.op = 2 → (L.getD i false = true ↔ i < m)
  next : Next (OK) J0 (T 0).2 w0 J (T m).2 w
  tmps : a.tmps.size = nt
  slot : ∀ p, ix p < nt → ∀ k, k ≤ aops.length → (∀ i o, aops[i]? = some o → o.dst = some p → (i < k ↔ L.getD i false = true)) → VR J (getS p (T k).1) (a.tmps.getD (ix p) undef)
  marks : Marks lo J (T m).2 w a.defers
end
end Go.Ab

/- Regions that draw their order: the proof. -/
namespace Go.Ab

section
variable {OK : Nat → Code → ACode → Prop} {P : Program} {nt : Nat} {b : Bool} {C : Cfg} {self : Task → Option Res}

/-- What the test of a region says. -/
structure Facts (ops : List Oper) (aops : List AOper) (plan : List (Nat × List Nat)) (B : List Nat) : Prop where
  edge : ∀ j o, ops[j]? = some o → ∀ e ∈ o.after, Region.binds .any e = true → e.on < j
  tmp : ∀ (j : Nat) oj (i : Nat) oi, aops[j]? = some oj → aops[i]? = some oi → tmpB B j oj i oi = true
  act : ∀ (j : Nat) oj (i : Nat) oi, aops[j]? = some oj → kindA oj.op = 2 → aops[i]? = some oi → kindA oi.op = 2 → i < j → bf B i j = true
  read : ∀ (j : Nat) oj, aops[j]? = some oj → kindA oj.op = 1 → ∀ p, (p = aops.length ∨ ∃ o, aops[p]? = some o ∧ kindA o.op = 2) →
    (∀ (i : Nat) o, aops[i]? = some o → kindA o.op = 2 → (i < p → bf B j i = false) ∧ (¬ i < p → bf B i j = false)) →
    (∀ (i : Nat) o, aops[i]? = some o → kindA o.op = 2 → i < min j p ∨ max j p ≤ i) ∨ planHas plan j p = true
  B : B = befs ops []
theorem facts_of {ops : List Oper} {aops : List AOper} {plan : List (Nat × List Nat)} (h : drawB ops aops plan = true) : Facts ops aops plan (befs ops []) := by
  unfold drawB at h
  simp only [Bool.and_eq_true, List.all_eq_true] at h
  obtain ⟨h1, h2⟩ := h
  have hacts : ∀ (i : Nat) o, aops[i]? = some o → kindA o.op = 2 → i ∈ (aops.zipIdx.filter fun x => kindA x.1.op == 2).map (·.2) := by
    intro i o ho hk
    exact List.mem_map.2 ⟨(o, i), List.mem_filter.2 ⟨List.mem_zipIdx_iff_getElem?.2 ho, by simp [hk]⟩, rfl⟩
  have hacts' : ∀ i, i ∈ (aops.zipIdx.filter fun x => kindA x.1.op == 2).map (·.2) → ∃ o, aops[i]? = some o ∧ kindA o.op = 2 := by
    intro i hi
    obtain ⟨x, hx, rfl⟩ := List.mem_map.1 hi
    obtain ⟨hx1, hx2⟩ := List.mem_filter.1 hx
    exact ⟨x.1, List.mem_zipIdx_iff_getElem?.1 hx1, by simpa using hx2⟩
  refine ⟨?_, ?_, ?_, ?_, rfl⟩
  · intro j o ho e he hb
    have := h1 (o, j) (List.mem_zipIdx_iff_getElem?.2 ho) e (by simpa using he)
    simp only [hb, Bool.not_true, Bool.false_or] at this
    rwa [Nat.blt_eq] at this
  · intro j oj i oi hj hi
    exact (h2 (oj, j) (List.mem_zipIdx_iff_getElem?.2 hj)).1 (oi, i) (List.mem_zipIdx_iff_getElem?.2 hi)
  · intro j oj i oi hj hk hi hki hlt
    have := (h2 (oj, j) (List.mem_zipIdx_iff_getElem?.2 hj)).2
    simp only [hk, beq_self_eq_true, if_true, actB, List.all_eq_true] at this
    have := this i (hacts i oi hi hki)
    have hb : Nat.blt i j = true := by rw [Nat.blt_eq]; exact hlt
    simpa [hb] using this
  · intro j oj hj hk p hp hcond
    have := (h2 (oj, j) (List.mem_zipIdx_iff_getElem?.2 hj)).2
    rw [if_neg (by simp [hk]), if_pos (by simp [hk])] at this
    simp only [readB, List.all_eq_true] at this
    have := this p (by
      rcases hp with rfl | ⟨o, ho, hko⟩
      · exact .head _
      · exact .tail _ (hacts p o ho hko))
    rw [Bool.or_eq_true, Bool.or_eq_true] at this
    rcases this with (h0 | h0) | h0
    · exfalso
      rw [Bool.not_eq_true', ← Bool.not_eq_true] at h0
      apply h0
      rw [List.all_eq_true]
      intro i hi
      obtain ⟨o, ho, hko⟩ := hacts' i hi
      obtain ⟨c1, c2⟩ := hcond i o ho hko
      split
      · rename_i hlt; rw [Nat.blt_eq] at hlt; simp [c1 hlt]
      · rename_i hlt; rw [Nat.blt_eq] at hlt; simp [c2 hlt]
    · left
      rw [List.all_eq_true] at h0
      intro i o ho hko
      have := h0 i (hacts i o ho hko)
      rw [Bool.or_eq_true, Nat.blt_eq, Nat.ble_eq] at this
      exact this
    · exact .inr h0

theorem listed_set {L : Array Bool} {j i : Nat} (hj : j < L.size) : ((L.setIfInBounds j true).getD i false = true) ↔ (i = j ∨ L.getD i false = true) := by
  simp only [Array.getD_eq_getD_getElem?, Array.getElem?_setIfInBounds]
  by_cases e : j = i
  · subst e; simp [hj]
  · rw [if_neg e]
    constructor
    · exact fun h => .inr h
    · rintro (h | h)
      · exact absurd h.symm e
      · exact h
theorem unlisted {L : Array Bool} {j : Nat} (h : L.getD j true = false) : j < L.size ∧ L.getD j false = false := by
  rw [Array.getD_eq_getD_getElem?] at h ⊢
  rcases Nat.lt_or_ge j L.size with h' | h'
  · rw [Array.getElem?_eq_getElem h'] at h ⊢; exact ⟨h', h⟩
  · rw [Array.getElem?_eq_none h'] at h; cases h

section
variable {lo : Nat} {ops : Array Oper} {aops : List AOper} {plan : List (Nat × List Nat)} {B : List Nat} {T : Nat → Slots × AHeap} {J0 : Inj} {w0 : World} {L : Array Bool} {m : Nat} {J : Inj} {a : Act} {w : World}

theorem Inv.before (hf : Facts ops.toList aops plan B) (hi : Inv OK nt lo ops.toList aops T J0 w0 L m J a w) {j : Nat} {o : Oper} (ho : ops.toList[j]? = some o)
    (hj : L.getD j false = true ∨ ∀ e ∈ o.after, Region.binds .any e = true → L.getD e.on false = true) {i : Nat} (hb : bf B i j = true) : L.getD i false = true := by
  have he : ∀ e ∈ o.after, Region.binds .any e = true → L.getD e.on false = true := by
    rcases hj with hj | hj
    · exact hi.closed j o ho hj
    · exact hj
  rw [hf.B] at hb
  exact befs_spec ops.toList hf.edge hi.closed ops.toList [] rfl (fun j o hj => by cases hj) j o ho he i hb

theorem Inv.step (so : SelfOK P C OK self) (ts : ∀ j o, aops[j]? = some o → StepR b C self o (T j).1 (T j).2 (T (j + 1)).1 (T (j + 1)).2)
    (hplan : ∀ j p oj, aops[j]? = some oj → j ≤ aops.length → p ≤ aops.length → planHas plan j p = true → ∀ v, wantedA (T j).1 oj.guard = some true → aev oj.op b C self (T j).1 (T j).2 = some (v, (T j).2) → ∃ h', aev oj.op b C self (T j).1 (T p).2 = some (v, h'))
    (hreg : regB P nt ops.toList ops.toList aops = true) (hf : Facts ops.toList aops plan B) (fr : Fresh J0 (T 0).2) (hi : Inv OK nt lo ops.toList aops T J0 w0 L m J a w)
    {j : Nat} {o : Oper} (ho : ops[j]? = some o) (hjl : L.getD j true = false) (hje : ∀ e ∈ o.after, Region.binds .any e = true → L.getD e.on false = true) {ro : Option Nat} {Q : Exit → Act → World → Prop} {K : Act → World → Prop}
    (hK : ∀ m' J' a' w', Inv OK nt lo ops.toList aops T J0 w0 (L.setIfInBounds j true) m' J' a' w' → K a' w') : wpOpIn (FW ro) 0 P ops Q j K a w := by
  obtain ⟨hlen, hchk⟩ := regB_spec _ hreg
  have hoL : ops.toList[j]? = some o := by rw [Array.getElem?_toList]; exact ho
  have hjN : j < aops.length := by rw [← hlen]; exact (List.getElem?_eq_some_iff.1 hoL).1
  obtain ⟨hjs, hjf⟩ := unlisted hjl
  have hnj : ¬ L.getD j false = true := by rw [hjf]; simp
  generalize hao : aops[j] = ao
  have hao : aops[j]? = some ao := by rw [List.getElem?_eq_getElem hjN, hao]
  have hc := hchk j o ao hoL hao
  simp only [chkOper, Bool.and_eq_true] at hc
  obtain ⟨⟨hd, hg⟩, hop⟩ := hc
  -- slots that are read
  have hread : ∀ p ∈ rdO ao, ix p < nt → VR J (getS p (T j).1) (a.tmps.getD (ix p) undef) := by
    intro p hp hlt
    refine hi.slot p hlt j (by omega) (fun i oi hoi hdi => ?_)
    have ht := hf.tmp j ao i oi hao hoi
    simp only [tmpB, hdi, Bool.and_eq_true, Bool.or_eq_true] at ht
    obtain ⟨_, ht⟩ := ht
    have hany : (rdO ao).any (· == p) = true := List.any_eq_true.2 ⟨p, hp, by simp⟩
    rw [hany] at ht
    simp only [Bool.not_true, Bool.false_eq_true, false_or, Bool.not_eq_true', ← Bool.not_eq_true] at ht
    obtain ⟨t1, t2⟩ := ht
    constructor
    · intro hij
      have hb : bf B i j = true := by
        rcases t1 with t1 | t1
        · exact absurd (by rw [Nat.blt_eq]; exact hij) t1
        · exact t1
      exact hi.before hf hoL (.inr hje) hb
    · intro hL
      rcases Nat.lt_trichotomy i j with h | h | h
      · exact h
      · subst h; exact absurd hL hnj
      · exfalso
        have hb : bf B j i = true := by
          rcases t2 with t2 | t2
          · exact absurd (by rw [Nat.blt_eq]; exact h) t2
          · exact t2
        have hiN : i < ops.toList.length := by rw [hlen]; exact (List.getElem?_eq_some_iff.1 hoi).1
        exact hnj (hi.before hf (List.getElem?_eq_getElem hiN) (.inl hL) hb)
  have sr : SR J nt (mask (T j).1 (rdO ao)) a.tmps := ⟨hi.tmps, fun p hp => by
    rw [getS_mask]
    split
    · rename_i hm; exact hread p hm hp
    · exact .undef _⟩
  have hgu : wantedA (mask (T j).1 (rdO ao)) ao.guard = wantedA (T j).1 ao.guard := by
    unfold wantedA
    cases hgd : ao.guard with
    | none => rfl
    | some g =>
      obtain ⟨p, want⟩ := g
      simp only
      rw [getS_mask, if_pos (by simp [rdO, hgd, gdP])]
  have hae : ∀ hx, aev ao.op b C self (mask (T j).1 (rdO ao)) hx = aev ao.op b C self (T j).1 hx := fun hx =>
    aev_congr ao.op (fun p hp => by rw [getS_mask, if_pos (show p ∈ rdO ao from List.mem_append_right _ hp)])
  -- acts
  have hactj : kindA ao.op = 2 → m ≤ j ∧ ∀ k o, m ≤ k → k < j → aops[k]? = some o → kindA o.op ≠ 2 := by
    intro hk
    refine ⟨Nat.le_of_not_lt fun h => hnj ((hi.acts j ao hao hk).2 h), fun k o h1 h2 h3 h4 => ?_⟩
    have := hi.before hf hoL (.inr hje) (hf.act j ao k o hao hk h3 h4 h2)
    have := (hi.acts k o h3 h4).1 this
    omega
  have step := ts j ao hao
  -- what holds afterwards
  have after : ∀ m' J' (v v' : Value) w', (kindA ao.op = 2 → m' = j + 1) → (kindA ao.op ≠ 2 → m' = m) → Next OK J (T m).2 w J' (T m').2 w' → VR J' v v' → ((T (j + 1)).1 = setO ao.dst (T j).1 v fun s => s) →
      Inv OK nt lo ops.toList aops T J0 w0 (L.setIfInBounds j true) m' J' (a.put o.dst v') w' := by
    intro m' J' v v' w' hm1 hm2 hn hv hslot
    have hdf : (a.put o.dst v').defers = a.defers := by cases o.dst <;> rfl
    refine ⟨by simp [hi.size], ?_, ?_, ?_, hi.next.trans hn, ?_, ?_, by rw [hdf]; exact hi.marks.next hn⟩
    · intro k ok hok hLk e he hb
      rw [listed_set hjs] at hLk ⊢
      rcases hLk with rfl | hLk
      · rw [hoL] at hok; cases hok
        exact .inr (hje e he hb)
      · exact .inr (hi.closed k ok hok hLk e he hb)
    · by_cases hk : kindA ao.op = 2
      · rw [hm1 hk]; omega
      · rw [hm2 hk]; exact hi.le
    · intro i oi hoi hki
      rw [listed_set hjs]
      by_cases hk : kindA ao.op = 2
      · rw [hm1 hk]
        obtain ⟨a1, a2⟩ := hactj hk
        constructor
        · rintro (rfl | h)
          · omega
          · have := (hi.acts i oi hoi hki).1 h; omega
        · intro h
          rcases Nat.lt_or_ge i j with h1 | h1
          · exact .inr (hi.before hf hoL (.inr hje) (hf.act j ao i oi hao hk hoi hki h1))
          · exact .inl (by omega)
      · rw [hm2 hk, hi.acts i oi hoi hki]
        constructor
        · rintro (rfl | h)
          · rw [hao] at hoi; cases hoi; exact absurd hki hk
          · exact h
        · exact fun h => .inr h
    · have : (a.put o.dst v').tmps.size = a.tmps.size := by cases o.dst <;> simp [Act.put]
      rw [this]; exact hi.tmps
    · intro p hp k hk hkw
      by_cases hdp : ao.dst = some p
      · -- the temporary that is written
        have hjk : j < k := (hkw j ao hao hdp).2 ((listed_set hjs).2 (.inl rfl))
        have hs : getS p (T k).1 = getS p (T (j + 1)).1 := by
          have := StepR.slots ts (p := p) (j + 1) (k - (j + 1)) (by omega) (fun i oi h1 h2 h3 h4 => by
            have ht := hf.tmp j ao i oi hao h3
            simp only [tmpB, h4, Bool.and_eq_true, Bool.or_eq_true, beq_iff_eq, hdp] at ht
            rcases ht.1 with h | h
            · omega
            · simp at h)
          rwa [show j + 1 + (k - (j + 1)) = k by omega] at this
        rw [hs, hslot, getS_setO, if_pos hdp]
        have hd' : o.dst = some (ix p) := by
          rw [hdp] at hd
          unfold dstB at hd
          split at hd
          · rename_i e; cases e
          · rename_i d q e1 e
            cases e
            simp only [Bool.and_eq_true, beq_iff_eq] at hd
            rw [e1, hd.1]
          · cases hd
        have : (a.put o.dst v').tmps.getD (ix p) undef = v' := by
          rw [hd']
          simp [Act.put, Array.getD_eq_getD_getElem?, Array.getElem?_setIfInBounds, hi.tmps, hp]
        rw [this]; exact hv
      · have hne : (a.put o.dst v').tmps.getD (ix p) undef = a.tmps.getD (ix p) undef := by
          cases hod : o.dst with
          | none => rfl
          | some d =>
            have : d ≠ ix p := by
              intro e
              rw [hod] at hd
              unfold dstB at hd
              split at hd
              · rename_i e1 _; cases e1
              · rename_i d' q e1 e2
                cases e1
                simp only [Bool.and_eq_true, beq_iff_eq] at hd
                exact hdp (by rw [e2, ix_inj (hd.1.symm.trans e)])
              · cases hd
            simp [Act.put, Array.getD_eq_getD_getElem?, Array.getElem?_setIfInBounds, this]
        rw [hne]
        refine (hi.slot p hp k hk (fun i oi hoi hdi => ?_)).mono hn.le
        rw [hkw i oi hoi hdi, listed_set hjs]
        constructor
        · rintro (rfl | h)
          · rw [hao] at hoi; cases hoi; exact absurd hdi hdp
          · exact h
        · exact fun h => .inr h
  unfold wpOpIn
  simp only [ho]
  rcases step with ⟨hw, hs, hh⟩ | ⟨hw, v, hv, hs⟩
  · -- passed over
    rw [wanted_sound sr hg (by rw [hgu]; exact hw)]
    simp only [Bool.false_eq_true, if_false]
    refine ⟨fun _ _ => trivial, ?_⟩
    by_cases hk : kindA ao.op = 2
    · obtain ⟨a1, a2⟩ := hactj hk
      have hh2 : (T (j + 1)).2 = (T m).2 := by rw [hh]; exact StepR.between ts a1 (by omega) a2
      exact hK _ _ _ _ (after (j + 1) J skipV undef w (fun _ => rfl) (fun h => absurd hk h) (by rw [hh2]; exact .refl hi.next.sim) .skip hs)
    · exact hK _ _ _ _ (after m J skipV undef w (fun h => absurd h hk) (fun _ => rfl) (.refl hi.next.sim) .skip hs)
  · rw [wanted_sound sr hg (by rw [hgu]; exact hw)]
    simp only [if_true]
    by_cases hk : kindA ao.op = 2
    · obtain ⟨a1, a2⟩ := hactj hk
      have hh2 : (T j).2 = (T m).2 := StepR.between ts a1 (by omega) a2
      have hv' : aev ao.op b C self (mask (T j).1 (rdO ao)) (T m).2 = some (v, (T (j + 1)).2) := by rw [hae, ← hh2]; exact hv
      refine oper_sound so hi.next.sim (hi.next.fresh fr) sr hop hv' (fun J' v' w' n r => ?_)
      exact hK _ _ _ _ (after (j + 1) J' v v' w' (fun _ => rfl) (fun h => absurd hk h) n r hs)
    · have hv' : ∃ hx, aev ao.op b C self (T j).1 (T m).2 = some (v, hx) := by
        have hk3 : kindA ao.op = 0 ∨ kindA ao.op = 1 := by
          cases h : ao.op <;> rw [h] at hk <;> simp [kindA] at hk ⊢
        rcases hk3 with h0 | h1
        · exact ⟨_, (aev_pure _ h0 hv).2 _⟩
        · -- the first act that is not listed
          have hex : ∃ p, m ≤ p ∧ (p = aops.length ∨ ∃ o, aops[p]? = some o ∧ kindA o.op = 2) := ⟨aops.length, hi.le, .inl rfl⟩
          obtain ⟨p, ⟨hmp, hp⟩, hmin⟩ := least hex
          have hpN : p ≤ aops.length := by
            rcases hp with rfl | ⟨o', ho', _⟩
            · exact Nat.le_refl _
            · exact Nat.le_of_lt (List.getElem?_eq_some_iff.1 ho').1
          have hno : ∀ k o, m ≤ k → k < p → aops[k]? = some o → kindA o.op ≠ 2 := fun k o h1 h2 h3 h4 => by
            have := hmin k ⟨h1, .inr ⟨o, h3, h4⟩⟩; omega
          have hTp : (T p).2 = (T m).2 := StepR.between ts hmp hpN hno
          have hL : ∀ (i : Nat) oi, aops[i]? = some oi → kindA oi.op = 2 → (L.getD i false = true ↔ i < p) := fun i oi h1 h2 => by
            rw [hi.acts i oi h1 h2]
            constructor
            · omega
            · intro h
              rcases Nat.lt_or_ge i m with h' | h'
              · exact h'
              · exact absurd h2 (hno i oi h' h h1)
          rw [← hTp]
          have hv0 : aev ao.op b C self (T j).1 (T j).2 = some (v, (T j).2) := by
            have := aev_read _ h1 hv
            rw [this] at hv; exact hv
          have hcond : ∀ (i : Nat) o, aops[i]? = some o → kindA o.op = 2 → (i < p → bf B j i = false) ∧ (¬ i < p → bf B i j = false) := by
            intro i oi hoi hki
            refine ⟨fun hlt => ?_, fun hlt => ?_⟩
            · cases hb : bf B j i with
              | false => rfl
              | true =>
                exfalso
                have hiN : i < ops.toList.length := by rw [hlen]; exact (List.getElem?_eq_some_iff.1 hoi).1
                exact hnj (hi.before hf (List.getElem?_eq_getElem hiN) (.inl ((hL i oi hoi hki).2 hlt)) hb)
            · cases hb : bf B i j with
              | false => rfl
              | true =>
                exfalso
                exact hlt ((hL i oi hoi hki).1 (hi.before hf hoL (.inr hje) hb))
          rcases hf.read j ao hao h1 p hp hcond with hc | hc
          · have : (T p).2 = (T j).2 := by
              rcases Nat.le_total j p with hjp | hjp
              · exact StepR.between ts hjp hpN (fun k o h1 h2 h3 h4 => by
                  rcases hc k o h3 h4 with h | h
                  · rw [Nat.min_eq_left hjp] at h; omega
                  · rw [Nat.max_eq_right hjp] at h; omega)
              · exact (StepR.between ts hjp (by omega) (fun k o h1 h2 h3 h4 => by
                  rcases hc k o h3 h4 with h | h
                  · rw [Nat.min_eq_right hjp] at h; omega
                  · rw [Nat.max_eq_left hjp] at h; omega)).symm
            rw [this]; exact ⟨_, hv0⟩
          · exact hplan j p ao hao (by omega) hpN hc v hw hv0
      obtain ⟨hx, hv'⟩ := hv'
      have hxe : hx = (T m).2 := by
        have hk3 : kindA ao.op = 0 ∨ kindA ao.op = 1 := by
          cases h : ao.op <;> rw [h] at hk <;> simp [kindA] at hk ⊢
        rcases hk3 with h0 | h1
        · exact (aev_pure _ h0 hv').1
        · exact aev_read _ h1 hv'
      subst hxe
      refine oper_sound so hi.next.sim (hi.next.fresh fr) sr hop (by rw [hae]; exact hv') (fun J' v' w' n r => ?_)
      exact hK _ _ _ _ (after m J' v v' w' (fun h => absurd h hk) (fun _ => rfl) n r hs)

theorem any_sound (so : SelfOK P C OK self) (ts : ∀ j o, aops[j]? = some o → StepR b C self o (T j).1 (T j).2 (T (j + 1)).1 (T (j + 1)).2)
    (hplan : ∀ j p oj, aops[j]? = some oj → j ≤ aops.length → p ≤ aops.length → planHas plan j p = true → ∀ v, wantedA (T j).1 oj.guard = some true → aev oj.op b C self (T j).1 (T j).2 = some (v, (T j).2) → ∃ h', aev oj.op b C self (T j).1 (T p).2 = some (v, h'))
    (hreg : regB P nt ops.toList ops.toList aops = true) (hf : Facts ops.toList aops plan B) (fr : Fresh J0 (T 0).2) {ro : Option Nat} {Q : Exit → Act → World → Prop}
    (hQ : ∀ J a w, Next OK J0 (T 0).2 w0 J (T aops.length).2 w → SR J nt (T aops.length).1 a.tmps → Marks lo J (T aops.length).2 w a.defers → Q .normal a w) :
    ∀ (fuel : Nat) (L : Array Bool) (m : Nat) (J : Inj) (a : Act) (w : World), Inv OK nt lo ops.toList aops T J0 w0 L m J a w → (List.range aops.length).countP (fun i => !L.getD i true) ≤ fuel → wpAnyIn (FW ro) 0 P .any ops Q fuel L a w := by
  obtain ⟨hlen, _⟩ := regB_spec _ hreg
  have hsz : ops.size = aops.length := by rw [← hlen]; simp
  -- all are listed: the end
  have fin : ∀ (L : Array Bool) (m : Nat) (J : Inj) (a : Act) (w : World), Inv OK nt lo ops.toList aops T J0 w0 L m J a w → (∀ i, i < aops.length → L.getD i false = true) → Q .normal a w := by
    intro L m J a w hi hall
    have hT : (T aops.length).2 = (T m).2 := StepR.between ts hi.le (Nat.le_refl _) (fun k o h1 h2 h3 h4 => by
      have := (hi.acts k o h3 h4).1 (hall k h2); omega)
    refine hQ J a w (by rw [hT]; exact hi.next) ⟨hi.tmps, fun p hp => hi.slot p hp _ (Nat.le_refl _) (fun i o ho _ => ?_)⟩ (by rw [hT]; exact hi.marks)
    have := (List.getElem?_eq_some_iff.1 ho).1
    exact ⟨fun _ => hall i this, fun _ => this⟩
  have full : ∀ (L : Array Bool) (m : Nat) (J : Inj) (a : Act) (w : World), Inv OK nt lo ops.toList aops T J0 w0 L m J a w → Region.ready .any ops L = [] → ∀ i, i < aops.length → L.getD i false = true := by
    intro L m J a w hi hr i hiN
    cases hv : L.getD i false with
    | true => rfl
    | false =>
      exfalso
      obtain ⟨j, ⟨hj1, hj2⟩, hmin⟩ := least (p := fun i => i < aops.length ∧ L.getD i false = false) ⟨i, hiN, hv⟩
      have hjo : j < ops.size := by omega
      have : j ∈ Region.ready .any ops L := by
        refine mem_ready.2 ⟨?_, ops[j], Array.getElem?_eq_getElem hjo, fun e he hb => ?_⟩
        · have : j < L.size := by rw [hi.size]; exact hj1
          rw [Array.getD_eq_getD_getElem?, Array.getElem?_eq_getElem this] at hj2 ⊢
          exact hj2
        · have hlt := hf.edge j _ (by rw [Array.getElem?_toList]; exact Array.getElem?_eq_getElem hjo) e he hb
          cases hv' : L.getD e.on false with
          | true => rfl
          | false => have := hmin e.on ⟨by omega, hv'⟩; omega
      rw [hr] at this; cases this
  intro fuel
  induction fuel with
  | zero =>
    intro L m J a w hi hc
    have hall : ∀ i, i < aops.length → L.getD i true = true := by
      intro i hiN
      have h0 : (List.range aops.length).countP (fun i => !L.getD i true) = 0 := by omega
      have := List.countP_eq_zero.1 h0 i (List.mem_range.2 hiN)
      simpa using this
    have hr : Region.ready .any ops L = [] := by
      cases hr : Region.ready .any ops L with
      | nil => rfl
      | cons j r =>
        have hj : j ∈ Region.ready .any ops L := by rw [hr]; exact .head _
        obtain ⟨h1, o, ho, _⟩ := mem_ready.1 hj
        have := hall j (by rw [← hsz]; exact (Array.getElem?_eq_some_iff.1 ho).1)
        rw [this] at h1; cases h1
    exact ⟨hr, fin L m J a w hi (full L m J a w hi hr)⟩
  | succ fuel ih =>
    intro L m J a w hi hc
    refine ⟨fun hr => fin L m J a w hi (full L m J a w hi hr), fun j hj => ?_⟩
    obtain ⟨h1, o, ho, h2⟩ := mem_ready.1 hj
    refine Inv.step so ts hplan hreg hf fr hi ho h1 h2 (fun m' J' a' w' hi' => ih _ m' J' a' w' hi' ?_)
    have hjN : j < aops.length := by rw [← hsz]; exact (Array.getElem?_eq_some_iff.1 ho).1
    obtain ⟨hjs, _⟩ := unlisted h1
    have := countP_lt (l := List.range aops.length) (p := fun i => !L.getD i true) (q := fun i => !(L.setIfInBounds j true).getD i true) (fun x hx h => by
      rw [Array.getD_eq_getD_getElem?] at h ⊢
      by_cases e : j = x
      · subst e; simp [hjs] at h
      · rw [Array.getElem?_setIfInBounds_ne e] at h; exact h) (List.mem_range.2 hjN) (by simp only [h1]; rfl) (by simp [hjs])
    omega
end
end
end Go.Ab

/- Regions in the text's order; code; functions. -/
namespace Go.Ab

section
variable (P : Program) (nt : Nat)
def psB : List Tmp → List Pa → Bool
  | [], [] => true
  | t :: ts, p :: ps => t == ix p && Nat.blt t nt && psB ts ps
  | _, _ => false
/-- Is this the code's form? In a round ('rd') no range over a function stands. -/
def okC : ACode → Bool → Code → Bool
  | .skip, _, c => match c with
    | .skip => true
    | .label _ => true
    | _ => false
  | .reg aops plan, _, c => match c with
    | .region _ ops d => regB P nt ops.toList ops.toList aops && (!d || drawB ops.toList aops plan)
    | _ => false
  | .kill _ x, rd, c => match c with
    | .scope c' => okC x rd c'
    | c => okC x rd c
  | .seq x y, rd, c => match c with
    | .seq x' y' => okC x rd x' && okC y rd y'
    | _ => false
  | .cond t x y, rd, c => match c with
    | .cond t' x' y' => opd nt t' t && okC x rd x' && okC y rd y'
    | _ => false
  | .block id x, rd, c => match c with
    | .block id' x' => id == id' && okC x rd x'
    | _ => false
  | .loop x, rd, c => match c with
    | .loop x' => okC x rd x'
    | _ => false
  | .rangeF g ps asg body, rd, c => match c with
    | .rangeFunc g' ps' asg' body' => !rd && opd nt g' g && psB nt ps'.toList ps && okC asg true asg' && okC body true body'
    | _ => false
  | .exit id, _, c => match c with
    | .exit id' => id == id'
    | _ => false
  | .ret, _, c => match c with
    | .ret => true
    | _ => false
  | .bad, _, _ => true
end
def OKC (P : Program) (nt : Nat) (c : Code) (ac : ACode) : Prop := okC P nt ac true c = true

section
variable {P : Program} {J : Inj} {h h' : AHeap} {w : World} {nt : Nat} {sl : Slots} {a : Act} {o : Oper} {v : Value}
  {b : Bool} {C : Cfg} {self : Task → Option Res}

theorem ops_sound (so : SelfOK P C (OKC P) self) {ops : Array Oper} {ro : Option Nat} {lo : Nat} {Q : Exit → Act → World → Prop} : ∀ (aops : List AOper) (i : Nat) {s : Slots} {h : AHeap} {s' : Slots} {h' : AHeap} {J : Inj} {a : Act} {w : World},
    i + aops.length = ops.size → regB P nt ops.toList (ops.toList.drop i) aops = true → runOps b C self aops s h = some (s', h') → SR J nt s a.tmps → Sim (OKC P) J h w → Fresh J h → Marks lo J h w a.defers →
    (∀ J' a' w', Next (OKC P) J h w J' h' w' → SR J' nt s' a'.tmps → Marks lo J' h' w' a'.defers → Q .normal a' w') → wpOpsIn (FW ro) 0 P ops Q (List.range' i aops.length) a w
  | [], i, s, h, s', h', J, a, w, hl, hc, he, sr, sm, f, mk, hQ => by
    cases he
    exact hQ J a w (.refl sm) sr mk
  | ao :: aops, i, s, h, s', h', J, a, w, hl, hc, he, sr, sm, f, mk, hQ => by
    simp only [List.length_cons] at hl
    have hi : i < ops.size := by omega
    have hdrop : ops.toList.drop i = ops[i] :: ops.toList.drop (i + 1) := by
      rw [List.drop_eq_getElem_cons (by simpa using hi)]; simp
    rw [hdrop] at hc
    simp only [regB, Bool.and_eq_true, chkOper] at hc
    obtain ⟨⟨⟨hd, hg⟩, hop⟩, hrest⟩ := hc
    simp only [List.length_cons, List.range'_succ, wpOpsIn, Array.getElem?_eq_getElem hi]
    have he : (match wantedA s ao.guard with
      | none => none
      | some t => Bool.casesOn t (setO ao.dst s skipV fun s => runOps b C self aops s h)
        (match aev ao.op b C self s h with
          | some (v, h') => frcV b v fun v => frcH b h' fun h' => setO ao.dst s v fun s => runOps b C self aops s h'
          | none => none)) = some (s', h') := he
    split at he
    · cases he
    · rename_i t hw
      rw [wanted_sound sr hg hw]
      cases t with
      | false =>
        simp only [Bool.false_eq_true, if_false]
        refine ⟨fun _ _ => trivial, ?_⟩
        have he : setO ao.dst s skipV (fun s => runOps b C self aops s h) = some (s', h') := he
        rw [setO_eq] at he
        obtain ⟨sr1, hdf⟩ := put_sound sr hd (VR.skip (J := J))
        exact ops_sound so aops (i + 1) (by omega) hrest he sr1 sm f (by rw [hdf]; exact mk) hQ
      | true =>
        simp only [if_true]
        have he : (match aev ao.op b C self s h with
          | some (v, h') => frcV b v fun v => frcH b h' fun h' => setO ao.dst s v fun s => runOps b C self aops s h'
          | none => none) = some (s', h') := he
        split at he
        · rename_i v h1 hv
          simp only [frcV_eq, frcH_eq] at he
          rw [setO_eq] at he
          refine oper_sound so sm f sr hop hv ?_
          intro J1 v1 w1 n1 r1
          obtain ⟨sr1, hdf⟩ := put_sound (sr.mono n1.le) hd r1
          refine ops_sound so aops (i + 1) (by omega) hrest he sr1 n1.sim (n1.fresh f) (by rw [hdf]; exact mk.next n1) ?_
          intro J2 a2 w2 n2 sr2 mk2
          exact hQ J2 a2 w2 (n1.trans n2) sr2 mk2
        · cases he

theorem regA_run {ops : List AOper} {plan : List (Nat × List Nat)} {s : Slots} {h : AHeap} {r : Slots × AHeap} (he : regA b C self ops plan s h = some r) : runOps b C self ops s h = some r := by
  unfold regA at he
  split at he
  · exact he
  · simp only at he
    split at he
    · exact he
    · cases he
theorem regB_len (all : List Oper) : ∀ {os : List Oper} {aos : List AOper}, regB P nt all os aos = true → os.length = aos.length
  | [], [], _ => rfl
  | [], _ :: _, h => by simp [regB] at h
  | _ :: _, [], h => by simp [regB] at h
  | _ :: _, _ :: _, h => by simp only [regB, Bool.and_eq_true] at h; simp [regB_len all h.2]
theorem plan_spec {ops : List AOper} {plan : List (Nat × List Nat)} {s : Slots} {h : AHeap} {r : Slots × AHeap} (he : regA b C self ops plan s h = some r) {j p : Nat} (hp : planHas plan j p = true) :
    planOk1 b C self ops (states b C self ops s h) j p = true := by
  unfold regA at he
  split at he
  · simp [planHas] at hp
  · simp only at he
    split at he
    · rename_i hall
      rw [List.all_eq_true] at hall
      unfold planHas at hp
      rw [List.any_eq_true] at hp
      obtain ⟨q, hq, h1⟩ := hp
      simp only [Bool.and_eq_true, beq_iff_eq, List.any_eq_true] at h1
      obtain ⟨rfl, x, hx, rfl⟩ := h1
      have := hall q hq
      rw [List.all_eq_true] at this
      exact this x hx
    · cases he
theorem drawn_sound (so : SelfOK P C (OKC P) self) {id : Nat} {ops : Array Oper} {ro : Option Nat} {lo : Nat} {Q : Exit → Act → World → Prop} {aops : List AOper} {plan : List (Nat × List Nat)} {s s' : Slots}
    (hc : regB P nt ops.toList ops.toList aops = true) (hd : drawB ops.toList aops plan = true) (he : regA b C self aops plan s h = some (s', h')) (sr : SR J nt s a.tmps) (sm : Sim (OKC P) J h w) (f : Fresh J h) (mk : Marks lo J h w a.defers)
    (hQ : ∀ J' a' w', Next (OKC P) J h w J' h' w' → SR J' nt s' a'.tmps → Marks lo J' h' w' a'.defers → Q .normal a' w') : (Code.region id ops true).wpIn (FW ro) 0 P Q a w := by
  refine wpIn_region_any so.mixed ?_
  obtain ⟨T, t0, tn, ts, tt⟩ := states_spec (regA_run he)
  have hdrew : Next (OKC P) J h w J h { w with drawn := w.drawn + 1 } := Next.drew sm rfl rfl rfl rfl
  have hlen := (regB_spec _ hc).1
  have hsz : ops.size = aops.length := by rw [← hlen]; simp
  have hno : ∀ i, (Array.replicate ops.size false).getD i false = false := fun i => by
    rw [Array.getD_eq_getD_getElem?, Array.getElem?_replicate]; split <;> rfl
  refine any_sound (J0 := J) (w0 := w) (lo := lo) (T := T) so ts ?_ hc (facts_of hd) (by rw [t0]; exact f) (ro := ro) (Q := Q) ?_ ops.size (Array.replicate ops.size false) 0 J a _ ?_ ?_
  · intro j p oj hoj hjn hpn hp v hw hv
    have := plan_spec he hp
    unfold planOk1 at this
    simp only [hoj, tt j hjn, tt p hpn, hw, hv] at this
    split at this
    · rename_i v0 _ v' h2 e1 e2
      cases e1
      rw [veq_eq this]
      exact ⟨h2, e2⟩
    · cases this
  · intro J' a' w' n r m
    rw [tn] at n r m
    rw [t0] at n
    exact hQ J' a' w' n r m
  · refine ⟨by simp [hsz], ?_, Nat.zero_le _, ?_, by rw [t0]; exact hdrew, sr.1, ?_, by rw [t0]; exact mk.next hdrew⟩
    · intro j o ho hL
      rw [hno] at hL; cases hL
    · intro i o ho hk
      rw [hno]
      exact ⟨fun h => (by cases h), fun h => by omega⟩
    · intro p hp k hk hw
      have : getS p (T k).1 = getS p s := by
        have := StepR.slots ts (p := p) 0 k (by omega) (fun i o h1 h2 h3 h4 => by
          have := (hw i o h3 h4).1 (by omega)
          rw [hno] at this; cases this)
        rw [Nat.zero_add, t0] at this; exact this
      rw [this]; exact sr.2 p hp
  · have := List.countP_le_length (p := fun i => !(Array.replicate ops.size false).getD i true) (l := List.range aops.length)
    rw [List.length_range] at this
    rw [hsz] at this ⊢
    exact this

theorem stepR_scope {b : Frame} {k : List Item} {cs : List Frame} {c : Code} : Go.step P (lone (b.atR a (.code (.scope c) :: k)) cs w) = .next (lone (b.atR a (.code c :: .inScope c :: k)) cs w) :=
  step_lone_go (by simp [stepG, stepG.exec, Frame.atR])
theorem stepR_inScope {b : Frame} {k : List Item} {cs : List Frame} {c : Code} : Go.step P (lone (b.atR a (.inScope c :: k)) cs w) = .next (lone (b.atR a k) cs w) :=
  step_lone_go (by simp [stepG, stepG.exec, Frame.atR])
theorem wpIn_scope {F : Fence} {n : Nat} {Q : Exit → Act → World → Prop} {c : Code} (h : c.wpIn F n P (Exit.noGoto Q) a w) : (Code.scope c).wpIn F n P Q a w := by
  intro b k cs hro hb hr
  have h0 : (lone (b.atR a (.code (.scope c) :: k)) cs w).fenced P F := fenced_calm hb hr rfl
  obtain ⟨e, a₁, w₁, hq, harr⟩ := h b (.inScope c :: k) cs hro hb hr
  cases e with
  | normal => exact ⟨.normal, a₁, w₁, hq, .head h0 stepR_scope (StepsIn.trans harr (.one (fenced_calm hb hr rfl) stepR_inScope))⟩
  | exit id =>
    have hx : exitTo id (.inScope c :: k) = exitTo id k := by simp [exitTo]
    exact ⟨.exit id, a₁, w₁, hq, fun k' hk => .head h0 stepR_scope (harr.1 k' (by rw [hx]; exact hk)),
      fun hr' hk => let ⟨k₁, h1, h2⟩ := harr.2 hr' (by rw [hx]; exact hk); ⟨k₁, h1, .head h0 stepR_scope h2⟩⟩
  | goto l => exact hq.elim
  | ret => exact ⟨_, a₁, w₁, hq, .of_steps (.one h0 stepR_scope) harr⟩
  | panic ch => exact ⟨_, a₁, w₁, hq, .of_steps (.one h0 stepR_scope) harr⟩
  | outgrown => exact ⟨_, a₁, w₁, hq, .of_steps (.one h0 stepR_scope) harr⟩
theorem killL_sound : ∀ (l : List Pa) {s : Slots} {t : Array Value}, SR J nt s t → SR J nt (killL s l) t
  | [], _, _, r => r
  | p :: l, _, _, r => killL_sound l (r.kill p)
theorem psB_spec : ∀ {ts : List Tmp} {ps : List Pa}, psB nt ts ps = true → ps.map ix = ts ∧ ∀ p ∈ ps, ix p < nt
  | [], [], _ => ⟨rfl, fun p hp => by cases hp⟩
  | [], _ :: _, h => by simp [psB] at h
  | _ :: _, [], h => by simp [psB] at h
  | t :: ts, p :: ps, h => by
    simp only [psB, Bool.and_eq_true, beq_iff_eq] at h
    obtain ⟨⟨rfl, h2⟩, h3⟩ := h
    obtain ⟨e, hl⟩ := psB_spec h3
    rw [Nat.blt_eq] at h2
    exact ⟨by simp [e], fun q hq => by
      rcases List.mem_cons.1 hq with rfl | hq
      · exact h2
      · exact hl q hq⟩

theorem next_plain {OK : Nat → Code → ACode → Prop} (sm : Sim OK J h w) (o : Obj) : Next OK J h w J h (w.alloc o) := by
  have hold : ∀ k, k < w.heap.size → (w.alloc o).heap[k]? = w.heap[k]? := fun k hk => RowKit.Below.heap_alloc w o k hk
  refine ⟨⟨?_, ?_, sm.inj, sm.apart⟩, J.le_refl, rfl, Nat.le_refl _, fun _ _ => rfl, rfl, rfl, rfl, by simp, fun k hk _ => hold k hk, fun k l => .inr l⟩
  · intro k c hc
    obtain ⟨arr, e, fz, h1, h2⟩ := sm.base k c hc
    exact ⟨arr, e, fz, (hold k (Array.getElem?_eq_some_iff.1 h1).1).trans h1, h2⟩
  · intro k ob hk
    obtain ⟨h1, pl, ob', h2, h3, h4⟩ := sm.obj k ob hk
    exact ⟨h1, pl, ob', h2, (hold _ (Array.getElem?_eq_some_iff.1 h3).1).trans h3, h4⟩
end
end Go.Ab

/- The evaluator is sound: code, functions, the whole. -/
namespace Go.Ab

section
variable {P : Program} {J : Inj} {h h' : AHeap} {w : World} {nt : Nat} {sl : Slots} {a : Act} {o : Oper} {v : Value}
  {b : Bool} {C : Cfg}

theorem mark_new {OK : Nat → Code → ACode → Prop} {lo : Nat} {ds : List Deferred} {J' : Inj} {h' : AHeap} {w' : World} (sm : Sim OK J h w) (mk : Marks lo J h w ds) (hlo : lo ≤ w.heap.size)
    (n : Next OK J h (w.alloc (.deferred (some []))) J' h' w') : Marks lo J' h' w' (markOf w.heap.size :: ds) := by
  have n1 := next_plain sm (.deferred (some []))
  obtain ⟨rs, e, hn, hr⟩ := mk
  have hnl : ¬Live J h w.heap.size := fun l => by have := sm.live_lt l; omega
  have mk1 : Marks lo J h (w.alloc (.deferred (some []))) (markOf w.heap.size :: ds) := by
    refine ⟨w.heap.size :: rs, by simp [e], ?_, fun r hm => ?_⟩
    · refine List.nodup_cons.2 ⟨fun hm => ?_, hn⟩
      obtain ⟨_, h2, _⟩ := hr _ hm
      have := (Array.getElem?_eq_some_iff.1 h2).1
      omega
    · rcases List.mem_cons.1 hm with rfl | hm
      · exact ⟨hlo, World.alloc_heap_new w _, hnl⟩
      · obtain ⟨h1, h2, h3⟩ := hr r hm
        exact ⟨h1, (RowKit.Below.heap_alloc w _ r (Array.getElem?_eq_some_iff.1 h2).1).trans h2, h3⟩
  exact mk1.next n

theorem range_sound {j : Nat} (so : SelfOK P C (OKC P) (run b C j)) {lo : Nat} {Q : Exit → Act → World → Prop} {g : Opd} {ps : List Pa} {asg body : ACode} {g' : Operand} {ps' : Array Tmp} {asg' body' : Code} {s s' : Slots} {e : Ex}
    (hg : opd nt g' g = true) (hps : psB nt ps'.toList ps = true) (hasg : okC P nt asg true asg' = true) (hbody : okC P nt body true body' = true)
    (he : codeS b C (run b C j) (.rangeF g ps asg body) s h = some (e, s', h')) (sr : SR J nt s a.tmps) (sm : Sim (OKC P) J h w) (f : Fresh J h) (mk : Marks lo J h w a.defers) (hlo : lo ≤ w.heap.size)
    (hQ : ∀ J' a' w', Next (OKC P) J h w J' h' w' → SR J' nt s' a'.tmps → Marks lo J' h' w' a'.defers → Q (exitOf e) a' w') : (Code.rangeFunc g' ps' asg' body').wpIn (FW none) 0 P Q a w := by
  have rg := opd_sound sr hg
  have he : (match evA s g with
      | .func (.func f) first captured =>
        loopEnd b s h.next (callF b C (run b C j) f (first.toList ++ [.func (.yield h.next) #[] #[]] ++ captured.toList) (h.add b (.loop .ready none s ps asg body)))
      | _ => none) = some (e, s', h') := he
  split at he
  rotate_left
  · cases he
  rename_i f1 first cap eg
  rw [eg] at rg
  obtain ⟨first', cap', ev, r1, r2⟩ := vr_func rg
  cases hcf : callF b C (run b C j) f1 (first.toList ++ [.func (.yield h.next) #[] #[]] ++ cap.toList) (h.add b (.loop .ready none s ps asg body)) with
  | none => rw [hcf] at he; cases he
  | some r =>
    obtain ⟨v3, h3⟩ := r
    rw [hcf] at he
    obtain ⟨hpsm, hpsl⟩ := psB_spec hps
    refine wpIn_rangeFunc fun fn _ => ?_
    have n1 := next_plain sm (.deferred (some []))
    have hnext : J h.next = none := f _ (Nat.le_refl _)
    have n2 : Next (OKC P) J h (w.alloc (.deferred (some []))) (J.upd h.next ⟨w.heap.size + 1, 0, 0⟩) (h.add b (.loop .ready none s ps asg body))
        ((w.alloc (.deferred (some []))).alloc (.loop { state := .ready, pending := none, fn, tmps := a.tmps, params := ps', assign := asg', body := body', defers := w.heap.size })) := by
      refine Next.alloc n1.sim b _ _ ⟨w.heap.size + 1, 0, 0⟩ (by simp) hnext ?_
      simp only [ObjR]
      exact ⟨trivial, trivial, trivial, hpsm, nt, sr.mono (Inj.le_upd hnext), hasg, hbody, hpsl⟩
    have n12 := n1.trans n2
    have rall : LR (J.upd h.next ⟨w.heap.size + 1, 0, 0⟩) (first.toList ++ [.func (.yield h.next) #[] #[]] ++ cap.toList) (first' ++ #[Value.func (.yield (w.heap.size + 1)) #[] #[]] ++ cap').toList := by
      simp only [Array.toList_append]
      exact ((r1.mono n12.le).append (.cons (.yield (Inj.upd_same _ _ _)) (.nil _))).append (r2.mono n12.le)
    obtain ⟨⟨fn1, hf1, hb1, hn1⟩, hcl⟩ := callF_sound so n2.sim (n12.fresh f) hcf rall
    refine ⟨w.heap.size + 1, [markOf w.heap.size], ((w.alloc (.deferred (some []))).alloc (.loop { state := .ready, pending := none, fn, tmps := a.tmps, params := ps', assign := asg', body := body', defers := w.heap.size })), { target := .fn (.func f1) cap', args := first' ++ #[Value.func (.yield (w.heap.size + 1)) #[] #[]] }, ((w.alloc (.deferred (some []))).alloc (.loop { state := .ready, pending := none, fn, tmps := a.tmps, params := ps', assign := asg', body := body', defers := w.heap.size })), f1, first' ++ #[Value.func (.yield (w.heap.size + 1)) #[] #[]] ++ cap', ((w.alloc (.deferred (some []))).alloc (.loop { state := .ready, pending := none, fn, tmps := a.tmps, params := ps', assign := asg', body := body', defers := w.heap.size })),
      run_enterLoop_outer fn a.tmps ps' asg' body', ?_, fun _ _ => trivial, callFunc_enter hf1 hb1 hn1 _, fun h => (by cases h), ?_⟩
    · simp only [resolve, ev, Deferred.ofValue, Sem.run_pure, List.map_toArray, List.map_cons, List.map_nil]
      rfl
    · refine CallsIn.mono (R := fun e w' => ∃ v' J', e = .returned v' ∧ VR J' v3 v' ∧ Next (OKC P) _ _ _ J' h3 w') hcl ?_
      rintro e3 w3 ⟨v', J3, rfl, rv, n3⟩
      have n13 := n12.trans n3
      have mk3 : Marks lo J3 h3 w3 (markOf w.heap.size :: a.defers) := mark_new sm mk hlo (n2.trans n3)
      have hj3 : J3 h.next = some ⟨w.heap.size + 1, 0, 0⟩ := n3.le _ _ (Inj.upd_same _ _ _)
      simp only [loopEnd] at he
      split at he
      · cases he
      · rename_i st pend tmps3 ps3 asg3 body3 hne hg3
        obtain ⟨L, hb, h0, hst, hpend, hpsL, nt3, hsr3, hasg3, hbody3, hlt3⟩ := loop_obj n3.sim hg3 hj3
        have hnb : L.state ≠ .busy := by
          rw [hst]
          intro e
          exact hne e
        have n4 : Next (OKC P) J3 h3 w3 J3 (h3.put b h.next (.loop .exhausted pend tmps3 ps3 asg3 body3)) (w3.putObj (w.heap.size + 1) (.loop { L with state := .exhausted })) := by
          refine Next.put n3.sim b (pl := ⟨w.heap.size + 1, 0, 0⟩) hg3 hj3 ?_
          simp only [ObjR]
          exact ⟨trivial, trivial, hpend, hpsL, nt3, hsr3, hasg3, hbody3, hlt3⟩
        have n14 := n13.trans n4
        refine ⟨L.pending, _, run_endLoop hb hnb, ?_⟩
        have post : ∀ e2, some (e2, s, h3.put b h.next (.loop .exhausted pend tmps3 ps3 asg3 body3)) = some (e, s', h') → Q (exitOf e2) { a with defers := [markOf w.heap.size] ++ a.defers } (w3.putObj (w.heap.size + 1) (.loop { L with state := .exhausted })) := by
          intro e2 hh
          simp only [Option.some.injEq, Prod.mk.injEq] at hh
          obtain ⟨rfl, rfl, rfl⟩ := hh
          exact hQ J3 _ _ n14 (sr.mono n14.le) (mk3.next n4)
        cases pend with
        | none =>
          cases hp : L.pending with
          | none => rw [hp] at post; exact post .normal he
          | some c => rw [hp] at hpend; cases c <;> exact hpend.elim
        | some pc =>
          cases hp : L.pending with
          | none => rw [hp] at hpend; cases pc <;> exact hpend.elim
          | some c =>
            rw [hp] at hpend
            rw [hp] at post
            cases pc with
            | ret =>
              cases c <;> first | exact wpIn_ret (post .ret he) | exact hpend.elim
            | exit id =>
              cases c <;> first
                | (rename_i id'
                   have e' : id' = id := hpend
                   subst e'
                   exact wpIn_exit (post (.exit id') he))
                | exact hpend.elim
            | _ => cases he
      · cases he

open Classical in
theorem code_sound {n : Nat} (so : ∀ j, j ≤ n → SelfOK P C (OKC P) (run b C j)) : ∀ (ac : ACode) {j : Nat}, j ≤ n → ∀ {rd : Bool} {c : Code} {ro : Option Nat}, okC P nt ac rd c = true → (rd = false → ro = none) →
    ∀ {s : Slots} {h : AHeap} {e : Ex} {s' : Slots} {h' : AHeap}, codeS b C (run b C j) ac s h = some (e, s', h') → CodeSound (OKC P) P ro nt c s h e s' h' := by
  intro ac
  induction ac with
  | skip =>
    intro j hj rd c ro hc hro s h e s' h' he lo J a w Q sr sm f mk hlo hQ
    cases he
    simp only [okC] at hc
    split at hc
    · exact wpIn_skip (hQ J a w (.refl sm) sr mk)
    · exact wpIn_label (hQ J a w (.refl sm) sr mk)
    · cases hc
  | reg aops plan =>
    intro j hj rd c ro hc hro s h e s' h' he lo J a w Q sr sm f mk hlo hQ
    have he : (match regA b C (run b C j) aops plan s h with
      | some (s, h) => some (Ex.normal, s, h)
      | none => none) = some (e, s', h') := he
    split at he
    rotate_left
    · cases he
    rename_i s1 h1 hr
    cases he
    simp only [okC] at hc
    split at hc
    rotate_left
    · cases hc
    rename_i id ops d
    rw [Bool.and_eq_true] at hc
    obtain ⟨hc1, hc2⟩ := hc
    cases d with
    | false =>
      refine wpIn_region ?_
      have hl := regB_len _ hc1
      have := ops_sound (so j hj) (ops := ops) (ro := ro) (lo := lo) (Q := Q) aops 0 (by simpa using hl.symm) (by simpa using hc1) (regA_run hr) sr sm f mk hQ
      rw [List.range_eq_range', show ops.size = aops.length by simpa using hl]
      exact this
    | true =>
      have hc2 : drawB ops.toList aops plan = true := by simpa using hc2
      exact drawn_sound (so j hj) hc1 hc2 hr sr sm f mk hQ
  | kill l x ih =>
    intro j hj rd c ro hc hro s h e s' h' he lo J a w Q sr sm f mk hlo hQ
    have he : codeS b C (run b C j) x (killL s l) h = some (e, s', h') := he
    simp only [okC] at hc
    split at hc
    · refine wpIn_scope (ih hj hc hro he lo J a w _ (killL_sound l sr) sm f mk hlo (fun J' a' w' n r m => ?_))
      have := hQ J' a' w' n r m
      cases e <;> exact this
    · exact ih hj hc hro he lo J a w Q (killL_sound l sr) sm f mk hlo hQ
  | seq x y ihx ihy =>
    intro j hj rd c ro hc hro s h e s' h' he lo J a w Q sr sm f mk hlo hQ
    have he : (match codeS b C (run b C j) x s h with
      | some (e, s1, h1) => match e with
        | .normal => codeS b C (run b C j) y s1 h1
        | e => some (e, s1, h1)
      | none => none) = some (e, s', h') := he
    simp only [okC] at hc
    split at hc
    rotate_left
    · cases hc
    rename_i x' y'
    rw [Bool.and_eq_true] at hc
    split at he
    rotate_left
    · cases he
    rename_i e1 s1 h1 hx
    refine wpIn_seq (ihx hj hc.1 hro hx lo J a w _ sr sm f mk hlo ?_)
    intro J1 a1 w1 n1 sr1 mk1
    cases e1 with
    | normal =>
      exact ihy hj hc.2 hro he lo J1 a1 w1 Q sr1 n1.sim (n1.fresh f) mk1 (Nat.le_trans hlo n1.size) (fun J2 a2 w2 n2 sr2 mk2 => hQ J2 a2 w2 (n1.trans n2) sr2 mk2)
    | exit id => cases he; exact hQ J1 a1 w1 n1 sr1 mk1
    | ret => cases he; exact hQ J1 a1 w1 n1 sr1 mk1
  | cond t x y ihx ihy =>
    intro j hj rd c ro hc hro s h e s' h' he lo J a w Q sr sm f mk hlo hQ
    have he : (match evA s t with
      | .bool t => Bool.casesOn t (codeS b C (run b C j) y s h) (codeS b C (run b C j) x s h)
      | _ => none) = some (e, s', h') := he
    simp only [okC] at hc
    split at hc
    rotate_left
    · cases hc
    rename_i t' x' y'
    rw [Bool.and_eq_true, Bool.and_eq_true] at hc
    obtain ⟨⟨h1, h2⟩, h3⟩ := hc
    have rt := opd_sound sr h1
    split at he
    rotate_left
    · cases he
    rename_i tv et
    rw [et] at rt
    refine wpIn_cond (vr_bool rt) ?_
    cases tv with
    | true => exact ihx hj h2 hro he lo J a w Q sr sm f mk hlo hQ
    | false => exact ihy hj h3 hro he lo J a w Q sr sm f mk hlo hQ
  | block id x ih =>
    intro j hj rd c ro hc hro s h e s' h' he lo J a w Q sr sm f mk hlo hQ
    have he : (match codeS b C (run b C j) x s h with
      | some (e, s1, h1) => match e with
        | .exit i => bif i.beq id then some (Ex.normal, s1, h1) else some (.exit i, s1, h1)
        | e => some (e, s1, h1)
      | none => none) = some (e, s', h') := he
    simp only [okC] at hc
    split at hc
    rotate_left
    · cases hc
    rename_i id' x'
    rw [Bool.and_eq_true] at hc
    obtain ⟨h1, h2⟩ := hc
    have h1 := eq_of_beq h1
    subst h1
    split at he
    rotate_left
    · cases he
    rename_i e1 s1 h1 hx
    refine wpIn_block (ih hj h2 hro hx lo J a w _ sr sm f mk hlo ?_)
    intro J1 a1 w1 n1 sr1 mk1
    cases e1 with
    | normal => cases he; exact hQ J1 a1 w1 n1 sr1 mk1
    | ret => cases he; exact hQ J1 a1 w1 n1 sr1 mk1
    | exit i =>
      show if i = id then Q .normal a1 w1 else Q (.exit i) a1 w1
      have he : (bif i.beq id then some (Ex.normal, s1, h1) else some (Ex.exit i, s1, h1)) = some (e, s', h') := he
      cases hb : Nat.beq i id with
      | true =>
        rw [hb] at he
        have := Nat.eq_of_beq_eq_true hb
        rw [if_pos this]
        cases he
        exact hQ J1 a1 w1 n1 sr1 mk1
      | false =>
        rw [hb] at he
        rw [if_neg (fun e => by subst e; simp at hb)]
        cases he
        exact hQ J1 a1 w1 n1 sr1 mk1
  | loop x ih =>
    intro j hj rd c ro hc hro s0 h0 e0 s' h' he lo J0 a0 w0 Q sr sm f mk hlo hQ
    simp only [okC] at hc
    split at hc
    rotate_left
    · cases hc
    rename_i x'
    let R : Nat → Act → World → Prop := fun i a w => i ≤ j ∧ ∃ J s h, codeS b C (run b C i) (.loop x) s h = some (e0, s', h') ∧ Next (OKC P) J0 h0 w0 J h w ∧ SR J nt s a.tmps ∧ Marks lo J h w a.defers
    let μ : Act → World → Nat := fun a w => if hh : ∃ i, R i a w then Classical.choose (least hh) else 0
    refine wpIn_loop (fun a w => ∃ i, R i a w) μ ⟨j, Nat.le_refl _, J0, s0, h0, he, .refl sm, sr, mk⟩ ?_
    intro a w hI
    have hμ : ∀ a w (hI : ∃ i, R i a w), R (μ a w) a w ∧ ∀ k, R k a w → μ a w ≤ k := by
      intro a w hI
      show R (if hh : ∃ i, R i a w then Classical.choose (least hh) else 0) a w ∧ ∀ k, R k a w → (if hh : ∃ i, R i a w then Classical.choose (least hh) else 0) ≤ k
      rw [dif_pos hI]
      exact Classical.choose_spec (least hI)
    have hspec := (hμ a w hI).1
    generalize μ a w = i at hspec
    obtain ⟨hij, J, s, h, hrun, n1, sr1, mk1⟩ := hspec
    have hrun : (match codeS b C (run b C i) x s h with
      | some (e, s1, h1) => match e with
        | .normal => run b C i (.code (.loop x) s1 h1)
        | e => some (e, s1, h1)
      | none => none) = some (e0, s', h') := hrun
    split at hrun
    rotate_left
    · cases hrun
    rename_i e1 s1 h1 hx
    refine ih (Nat.le_trans hij hj) hc hro hx lo J a w _ sr1 n1.sim (n1.fresh f) mk1 (Nat.le_trans hlo n1.size) ?_
    intro J2 a2 w2 n2 sr2 mk2
    have n12 := n1.trans n2
    cases e1 with
    | normal =>
      have hrun : run b C i (.code (.loop x) s1 h1) = some (e0, s', h') := hrun
      cases i with
      | zero => cases hrun
      | succ i =>
        have hR : R i a2 w2 := ⟨by omega, J2, s1, h1, hrun, n12, sr2, mk2⟩
        refine ⟨⟨i, hR⟩, ?_⟩
        have hI2 : ∃ i, R i a2 w2 := ⟨i, hR⟩
        have := (hμ a2 w2 hI2).2 i hR
        omega
    | exit id => cases hrun; exact hQ J2 a2 w2 n12 sr2 mk2
    | ret => cases hrun; exact hQ J2 a2 w2 n12 sr2 mk2
  | rangeF g ps asg body _ _ =>
    intro j hj rd c ro hc hro s h e s' h' he lo J a w Q sr sm f mk hlo hQ
    simp only [okC] at hc
    split at hc
    rotate_left
    · cases hc
    rename_i g' ps' asg' body'
    simp only [Bool.and_eq_true, Bool.not_eq_true'] at hc
    obtain ⟨⟨⟨⟨h1, h2⟩, h3⟩, h4⟩, h5⟩ := hc
    have := hro h1
    subst this
    exact range_sound (so j hj) h2 h3 h4 h5 he sr sm f mk hlo hQ
  | exit id =>
    intro j hj rd c ro hc hro s h e s' h' he lo J a w Q sr sm f mk hlo hQ
    cases he
    simp only [okC] at hc
    split at hc
    · rename_i id'
      have := eq_of_beq hc
      subst this
      exact wpIn_exit (hQ J a w (.refl sm) sr mk)
    · cases hc
  | ret =>
    intro j hj rd c ro hc hro s h e s' h' he lo J a w Q sr sm f mk hlo hQ
    cases he
    simp only [okC] at hc
    split at hc
    · exact wpIn_ret (hQ J a w (.refl sm) sr mk)
    · cases hc
  | bad =>
    intro j hj rd c ro hc hro s h e s' h' he
    cases he
end
end Go.Ab

/- Functions; the whole evaluator is sound. -/
namespace Go.Ab

def resB (P : Program) (nt : Nat) : List ResultVar → List ARes → Bool
  | [], [] => true
  | .tmp t :: r, .tmp p :: q => t == ix p && Nat.blt t nt && resB P nt r q
  | .cell t ty :: r, .cell n p :: q => t == ix p && Nat.blt t nt && nB P ty n && resB P nt r q
  | _, _ => false
def initB : ST → Bool
  | .lf => true
  | .nd v l r => isU v && initB l && initB r
def funcB (P : Program) (F : Func) (fn : AFunc) : Bool := match F.body with
  | some c => okC P F.ntmps fn.body false c && psB F.ntmps (List.range fn.params.length) fn.params && Nat.ble fn.params.length F.ntmps && initB fn.init && resB P F.ntmps F.results.toList fn.results
  | none => false
/-- The table fits the program. -/
def TabOK (P : Program) (C : Cfg) : Prop := ∀ f fn, C.fn f = some fn → ∃ F, P.funcs[f]? = some F ∧ F.name ≠ "runtime.NumGoroutine" ∧ funcB P F fn = true
def OrcOK (P : Program) (C : Cfg) : Prop := ∀ {f args v} {h : AHeap}, C.orc f args h.base = some v → ∀ {J w} {args' : Array Value}, Sim (OKC P) J h w → LR J args args'.toList → Fresh J h →
    (∃ fn, P.funcs[f]? = some fn ∧ fn.body.isSome = true ∧ fn.name ≠ "runtime.NumGoroutine") ∧
    CallsIn Fence.wide 0 P f args' w (fun e w' => ∃ v' J', e = .returned v' ∧ VR J' v v' ∧ Next (OKC P) J h w J' h w')

section
variable {P : Program} {J : Inj} {h h' : AHeap} {w : World} {nt : Nat} {b : Bool} {C : Cfg}

theorem isU_eq {v : Value} (h : isU v = true) : v = undef := by
  unfold isU at h
  split at h
  · rename_i a
    have : a.size = 0 := by simpa using h
    rw [Array.eq_empty_of_size_eq_zero this]; rfl
  · cases h
theorem init_undef : ∀ {s : ST}, initB s = true → ∀ p, getS p s = undef
  | .lf, _, p => getS_lf p
  | .nd v l r, h, p => by
    simp only [initB, Bool.and_eq_true] at h
    cases p with
    | z => exact isU_eq h.1.1
    | l p => exact init_undef h.1.2 p
    | r p => exact init_undef h.2 p
def resM (tmps : Array Value) : ResultVar → Sem Value
  | .tmp t => pure (tmps.getD t undef)
  | .cell a t => do loadVar t (← asAddr (tmps.getD a undef))
theorem results_eq (F : Func) (tmps : Array Value) : results F tmps = (do
    let vs ← F.results.mapM (resM tmps)
    pure (if h : vs.size = 1 then vs[0] else .tuple vs)) := rfl
theorem results_sound {s : Slots} {tmps : Array Value} (sr : SR J nt s tmps) (sm : Sim (OKC P) J h w) : ∀ {rs : List ResultVar} {ars : List ARes} {vs : List Value}, resB P nt rs ars = true → resOf s h ars = some vs →
    ∃ vs' : List Value, (rs.mapM (resM tmps)).run P w = .ok vs' w ∧ LR J vs vs'
  | [], [], vs, _, h => by
    simp only [resOf, Option.some.injEq] at h
    subst h
    exact ⟨[], rfl, .nil J⟩
  | [], _ :: _, _, hc, _ => by simp [resB] at hc
  | .tmp t :: r, .tmp p :: q, vs, hc, h => by
    simp only [resB, Bool.and_eq_true, beq_iff_eq] at hc
    obtain ⟨⟨rfl, h2⟩, h3⟩ := hc
    rw [Nat.blt_eq] at h2
    simp only [resOf] at h
    split at h
    · rename_i l hl
      cases h
      obtain ⟨vs', h4, h5⟩ := results_sound sr sm h3 hl
      refine ⟨tmps.getD (ix p) undef :: vs', ?_, .cons (sr.2 p h2) h5⟩
      simp only [List.mapM_cons, Sem.run_bind, resM, Sem.run_pure, Result.andThen_ok]
      simp only [h4, Result.andThen_ok]
    · cases h
  | .cell t ty :: r, .cell n p :: q, vs, hc, h => by
    simp only [resB, Bool.and_eq_true, beq_iff_eq] at hc
    obtain ⟨⟨⟨rfl, h2⟩, hn⟩, h3⟩ := hc
    rw [Nat.blt_eq] at h2
    simp only [resOf] at h
    split at h
    · rename_i v l hv hl
      cases h
      obtain ⟨vs', h4, h5⟩ := results_sound sr sm h3 hl
      have rp := sr.2 p h2
      unfold ldP at hv
      split at hv
      · rename_i ad e
        rw [e] at rp
        obtain ⟨ad', e', ra⟩ := vr_ptr rp
        obtain ⟨v', l1, l2⟩ := ld_sound (P := P) sm hn hv ra
        refine ⟨v' :: vs', ?_, .cons l2 h5⟩
        simp only [List.mapM_cons, Sem.run_bind, resM, e', asAddr, Sem.run_pure, Result.andThen_ok, l1]
        simp only [h4, Result.andThen_ok]
      · cases hv
    · cases h
  | .tmp _ :: _, [], _, hc, _ => by simp [resB] at hc
  | .cell _ _ :: _, [], _, hc, _ => by simp [resB] at hc
  | .tmp _ :: _, .cell _ _ :: _, _, hc, _ => by simp [resB] at hc
  | .cell _ _ :: _, .tmp _ :: _, _, hc, _ => by simp [resB] at hc
theorem resV_sound {vs vs' : List Value} (r : LR J vs vs') : VR J (resV vs) (if h : vs'.toArray.size = 1 then vs'.toArray[0] else .tuple vs'.toArray) := by
  match vs, vs', r with
  | [], [], r => exact .undef _
  | [v], [v'], r => exact r.head
  | _ :: _ :: _, _ :: _ :: _, r => simpa [resV] using VR.tupleL r
  | [], _ :: _, r => have := r.1; simp at this
  | _ :: _, [], r => have := r.1; simp at this
  | [_], _ :: _ :: _, r => have := r.1; simp at this
  | _ :: _ :: _, [_], r => have := r.1; simp at this
theorem results_run {F : Func} {fn : AFunc} {s : Slots} {tmps : Array Value} (sr : SR J F.ntmps s tmps) (sm : Sim (OKC P) J h w) {vs : List Value} (hc : resB P F.ntmps F.results.toList fn.results = true) (he : resOf s h fn.results = some vs) :
    ∃ v', (results F tmps).run P w = .ok v' w ∧ VR J (resV vs) v' := by
  obtain ⟨vs', h1, h2⟩ := results_sound sr sm hc he
  refine ⟨_, ?_, resV_sound h2⟩
  rw [results_eq, Array.mapM_eq_mapM_toList]
  simp [h1]
/-- A mark's block is shut. -/
theorem next_shut {J0 : Inj} {h0 : AHeap} {w0 : World} (n : Next (OKC P) J0 h0 w0 J h w) {r : Nat} (hlo : w0.heap.size ≤ r) {ds : Option (List Deferred)} (hb : w.heap[r]? = some (.deferred ds)) (hl : ¬Live J h r) (o : Obj) :
    Next (OKC P) J0 h0 w0 J h (setBlk w r o) := by
  have hne : ∀ k o' pl, h.get k = some o' → J k = some pl → pl.b ≠ r := fun k o' pl h1 h2 e => hl ⟨k, o', pl, h1, h2, e⟩
  refine ⟨⟨?_, ?_, n.sim.inj, n.sim.apart⟩, n.le, n.base, n.next, n.same, n.os, n.tape, n.output, by simpa [setBlk] using n.size, fun k hk hl' => ?_, n.came⟩
  · intro k c hc
    obtain ⟨arr, e, fz, h1, h2⟩ := n.sim.base k c hc
    have : k ≠ r := fun e => by subst e; rw [hb] at h1; cases h1
    exact ⟨arr, e, fz, (setBlk_ne this).trans h1, h2⟩
  · intro k ob hk
    obtain ⟨h1, pl, ob', h2, h3, h4⟩ := n.sim.obj k ob hk
    exact ⟨h1, pl, ob', h2, (setBlk_ne (hne k ob pl hk h2)).trans h3, h4⟩
  · rw [setBlk_ne (by omega)]; exact n.keep k hk hl'
theorem leave_sound {J0 : Inj} {h0 : AHeap} {w0 : World} {F : Func} {tmps : Array Value} {R : Ending → World → Prop} :
    ∀ (rs : List Nat) {w : World}, Next (OKC P) J0 h0 w0 J h w → rs.Nodup → (∀ r ∈ rs, w0.heap.size ≤ r ∧ w.heap[r]? = some (.deferred (some [])) ∧ ¬Live J h r) →
      (∀ w', Next (OKC P) J0 h0 w0 J h w' → ∃ v', (results F tmps).run P w' = .ok v' w' ∧ R (.returned v') w') → LeavesInM Fence.wide 0 P F tmps R (rs.map markOf) .returning w
  | [], w, n, _, _, hR => hR w n
  | r :: rs, w, n, hn, hr, hR => by
    obtain ⟨h1, h2, h3⟩ := hr r (.head _)
    refine ⟨fun e => (by cases e), .inl ⟨r, _, rfl, run_takeDeferred h2, ?_⟩⟩
    have hnd := List.nodup_cons.1 hn
    refine leave_sound rs (next_shut n h1 h2 h3 (.deferred none)) hnd.2 (fun q hq => ?_) hR
    obtain ⟨g1, g2, g3⟩ := hr q (.tail _ hq)
    exact ⟨g1, (setBlk_ne (fun e => hnd.1 (by rw [← e]; exact hq))).trans g2, g3⟩

theorem putL_args : ∀ (ps : List Pa) (i : Nat) (vs : List Value) {s : Slots}, ps.map ix = List.range' i ps.length → vs.length = ps.length →
    (∀ p, i ≤ ix p → getS p s = undef) → ∀ p, (ix p < i → getS p (putL ps vs s fun s => s) = getS p s) ∧ (∀ k v, ix p = i + k → vs[k]? = some v → getS p (putL ps vs s fun s => s) = v) ∧
      (i + ps.length ≤ ix p → getS p (putL ps vs s fun s => s) = undef)
  | [], i, vs, s, _, hl, hu, p => ⟨fun _ => rfl, fun k v hk hv => by have : vs = [] := List.eq_nil_of_length_eq_zero hl; subst this; simp at hv, fun hp => hu p (by simpa using hp)⟩
  | q :: ps, i, [], s, _, hl, _, _ => by simp at hl
  | q :: ps, i, v0 :: vs, s, he, hl, hu, p => by
    simp only [List.map_cons, List.length_cons, List.range'_succ, List.cons.injEq] at he
    obtain ⟨hq, he⟩ := he
    have hput : (putL (q :: ps) (v0 :: vs) s fun s => s) = putL ps vs (setS q s v0) fun s => s := by
      show setK q s v0 (fun s => putL ps vs s fun s => s) = _
      rw [setK_eq]
    have ih := putL_args ps (i + 1) vs (s := setS q s v0) he (by simpa using hl) (fun p hp => by
      rw [getS_setS, if_neg (by intro e; subst e; omega)]; exact hu p (by omega)) p
    rw [hput]
    refine ⟨fun hp => ?_, fun k v hk hv => ?_, fun hp => ?_⟩
    · rw [ih.1 (by omega), getS_setS, if_neg (by intro e; subst e; omega)]
    · cases k with
      | zero =>
        have hp : p = q := ix_inj (by omega)
        subst hp
        rw [ih.1 (by omega), getS_setS, if_pos rfl]
        simpa using hv
      | succ k => exact ih.2.1 k v (by omega) (by simpa using hv)
    · exact ih.2.2 (by simp at hp; omega)

theorem call_sound {n : Nat} (ht : TabOK P C) (so : ∀ j, j ≤ n → SelfOK P C (OKC P) (run b C j)) {f : Nat} {args : List Value} {e : Ex} {v : Value} {l r : ST}
    (he : run b C (n + 1) (.call f args h) = some (e, .nd v l r, h')) {args' : Array Value} (sm : Sim (OKC P) J h w) (ra : LR J args args'.toList) (fr : Fresh J h) :
    (∃ fn, P.funcs[f]? = some fn ∧ fn.body.isSome = true ∧ fn.name ≠ "runtime.NumGoroutine") ∧
    CallsIn Fence.wide 0 P f args' w (fun e w' => ∃ v' J', e = .returned v' ∧ VR J' v v' ∧ Next (OKC P) J h w J' h' w') := by
  have he : (match C.fn f with
    | some fn => if args.length = fn.params.length then finish fn (putL fn.params args fn.init fun s => codeS b C (run b C n) fn.body s h) else none
    | none => none) = some (e, .nd v l r, h') := he
  split at he
  rotate_left
  · cases he
  rename_i fn hfn
  split at he
  rotate_left
  · cases he
  rename_i hlen
  obtain ⟨F, hF, hname, hc⟩ := ht f fn hfn
  unfold funcB at hc
  split at hc
  rotate_left
  · cases hc
  rename_i c hbody
  simp only [Bool.and_eq_true] at hc
  obtain ⟨⟨⟨⟨h1, h2⟩, h3⟩, h4⟩, h5⟩ := hc
  have h3 := Nat.le_of_ble_eq_true h3
  obtain ⟨hps, hpl⟩ := psB_spec h2
  refine ⟨⟨F, hF, by simp [hbody], hname⟩, ?_⟩
  rw [putL_eq] at he
  unfold finish at he
  split at he
  rotate_left
  · cases he
  rename_i e1 s1 h1' hcode
  have hal := ra.1
  simp only [Array.length_toList] at hal
  have sr0 : SR J F.ntmps (putL fn.params args fn.init fun s => s) (args' ++ Array.replicate (F.ntmps - args'.size) undef) := by
    refine ⟨by simp; omega, fun p hp => ?_⟩
    have key := putL_args fn.params 0 args (s := fn.init) (by rw [hps, List.range_eq_range']) hlen (fun p _ => init_undef h4 p) p
    by_cases hlt : ix p < args.length
    · rw [key.2.1 (ix p) args[ix p] (by omega) (List.getElem?_eq_getElem hlt)]
      have hlt' : ix p < args'.size := by omega
      have : (args' ++ Array.replicate (F.ntmps - args'.size) undef).getD (ix p) undef = args'[ix p] := by
        rw [Array.getD_eq_getD_getElem?, Array.getElem?_append_left hlt', Array.getElem?_eq_getElem hlt']; rfl
      rw [this]
      exact ra.2 (ix p) _ _ (List.getElem?_eq_getElem hlt) (by rw [Array.getElem?_toList, Array.getElem?_eq_getElem hlt'])
    · rw [key.2.2 (by omega)]
      exact .undef _
  refine callsIn_of_wp_marks hF hbody trivial ?_
  refine code_sound so fn.body (Nat.le_refl n) (ro := none) h1 (fun _ => rfl) hcode w.heap.size J ⟨_, []⟩ w _ sr0 sm fr ⟨[], rfl, .nil, fun r hr => by cases hr⟩ (Nat.le_refl _) ?_
  intro J1 a1 w1 n1 sr1 mk1
  have fin : ∀ vs, resOf s1 h1' fn.results = some vs → v = resV vs → h' = h1' → LeavesInM Fence.wide 0 P F a1.tmps (fun e w' => ∃ v' J', e = .returned v' ∧ VR J' v v' ∧ Next (OKC P) J h w J' h' w') a1.defers .returning w1 := by
    rintro vs hvs rfl rfl
    obtain ⟨rs, e, hn, hr⟩ := mk1
    rw [e]
    refine leave_sound rs n1 hn hr (fun w' n' => ?_)
    obtain ⟨v', g1, g2⟩ := results_run (fn := fn) sr1 n'.sim h5 hvs
    exact ⟨v', g1, v', J1, rfl, g2, n'⟩
  cases e1 with
  | exit id => cases he
  | normal =>
    have he : (match resOf s1 h1' fn.results with
      | some vs => some (Ex.ret, ST.nd (resV vs) .lf .lf, h1')
      | none => none) = some (e, .nd v l r, h') := he
    split at he
    · rename_i vs hvs
      simp only [Option.some.injEq, Prod.mk.injEq, ST.nd.injEq] at he
      exact fin vs hvs he.2.1.1.symm he.2.2.symm
    · cases he
  | ret =>
    have he : (match resOf s1 h1' fn.results with
      | some vs => some (Ex.ret, ST.nd (resV vs) .lf .lf, h1')
      | none => none) = some (e, .nd v l r, h') := he
    split at he
    · rename_i vs hvs
      simp only [Option.some.injEq, Prod.mk.injEq, ST.nd.injEq] at he
      exact fin vs hvs he.2.1.1.symm he.2.2.symm
    · cases he

/-- **The evaluator is sound.** -/
theorem run_sound (hm : P.follows .mixedOrders = true) (ht : TabOK P C) (ho : OrcOK P C) : ∀ n, SelfOK P C (OKC P) (run b C n) := by
  intro n
  induction n using Nat.strongRecOn with
  | _ n ih =>
    cases n with
    | zero => exact ⟨hm, fun he => (by cases he), fun he => ho he, fun he => (by cases he)⟩
    | succ n =>
      have so : ∀ j, j ≤ n → SelfOK P C (OKC P) (run b C j) := fun j hj => ih j (by omega)
      refine ⟨hm, fun he => ?_, fun he => ho he, fun he => ?_⟩
      · intro J w args' sm ra fr
        exact call_sound ht so he sm ra fr
      · intro nt c ro hok
        exact code_sound so _ (Nat.le_refl n) hok (fun h => by cases h) he
end
end Go.Ab

/- More fuel, the same answer; rules without fuel. -/
namespace Go.Ab

section
variable {h h' : AHeap} {v : Value} {b : Bool} {C : Cfg} {self self' : Task → Option Res}
def Le (self self' : Task → Option Res) : Prop := ∀ t r, self t = some r → self' t = some r

theorem callF_mono (hs : Le self self') {f : Nat} {args : List Value} {r : Value × AHeap} (he : callF b C self f args h = some r) : callF b C self' f args h = some r := by
  unfold callF at he ⊢
  split at he
  · exact he
  · simp only [frcS_eq] at he ⊢
    split at he
    · rename_i h1; rw [hs _ _ h1]; exact he
    · cases he
theorem roundA_mono (hs : Le self self') {l : Nat} {args : List Value} {r : Value × AHeap} (he : roundA b self l args h = some r) : roundA b self' l args h = some r := by
  unfold roundA at he ⊢
  split at he
  rotate_left
  · cases he
  split at he
  rotate_left
  · cases he
  rename_i hl
  try simp only [hl, if_true]
  simp only [frcS_eq] at he ⊢
  rw [putL_eq] at he ⊢
  split at he
  rotate_left
  · cases he
  rename_i h1
  rw [hs _ _ h1]
  simp only
  split at he
  rotate_left
  · cases he
  rename_i hg
  try simp only [hg]
  split at he
  rotate_left
  · cases he
  rename_i h2
  rw [hs _ _ h2]
  exact he
theorem callV_mono (hs : Le self self') {fv : Value} {args : List Value} {r : Value × AHeap} (he : callV b C self fv args h = some r) : callV b C self' fv args h = some r := by
  unfold callV at he ⊢
  split at he
  · split at he
    · exact callF_mono hs he
    · exact roundA_mono hs he
    · cases he
  · cases he
theorem aev_mono (hs : Le self self') : ∀ (o : AOp) {s : Slots} {r : Value × AHeap}, aev o b C self s h = some r → aev o b C self' s h = some r := by
  intro o s r he
  cases o with
  | call f args => exact callV_mono hs he
  | _ => exact he
theorem runOps_mono (hs : Le self self') : ∀ (ops : List AOper) {s : Slots} {h : AHeap} {r : Slots × AHeap}, runOps b C self ops s h = some r → runOps b C self' ops s h = some r ∧ states b C self' ops s h = states b C self ops s h
  | [], s, h, r, he => ⟨he, rfl⟩
  | o :: ops, s, h, r, he => by
    obtain ⟨s1, h1, hst, hr, hss⟩ := run_step he
    obtain ⟨i1, i2⟩ := runOps_mono hs ops hr
    rcases hst with ⟨hw, e1, e2⟩ | ⟨hw, v, hv, e1⟩
    · subst e1; subst e2
      refine ⟨?_, ?_⟩
      · show (match wantedA s o.guard with
          | none => none
          | some t => Bool.casesOn t (setO o.dst s skipV fun s => runOps b C self' ops s h1)
            (match aev o.op b C self' s h1 with
              | some (v, h') => frcV b v fun v => frcH b h' fun h' => setO o.dst s v fun s => runOps b C self' ops s h'
              | none => none)) = some r
        rw [hw]
        show setO o.dst s skipV (fun s => runOps b C self' ops s h1) = some r
        rw [setO_eq]; exact i1
      · rw [hss, ← i2]; simp [states, hw]
    · subst e1
      have hv' := aev_mono hs o.op hv
      refine ⟨?_, ?_⟩
      · show (match wantedA s o.guard with
          | none => none
          | some t => Bool.casesOn t (setO o.dst s skipV fun s => runOps b C self' ops s h)
            (match aev o.op b C self' s h with
              | some (v, h') => frcV b v fun v => frcH b h' fun h' => setO o.dst s v fun s => runOps b C self' ops s h'
              | none => none)) = some r
        rw [hw, hv']
        show frcV b v (fun v => frcH b h1 fun h' => setO o.dst s v fun s => runOps b C self' ops s h') = some r
        simp only [frcV_eq, frcH_eq]
        rw [setO_eq]; exact i1
      · rw [hss, ← i2]; simp [states, hw, hv']
theorem planOk1_mono (hs : Le self self') {ops : List AOper} {sts : List (Slots × AHeap)} {j p : Nat} (he : planOk1 b C self ops sts j p = true) : planOk1 b C self' ops sts j p = true := by
  unfold planOk1 at he ⊢
  split at he
  · split at he
    · rename_i hw
      try simp only [hw]
      split at he
      · rename_i e1 e2
        rw [aev_mono hs _ e1, aev_mono hs _ e2]; exact he
      · cases he
    · exact he
  · cases he
theorem regA_mono (hs : Le self self') {ops : List AOper} {plan : List (Nat × List Nat)} {s : Slots} {h : AHeap} {r : Slots × AHeap} (he : regA b C self ops plan s h = some r) : regA b C self' ops plan s h = some r := by
  obtain ⟨h1, h2⟩ := runOps_mono hs ops (regA_run he)
  unfold regA at he ⊢
  split at he
  · exact h1
  · simp only at he ⊢
    split at he
    · rename_i hall
      rw [h2, if_pos ?_]
      · exact h1
      · rw [List.all_eq_true] at hall ⊢
        intro q hq
        have := hall q hq
        rw [List.all_eq_true] at this ⊢
        exact fun p hp => planOk1_mono hs (this p hp)
    · cases he
theorem codeS_mono (hs : Le self self') (c : ACode) : ∀ {s : Slots} {h : AHeap} {r : Res}, codeS b C self c s h = some r → codeS b C self' c s h = some r := by
  induction c with
  | skip => intro s h r he; exact he
  | reg ops plan =>
    intro s h r he
    have he : (match regA b C self ops plan s h with
      | some (s, h) => some (Ex.normal, s, h)
      | none => none) = some r := he
    split at he
    · rename_i h1
      show (match regA b C self' ops plan s h with
        | some (s, h) => some (Ex.normal, s, h)
        | none => none) = some r
      rw [regA_mono hs h1]; exact he
    · cases he
  | kill l x ih => intro s h r he; exact ih he
  | seq x y ihx ihy =>
    intro s h r he
    have he : (match codeS b C self x s h with
      | some (e, s1, h1) => match e with
        | .normal => codeS b C self y s1 h1
        | e => some (e, s1, h1)
      | none => none) = some r := he
    show (match codeS b C self' x s h with
      | some (e, s1, h1) => match e with
        | .normal => codeS b C self' y s1 h1
        | e => some (e, s1, h1)
      | none => none) = some r
    split at he
    · rename_i e s1 h1 hx
      rw [ihx hx]
      cases e with
      | normal => exact ihy he
      | exit id => exact he
      | ret => exact he
    · cases he
  | cond t x y ihx ihy =>
    intro s h r he
    have he : (match evA s t with
      | .bool t => Bool.casesOn t (codeS b C self y s h) (codeS b C self x s h)
      | _ => none) = some r := he
    show (match evA s t with
      | .bool t => Bool.casesOn t (codeS b C self' y s h) (codeS b C self' x s h)
      | _ => none) = some r
    split at he
    · rename_i tv ht
      cases tv with
      | true => exact ihx he
      | false => exact ihy he
    · cases he
  | block id x ih =>
    intro s h r he
    have he : (match codeS b C self x s h with
      | some (e, s1, h1) => match e with
        | .exit i => bif i.beq id then some (Ex.normal, s1, h1) else some (.exit i, s1, h1)
        | e => some (e, s1, h1)
      | none => none) = some r := he
    show (match codeS b C self' x s h with
      | some (e, s1, h1) => match e with
        | .exit i => bif i.beq id then some (Ex.normal, s1, h1) else some (.exit i, s1, h1)
        | e => some (e, s1, h1)
      | none => none) = some r
    split at he
    · rename_i hx; rw [ih hx]; exact he
    · cases he
  | loop x ih =>
    intro s h r he
    have he : (match codeS b C self x s h with
      | some (e, s1, h1) => match e with
        | .normal => self (.code (.loop x) s1 h1)
        | e => some (e, s1, h1)
      | none => none) = some r := he
    show (match codeS b C self' x s h with
      | some (e, s1, h1) => match e with
        | .normal => self' (.code (.loop x) s1 h1)
        | e => some (e, s1, h1)
      | none => none) = some r
    split at he
    · rename_i e s1 h1 hx
      rw [ih hx]
      cases e with
      | normal => exact hs _ _ he
      | exit id => exact he
      | ret => exact he
    · cases he
  | rangeF g ps asg body _ _ =>
    intro s h r he
    have he : (match evA s g with
      | .func (.func f) first captured =>
        loopEnd b s h.next (callF b C self f (first.toList ++ [.func (.yield h.next) #[] #[]] ++ captured.toList) (h.add b (.loop .ready none s ps asg body)))
      | _ => none) = some r := he
    show (match evA s g with
      | .func (.func f) first captured =>
        loopEnd b s h.next (callF b C self' f (first.toList ++ [.func (.yield h.next) #[] #[]] ++ captured.toList) (h.add b (.loop .ready none s ps asg body)))
      | _ => none) = some r
    split at he
    · rename_i f first captured _
      cases hc : callF b C self f (first.toList ++ [.func (.yield h.next) #[] #[]] ++ captured.toList) (h.add b (.loop .ready none s ps asg body)) with
      | none => rw [hc] at he; cases he
      | some q => rw [hc] at he; rw [callF_mono hs hc]; exact he
    · cases he
  | exit id => intro s h r he; exact he
  | ret => intro s h r he; exact he
  | bad => intro s h r he; cases he
theorem step_mono (hs : Le self self') {t : Task} {r : Res} (he : step b C self t = some r) : step b C self' t = some r := by
  cases t with
  | code c s h => exact codeS_mono hs c he
  | call f args h =>
    have he : (match C.fn f with
      | some fn => if args.length = fn.params.length then finish fn (putL fn.params args fn.init fun s => codeS b C self fn.body s h) else none
      | none => none) = some r := he
    show (match C.fn f with
      | some fn => if args.length = fn.params.length then finish fn (putL fn.params args fn.init fun s => codeS b C self' fn.body s h) else none
      | none => none) = some r
    split at he
    · rename_i fn hf
      split at he
      · rename_i hl
        rw [if_pos hl]
        rw [putL_eq] at he ⊢
        cases hc : codeS b C self fn.body (putL fn.params args fn.init fun s => s) h with
        | none => rw [hc] at he; cases he
        | some q => rw [hc] at he; rw [codeS_mono hs _ hc]; exact he
      · cases he
    · cases he
theorem run_le (n : Nat) : Le (run b C n) (run b C (n + 1)) := by
  induction n with
  | zero => intro t r he; cases he
  | succ n ih => intro t r he; exact step_mono ih he
theorem run_mono {n m : Nat} (hnm : n ≤ m) : Le (run b C n) (run b C m) := by
  induction hnm with
  | refl => exact fun t r he => he
  | step _ ih => exact fun t r he => run_le _ t r (ih t r he)
end
end Go.Ab

/- The evaluator without fuel: rules. -/
namespace Go.Ab

section
variable {C : Cfg} {s s' s1 s2 : Slots} {h h' h1 h2 : AHeap} {v : Value} {e : Ex}
def CallE (C : Cfg) (f : Nat) (args : List Value) (h : AHeap) (v : Value) (h' : AHeap) : Prop := ∃ n e l r, run false C n (.call f args h) = some (e, .nd v l r, h')
def CodeE (C : Cfg) (c : ACode) (s : Slots) (h : AHeap) (e : Ex) (s' : Slots) (h' : AHeap) : Prop := ∃ n, codeS false C (run false C n) c s h = some (e, s', h')
def OpE (C : Cfg) (o : AOp) (s : Slots) (h : AHeap) (v : Value) (h' : AHeap) : Prop := ∃ n, aev o false C (run false C n) s h = some (v, h')
def OpsE (C : Cfg) (ops : List AOper) (s : Slots) (h : AHeap) (s' : Slots) (h' : AHeap) : Prop := ∃ n, runOps false C (run false C n) ops s h = some (s', h')

theorem OpE.pure {o : AOp} (he : ∀ self, aev o false C self s h = some (v, h')) : OpE C o s h v h' := ⟨0, he _⟩
theorem OpE.call {g : Opd} {args : List Opd} {f : Nat} {first cap : Array Value} (hg : evA s g = .func (.func f) first cap) (ho : C.orc f (first.toList ++ args.map (evA s) ++ cap.toList) h.base = none)
    (hc : CallE C f (first.toList ++ args.map (evA s) ++ cap.toList) h v h') : OpE C (.call g args) s h v h' := by
  obtain ⟨n, e, l, r, hr⟩ := hc
  refine ⟨n, ?_⟩
  show callV false C (run false C n) (evA s g) (args.map (evA s)) h = _
  simp only [callV, hg, callF, ho, frcS_eq, hr]
theorem OpsE.nil : OpsE C [] s h s h := ⟨0, rfl⟩
theorem OpsE.cons {o : AOper} {r : List AOper} (hw : wantedA s o.guard = some true) (ho : OpE C o.op s h v h1) (hr : OpsE C r (setO o.dst s v fun s => s) h1 s' h') : OpsE C (o :: r) s h s' h' := by
  obtain ⟨n, h1'⟩ := ho
  obtain ⟨m, h2'⟩ := hr
  refine ⟨max n m, ?_⟩
  have e1 := aev_mono (run_mono (b := false) (C := C) (Nat.le_max_left n m)) o.op h1'
  have e2 := (runOps_mono (run_mono (b := false) (C := C) (Nat.le_max_right n m)) r h2').1
  show (match wantedA s o.guard with
    | none => none
    | some t => Bool.casesOn t (setO o.dst s skipV fun s => runOps false C (run false C (max n m)) r s h)
      (match aev o.op false C (run false C (max n m)) s h with
        | some (v, h') => frcV false v fun v => frcH false h' fun h' => setO o.dst s v fun s => runOps false C (run false C (max n m)) r s h'
        | none => none)) = _
  rw [hw, e1]
  show frcV false v (fun v => frcH false h1 fun h' => setO o.dst s v fun s => runOps false C (run false C (max n m)) r s h') = _
  simp only [frcV_eq, frcH_eq]
  rw [setO_eq]; exact e2
theorem OpsE.skip {o : AOper} {r : List AOper} (hw : wantedA s o.guard = some false) (hr : OpsE C r (setO o.dst s skipV fun s => s) h s' h') : OpsE C (o :: r) s h s' h' := by
  obtain ⟨m, h2'⟩ := hr
  refine ⟨m, ?_⟩
  show (match wantedA s o.guard with
    | none => none
    | some t => Bool.casesOn t (setO o.dst s skipV fun s => runOps false C (run false C m) r s h)
      (match aev o.op false C (run false C m) s h with
        | some (v, h') => frcV false v fun v => frcH false h' fun h' => setO o.dst s v fun s => runOps false C (run false C m) r s h'
        | none => none)) = _
  rw [hw]
  show setO o.dst s skipV (fun s => runOps false C (run false C m) r s h) = _
  rw [setO_eq]; exact h2'

theorem CodeE.skip : CodeE C .skip s h .normal s h := ⟨0, rfl⟩
theorem CodeE.ret : CodeE C .ret s h .ret s h := ⟨0, rfl⟩
theorem CodeE.exit {id : Nat} : CodeE C (.exit id) s h (.exit id) s h := ⟨0, rfl⟩
theorem CodeE.reg {ops : List AOper} (ho : OpsE C ops s h s' h') : CodeE C (.reg ops []) s h .normal s' h' := by
  obtain ⟨n, h1⟩ := ho
  refine ⟨n, ?_⟩
  show (match regA false C (run false C n) ops [] s h with
    | some (s, h) => some (Ex.normal, s, h)
    | none => none) = _
  simp only [regA, h1]
theorem CodeE.kill {l : List Pa} {c : ACode} (hc : CodeE C c (killL s l) h e s' h') : CodeE C (.kill l c) s h e s' h' := hc
theorem CodeE.mono {c : ACode} {n m : Nat} (hnm : n ≤ m) {r : Res} (hc : codeS false C (run false C n) c s h = some r) : codeS false C (run false C m) c s h = some r := codeS_mono (run_mono hnm) c hc
theorem CodeE.seq {x y : ACode} (hx : CodeE C x s h .normal s1 h1) (hy : CodeE C y s1 h1 e s' h') : CodeE C (.seq x y) s h e s' h' := by
  obtain ⟨n, a⟩ := hx
  obtain ⟨m, b⟩ := hy
  refine ⟨max n m, ?_⟩
  show (match codeS false C (run false C (max n m)) x s h with
      | some (e, s1, h1) => match e with
        | .normal => codeS false C (run false C (max n m)) y s1 h1
        | e => some (e, s1, h1)
      | none => none) = _
  rw [CodeE.mono (Nat.le_max_left n m) a]
  exact CodeE.mono (Nat.le_max_right n m) b
theorem CodeE.seqX {x y : ACode} (hx : CodeE C x s h e s1 h1) (hne : e ≠ .normal) : CodeE C (.seq x y) s h e s1 h1 := by
  obtain ⟨n, a⟩ := hx
  refine ⟨n, ?_⟩
  show (match codeS false C (run false C n) x s h with
      | some (e, s1, h1) => match e with
        | .normal => codeS false C (run false C n) y s1 h1
        | e => some (e, s1, h1)
      | none => none) = _
  rw [a]
  cases e with
  | normal => exact absurd rfl hne
  | exit id => rfl
  | ret => rfl
theorem CodeE.cond {t : Opd} {x y : ACode} {b : Bool} (ht : evA s t = .bool b) (hc : CodeE C (if b then x else y) s h e s' h') : CodeE C (.cond t x y) s h e s' h' := by
  obtain ⟨n, a⟩ := hc
  refine ⟨n, ?_⟩
  show (match evA s t with
      | .bool t => Bool.casesOn t (codeS false C (run false C n) y s h) (codeS false C (run false C n) x s h)
      | _ => none) = some (e, s', h')
  rw [ht]
  cases b with
  | true => exact a
  | false => exact a
def blockEx (id : Nat) : Ex → Ex
  | .exit i => if i = id then .normal else .exit i
  | e => e
theorem CodeE.block {id : Nat} {x : ACode} (hx : CodeE C x s h e s' h') : CodeE C (.block id x) s h (blockEx id e) s' h' := by
  obtain ⟨n, a⟩ := hx
  refine ⟨n, ?_⟩
  show (match codeS false C (run false C n) x s h with
      | some (e, s1, h1) => match e with
        | .exit i => bif i.beq id then some (Ex.normal, s1, h1) else some (.exit i, s1, h1)
        | e => some (e, s1, h1)
      | none => none) = _
  rw [a]
  cases e with
  | normal => rfl
  | ret => rfl
  | exit i =>
    show (bif i.beq id then some (Ex.normal, s', h') else some (Ex.exit i, s', h')) = _
    cases hb : Nat.beq i id with
    | true => simp [blockEx, Nat.eq_of_beq_eq_true hb]
    | false => simp only [blockEx, cond_false]; rw [if_neg (fun e => by subst e; simp at hb)]
theorem CodeE.loop {x : ACode} (hx : CodeE C x s h .normal s1 h1) (hl : CodeE C (.loop x) s1 h1 e s' h') : CodeE C (.loop x) s h e s' h' := by
  obtain ⟨n, a⟩ := hx
  obtain ⟨m, b⟩ := hl
  refine ⟨max n (m + 1), ?_⟩
  show (match codeS false C (run false C (max n (m + 1))) x s h with
      | some (e, s1, h1) => match e with
        | .normal => run false C (max n (m + 1)) (.code (.loop x) s1 h1)
        | e => some (e, s1, h1)
      | none => none) = _
  rw [CodeE.mono (Nat.le_max_left n (m + 1)) a]
  have : run false C (m + 1) (.code (.loop x) s1 h1) = some (e, s', h') := b
  exact run_mono (Nat.le_max_right n (m + 1)) _ _ this
theorem CodeE.loopX {x : ACode} (hx : CodeE C x s h e s1 h1) (hne : e ≠ .normal) : CodeE C (.loop x) s h e s1 h1 := by
  obtain ⟨n, a⟩ := hx
  refine ⟨n, ?_⟩
  show (match codeS false C (run false C n) x s h with
      | some (e, s1, h1) => match e with
        | .normal => run false C n (.code (.loop x) s1 h1)
        | e => some (e, s1, h1)
      | none => none) = _
  rw [a]
  cases e with
  | normal => exact absurd rfl hne
  | exit id => rfl
  | ret => rfl
theorem CallE.mk {f : Nat} {fn : AFunc} {args : List Value} {vs : List Value} (hf : C.fn f = some fn) (hl : args.length = fn.params.length) (hc : CodeE C fn.body (putL fn.params args fn.init fun s => s) h e s' h')
    (hne : ∀ id, e ≠ .exit id) (hr : resOf s' h' fn.results = some vs) : CallE C f args h (resV vs) h' := by
  obtain ⟨n, a⟩ := hc
  refine ⟨n + 1, .ret, .lf, .lf, ?_⟩
  show (match C.fn f with
    | some fn => if args.length = fn.params.length then finish fn (putL fn.params args fn.init fun s => codeS false C (run false C n) fn.body s h) else none
    | none => none) = _
  rw [hf]
  simp only [hl, if_true]
  rw [putL_eq, a]
  cases e with
  | exit id => exact absurd rfl (hne id)
  | normal => simp only [finish, hr]
  | ret => simp only [finish, hr]
end
end Go.Ab

/- Walking a table by hand: the tactic's lemmas. -/
namespace Go.Ab

theorem setO_some (p : Pa) (s : Slots) (v : Value) : (setO (some p) s v fun s => s) = setS p s v := rfl
end Go.Ab

/- The evaluator's rules as weakest preconditions. -/
namespace Go.Ab

section
variable {C : Cfg} {s : Slots} {h : AHeap}
def WpO (C : Cfg) (ops : List AOper) (Q : Slots → AHeap → Prop) (s : Slots) (h : AHeap) : Prop := ∃ s' h', OpsE C ops s h s' h' ∧ Q s' h'
def WpC (C : Cfg) (c : ACode) (Q : Ex → Slots → AHeap → Prop) (s : Slots) (h : AHeap) : Prop := ∃ e s' h', CodeE C c s h e s' h' ∧ Q e s' h'
def WpF (C : Cfg) (f : Nat) (args : List Value) (Q : Value → AHeap → Prop) (h : AHeap) : Prop := ∃ v h', CallE C f args h v h' ∧ Q v h'
def noSelf : Task → Option Res := fun _ => none
theorem WpO.nil {Q : Slots → AHeap → Prop} (hq : Q s h) : WpO C [] Q s h := ⟨s, h, .nil, hq⟩
theorem WpO.step {Q : Slots → AHeap → Prop} {o : AOper} {r : List AOper} (hh : match wantedA s o.guard with
    | some true => (match aev o.op false C noSelf s h with
      | some (v, h1) => WpO C r Q (setO o.dst s v fun s => s) h1
      | none => False)
    | some false => WpO C r Q (setO o.dst s skipV fun s => s) h
    | none => False) : WpO C (o :: r) Q s h := by
  split at hh
  · rename_i hw
    split at hh
    · rename_i v h1 he
      obtain ⟨s', h', a, q⟩ := hh
      exact ⟨s', h', .cons hw (.pure fun self => aev_mono (self := noSelf) (fun t r e => by cases e) _ he) a, q⟩
    · exact hh.elim
  · rename_i hw
    obtain ⟨s', h', a, q⟩ := hh
    exact ⟨s', h', .skip hw a, q⟩
  · exact hh.elim
theorem WpO.call {Q : Slots → AHeap → Prop} {d : Option Pa} {r : List AOper} {g : Opd} {args : List Opd} {f : Nat} {first cap : Array Value} (hg : evA s g = .func (.func f) first cap)
    (ho : C.orc f (first.toList ++ args.map (evA s) ++ cap.toList) h.base = none)
    (hc : WpF C f (first.toList ++ args.map (evA s) ++ cap.toList) (fun v h1 => WpO C r Q (setO d s v fun s => s) h1) h) : WpO C (⟨d, none, .call g args⟩ :: r) Q s h := by
  obtain ⟨v, h1, a, s', h', b, q⟩ := hc
  exact ⟨s', h', .cons rfl (.call hg ho a) b, q⟩
theorem WpO.callG {Q : Slots → AHeap → Prop} {d : Option Pa} {gd : Option (Pa × Bool)} {r : List AOper} {g : Opd} {args : List Opd} {f : Nat} {first cap : Array Value} (hw : wantedA s gd = some true) (hg : evA s g = .func (.func f) first cap)
    (ho : C.orc f (first.toList ++ args.map (evA s) ++ cap.toList) h.base = none)
    (hc : WpF C f (first.toList ++ args.map (evA s) ++ cap.toList) (fun v h1 => WpO C r Q (setO d s v fun s => s) h1) h) : WpO C (⟨d, gd, .call g args⟩ :: r) Q s h := by
  obtain ⟨v, h1, a, s', h', b, q⟩ := hc
  exact ⟨s', h', .cons hw (.call hg ho a) b, q⟩
theorem WpO.mono {Q Q' : Slots → AHeap → Prop} {ops : List AOper} (hw : WpO C ops Q s h) (hq : ∀ s h, Q s h → Q' s h) : WpO C ops Q' s h := let ⟨s', h', a, q⟩ := hw; ⟨s', h', a, hq _ _ q⟩
theorem WpC.mono {Q Q' : Ex → Slots → AHeap → Prop} {c : ACode} (hw : WpC C c Q s h) (hq : ∀ e s h, Q e s h → Q' e s h) : WpC C c Q' s h := let ⟨e, s', h', a, q⟩ := hw; ⟨e, s', h', a, hq _ _ _ q⟩
theorem WpF.mono {f : Nat} {args : List Value} {Q Q' : Value → AHeap → Prop} (hw : WpF C f args Q h) (hq : ∀ v h, Q v h → Q' v h) : WpF C f args Q' h := let ⟨v, h', a, q⟩ := hw; ⟨v, h', a, hq _ _ q⟩
def thenQ (C : Cfg) (y : ACode) (Q : Ex → Slots → AHeap → Prop) : Ex → Slots → AHeap → Prop
  | .normal, s, h => WpC C y Q s h
  | e, s, h => Q e s h
theorem WpC.reg {Q : Ex → Slots → AHeap → Prop} {ops : List AOper} (hw : WpO C ops (Q .normal) s h) : WpC C (.reg ops []) Q s h := let ⟨s', h', a, q⟩ := hw; ⟨.normal, s', h', .reg a, q⟩
theorem WpC.skip {Q : Ex → Slots → AHeap → Prop} (hq : Q .normal s h) : WpC C .skip Q s h := ⟨_, _, _, .skip, hq⟩
theorem WpC.ret {Q : Ex → Slots → AHeap → Prop} (hq : Q .ret s h) : WpC C .ret Q s h := ⟨_, _, _, .ret, hq⟩
theorem WpC.exit {Q : Ex → Slots → AHeap → Prop} {id : Nat} (hq : Q (.exit id) s h) : WpC C (.exit id) Q s h := ⟨_, _, _, .exit, hq⟩
theorem WpC.kill {Q : Ex → Slots → AHeap → Prop} {l : List Pa} {c : ACode} (hc : WpC C c Q (killL s l) h) : WpC C (.kill l c) Q s h := let ⟨e, s', h', a, q⟩ := hc; ⟨e, s', h', .kill a, q⟩
theorem WpC.seq {Q : Ex → Slots → AHeap → Prop} {x y : ACode} (hx : WpC C x (thenQ C y Q) s h) : WpC C (.seq x y) Q s h := by
  obtain ⟨e, s1, h1, a, q⟩ := hx
  cases e with
  | normal => obtain ⟨e, s', h', b, q⟩ := q; exact ⟨e, s', h', .seq a b, q⟩
  | exit id => exact ⟨_, s1, h1, .seqX a (fun e => by cases e), q⟩
  | ret => exact ⟨_, s1, h1, .seqX a (fun e => by cases e), q⟩
theorem WpC.cond {Q : Ex → Slots → AHeap → Prop} {t : Opd} {x y : ACode} {b : Bool} (ht : evA s t = .bool b) (hx : b = true → WpC C x Q s h) (hy : b = false → WpC C y Q s h) : WpC C (.cond t x y) Q s h := by
  cases b with
  | true => obtain ⟨e, s', h', a, q⟩ := hx rfl; exact ⟨e, s', h', .cond ht a, q⟩
  | false => obtain ⟨e, s', h', a, q⟩ := hy rfl; exact ⟨e, s', h', .cond ht a, q⟩
theorem WpC.block {Q : Ex → Slots → AHeap → Prop} {id : Nat} {x : ACode} (hx : WpC C x (fun e s h => Q (blockEx id e) s h) s h) : WpC C (.block id x) Q s h := let ⟨e, s', h', a, q⟩ := hx; ⟨_, s', h', .block a, q⟩
/-- A loop: an invariant with a number that falls. -/
theorem WpC.loop {Q : Ex → Slots → AHeap → Prop} {x : ACode} (I : Nat → Slots → AHeap → Prop) (hr : ∀ n s h, I n s h → WpC C x (fun e s' h' => match e with
      | .normal => ∃ m, m < n ∧ I m s' h'
      | e => Q e s' h') s h) : ∀ n {s : Slots} {h : AHeap}, I n s h → WpC C (.loop x) Q s h := by
  intro n
  induction n using Nat.strongRecOn with
  | _ n ih =>
    intro s h hi
    obtain ⟨e, s1, h1, a, q⟩ := hr n s h hi
    cases e with
    | normal =>
      obtain ⟨m, hm, him⟩ := q
      obtain ⟨e, s', h', b, q⟩ := ih m hm him
      exact ⟨e, s', h', .loop a b, q⟩
    | exit id => exact ⟨_, s1, h1, .loopX a (fun e => by cases e), q⟩
    | ret => exact ⟨_, s1, h1, .loopX a (fun e => by cases e), q⟩
theorem WpF.mk {f : Nat} {fn : AFunc} {args : List Value} {Q : Value → AHeap → Prop} (hf : C.fn f = some fn) (hl : args.length = fn.params.length)
    (hc : WpC C fn.body (fun e s h => match e with
      | .exit _ => False
      | _ => match resOf s h fn.results with
        | some vs => Q (resV vs) h
        | none => False) (putL fn.params args fn.init fun s => s) h) : WpF C f args Q h := by
  obtain ⟨e, s', h', a, q⟩ := hc
  cases e with
  | exit id => exact q.elim
  | normal =>
    simp only at q
    split at q
    · rename_i vs hv; exact ⟨_, h', .mk hf hl a (fun id e => by cases e) hv, q⟩
    · exact q.elim
  | ret =>
    simp only at q
    split at q
    · rename_i vs hv; exact ⟨_, h', .mk hf hl a (fun id e => by cases e) hv, q⟩
    · exact q.elim
end
end Go.Ab

/- The simp set of the walks. -/
namespace Go.Ab
section
variable {C : Cfg} {self : Task → Option Res} {s : Slots} {h : AHeap}
theorem aev_box {x} : aev (.box x) false C self s h = Bool.casesOn (isU (evA s x)) (some (.pointer (some (nb h.next 0)), h.add false (.cells (evA s x).cells.toList))) none := rfl
theorem aev_pick {c x y} : aev (.pick c x y) false C self s h = ret1 (pickA (evA s c) (evA s x) (evA s y)) h := rfl
theorem aev_zero {z} : aev (.zero z) false C self s h = some (.pointer (some (nb h.next 0)), h.add false (.cells z)) := rfl
theorem aev_build {z ps} : aev (.build z ps) false C self s h = ret1 (aggO (fillL z (pEv s ps))) h := rfl
theorem aev_bslice {n m z ps} : aev (.bslice n m z ps) false C self s h = bslice false n m z (pEv s ps) h := rfl
theorem aev_ld {n a} : aev (.ld n a) false C self s h = ret1 (ldP n (evA s a) h) h := rfl
theorem aev_st {n a x} : aev (.st n a x) false C self s h = stP false n (evA s a) (evA s x) h := rfl
theorem aev_nilchk {x} : aev (.nilchk x) false C self s h = ret1 (nilA (evA s x)) h := rfl
theorem aev_bin {op x y} : aev (.bin op x y) false C self s h = ret1 (bin op (evA s x) (evA s y)) h := rfl
theorem aev_eqs {k neg x y} : aev (.eqs k neg x y) false C self s h = ret1 (eqsA k neg (evA s x) (evA s y)) h := rfl
theorem aev_un {op x} : aev (.un op x) false C self s h = ret1 (un op (evA s x)) h := rfl
theorem aev_cvt {k x} : aev (.cvt k x) false C self s h = ret1 (cvt k (evA s x)) h := rfl
theorem aev_str {x} : aev (.str x) false C self s h = ret1 (strA (evA s x)) h := rfl
theorem aev_clos {fn xs ys} : aev (.clos fn xs ys) false C self s h = some (.func fn (xs.map (evA s)).toArray (ys.map (evA s)).toArray, h) := rfl
theorem aev_mkmap  : aev (.mkmap) false C self s h = some (.map (some h.next), h.add false (.map [])) := rfl
theorem aev_mks {m n z l c} : aev (.mks m n z l c) false C self s h = mks false m n z (evA s l) (evA s c) h := rfl
theorem aev_slstr {x lo hi} : aev (.slstr x lo hi) false C self s h = ret1 (slstr (evA s x) (lo.map (evA s)) (hi.map (evA s))) h := rfl
theorem aev_slsl {n x lo hi mx} : aev (.slsl n x lo hi mx) false C self s h = ret1 (slsl n (evA s x) (lo.map (evA s)) (hi.map (evA s)) (mx.map (evA s))) h := rfl
theorem aev_slarr {m n x lo hi mx} : aev (.slarr m n x lo hi mx) false C self s h = ret1 (slarr m n (evA s x) (lo.map (evA s)) (hi.map (evA s)) (mx.map (evA s))) h := rfl
theorem aev_fad {n x} : aev (.fad n x) false C self s h = ret1 (fad n (evA s x)) h := rfl
theorem aev_iad {m n x i} : aev (.iad m n x i) false C self s h = ret1 (iad m n (evA s x) (evA s i)) h := rfl
theorem aev_ias {n x i} : aev (.ias n x i) false C self s h = ret1 (ias n (evA s x) (evA s i)) h := rfl
theorem aev_fld {n m x} : aev (.fld n m x) false C self s h = ret1 (fld n m (evA s x)) h := rfl
theorem aev_idx {m n o x i} : aev (.idx m n o x i) false C self s h = ret1 (idxA m n o (evA s x) (evA s i)) h := rfl
theorem aev_idxs {x i} : aev (.idxs x i) false C self s h = ret1 (idxs (evA s x) (evA s i)) h := rfl
theorem aev_look {ok ts z m k} : aev (.look ok ts z m k) false C self s h = ret1 (look ok ts z (evA s m) (evA s k) h) h := rfl
theorem aev_mset {ts m k x} : aev (.mset ts m k x) false C self s h = retU (mset false ts (evA s m) (evA s k) (evA s x) h) := rfl
theorem aev_ext {i x} : aev (.ext i x) false C self s h = ret1 (extA i (evA s x)) h := rfl
theorem aev_app {n x y} : aev (.app n x y) false C self s h = app false n (evA s x) (evA s y) h := rfl
theorem aev_cpy {n x y} : aev (.cpy n x y) false C self s h = cpy false n (evA s x) (evA s y) h := rfl
theorem aev_len {k x} : aev (.len k x) false C self s h = ret1 (lenV k (evA s x) h) h := rfl
theorem aev_min {x r} : aev (.min x r) false C self s h = ret1 (foldV min2 (evA s x) (r.map (evA s))) h := rfl
theorem aev_max {x r} : aev (.max x r) false C self s h = ret1 (foldV max2 (evA s x) (r.map (evA s))) h := rfl
end
end Go.Ab

/- Slices in the abstract heap: reading, and growing one's own. -/
namespace Go.Ab

def WF (h : AHeap) : Prop := ∀ k o, h.get k = some o → k < h.next
/-- The old blocks stay. -/
structure Ext (h0 h : AHeap) : Prop where
  base : h.base = h0.base
  next : h0.next ≤ h.next
  old : ∀ k, k < h0.next → h.get k = h0.get k
  wf : WF h
theorem Ext.refl {h : AHeap} (w : WF h) : Ext h h := ⟨rfl, Nat.le_refl _, fun _ _ => rfl, w⟩
theorem Ext.trans {h0 h1 h2 : AHeap} (a : Ext h0 h1) (b : Ext h1 h2) : Ext h0 h2 :=
  ⟨b.base.trans a.base, Nat.le_trans a.next b.next, fun k hk => (b.old k (Nat.lt_of_lt_of_le hk a.next)).trans (a.old k hk), b.wf⟩
theorem WF.add {h : AHeap} (w : WF h) (b : Bool) (o : AObj) : WF (h.add b o) := by
  intro k o' hk
  rw [AHeap.get_add] at hk
  rw [AHeap.next_add]
  split at hk
  · omega
  · have := w k o' hk; omega
theorem WF.put {h : AHeap} (w : WF h) (b : Bool) {k : Nat} {o o' : AObj} (hk : h.get k = some o') : WF (h.put b k o) := by
  intro m o1 hm
  rw [AHeap.get_put] at hm
  rw [AHeap.next_put]
  split at hm
  · rename_i e; rw [e]; exact w k o' hk
  · exact w m o1 hm
theorem WF.del {h : AHeap} (w : WF h) (k : Nat) : WF (h.del k) := by
  intro m o1 hm
  rw [AHeap.get_del] at hm
  rw [AHeap.next_del]
  split at hm
  · cases hm
  · exact w m o1 hm
theorem Ext.add {h0 h : AHeap} (a : Ext h0 h) (b : Bool) (o : AObj) : Ext h0 (h.add b o) :=
  ⟨by rw [AHeap.base_add]; exact a.base, by rw [AHeap.next_add]; have := a.next; omega, fun k hk => by
    rw [AHeap.get_add, if_neg (by have := a.next; omega)]; exact a.old k hk, a.wf.add b o⟩
theorem Ext.put {h0 h : AHeap} (a : Ext h0 h) (b : Bool) {k : Nat} {o o' : AObj} (hk : h.get k = some o') (hn : h0.next ≤ k) : Ext h0 (h.put b k o) :=
  ⟨by rw [AHeap.base_put]; exact a.base, by rw [AHeap.next_put]; exact a.next, fun m hm => by
    rw [AHeap.get_put, if_neg (by omega)]; exact a.old m hm, a.wf.put b hk⟩
theorem Ext.del {h0 h : AHeap} (a : Ext h0 h) {k : Nat} (hn : h0.next ≤ k) : Ext h0 (h.del k) :=
  ⟨by rw [AHeap.base_del]; exact a.base, by rw [AHeap.next_del]; exact a.next, fun m hm => by
    rw [AHeap.get_del, if_neg (by omega)]; exact a.old m hm, a.wf.del k⟩

/-- A slice of cells that can be read: n elements, these cells. -/
def Rd (h : AHeap) (v : Value) (n : Nat) (cs : List Value) : Prop :=
  ∃ a c, v = .slice a n c ∧ n ≤ c ∧ (a = none → n = 0 ∧ cs = []) ∧ ∀ p, a = some p → cs ≠ [] → ∃ row, h.row p = some row ∧ p.off + cs.length ≤ row.length ∧ (row.drop p.off).take cs.length = cs
theorem row_old {h0 h : AHeap} (a : Ext h0 h) {p : Addr} (hp : p.spot ≠ none → p.block < h0.next) : h.row p = h0.row p := by
  unfold AHeap.row
  cases hs : p.spot with
  | none => simp only [a.base]
  | some u => simp only [a.old p.block (hp (by rw [hs]; simp))]
theorem row_lt {h : AHeap} (w : WF h) {p : Addr} {row : List Value} (hr : h.row p = some row) : p.spot ≠ none → p.block < h.next := by
  intro hs
  unfold AHeap.row at hr
  cases hsp : p.spot with
  | none => exact absurd hsp hs
  | some u =>
    simp only [hsp] at hr
    cases hg : h.get p.block with
    | none => simp [hg] at hr
    | some o => exact w _ _ hg
theorem Rd.ext {h0 h : AHeap} (w : WF h0) (a : Ext h0 h) {v : Value} {n : Nat} {cs : List Value} (r : Rd h0 v n cs) : Rd h v n cs := by
  obtain ⟨p, c, e, h1, h2, h3⟩ := r
  refine ⟨p, c, e, h1, h2, fun q hq hne => ?_⟩
  obtain ⟨row, g1, g2, g3⟩ := h3 q hq hne
  exact ⟨row, (row_old a (row_lt w g1)).trans g1, g2, g3⟩
/-- Reading one cell. -/
theorem Rd.cell {h : AHeap} {v : Value} {n : Nat} {cs : List Value} (r : Rd h v n cs) {i : Nat} {x : Value} (hx : cs[i]? = some x) (hn : cs.length = n) :
    ∃ p c, v = .slice (some p) n c ∧ ldA none (plus p (i * 1)) h = some x := by
  obtain ⟨a, c, e, h1, h2, h3⟩ := r
  have hlt := (List.getElem?_eq_some_iff.1 hx).1
  have hne : cs ≠ [] := fun e => by subst e; simp at hlt
  cases a with
  | none => exact absurd (h2 rfl).2 hne
  | some p =>
    obtain ⟨row, g1, g2, g3⟩ := h3 p rfl hne
    refine ⟨p, c, e, ?_⟩
    have hrow : h.row (plus p (i * 1)) = some row := by rw [← g1]; rfl
    rw [← g3, List.getElem?_take, if_pos hlt, List.getElem?_drop] at hx
    unfold ldA
    rw [hrow]
    simp only [partA, plus, Nat.mul_one]
    exact hx

end Go.Ab

/- Ranges over functions: rules. -/
namespace Go.Ab
section
variable {C : Cfg} {s s' s1 s2 : Slots} {h h' h1 h2 : AHeap} {v : Value} {e : Ex}
def YieldE (C : Cfg) (l : Nat) (args : List Value) (h : AHeap) (v : Value) (h' : AHeap) : Prop := ∃ n, roundA false (run false C n) l args h = some (v, h')
/-- What a round leaves in its object. -/
def pendOf : Ex → Option ACode
  | .normal => none
  | .ret => some .ret
  | .exit id => some (.exit id)
def stOf : Ex → LoopState
  | .normal => .ready
  | _ => .done
def goesOn : Ex → Bool
  | .normal => true
  | _ => false
theorem YieldE.mk {l : Nat} {args : List Value} {pend : Option ACode} {tmps s1 s2 : Slots} {ps : List Pa} {asg body : ACode} {h1 h2 : AHeap} {e : Ex} (h0 : h.get l = some (.loop .ready pend tmps ps asg body)) (hl : args.length = ps.length)
    (ha : CodeE C asg (putL ps args tmps fun s => s) h .normal s1 h1) (g1 : h1.get l = some (.loop .ready pend tmps ps asg body))
    (hb : CodeE C body s1 (h1.put false l (.loop .busy pend tmps ps asg body)) e s2 h2) (g2 : h2.get l = some (.loop .busy pend tmps ps asg body)) :
    YieldE C l args h (.bool (goesOn e)) (h2.put false l (.loop (stOf e) (pendOf e) tmps ps asg body)) := by
  obtain ⟨n, a⟩ := ha
  obtain ⟨m, b⟩ := hb
  have a' : run false C (max n m + 1) (.code asg (putL ps args tmps fun s => s) h) = some (.normal, s1, h1) := CodeE.mono (Nat.le_max_left n m) a
  have b' : run false C (max n m + 1) (.code body s1 (h1.put false l (.loop .busy pend tmps ps asg body))) = some (e, s2, h2) := CodeE.mono (Nat.le_max_right n m) b
  refine ⟨max n m + 1, ?_⟩
  have ea : (putL ps args tmps fun s => run false C (max n m + 1) (.code asg s h)) = some (.normal, s1, h1) := by rw [putL_eq]; exact a'
  unfold roundA
  rw [h0]
  simp only [hl, if_true, frcS_eq, ea, g1, b', g2]
  cases e <;> rfl
noncomputable def AHeap.addL (h : AHeap) (s : Slots) (ps : List Pa) (asg body : ACode) : AHeap := h.add false (.loop .ready none s ps asg body)
theorem CodeE.rangeF {g : Opd} {ps : List Pa} {asg body : ACode} {f : Nat} {first cap : Array Value} {tmps : Slots} {ps2 : List Pa} {asg2 body2 : ACode} (hg : evA s g = .func (.func f) first cap)
    (ho : ∀ b, C.orc f (first.toList ++ [Value.func (.yield h.next) #[] #[]] ++ cap.toList) b = none)
    (hc : CallE C f (first.toList ++ [Value.func (.yield h.next) #[] #[]] ++ cap.toList) (h.addL s ps asg body) v h1) (hl : h1.get h.next = some (.loop (stOf e) (pendOf e) tmps ps2 asg2 body2)) :
    CodeE C (.rangeF g ps asg body) s h e s (h1.put false h.next (.loop .exhausted (pendOf e) tmps ps2 asg2 body2)) := by
  obtain ⟨n, e1, l1, r1, hr⟩ := hc
  refine ⟨n, ?_⟩
  show (match evA s g with
      | .func (.func f) first captured =>
        loopEnd false s h.next (callF false C (run false C n) f (first.toList ++ [Value.func (.yield h.next) #[] #[]] ++ captured.toList) (h.add false (.loop .ready none s ps asg body)))
      | _ => none) = _
  rw [hg]
  unfold AHeap.addL at hr
  simp only [callF, ho, frcS_eq, hr, loopEnd, hl]
  cases e <;> rfl
theorem OpE.yield {g : Opd} {args : List Opd} {l : Nat} (hg : evA s g = Value.func (.yield l) #[] #[]) (hc : YieldE C l (args.map (evA s)) h v h') : OpE C (.call g args) s h v h' := by
  obtain ⟨n, hr⟩ := hc
  refine ⟨n, ?_⟩
  show callV false C (run false C n) (evA s g) (args.map (evA s)) h = _
  simp only [callV, hg, hr]
theorem WpO.yieldG {Q : Slots → AHeap → Prop} {d : Option Pa} {gd : Option (Pa × Bool)} {r : List AOper} {g : Opd} {args : List Opd} {l : Nat} (hw : wantedA s gd = some true) (hg : evA s g = Value.func (.yield l) #[] #[])
    (hc : ∃ v h1, YieldE C l (args.map (evA s)) h v h1 ∧ WpO C r Q (setO d s v fun s => s) h1) : WpO C (⟨d, gd, .call g args⟩ :: r) Q s h := by
  obtain ⟨v, h1, a, s', h', b, q⟩ := hc
  exact ⟨s', h', .cons hw (.yield hg a) b, q⟩
end
end Go.Ab

/- The second evaluator: pure values, blocks of one's own by name. Definitions and relations. -/
namespace Go.Ab

/-! ### Values -/
/-- Values that never change again: atoms, slices and pointers that are read alone. -/
inductive PV where
  | at (v : Value)
  | sl (u n : Nat) (cs : List PV)
  | fp (u : Nat) (cs : List PV)
/-- Values: pure ones, and what leads into named blocks of one's own. -/
inductive VV where
  | p (x : PV)
  | os (u : Nat) (a : Pa) (n : Nat)
  | ob (u : Nat) (a : Pa) (off n c : Nat)
  | op (u : Nat) (a : Pa) (off : Nat)
  | om (a : Pa)
  | oi (a : Pa)
  | xs
  | clos (f : Nat) (x y : List VV)
  | agg (cs : List VV)
  | tup (cs : List VV)
  | yl (l : Nat)
  | skip
  | dead
inductive VB where
  | cells (cs : List VV)
  | map (es : List (Value × VV))
  | siter (s : ByteArray) (pos : Nat)

mutual
/-- The names that a value bears. -/
def nm : VV → List Pa
  | .os _ a _ => [a]
  | .ob _ a _ _ _ => [a]
  | .op _ a _ => [a]
  | .om a => [a]
  | .oi a => [a]
  | .clos _ x y => nmL x ++ nmL y
  | .agg cs => nmL cs
  | .tup cs => nmL cs
  | _ => []
def nmL : List VV → List Pa
  | [] => []
  | v :: r => nm v ++ nmL r
end
def nmE : List (Value × VV) → List Pa
  | [] => []
  | e :: r => nm e.2 ++ nmE r
def nmB : VB → List Pa
  | .cells cs => nmL cs
  | .map es => nmE es
  | .siter .. => []
theorem nm_mem {x : VV} {a : Pa} (h : a ∈ nm x) : ∀ {l : List VV}, x ∈ l → a ∈ nmL l
  | _ :: _, .head _ => by simp [nmL, h]
  | _ :: l, .tail _ hx => by simp only [nmL, List.mem_append]; exact .inr (nm_mem h hx)
theorem nmE_mem {e : Value × VV} {a : Pa} (h : a ∈ nm e.2) : ∀ {l : List (Value × VV)}, e ∈ l → a ∈ nmE l
  | _ :: _, .head _ => by simp [nmE, h]
  | _ :: l, .tail _ hx => by simp only [nmE, List.mem_append]; exact .inr (nmE_mem h hx)

def Pa.eqb : Pa → Pa → Bool
  | .z, .z => true
  | .l p, .l q => p.eqb q
  | .r p, .r q => p.eqb q
  | _, _ => false
theorem Pa.eqb_iff : ∀ {p q : Pa}, p.eqb q = true ↔ p = q
  | .z, .z => by simp [Pa.eqb]
  | .z, .l _ => by simp [Pa.eqb]
  | .z, .r _ => by simp [Pa.eqb]
  | .l _, .z => by simp [Pa.eqb]
  | .l p, .l q => by simp [Pa.eqb, Pa.eqb_iff (p := p)]
  | .l _, .r _ => by simp [Pa.eqb]
  | .r _, .z => by simp [Pa.eqb]
  | .r _, .l _ => by simp [Pa.eqb]
  | .r p, .r q => by simp [Pa.eqb, Pa.eqb_iff (p := p)]
def nos (a : Pa) : List Pa → Bool
  | [] => true
  | b :: r => !a.eqb b && nos a r
theorem nos_spec {a : Pa} : ∀ {l : List Pa}, nos a l = true → a ∉ l
  | [], _ => by simp
  | b :: r, h => by
    simp only [nos, Bool.and_eq_true, Bool.not_eq_true'] at h
    have h2 := nos_spec h.2
    intro hm
    rcases List.mem_cons.1 hm with e | hm
    · rw [Pa.eqb_iff.2 e] at h; cases h.1
    · exact h2 hm

/-! ### Trees -/
inductive PT (α : Type) where
  | lf
  | nd (v : Option α) (l r : PT α)
namespace PT
variable {α : Type}
def get : Pa → PT α → Option α
  | .z, .nd v _ _ => v
  | .l p, .nd _ l _ => get p l
  | .r p, .nd _ _ r => get p r
  | _, .lf => none
def set : Pa → PT α → Option α → PT α
  | .z, .nd _ l r, o => .nd o l r
  | .l p, .nd v l r, o => .nd v (set p l o) r
  | .r p, .nd v l r, o => .nd v l (set p r o)
  | .z, .lf, o => .nd o .lf .lf
  | .l p, .lf, o => .nd none (set p .lf o) .lf
  | .r p, .lf, o => .nd none .lf (set p .lf o)
def filt (f : α → Bool) : PT α → PT α
  | .lf => .lf
  | .nd none l r => .nd none (filt f l) (filt f r)
  | .nd (some x) l r => .nd (bif f x then some x else none) (filt f l) (filt f r)
@[simp] theorem get_lf (p : Pa) : get p (.lf : PT α) = none := by cases p <;> rfl
theorem get_set (p : Pa) : ∀ (t : PT α) (o : Option α) (q : Pa), get q (set p t o) = if q = p then o else get q t := by
  induction p with
  | z => intro t o q; cases t <;> cases q <;> simp [set, get]
  | l p ih =>
    intro t o q
    cases t with
    | lf => cases q <;> simp [set, get, ih]
    | nd v l r => cases q <;> simp [set, get, ih]
  | r p ih =>
    intro t o q
    cases t with
    | lf => cases q <;> simp [set, get, ih]
    | nd v l r => cases q <;> simp [set, get, ih]
theorem get_filt {f : α → Bool} : ∀ {t : PT α} {q : Pa} {x : α}, get q (filt f t) = some x → get q t = some x ∧ f x = true
  | .lf, q, x, h => by simp [filt] at h
  | .nd v l r, .z, x, h => by
    cases v with
    | none => simp [filt, get] at h
    | some y =>
      simp only [filt, get] at h ⊢
      cases hf : f y
      · simp [hf] at h
      · simp [hf] at h; subst h; exact ⟨rfl, hf⟩
  | .nd v l r, .l q, x, h => by
    cases v <;> simp only [filt, get] at h ⊢ <;> exact get_filt h
  | .nd v l r, .r q, x, h => by
    cases v <;> simp only [filt, get] at h ⊢ <;> exact get_filt h
def map {β : Type} (f : α → β) : PT α → PT β
  | .lf => .lf
  | .nd none l r => .nd none (map f l) (map f r)
  | .nd (some x) l r => .nd (some (f x)) (map f l) (map f r)
theorem get_map {β : Type} {f : α → β} : ∀ {t : PT α} {q : Pa} {y : β}, PT.get q (map f t) = some y → ∃ x, PT.get q t = some x ∧ y = f x
  | .lf, q, y, h => by simp [map] at h
  | .nd v l r, .z, y, h => by cases v <;> simp [map, PT.get] at h ⊢; exact h.symm
  | .nd v l r, .l q, y, h => by cases v <;> simp only [map, PT.get] at h ⊢ <;> exact get_map h
  | .nd v l r, .r q, y, h => by cases v <;> simp only [map, PT.get] at h ⊢ <;> exact get_map h

/-- 'a' says no more than 'b'. -/
def Le : PT α → PT α → Prop
  | .lf, _ => True
  | .nd v l r, .lf => v = none ∧ Le l .lf ∧ Le r .lf
  | .nd v l r, .nd v' l' r' => (v = none ∨ v = v') ∧ Le l l' ∧ Le r r'
theorem Le.get : ∀ {a b : PT α} {q : Pa} {x : α}, Le a b → get q a = some x → PT.get q b = some x
  | .lf, _, q, x, _, h => by simp at h
  | .nd v l r, .lf, q, x, h, hg => by
    obtain ⟨rfl, h1, h2⟩ := h
    cases q with
    | z => simp [PT.get] at hg
    | l q => simp only [PT.get] at hg; have := h1.get hg; simp at this
    | r q => simp only [PT.get] at hg; have := h2.get hg; simp at this
  | .nd v l r, .nd v' l' r', q, x, h, hg => by
    obtain ⟨h0, h1, h2⟩ := h
    cases q with
    | z =>
      simp only [PT.get] at hg ⊢
      rcases h0 with h0 | h0
      · rw [h0] at hg; cases hg
      · rw [← h0]; exact hg
    | l q => simp only [PT.get] at hg ⊢; exact h1.get hg
    | r q => simp only [PT.get] at hg ⊢; exact h2.get hg
theorem Le.refl : ∀ (a : PT α), Le a a
  | .lf => trivial
  | .nd _ l r => ⟨.inr rfl, Le.refl l, Le.refl r⟩
end PT

/-! ### Relations -/
def All2 {α β : Type} (R : α → β → Prop) (xs : List α) (ys : List β) : Prop := xs.length = ys.length ∧ ∀ (i : Nat) x y, xs[i]? = some x → ys[i]? = some y → R x y
section
variable {α β : Type} {R R' : α → β → Prop} {xs xs' : List α} {ys ys' : List β} {x : α} {y : β}
theorem All2.nil : All2 R [] [] := ⟨rfl, fun i x y h => by simp at h⟩
theorem All2.cons (h : R x y) (r : All2 R xs ys) : All2 R (x :: xs) (y :: ys) :=
  ⟨by simp [r.1], fun i a b ha hb => by
    cases i with
    | zero => simp at ha hb; subst ha hb; exact h
    | succ i => exact r.2 i a b (by simpa using ha) (by simpa using hb)⟩
theorem All2.head (r : All2 R (x :: xs) (y :: ys)) : R x y := r.2 0 x y rfl rfl
theorem All2.tail (r : All2 R (x :: xs) (y :: ys)) : All2 R xs ys := ⟨by have := r.1; simpa using this, fun i a b ha hb => r.2 (i + 1) a b (by simpa using ha) (by simpa using hb)⟩
theorem All2.mono (r : All2 R xs ys) (h : ∀ x y, y ∈ ys → R x y → R' x y) : All2 R' xs ys := ⟨r.1, fun i x y hx hy => h x y (List.mem_of_getElem? hy) (r.2 i x y hx hy)⟩
theorem All2.get (r : All2 R xs ys) {i : Nat} (h : ys[i]? = some y) : ∃ x, xs[i]? = some x ∧ R x y := by
  have hi : i < xs.length := by rw [r.1]; exact (List.getElem?_eq_some_iff.1 h).1
  exact ⟨xs[i], List.getElem?_eq_getElem hi, r.2 i _ _ (List.getElem?_eq_getElem hi) h⟩
theorem All2.append (r : All2 R xs ys) (r' : All2 R xs' ys') : All2 R (xs ++ xs') (ys ++ ys') := by
  refine ⟨by simp [r.1, r'.1], fun i a b ha hb => ?_⟩
  by_cases hi : i < xs.length
  · rw [List.getElem?_append_left hi] at ha
    rw [List.getElem?_append_left (by rw [← r.1]; exact hi)] at hb
    exact r.2 i a b ha hb
  · rw [List.getElem?_append_right (by omega)] at ha
    rw [List.getElem?_append_right (by rw [← r.1]; omega), ← r.1] at hb
    exact r'.2 _ a b ha hb
theorem All2.take (r : All2 R xs ys) (n : Nat) : All2 R (xs.take n) (ys.take n) :=
  ⟨by simp [r.1], fun i a b ha hb => by
    rw [List.getElem?_take] at ha hb
    split at ha
    · rename_i h; rw [if_pos h] at hb; exact r.2 i a b ha hb
    · cases ha⟩
theorem All2.drop (r : All2 R xs ys) (n : Nat) : All2 R (xs.drop n) (ys.drop n) :=
  ⟨by simp [r.1], fun i a b ha hb => by rw [List.getElem?_drop] at ha hb; exact r.2 _ a b ha hb⟩
end

/-- Rows that can be read and will not be written: those of 'base', and the blocks 'F'. -/
def RdF (h : AHeap) (F : Nat → Prop) (a : Addr) (row : List Value) : Prop := match a.spot with
  | none => h.base a.block = some row
  | some _ => F a.block ∧ h.get a.block = some (.cells row)
def atomB : Value → Bool
  | .bool _ | .int .. | .string _ | .pointer none | .slice none _ _ | .map none | .nilFunc | .nilIface => true
  | _ => false
/-- The mark that an address bears: that of a row made by an append is its elements' size. -/
def tgOk (u : Nat) (t : Option Nat) : Prop := match t with
  | none => True
  | some t => t = 0 ∨ t = u
inductive Rp (rd : Addr → List Value → Prop) : Value → PV → Prop
  | at {v : Value} : atomB v = true → Rp rd v (.at v)
  | nil {u : Nat} : Rp rd (.slice none 0 0) (.sl u 0 [])
  | sl0 {u : Nat} {a : Addr} {c : Nat} : tgOk u a.spot → Rp rd (.slice (some a) 0 c) (.sl u 0 [])
  | sl {u : Nat} {a : Addr} {n c : Nat} {cs : List PV} {row : List Value} : tgOk u a.spot → n ≤ c → rd a row → a.off + cs.length ≤ row.length → (∀ (i : Nat) y x, row[a.off + i]? = some y → cs[i]? = some x → Rp rd y x) →
      Rp rd (.slice (some a) n c) (.sl u n cs)
  | fp {u : Nat} {a : Addr} {cs : List PV} {row : List Value} : tgOk u a.spot → rd a row → a.off + cs.length ≤ row.length → (∀ (i : Nat) y x, row[a.off + i]? = some y → cs[i]? = some x → Rp rd y x) →
      Rp rd (.pointer (some a)) (.fp u cs)
theorem Rp.mono {rd rd' : Addr → List Value → Prop} (h : ∀ a row, rd a row → rd' a row) {v : Value} {x : PV} (r : Rp rd v x) : Rp rd' v x := by
  induction r with
  | «at» h => exact .at h
  | nil => exact .nil
  | sl0 h0 => exact .sl0 h0
  | sl h0 h1 h2 h3 _ ih => exact .sl h0 h1 (h _ _ h2) h3 ih
  | fp h0 h2 h3 _ ih => exact .fp h0 (h _ _ h2) h3 ih
/-- An empty slice that has no room. -/
def exN (v : Value) : Prop := v = .slice none 0 0 ∨ ∃ a : Addr, v = .slice (some a) 0 0 ∧ (a.spot = none ∨ a.spot = some 0)
inductive Vr (rd : Addr → List Value → Prop) (ids : Pa → Option Nat) : Value → VV → Prop
  | p {v : Value} {x : PV} : Rp rd v x → Vr rd ids v (.p x)
  | xs {v : Value} : exN v → Vr rd ids v .xs
  | osN {v : Value} {u : Nat} {a : Pa} : ids a = none → exN v → Vr rd ids v (.os u a 0)
  | os {u : Nat} {a : Pa} {k t : Nat} (n : Nat) : ids a = some k → (t = 0 ∨ t = u) → Vr rd ids (.slice (some ⟨k, 0, some t⟩) n n) (.os u a n)
  | ob {u : Nat} {a : Pa} {k t : Nat} (off : Nat) {n c : Nat} : ids a = some k → (t = 0 ∨ t = u) → n ≤ c → Vr rd ids (.slice (some ⟨k, off, some t⟩) n c) (.ob u a off n c)
  | op {u : Nat} {a : Pa} {k t : Nat} (off : Nat) : ids a = some k → (t = 0 ∨ t = u) → Vr rd ids (.pointer (some ⟨k, off, some t⟩)) (.op u a off)
  | om {a : Pa} {k : Nat} : ids a = some k → Vr rd ids (.map (some k)) (.om a)
  | oi {a : Pa} {k t : Nat} : ids a = some k → Vr rd ids (.pointer (some ⟨k, 0, some t⟩)) (.oi a)
  | clos (f : Nat) {xs ys : List Value} {xs' ys' : List VV} : xs.length = xs'.length → (∀ (i : Nat) x y, xs[i]? = some x → xs'[i]? = some y → Vr rd ids x y) →
      ys.length = ys'.length → (∀ (i : Nat) x y, ys[i]? = some x → ys'[i]? = some y → Vr rd ids x y) → Vr rd ids (.func (.func f) xs.toArray ys.toArray) (.clos f xs' ys')
  | agg {xs : List Value} {ys : List VV} : xs.length = ys.length → (∀ (i : Nat) x y, xs[i]? = some x → ys[i]? = some y → Vr rd ids x y) → Vr rd ids (.agg xs.toArray) (.agg ys)
  | tup {xs : List Value} {ys : List VV} : xs.length = ys.length → (∀ (i : Nat) x y, xs[i]? = some x → ys[i]? = some y → Vr rd ids x y) → Vr rd ids (.tuple xs.toArray) (.tup ys)
  | yl (l : Nat) : Vr rd ids (.func (.yield l) #[] #[]) (.yl l)
  | skip : Vr rd ids skipV .skip
  | dead (v : Value) : Vr rd ids v .dead
theorem Vr.mono {rd rd' : Addr → List Value → Prop} {ids ids' : Pa → Option Nat} (h : ∀ a row, rd a row → rd' a row) {v : Value} {x : VV} (r : Vr rd ids v x) :
    (∀ a, a ∈ nm x → ids' a = ids a) → Vr rd' ids' v x := by
  induction r with
  | p r => exact fun _ => .p (r.mono h)
  | xs e => exact fun _ => .xs e
  | osN e h0 => exact fun hi => .osN (by rw [hi _ (by simp [nm])]; exact e) h0
  | os n e t => exact fun hi => .os n (by rw [hi _ (by simp [nm])]; exact e) t
  | ob off e t hc => exact fun hi => .ob off (by rw [hi _ (by simp [nm])]; exact e) t hc
  | op off e t => exact fun hi => .op off (by rw [hi _ (by simp [nm])]; exact e) t
  | om e => exact fun hi => .om (by rw [hi _ (by simp [nm])]; exact e)
  | oi e => exact fun hi => .oi (by rw [hi _ (by simp [nm])]; exact e)
  | clos f h1 _ h2 _ i1 i2 =>
    exact fun hi => .clos f h1 (fun i x y hx hy => i1 i x y hx hy fun a ha => hi a (by simp only [nm, List.mem_append]; exact .inl (nm_mem ha (List.mem_of_getElem? hy))))
      h2 (fun i x y hx hy => i2 i x y hx hy fun a ha => hi a (by simp only [nm, List.mem_append]; exact .inr (nm_mem ha (List.mem_of_getElem? hy))))
  | agg h1 _ i1 => exact fun hi => .agg h1 (fun i x y hx hy => i1 i x y hx hy fun a ha => hi a (by simp only [nm]; exact nm_mem ha (List.mem_of_getElem? hy)))
  | tup h1 _ i1 => exact fun hi => .tup h1 (fun i x y hx hy => i1 i x y hx hy fun a ha => hi a (by simp only [nm]; exact nm_mem ha (List.mem_of_getElem? hy)))
  | yl l => exact fun _ => .yl l
  | skip => exact fun _ => .skip
  | dead v => exact fun _ => .dead v

/-- A named block and its row. -/
def BlkR (rd : Addr → List Value → Prop) (ids : Pa → Option Nat) (h : AHeap) : Option Nat → VB → Prop
  | none, .cells cs => cs = []
  | some k, .cells cs => ∃ c, h.get k = some (.cells c) ∧ All2 (Vr rd ids) c cs
  | some k, .map es => ∃ c, h.get k = some (.map c) ∧ All2 (fun (e : Value × Value) (e' : Value × VV) => e.1 = e'.1 ∧ Vr rd ids e.2 e'.2) c es
  | some k, .siter s pos => h.get k = some (.siter s pos)
  | none, _ => False

/-- An item that is handed on: values, and the blocks that are lent for the round. -/
abbrev Itm := List VV × List (Pa × VB)
/-- Of a function that is ranged over: the round's number, the items that it has yet to hand on, whether it may, and whether it will be stopped at the last one. -/
structure Hi where
  k : Nat
  rest : List Itm
  live : Bool
  stops : Bool
structure VSt where
  L : PT VV
  B : PT VB
  K : List Pa
  H : Option Hi
/-- What a function is handed: the heap, the blocks that it may write, those that nobody writes, the names of the former. -/
structure Ctx where
  h0 : AHeap
  old : Nat → Prop
  T : Nat → Prop
  F : Nat → Prop
  id0 : Pa → Option Nat
  H : Option Hi
  K : List Pa

structure St (X : Ctx) (S : VSt) (s : Slots) (h : AHeap) (ids : Pa → Option Nat) (F : Nat → Prop) : Prop where
  wf : WF h
  base : h.base = X.h0.base
  next : ∀ k, X.old k → k < h.next
  keep : ∀ k, X.old k → ¬X.T k → h.get k = X.h0.get k
  frz : ∀ k, X.old k → (F k ↔ X.F k)
  flt : ∀ k, F k → k < h.next
  blk : ∀ a b, PT.get a S.B = some b → BlkR (RdF h F) ids h (ids a) b
  own : ∀ a b k, PT.get a S.B = some b → ids a = some k → ¬F k ∧ (¬X.old k ∨ X.T k ∧ a ∈ S.K)
  inj : ∀ a a' b b' k, PT.get a S.B = some b → PT.get a' S.B = some b' → ids a = some k → ids a' = some k → a = a'
  slots : ∀ p x, PT.get p S.L = some x → Vr (RdF h F) ids (getS p s) x
  stab : ∀ a, a ∈ S.K → ids a = X.id0 a
  hist : X.H = S.H ∧ X.K = S.K
  nx : X.h0.next ≤ h.next
end Go.Ab

/- The second evaluator's states: what may be done to them. -/
namespace Go.Ab

def updI (ids : Pa → Option Nat) (a : Pa) (o : Option Nat) : Pa → Option Nat := fun b => if b = a then o else ids b
theorem updI_same (ids : Pa → Option Nat) (a : Pa) (o : Option Nat) : updI ids a o a = o := by simp [updI]
theorem updI_ne (ids : Pa → Option Nat) {a b : Pa} (o : Option Nat) (h : b ≠ a) : updI ids a o b = ids b := by simp [updI, h]

section
variable {X : Ctx} {S : VSt} {s : Slots} {h : AHeap} {ids : Pa → Option Nat} {F : Nat → Prop}
def VSt.put : VSt → Option Pa → VV → VSt
  | S, none, _ => S
  | ⟨L, B, K, H⟩, some p, x => ⟨PT.set p L (some x), B, K, H⟩
theorem St.put (t : St X S s h ids F) {v : Value} {x : VV} (r : Vr (RdF h F) ids v x) (d : Option Pa) : St X (S.put d x) (setO d s v fun s => s) h ids F := by
  cases d with
  | none => exact t
  | some p =>
    refine ⟨t.wf, t.base, t.next, t.keep, t.frz, t.flt, t.blk, t.own, t.inj, fun q y hq => ?_, t.stab, t.hist, t.nx⟩
    have hq : PT.get q (PT.set p S.L (some x)) = some y := hq
    rw [PT.get_set] at hq
    rw [setO_some, getS_setS]
    split at hq
    · rename_i e; rw [if_pos e]; cases hq; exact r
    · rename_i e; rw [if_neg e]; exact t.slots q y hq

structure VLe (S' S : VSt) : Prop where
  l : PT.Le S'.L S.L
  b : PT.Le S'.B S.B
  k : S'.K = S.K
  h : S'.H = S.H
theorem St.weak (t : St X S s h ids F) {S' : VSt} (hl : VLe S' S) : St X S' s h ids F :=
  ⟨t.wf, t.base, t.next, t.keep, t.frz, t.flt, fun a b hb => t.blk a b (hl.b.get hb), fun a b k hb hk => by rw [hl.k]; exact t.own a b k (hl.b.get hb) hk,
    fun a a' b b' k hb hb' => t.inj a a' b b' k (hl.b.get hb) (hl.b.get hb'), fun p x hx => t.slots p x (hl.l.get hx), fun a ha => t.stab a (by rw [← hl.k]; exact ha), ⟨t.hist.1.trans hl.h.symm, t.hist.2.trans hl.k.symm⟩, t.nx⟩
def VSt.kill (S : VSt) : List Pa → VSt
  | [] => S
  | p :: r => VSt.kill ⟨PT.set p S.L none, S.B, S.K, S.H⟩ r
theorem St.kill : ∀ (l : List Pa) {S : VSt} {s : Slots}, St X S s h ids F → St X (S.kill l) (killL s l) h ids F
  | [], _, _, t => t
  | p :: r, S, s, t => by
    refine St.kill r (S := ⟨PT.set p S.L none, S.B, S.K, S.H⟩) ⟨t.wf, t.base, t.next, t.keep, t.frz, t.flt, t.blk, t.own, t.inj, fun q y hq => ?_, t.stab, t.hist, t.nx⟩
    have hq : PT.get q (PT.set p S.L none) = some y := hq
    rw [PT.get_set] at hq
    rw [getS_setS]
    split at hq
    · cases hq
    · rename_i e; rw [if_neg e]; exact t.slots q y hq
theorem St.slot (t : St X S s h ids F) (p : Pa) : Vr (RdF h F) ids (getS p s) ((PT.get p S.L).getD .dead) := by
  cases hp : PT.get p S.L with
  | none => exact .dead _
  | some x => exact t.slots p x hp

theorem BlkR.mono {rd rd' : Addr → List Value → Prop} {ids' : Pa → Option Nat} {h' : AHeap} (hr : ∀ a row, rd a row → rd' a row) {o : Option Nat} {b : VB} (r : BlkR rd ids h o b)
    (hi : ∀ a, a ∈ nmB b → ids' a = ids a) (hh : ∀ k, o = some k → h'.get k = h.get k) : BlkR rd' ids' h' o b := by
  cases o with
  | none => cases b <;> exact r
  | some k =>
    have hk := hh k rfl
    cases b with
    | cells cs =>
      obtain ⟨c, h1, h2⟩ := r
      exact ⟨c, by rw [hk]; exact h1, h2.mono fun x y hy r => r.mono hr fun a ha => hi a (nm_mem ha hy)⟩
    | map es =>
      obtain ⟨c, h1, h2⟩ := r
      exact ⟨c, by rw [hk]; exact h1, h2.mono fun x y hy r => ⟨r.1, r.2.mono hr fun a ha => hi a (nmE_mem ha hy)⟩⟩
    | siter s pos => exact hk.trans r
theorem BlkR.get {rd : Addr → List Value → Prop} {k : Nat} {b : VB} (r : BlkR rd ids h (some k) b) : ∃ o, h.get k = some o := by
  cases b with
  | cells cs => obtain ⟨c, h1, _⟩ := r; exact ⟨_, h1⟩
  | map es => obtain ⟨c, h1, _⟩ := r; exact ⟨_, h1⟩
  | siter s pos => exact ⟨_, r⟩
theorem St.lt (t : St X S s h ids F) {a : Pa} {b : VB} {k : Nat} (hb : PT.get a S.B = some b) (hk : ids a = some k) : k < h.next := by
  have r := t.blk a b hb
  rw [hk] at r
  obtain ⟨o, ho⟩ := r.get
  exact t.wf k o ho
theorem RdF.mono {h h' : AHeap} {F F' : Nat → Prop} (hb : h'.base = h.base) (hF : ∀ k, F k → F' k ∧ h'.get k = h.get k) {a : Addr} {row : List Value} (r : RdF h F a row) : RdF h' F' a row := by
  unfold RdF at *
  split
  · rename_i e; rw [e] at r; rw [hb]; exact r
  · rename_i u e
    rw [e] at r
    exact ⟨(hF _ r.1).1, by rw [(hF _ r.1).2]; exact r.2⟩

def noref (a : Pa) (x : VV) : Bool := nos a (nm x)
def norefB (a : Pa) (b : VB) : Bool := nos a (nmB b)
/-- What bears the name is lost. -/
def deadV (a : Pa) (x : VV) : VV := bif noref a x then x else .dead
def deadB (a : Pa) (b : VB) : VB := bif norefB a b then b else match b with
  | .cells cs => .cells (cs.map (deadV a))
  | .map es => .map (es.map fun e => (e.1, deadV a e.2))
  | b => b
theorem deadV_r {rd rd' : Addr → List Value → Prop} {ids' : Pa → Option Nat} {a : Pa} {v : Value} {x : VV} (hr : ∀ a row, rd a row → rd' a row) (hi : ∀ c, c ≠ a → ids' c = ids c) (r : Vr rd ids v x) : Vr rd' ids' v (deadV a x) := by
  unfold deadV
  cases hn : noref a x with
  | true => exact r.mono hr fun c hc => hi c fun e => nos_spec hn (by rw [← e]; exact hc)
  | false => exact .dead _
theorem BlkR.deadM {rd rd' : Addr → List Value → Prop} {ids' : Pa → Option Nat} {h' : AHeap} {a : Pa} {o : Option Nat} {b : VB} (r : BlkR rd ids h o b) (hr : ∀ a row, rd a row → rd' a row) (hi : ∀ c, c ≠ a → ids' c = ids c)
    (hh : ∀ k, o = some k → h'.get k = h.get k) : BlkR rd' ids' h' o (deadB a b) := by
  unfold deadB
  cases hn : norefB a b with
  | true => exact r.mono hr (fun c hc => hi c fun e => nos_spec hn (by rw [← e]; exact hc)) hh
  | false =>
    cases o with
    | none => cases b with
      | cells cs =>
        have r : cs = [] := r
        subst r; rfl
      | map es => exact r
      | siter s pos => exact r
    | some k =>
      have hk := hh k rfl
      cases b with
      | cells cs =>
        obtain ⟨c, h1, h2⟩ := r
        refine ⟨c, by rw [hk]; exact h1, by rw [List.length_map]; exact h2.1, fun i x y hx hy => ?_⟩
        rw [List.getElem?_map] at hy
        cases hc : cs[i]? with
        | none => rw [hc] at hy; cases hy
        | some z => rw [hc] at hy; cases hy; exact deadV_r hr hi (h2.2 i x z hx hc)
      | map es =>
        obtain ⟨c, h1, h2⟩ := r
        refine ⟨c, by rw [hk]; exact h1, by rw [List.length_map]; exact h2.1, fun i x y hx hy => ?_⟩
        rw [List.getElem?_map] at hy
        cases hc : es[i]? with
        | none => rw [hc] at hy; cases hy
        | some z =>
          rw [hc] at hy; cases hy
          have := h2.2 i x z hx hc
          exact ⟨this.1, deadV_r hr hi this.2⟩
      | siter s pos => exact hk.trans r
def VSt.alloc : VSt → Pa → VB → VSt
  | ⟨L, B, K, H⟩, a, b => ⟨PT.filt (noref a) L, PT.set a (PT.map (deadB a) B) (some b), K, H⟩

/-- A name for a new block; the name's old block, if it has one, may be given up. -/
theorem St.reid (t : St X S s h ids F) {a : Pa} {h' : AHeap} {D : Option Nat} (hK : a ∉ S.K) (hD : ∀ m, D = some m → ids a = some m ∧ ∃ b, PT.get a S.B = some b) (hwf : WF h') (hb : h'.base = h.base)
    (hn : h'.next = h.next + 1) (hold : ∀ m, m < h.next → D ≠ some m → h'.get m = h.get m) {b : VB}
    (hblk : (∀ a row, RdF h F a row → RdF h' F a row) → BlkR (RdF h' F) (updI ids a (some h.next)) h' (some h.next) b) : St X (S.alloc a b) s h' (updI ids a (some h.next)) F := by
  have hDF : ∀ k, F k → D ≠ some k := fun k hk e => by
    obtain ⟨e1, b, hb⟩ := hD k e
    exact (t.own a b k hb e1).1 hk
  have hrd : ∀ a row, RdF h F a row → RdF h' F a row := fun a row r => RdF.mono hb (fun k hk => ⟨hk, hold k (t.flt k hk) (hDF k hk)⟩) r
  have hB : ∀ {a' b'}, a' ≠ a → PT.get a' (S.alloc a b).B = some b' → ∃ b0, PT.get a' S.B = some b0 ∧ b' = deadB a b0 := by
    intro a' b' hne hg
    have hg : PT.get a' (PT.set a (PT.map (deadB a) S.B) (some b)) = some b' := hg
    rw [PT.get_set, if_neg hne] at hg
    exact PT.get_map hg
  have hBa : PT.get a (S.alloc a b).B = some b := by
    show PT.get a (PT.set a (PT.map (deadB a) S.B) (some b)) = some b
    rw [PT.get_set, if_pos rfl]
  have hDne : ∀ {a' b' k}, a' ≠ a → PT.get a' S.B = some b' → ids a' = some k → D ≠ some k := by
    intro a' b' k hne hg hk e
    obtain ⟨e1, b1, hb1⟩ := hD k e
    exact hne (t.inj a' a b' b1 k hg hb1 hk e1)
  refine ⟨hwf, hb.trans t.base, fun k hk => by have := t.next k hk; omega, fun k hk hT => ?_, t.frz, fun k hk => by have := t.flt k hk; omega, ?_, ?_, ?_, ?_, ?_, t.hist, by have := t.nx; omega⟩
  · rw [hold k (t.next k hk) (fun e => by
      obtain ⟨e1, b1, hb1⟩ := hD k e
      rcases (t.own a b1 k hb1 e1).2 with h1 | h1
      · exact h1 hk
      · exact hT h1.1)]
    exact t.keep k hk hT
  · intro a' b' hg
    by_cases e : a' = a
    · subst e
      rw [hBa] at hg; cases hg
      rw [updI_same]; exact hblk hrd
    · obtain ⟨b0, h1, rfl⟩ := hB e hg
      rw [updI_ne _ _ e]
      exact (t.blk a' b0 h1).deadM hrd (fun c hc => updI_ne _ _ hc) (fun k hk => hold k (t.lt h1 hk) (hDne e h1 hk))
  · intro a' b' k hg hk
    by_cases e : a' = a
    · subst e
      rw [updI_same] at hk; cases hk
      exact ⟨fun hF => by have := t.flt _ hF; omega, .inl fun ho => by have := t.next _ ho; omega⟩
    · rw [updI_ne _ _ e] at hk
      obtain ⟨b0, h1, _⟩ := hB e hg
      exact t.own a' b0 k h1 hk
  · intro a1 a2 b1 b2 k h1 h2 e1 e2
    by_cases i1 : a1 = a
    · by_cases i2 : a2 = a
      · rw [i1, i2]
      · rw [i1, updI_same] at e1; cases e1
        rw [updI_ne _ _ i2] at e2
        obtain ⟨c2, h2, _⟩ := hB i2 h2
        have := t.lt h2 e2
        omega
    · rw [updI_ne _ _ i1] at e1
      by_cases i2 : a2 = a
      · rw [i2, updI_same] at e2; cases e2
        obtain ⟨c1, h1, _⟩ := hB i1 h1
        have := t.lt h1 e1
        omega
      · rw [updI_ne _ _ i2] at e2
        obtain ⟨c1, h1, _⟩ := hB i1 h1
        obtain ⟨c2, h2, _⟩ := hB i2 h2
        exact t.inj a1 a2 c1 c2 k h1 h2 e1 e2
  · intro p x hx
    obtain ⟨h1, h2⟩ := PT.get_filt hx
    exact (t.slots p x h1).mono hrd fun c hc => updI_ne _ _ fun e => nos_spec h2 (by rw [← e]; exact hc)
  · intro c hc
    rw [updI_ne _ _ (fun e => hK (by rw [← e]; exact hc))]
    exact t.stab c hc

/-- A new block. -/
theorem St.alloc (t : St X S s h ids F) {a : Pa} (hK : a ∉ S.K) {o : AObj} {b : VB} (hn : a ∉ nmB b) (hblk : BlkR (RdF h F) ids (h.add false o) (some h.next) b) : St X (S.alloc a b) s (h.add false o) (updI ids a (some h.next)) F := by
  refine t.reid (D := none) hK (fun m e => by cases e) (t.wf.add false o) (AHeap.base_add false h o) (AHeap.next_add false h o) (fun m hm _ => ?_) (fun hrd => ?_)
  · rw [AHeap.get_add, if_neg (by omega)]
  · exact hblk.mono hrd (fun c hc => updI_ne _ _ fun e => hn (by rw [← e]; exact hc)) (fun k _ => rfl)

/-- A block of one's own is written. -/
theorem St.putB (t : St X S s h ids F) {a : Pa} {b b' : VB} {k : Nat} (hb : PT.get a S.B = some b) (hk : ids a = some k) {o : AObj}
    (hblk : BlkR (RdF h F) ids (h.put false k o) (some k) b') : St X ⟨S.L, PT.set a S.B (some b'), S.K, S.H⟩ s (h.put false k o) ids F := by
  obtain ⟨o0, ho0⟩ : ∃ o0, h.get k = some o0 := by have r := t.blk a b hb; rw [hk] at r; exact r.get
  have hkF := (t.own a b k hb hk).1
  have hold : ∀ m, m ≠ k → (h.put false k o).get m = h.get m := fun m hm => by rw [AHeap.get_put, if_neg hm]
  have hrd : ∀ a row, RdF h F a row → RdF (h.put false k o) F a row := fun a row r => RdF.mono (AHeap.base_put false h k o) (fun m hm => ⟨hm, hold m fun e => hkF (by rw [← e]; exact hm)⟩) r
  have hB : ∀ {a' b''}, PT.get a' (PT.set a S.B (some b')) = some b'' → (a' = a ∧ b'' = b') ∨ (a' ≠ a ∧ PT.get a' S.B = some b'') := by
    intro a' b'' hg
    rw [PT.get_set] at hg
    split at hg
    · rename_i e; cases hg; exact .inl ⟨e, rfl⟩
    · rename_i e; exact .inr ⟨e, hg⟩
  have hB' : ∀ {a' b''}, PT.get a' (PT.set a S.B (some b')) = some b'' → ∃ b0, PT.get a' S.B = some b0 := by
    intro a' b'' hg
    rcases hB hg with ⟨rfl, _⟩ | ⟨_, h1⟩
    · exact ⟨b, hb⟩
    · exact ⟨b'', h1⟩
  refine ⟨t.wf.put false ho0, (AHeap.base_put false h k o).trans t.base, by rw [AHeap.next_put]; exact t.next, fun m hm hT => ?_, t.frz, fun m hm => by rw [AHeap.next_put]; exact t.flt m hm, ?_, ?_, ?_, ?_, t.stab, t.hist, t.nx⟩
  · rw [hold m (fun e => by
      rcases (t.own a b k hb hk).2 with h1 | h1
      · exact h1 (by rw [← e]; exact hm)
      · exact hT (by rw [e]; exact h1.1))]
    exact t.keep m hm hT
  · intro a' b'' hg
    rcases hB hg with ⟨rfl, rfl⟩ | ⟨hne, h1⟩
    · rw [hk]; exact hblk.mono hrd (fun _ _ => rfl) (fun _ _ => rfl)
    · exact (t.blk a' b'' h1).mono hrd (fun _ _ => rfl) (fun m hm => hold m fun e => hne (t.inj a' a b'' b k h1 hb (by rw [hm, e]) hk))
  · intro a' b'' m hg hm
    obtain ⟨b0, h0⟩ := hB' hg
    exact t.own a' b0 m h0 hm
  · intro a1 a2 b1 b2 m h1 h2 e1 e2
    obtain ⟨c1, g1⟩ := hB' h1
    obtain ⟨c2, g2⟩ := hB' h2
    exact t.inj a1 a2 c1 c2 m g1 g2 e1 e2
  · intro p x hx
    exact (t.slots p x hx).mono hrd fun _ _ => rfl
end
end Go.Ab

/- The second evaluator's operations: definitions. -/
namespace Go.Ab

def vi (n : Int) : VV := .p (.at (.int .i64 n))
def vb (b : Bool) : VV := .p (.at (.bool b))
def ofAtom (v : Value) : VV := bif atomB v then .p (.at v) else .dead
def ofVal : Value → VV
  | .agg cs => .agg (cs.toList.map ofAtom)
  | .func (.func f) ⟨[]⟩ ⟨[]⟩ => .clos f [] []
  | v => ofAtom v
def evV (S : VSt) : Opd → VV
  | .t p => (PT.get p S.L).getD .dead
  | .c v => ofVal v
def cellsV : VV → Option (List VV)
  | .agg cs => some cs
  | .tup _ => none
  | .skip => none
  | .dead => none
  | x => some [x]
def okV : VV → Bool
  | .agg _ => false
  | .tup _ => false
  | .skip => false
  | .dead => false
  | _ => true
def atV : VV → Option Value
  | .p (.at v) => some v
  | _ => none
def atL : List VV → Option (List Value)
  | [] => some []
  | x :: r => match atV x, atL r with
    | some v, some l => some (v :: l)
    | _, _ => none
def toVal : VV → Option Value
  | .agg cs => match atL cs with
    | some l => some (.agg l.toArray)
    | none => none
  | x => atV x
def partV (n : Option Nat) (cs : List VV) (off : Nat) : Option VV :=
  match n with
  | some n => if off + n ≤ cs.length then some (.agg ((cs.drop off).take n)) else none
  | none => cs[off]?
def putC (cs : List VV) (off : Nat) (ys : List VV) : List VV := cs.take off ++ (ys ++ cs.drop (off + ys.length))
def repsV (z : List VV) : Nat → List VV
  | 0 => []
  | n + 1 => z ++ repsV z n
def fillV (cells : List VV) : List (Nat × Nat × VV) → Option (List VV)
  | [] => some cells
  | (off, size, x) :: rest => match cellsV x with
    | some cs => if cs.length = size ∧ off + size ≤ cells.length then fillV (cells.take off ++ (cs ++ cells.drop (off + size))) rest else none
    | none => none
def ret1V (S : VSt) : Option Value → Option (VV × VSt)
  | some v => some (.p (.at v), S)
  | none => none
def ret1X (S : VSt) : Option VV → Option (VV × VSt)
  | some v => some (v, S)
  | none => none
def free (S : VSt) (d : Pa) : Bool := nos d S.K
def newV (S : VSt) (d : Option Pa) (cs : List VV) (r : Pa → VV) : Option (VV × VSt) := match d with
  | some d => bif free S d && nos d (nmL cs) then some (r d, S.alloc d (.cells cs)) else none
  | none => none
/-- Is it nil? -/
def nilS : VV → Option Bool
  | .p (.at (.slice none _ _)) => some true
  | .p (.sl _ n _) => if n ≠ 0 then some false else none
  | .os _ _ n => if n ≠ 0 then some false else none
  | .ob .. => some false
  | _ => none
def nilP : VV → Option Bool
  | .p (.at (.pointer none)) => some true
  | .p (.fp _ _) => some false
  | .op .. => some false
  | _ => none
def nilF : VV → Option Bool
  | .p (.at .nilFunc) => some true
  | .clos .. => some false
  | _ => none
def eqV (k : EqK) (x y : VV) : Option Bool := match k with
  | .cells _ => match toVal x, toVal y with
    | some a, some b => eqA k a b
    | _, _ => none
  | .bool => match toVal x, toVal y with
    | some a, some b => eqA k a b
    | _, _ => none
  | .slice => match nilS x, nilS y with
    | some true, some b => some b
    | some false, some true => some false
    | _, _ => none
  | .ptr => match nilP x, nilP y with
    | some true, some b => some b
    | some false, some true => some false
    | _, _ => none
  | .func => match nilF x, nilF y with
    | some false, some true => some false
    | _, _ => none
def atI : VV → Option Int
  | .p (.at (.int _ i)) => some i
  | _ => none
def bndV (x : Option VV) (dflt y : Nat) : Option Nat :=
  match x with
  | none => some dflt
  | some x => match atI x with
    | some i => if 0 ≤ i ∧ i ≤ y then some i.toNat else none
    | none => none
def bndsV (len cap : Nat) (lo hi mx : Option VV) : Option (Nat × Nat × Nat) :=
  match bndV mx cap cap with
  | some m => match (if mx.isSome && hi.isNone then none else bndV hi len m) with
    | some h => match bndV lo 0 h with
      | some l => some (l, h, m)
      | none => none
    | none => none
  | none => none
/-- The elements of a slice or string: their number, the cells. -/
def elsV (S : VSt) (size : Nat) : VV → Option (Nat × List VV)
  | .p (.at (.slice none 0 0)) => some (0, [])
  | .p (.at (.string s)) => if size = 1 then some (s.size, s.data.toList.map fun b => .p (.at (.int .u8 b.toNat))) else none
  | .xs => some (0, [])
  | .p (.sl _ n cs) => if cs.length = n * size then some (n, cs.map .p) else none
  | .os _ a n => match PT.get a S.B with
    | some (.cells cs) => if cs.length = n * size then some (n, cs) else none
    | _ => none
  | .ob _ a off n _ => match PT.get a S.B with
    | some (.cells cs) => if off + n * size ≤ cs.length then some (n, (cs.drop off).take (n * size)) else none
    | _ => none
  | _ => none
def findV (ts : List CK) (k : Value) : List (Value × VV) → Option (Option VV)
  | [] => some none
  | (k', v) :: r => match keyEq ts k k' with
    | some true => some (some v)
    | some false => findV ts k r
    | none => none
def setE2 (ts : List CK) (k : Value) (v : VV) : List (Value × VV) → List (Value × VV)
  | [] => [(k, v)]
  | (k', v') :: r => match keyEq ts k k' with
    | some true => (k, v) :: r
    | _ => (k', v') :: setE2 ts k v r

def v_slsl (S : VSt) (size : Nat) (x : VV) (lo hi mx : Option VV) : Option VV := match x with
  | .p (.at (.slice none 0 0)) => match bndsV 0 0 lo hi mx with
    | some _ => some (.p (.at (.slice none 0 0)))
    | none => none
  | .p (.sl u n cs) => match bndsV n n lo hi mx with
    | some (l, h, m) => if u = size ∧ cs.length = n * size then some (if l = m ∧ mx.isSome = true then .xs else .p (.sl u (h - l) ((cs.drop (l * size)).take ((h - l) * size)))) else none
    | none => none
  | .os u a n => match bndsV n n lo hi mx with
    | some (l, h, m) => if u = size ∧ n ≠ 0 then some (.ob u a (l * size) (h - l) (m - l)) else none
    | none => none
  | .ob u a off n c => match bndsV n c lo hi mx with
    | some (l, h, m) => if u = size then some (.ob u a (off + l * size) (h - l) (m - l)) else none
    | none => none
  | _ => none
def v_slarr (n size : Nat) (x : VV) (lo hi mx : Option VV) : Option VV := match x with
  | .op u a off => match bndsV n n lo hi mx with
    | some (l, h, m) => if u = 0 ∨ u = size then some (.ob size a (off + l * size) (h - l) (m - l)) else none
    | none => none
  | .p (.fp u cs) => match bndsV n n lo hi mx with
    | some (l, h, _) => if (u = 0 ∨ u = size) ∧ n * size ≤ cs.length then some (.p (.sl size (h - l) ((cs.drop (l * size)).take ((h - l) * size)))) else none
    | none => none
  | _ => none
def v_ld (S : VSt) (n : Option Nat) (a : VV) : Option VV := match a with
  | .op _ a off => match PT.get a S.B with
    | some (.cells cs) => partV n cs off
    | _ => none
  | .p (.fp _ cs) => partV n (cs.map .p) 0
  | _ => none
def v_st (S : VSt) (n : Nat) (a x : VV) : Option (VV × VSt) := match a, cellsV x with
  | .op _ a off, some ys => match PT.get a S.B with
    | some (.cells cs) => if ys.length = n ∧ off + n ≤ cs.length ∧ ys.all okV = true then some (.dead, ⟨S.L, PT.set a S.B (some (.cells (putC cs off ys))), S.K, S.H⟩) else none
    | _ => none
  | _, _ => none
def v_ias (size : Nat) (x : VV) (i : VV) : Option VV := match atI i with
  | some i => match x with
    | .os u a n => if 0 ≤ i ∧ i < n then some (.op u a (i.toNat * size)) else none
    | .ob u a off n _ => if 0 ≤ i ∧ i < n then some (.op u a (off + i.toNat * size)) else none
    | .p (.sl u n cs) => if 0 ≤ i ∧ i < n ∧ i.toNat * size ≤ cs.length then some (.p (.fp u (cs.drop (i.toNat * size)))) else none
    | _ => none
  | none => none
def v_iad (len size : Nat) (x : VV) (i : VV) : Option VV := match atI i with
  | some i => match x with
    | .op u a off => if 0 ≤ i ∧ i < len then some (.op u a (off + i.toNat * size)) else none
    | .p (.fp u cs) => if 0 ≤ i ∧ i < len ∧ i.toNat * size ≤ cs.length then some (.p (.fp u (cs.drop (i.toNat * size)))) else none
    | _ => none
  | none => none
def v_fad (off : Nat) (x : VV) : Option VV := match x with
  | .op u a o => some (.op u a (o + off))
  | .p (.fp u cs) => if off ≤ cs.length then some (.p (.fp u (cs.drop off))) else none
  | _ => none
def v_app (S : VSt) (size : Nat) (d : Option Pa) (s x : VV) : Option (VV × VSt) := match elsV S size x with
  | some (m, ys) => if size ≠ 0 ∧ size ≤ 4096 ∧ ys.all okV = true ∧ ys.length = m * size then match s with
    | .p (.at (.slice none 0 0)) => if m ≤ 2147483648 then newV S d ys (fun d => .os size d m) else none
    | .xs => if m ≤ 2147483648 then newV S d ys (fun d => .os size d m) else none
    | .os u a n => match PT.get a S.B with
      | some (.cells cs) => if u = size ∧ n + m ≤ 2147483648 ∧ cs.length = n * size ∧ (free S a && nos a (nmL cs) && nos a (nmL ys)) = true then some (.os u a (n + m), S.alloc a (.cells (cs ++ ys))) else none
      | _ => none
    | .ob u a off n c => match PT.get a S.B with
      | some (.cells cs) => if c < n + m then (if u = size ∧ n = c ∧ m ≠ 0 ∧ n + m ≤ 2147483648 ∧ off + n * size ≤ cs.length ∧ (free S a && nos a (nmL cs) && nos a (nmL ys)) = true then some (.os u a (n + m), S.alloc a (.cells ((cs.drop off).take (n * size) ++ ys))) else none)
        else if m = 0 then (if n ≤ 2147483648 then some (.ob u a off n c, S) else none) else (if u = size ∧ m ≠ 0 ∧ n + m ≤ 2147483648 ∧ off + n * size + m * size ≤ cs.length then some (.ob u a off (n + m) c, ⟨S.L, PT.set a S.B (some (.cells (putC cs (off + n * size) ys))), S.K, S.H⟩) else none)
      | _ => none
    | _ => none
    else none
  | none => none
def v_cpy (S : VSt) (size : Nat) (d s : VV) : Option (VV × VSt) := match d, elsV S size s with
  | .ob _ a off n _, some (m, ys) => match PT.get a S.B with
    | some (.cells cs) => if size ≠ 0 ∧ (ys.take (Nat.min m n * size)).all okV = true ∧ off + Nat.min m n * size ≤ cs.length then
        some (vi (Nat.min m n : Nat), ⟨S.L, PT.set a S.B (some (.cells (putC cs off (ys.take (Nat.min m n * size))))), S.K, S.H⟩) else none
    | _ => none
  | _, _ => none
def v_clr (S : VSt) (z : List VV) (x : VV) : Option (VV × VSt) := match x with
  | .p (.at (.slice none _ _)) => some (.dead, S)
  | .xs => some (.dead, S)
  | .ob _ a off n _ => match PT.get a S.B with
    | some (.cells cs) => if n ≠ 0 ∧ off + (repsV z n).length ≤ cs.length ∧ (repsV z n).all okV = true then some (.dead, ⟨S.L, PT.set a S.B (some (.cells (putC cs off (repsV z n)))), S.K, S.H⟩) else none
    | _ => none
  | _ => none
def v_len (S : VSt) (k : Nat) (x : VV) : Option Value := match k with
  | 0 => match x with
    | .p (.at (.string s)) => some (goInt s.size)
    | _ => none
  | 1 => match x with
    | .p (.at (.slice none n _)) => some (goInt n)
    | .p (.sl _ n _) => some (goInt n)
    | .os _ _ n => some (goInt n)
    | .ob _ _ _ n _ => some (goInt n)
    | .xs => some (goInt 0)
    | _ => none
  | 2 => match x with
    | .om a => match PT.get a S.B with
      | some (.map es) => some (goInt es.length)
      | _ => none
    | _ => none
  | _ => none
def v_look (S : VSt) (ok : Bool) (ts : List CK) (z : Value) (m k : VV) : Option VV := match m, toVal k with
  | .om a, some kv => match PT.get a S.B with
    | some (.map es) => if (keyEq ts kv kv).isSome = true then match findV ts kv es with
      | some v => some (bif ok then .tup [v.getD (ofVal z), vb v.isSome] else v.getD (ofVal z))
      | none => none
      else none
    | _ => none
  | _, _ => none
def v_mset (S : VSt) (ts : List CK) (m k v : VV) : Option (VV × VSt) := match m, toVal k, cellsV v with
  | .om a, some kv, some _ => match PT.get a S.B with
    | some (.map es) => if (keyEq ts kv kv).isSome = true ∧ (findV ts kv es).isSome = true then some (.dead, ⟨S.L, PT.set a S.B (some (.map (setE2 ts kv v es))), S.K, S.H⟩) else none
    | _ => none
  | _, _, _ => none
def pEvV (S : VSt) : List (Nat × Nat × Opd) → List (Nat × Nat × VV)
  | [] => []
  | (o, n, x) :: r => (o, n, evV S x) :: pEvV S r

def vev (o : AOp) (d : Option Pa) (S : VSt) : Option (VV × VSt) := match o with
  | .mov x => some (evV S x, S)
  | .pick c x y => match evV S c with
    | .p (.at (.bool t)) => some (bif t then evV S x else evV S y, S)
    | _ => none
  | .box x => match cellsV (evV S x) with
    | some cs => newV S d cs (fun d => .op 0 d 0)
    | none => none
  | .zero z => newV S d (z.map ofAtom) (fun d => .op 0 d 0)
  | .build z ps => match fillV (z.map ofAtom) (pEvV S ps) with
    | some cs => some (.agg cs, S)
    | none => none
  | .bslice len size z ps => if z.length = size ∧ size ≠ 0 ∧ len * size ≤ 16777216 then match fillV (repsV (z.map ofAtom) len) (pEvV S ps) with
    | some cs => newV S d cs (fun d => .os size d len)
    | none => none
    else none
  | .ld n a => ret1X S (v_ld S n (evV S a))
  | .st n a x => v_st S n (evV S a) (evV S x)
  | .nilchk x => match evV S x with
    | .op u a off => some (.op u a off, S)
    | .p (.fp u cs) => some (.p (.fp u cs), S)
    | _ => none
  | .bin op x y => match atV (evV S x), atV (evV S y) with
    | some a, some b => ret1V S (bin op a b)
    | _, _ => none
  | .eqs k neg x y => match eqV k (evV S x) (evV S y) with
    | some r => some (vb (r != neg), S)
    | none => none
  | .un op x => match atV (evV S x) with
    | some a => ret1V S (un op a)
    | none => none
  | .cvt k x => match atV (evV S x) with
    | some a => ret1V S (cvt k a)
    | none => none
  | .str x => match atV (evV S x) with
    | some a => ret1V S (strA a)
    | none => none
  | .clos (.func f) first cap => some (.clos f (first.map (evV S)) (cap.map (evV S)), S)
  | .mkmap => match d with
    | some d => bif free S d then some (.om d, S.alloc d (.map [])) else none
    | none => none
  | .mks size bytes z l c => match atI (evV S l), atI (evV S c) with
    | some l, some c => if z.length = size ∧ size ≠ 0 ∧ bytes ≤ 4096 ∧ 0 ≤ l ∧ l = c ∧ c ≤ 2147483648 then newV S d (repsV (z.map ofAtom) l.toNat) (fun d => .os size d l.toNat) else none
    | _, _ => none
  | .slstr x lo hi => match atV (evV S x) with
    | some (.string s) => match bndsV s.size s.size (lo.map (evV S)) (hi.map (evV S)) none with
      | some (l, h, _) => some (.p (.at (.string (s.extract l h))), S)
      | none => none
    | _ => none
  | .slsl size x lo hi mx => ret1X S (v_slsl S size (evV S x) (lo.map (evV S)) (hi.map (evV S)) (mx.map (evV S)))
  | .slarr n size x lo hi mx => ret1X S (v_slarr n size (evV S x) (lo.map (evV S)) (hi.map (evV S)) (mx.map (evV S)))
  | .fad off x => ret1X S (v_fad off (evV S x))
  | .iad len size x i => ret1X S (v_iad len size (evV S x) (evV S i))
  | .ias size x i => ret1X S (v_ias size (evV S x) (evV S i))
  | .fld n off x => match evV S x with
    | .agg cs => ret1X S (partV n cs off)
    | _ => none
  | .idx len size n x i => match evV S x, atI (evV S i) with
    | .agg cs, some i => if 0 ≤ i ∧ i < len then ret1X S (partV n cs (i.toNat * size)) else none
    | _, _ => none
  | .idxs x i => match atV (evV S x), atV (evV S i) with
    | some a, some b => ret1V S (idxs a b)
    | _, _ => none
  | .look ok ts z m k => ret1X S (v_look S ok ts z (evV S m) (evV S k))
  | .mset ts m k v => v_mset S ts (evV S m) (evV S k) (evV S v)
  | .ext i x => match evV S x with
    | .tup vs => ret1X S vs[i]?
    | _ => none
  | .app size s x => v_app S size d (evV S s) (evV S x)
  | .cpy size d s => v_cpy S size (evV S d) (evV S s)
  | .clr z x => v_clr S (z.map ofAtom) (evV S x)
  | .len k x => ret1V S (v_len S k (evV S x))
  | .min x r => match atV (evV S x), atL (r.map (evV S)) with
    | some a, some l => ret1V S (foldV min2 a l)
    | _, _ => none
  | .max x r => match atV (evV S x), atL (r.map (evV S)) with
    | some a, some l => ret1V S (foldV max2 a l)
    | _, _ => none
  | _ => none
end Go.Ab

/- The second evaluator is sound: values, cells. -/
namespace Go.Ab.V

section
variable {rd : Addr → List Value → Prop} {ids : Pa → Option Nat} {v v' : Value} {x y : VV} {X : Ctx} {S : VSt} {s : Slots} {h : AHeap} {F : Nat → Prop}
theorem ofAtom_sound (v : Value) : Vr rd ids v (ofAtom v) := by
  unfold ofAtom
  cases hv : atomB v
  · exact .dead v
  · exact .p (.at hv)
theorem all2_map {α β : Type} {R : α → β → Prop} (f : α → β) (h : ∀ a, R a (f a)) (l : List α) : All2 R l (l.map f) :=
  ⟨by simp, fun i a b ha hb => by rw [List.getElem?_map, ha] at hb; simp at hb; rw [← hb]; exact h a⟩
theorem ofVal_sound (v : Value) : Vr rd ids v (ofVal v) := by
  unfold ofVal
  split
  · rename_i cs
    have r := all2_map (R := Vr rd ids) ofAtom ofAtom_sound cs.toList
    exact (Vr.agg r.1 r.2 : Vr rd ids (.agg cs.toList.toArray) _)
  · exact Vr.clos _ (xs := []) (ys := []) rfl (fun i x y h => by simp at h) rfl (fun i x y h => by simp at h)
  · exact ofAtom_sound _
theorem evV_sound (t : St X S s h ids F) (x : Opd) : Vr (RdF h F) ids (evA s x) (evV S x) := by
  cases x with
  | t p => exact t.slot p
  | c v => exact ofVal_sound v
theorem evV_list (t : St X S s h ids F) (l : List Opd) : All2 (Vr (RdF h F) ids) (l.map (evA s)) (l.map (evV S)) :=
  ⟨by simp, fun i a b ha hb => by
    rw [List.getElem?_map] at ha hb
    cases hl : l[i]? with
    | none => rw [hl] at ha; cases ha
    | some o => rw [hl] at ha hb; simp at ha hb; subst ha hb; exact evV_sound t o⟩
theorem atV_sound (r : Vr rd ids v x) {w : Value} (h : atV x = some w) : v = w ∧ atomB w = true := by
  cases r with
  | p r =>
    cases r with
    | «at» ha => simp only [atV, Option.some.injEq] at h; subst h; exact ⟨rfl, ha⟩
    | _ => simp [atV] at h
  | _ => simp [atV] at h
theorem atL_sound : ∀ {l : List VV} {vs ws : List Value}, All2 (Vr rd ids) vs l → atL l = some ws → vs = ws ∧ ∀ w ∈ ws, atomB w = true
  | [], vs, ws, r, h => by
    simp only [atL, Option.some.injEq] at h
    subst h
    have : vs = [] := List.eq_nil_of_length_eq_zero (by simpa using r.1)
    exact ⟨this, by simp⟩
  | x :: l, vs, ws, r, h => by
    simp only [atL] at h
    split at h
    · rename_i w l' h1 h2
      cases vs with
      | nil => have := r.1; simp at this
      | cons v vs =>
        obtain ⟨e1, a1⟩ := atV_sound r.head h1
        obtain ⟨e2, a2⟩ := atL_sound r.tail h2
        cases h
        exact ⟨by rw [e1, e2], fun w hw => by
          rcases List.mem_cons.1 hw with rfl | hw
          · exact a1
          · exact a2 w hw⟩
    · cases h
theorem agg_inv {cs : List VV} (r : Vr rd ids v (.agg cs)) : ∃ xs : List Value, v = .agg xs.toArray ∧ All2 (Vr rd ids) xs cs := by
  cases r with
  | agg h1 h2 => exact ⟨_, rfl, h1, h2⟩
theorem tup_inv {cs : List VV} (r : Vr rd ids v (.tup cs)) : ∃ xs : List Value, v = .tuple xs.toArray ∧ All2 (Vr rd ids) xs cs := by
  cases r with
  | tup h1 h2 => exact ⟨_, rfl, h1, h2⟩
theorem toVal_sound (r : Vr rd ids v x) {w : Value} (h : toVal x = some w) : v = w := by
  unfold toVal at h
  split at h
  · split at h
    · rename_i cs l hl
      obtain ⟨xs, rfl, r2⟩ := agg_inv r
      obtain ⟨rfl, _⟩ := atL_sound r2 hl
      cases h; rfl
    · cases h
  · exact (atV_sound r h).1
theorem atI_sound (r : Vr rd ids v x) {i : Int} (h : atI x = some i) : ∃ k, v = .int k i := by
  cases r with
  | p r =>
    cases r with
    | «at» ha =>
      cases v <;> simp [atI] at h
      subst h; exact ⟨_, rfl⟩
    | _ => simp [atI] at h
  | _ => simp [atI] at h
theorem cells_sound (r : Vr rd ids v x) {cs : List VV} (h : cellsV x = some cs) : isU v = false ∧ All2 (Vr rd ids) v.cells.toList cs := by
  have one : ∀ {v : Value} {x : VV}, Vr rd ids v x → All2 (Vr rd ids) [v] [x] := fun r => .cons r .nil
  cases r with
  | agg h1 h2 => simp only [cellsV, Option.some.injEq] at h; subst h; exact ⟨rfl, ⟨h1, h2⟩⟩
  | tup h1 h2 => simp [cellsV] at h
  | skip => simp [cellsV] at h
  | dead => simp [cellsV] at h
  | p r =>
    simp only [cellsV, Option.some.injEq] at h; subst h
    have hr := Vr.p (ids := ids) r
    cases r with
    | «at» ha => cases v <;> first | exact ⟨rfl, one hr⟩ | simp [atomB] at ha
    | _ => exact ⟨rfl, one hr⟩
  | xs e =>
    simp only [cellsV, Option.some.injEq] at h; subst h
    rcases e with rfl | ⟨a, rfl, e⟩
    · exact ⟨rfl, one (.xs (.inl rfl))⟩
    · exact ⟨rfl, one (.xs (.inr ⟨a, rfl, e⟩))⟩
  | osN e h0 =>
    simp only [cellsV, Option.some.injEq] at h; subst h
    rcases h0 with rfl | ⟨a, rfl, h0⟩
    · exact ⟨rfl, one (.osN e (.inl rfl))⟩
    · exact ⟨rfl, one (.osN e (.inr ⟨a, rfl, h0⟩))⟩
  | os n e t => simp only [cellsV, Option.some.injEq] at h; subst h; exact ⟨rfl, one (.os n e t)⟩
  | ob off e t hc => simp only [cellsV, Option.some.injEq] at h; subst h; exact ⟨rfl, one (.ob off e t hc)⟩
  | op off e t => simp only [cellsV, Option.some.injEq] at h; subst h; exact ⟨rfl, one (.op off e t)⟩
  | om e => simp only [cellsV, Option.some.injEq] at h; subst h; exact ⟨rfl, one (.om e)⟩
  | oi e => simp only [cellsV, Option.some.injEq] at h; subst h; exact ⟨rfl, one (.oi e)⟩
  | clos f h1 h2 h3 h4 => simp only [cellsV, Option.some.injEq] at h; subst h; exact ⟨rfl, one (.clos f h1 h2 h3 h4)⟩
  | yl l => simp only [cellsV, Option.some.injEq] at h; subst h; exact ⟨rfl, one (.yl l)⟩
theorem okV_sound (r : Vr rd ids v x) (h : okV x = true) : okCell v = true := by
  cases r with
  | agg h1 h2 => simp [okV] at h
  | tup h1 h2 => simp [okV] at h
  | skip => simp [okV] at h
  | dead => simp [okV] at h
  | p r =>
    cases r with
    | «at» ha => cases v <;> first | rfl | simp [atomB] at ha
    | _ => rfl
  | xs e => rcases e with rfl | ⟨a, rfl, e⟩ <;> rfl
  | osN e h0 => rcases h0 with rfl | ⟨a, rfl, h0⟩ <;> rfl
  | _ => rfl
theorem okV_list {xs : List Value} {ys : List VV} (r : All2 (Vr rd ids) xs ys) (h : ys.all okV = true) : xs.all okCell = true := by
  rw [List.all_eq_true] at h ⊢
  intro v hv
  obtain ⟨i, hi, rfl⟩ := List.mem_iff_getElem.1 hv
  have hi' : i < ys.length := by rw [← r.1]; exact hi
  exact okV_sound (r.2 i _ _ (List.getElem?_eq_getElem hi) (List.getElem?_eq_getElem hi')) (h _ (List.getElem_mem _))
theorem part_sound {xs : List Value} {ys : List VV} (r : All2 (Vr rd ids) xs ys) {n : Option Nat} {off : Nat} (h : partV n ys off = some y) : ∃ v, partA n xs off = some v ∧ Vr rd ids v y := by
  cases n with
  | none =>
    simp only [partV] at h
    obtain ⟨v, h1, h2⟩ := r.get h
    exact ⟨v, h1, h2⟩
  | some n =>
    simp only [partV] at h
    split at h
    · rename_i hl
      cases h
      have r2 := (r.drop off).take n
      refine ⟨_, by simp only [partA]; rw [if_pos (by rw [r.1]; exact hl)], .agg r2.1 r2.2⟩
    · cases h
theorem putC_sound {xs zs : List Value} {ys ws : List VV} (r : All2 (Vr rd ids) xs ys) (r2 : All2 (Vr rd ids) zs ws) (off : Nat) : All2 (Vr rd ids) (xs.take off ++ (zs ++ xs.drop (off + zs.length))) (putC ys off ws) := by
  unfold putC
  rw [r2.1]
  exact (r.take off).append (r2.append (r.drop _))
theorem reps_sound {z : List Value} {zs : List VV} (r : All2 (Vr rd ids) z zs) : ∀ n, All2 (Vr rd ids) (reps z n) (repsV zs n)
  | 0 => .nil
  | n + 1 => r.append (reps_sound r n)
theorem fill_sound : ∀ {ps : List (Nat × Nat × VV)} {qs : List (Nat × Nat × Value)} {xs : List Value} {ys zs : List VV}, All2 (Vr rd ids) xs ys → All2 (fun q p => q.1 = p.1 ∧ q.2.1 = p.2.1 ∧ Vr rd ids q.2.2 p.2.2) qs ps → fillV ys ps = some zs →
    ∃ ws, fillL xs qs = some ws ∧ All2 (Vr rd ids) ws zs
  | [], qs, xs, ys, zs, r, r2, h => by
    have : qs = [] := List.eq_nil_of_length_eq_zero (by simpa using r2.1)
    subst this
    simp only [fillV, Option.some.injEq] at h
    subst h
    exact ⟨xs, rfl, r⟩
  | (off, size, x) :: ps, [], xs, ys, zs, r, r2, h => by have := r2.1; simp at this
  | (off, size, x) :: ps, (off', size', v) :: qs, xs, ys, zs, r, r2, h => by
    obtain ⟨e1, e2, rv⟩ := r2.head
    simp only at e1 e2 rv
    subst e1 e2
    simp only [fillV] at h
    split at h
    · rename_i cs hcs
      obtain ⟨hu, rc⟩ := cells_sound rv hcs
      split at h
      · rename_i hc
        have hlen : v.cells.size = cs.length := by simpa using rc.1
        obtain ⟨ws, h1, h2⟩ := fill_sound (xs := xs.take off' ++ (v.cells.toList ++ xs.drop (off' + size'))) ((r.take off').append (rc.append (r.drop _))) r2.tail h
        refine ⟨ws, ?_, h2⟩
        simp only [fillL]
        rw [if_pos ⟨hu, by rw [hlen]; exact hc.1, by rw [r.1]; exact hc.2⟩]
        exact h1
      · cases h
    · cases h
theorem pEv_sound (t : St X S s h ids F) : ∀ (ps : List (Nat × Nat × Opd)), All2 (fun q p => q.1 = p.1 ∧ q.2.1 = p.2.1 ∧ Vr (RdF h F) ids q.2.2 p.2.2) (pEv s ps) (pEvV S ps)
  | [] => .nil
  | (_, _, x) :: ps => .cons ⟨rfl, rfl, evV_sound t x⟩ (pEv_sound t ps)
end
end Go.Ab.V

/- The second evaluator is sound: operations that only read. -/
namespace Go.Ab.V

section
variable {X : Ctx} {S S1 : VSt} {s : Slots} {h : AHeap} {ids : Pa → Option Nat} {F : Nat → Prop} {C : Cfg} {v v' : Value} {x y z : VV} {rd : Addr → List Value → Prop}
def OpS (C : Cfg) (o : AOp) (S : VSt) (x : VV) (S1 : VSt) : Prop := ∀ X s h ids F, St X S s h ids F → ∃ v h' ids', aev o false C noSelf s h = some (v, h') ∧ St X S1 s h' ids' F ∧ Vr (RdF h' F) ids' v x
theorem OpS.pure {o : AOp} (hp : ∀ X s h ids F, St X S s h ids F → ∃ v, aev o false C noSelf s h = some (v, h) ∧ Vr (RdF h F) ids v x) : OpS C o S x S :=
  fun X s h ids F t => let ⟨v, h1, h2⟩ := hp X s h ids F t; ⟨v, h, ids, h1, t, h2⟩
theorem ret1V_inv {o : Option Value} (he : ret1V S o = some (x, S1)) : ∃ v, o = some v ∧ x = .p (.at v) ∧ S1 = S := by
  unfold ret1V at he
  split at he
  · cases he; exact ⟨_, rfl, rfl, rfl⟩
  · cases he
theorem ret1X_inv {o : Option VV} (he : ret1X S o = some (x, S1)) : o = some x ∧ S1 = S := by
  unfold ret1X at he
  split at he
  · cases he; exact ⟨rfl, rfl⟩
  · cases he
theorem vr_at (hv : atomB v = true) : Vr rd ids v (.p (.at v)) := .p (.at hv)

theorem strBin_atom {op : BinOp} {a b : ByteArray} (he : strBin op a b = some v) : atomB v = true := by
  unfold strBin at he
  split at he
  · split at he <;> cases he; rfl
  all_goals (cases he <;> rfl)
theorem intBin_atom {op : BinOp} {k : IntKind} {a b : Int} (he : intBin op k a b = some v) : atomB v = true := by
  unfold intBin at he
  split at he
  all_goals first | (cases he; done) | (cases he; rfl) | (split at he <;> cases he; rfl)
theorem bin_atom {op : BinOp} {a b : Value} (he : bin op a b = some v) : atomB v = true := by
  unfold bin at he
  split at he
  · unfold intOps at he
    split at he
    · unfold shlA at he; split at he <;> cases he; rfl
    · unfold shrA at he; split at he <;> cases he; rfl
    · split at he
      · exact intBin_atom he
      · cases he
  · exact strBin_atom he
  · cases he
theorem un_atom {op : UnOp} {a : Value} (he : un op a = some v) : atomB v = true := by
  unfold un at he
  split at he <;> cases he <;> rfl
theorem cvt_atom {k : IntKind} {a : Value} (he : cvt k a = some v) : atomB v = true := by
  unfold cvt at he
  split at he <;> cases he; rfl
theorem str_atom {a : Value} (he : strA a = some v) : atomB v = true := by
  unfold strA at he
  split at he <;> cases he; rfl
theorem idxs_atom {a b : Value} (he : idxs a b = some v) : atomB v = true := by
  unfold idxs at he
  split at he
  · split at he
    · split at he <;> cases he; rfl
    · cases he
  · cases he
theorem min2_atom {a b : Value} (he : min2 a b = some v) : atomB v = true := by
  unfold min2 at he
  split at he
  · split at he <;> cases he; rfl
  · cases he
theorem max2_atom {a b : Value} (he : max2 a b = some v) : atomB v = true := by
  unfold max2 at he
  split at he
  · split at he <;> cases he; rfl
  · cases he
theorem fold_atom {f : Value → Value → Option Value} (hf : ∀ {a b c}, f a b = some c → atomB c = true) : ∀ {l : List Value} {a : Value}, atomB a = true → foldV f a l = some v → atomB v = true
  | [], a, ha, he => by simp only [foldV, Option.some.injEq] at he; subst he; exact ha
  | b :: l, a, ha, he => by
    simp only [foldV] at he
    split at he
    · rename_i c hc; exact fold_atom hf (hf hc) he
    · cases he

theorem os_inv {u n : Nat} {a : Pa} (r : Vr rd ids v (.os u a n)) : (ids a = none ∧ n = 0 ∧ exN v) ∨ ∃ k t, ids a = some k ∧ (t = 0 ∨ t = u) ∧ v = .slice (some ⟨k, 0, some t⟩) n n := by
  cases r with
  | osN e h0 => exact .inl ⟨e, rfl, h0⟩
  | os n e ht => exact .inr ⟨_, _, e, ht, rfl⟩
theorem ob_inv {u off n c : Nat} {a : Pa} (r : Vr rd ids v (.ob u a off n c)) : ∃ k t, ids a = some k ∧ (t = 0 ∨ t = u) ∧ n ≤ c ∧ v = .slice (some ⟨k, off, some t⟩) n c := by
  cases r with
  | ob off e ht hc => exact ⟨_, _, e, ht, hc, rfl⟩
theorem op_inv {u off : Nat} {a : Pa} (r : Vr rd ids v (.op u a off)) : ∃ k t, ids a = some k ∧ (t = 0 ∨ t = u) ∧ v = .pointer (some ⟨k, off, some t⟩) := by
  cases r with
  | op off e ht => exact ⟨_, _, e, ht, rfl⟩
theorem p_inv {x : PV} (r : Vr rd ids v (.p x)) : Rp rd v x := by
  cases r with
  | p r => exact r
theorem at_inv {w : Value} (r : Vr rd ids v (.p (.at w))) : v = w ∧ atomB w = true := atV_sound r rfl
theorem sl_inv {u n : Nat} {cs : List PV} (r : Rp rd v (.sl u n cs)) : (v = .slice none 0 0 ∧ n = 0 ∧ cs = []) ∨ ∃ a c, v = .slice (some a) n c ∧ tgOk u a.spot ∧ n ≤ c ∧
    (cs = [] ∧ n = 0 ∨ ∃ row, rd a row ∧ a.off + cs.length ≤ row.length ∧ ∀ (i : Nat) y x, row[a.off + i]? = some y → cs[i]? = some x → Rp rd y x) := by
  cases r with
  | nil => exact .inl ⟨rfl, rfl, rfl⟩
  | sl0 ht => exact .inr ⟨_, _, rfl, ht, Nat.zero_le _, .inl ⟨rfl, rfl⟩⟩
  | sl ht hc hr hl hx => exact .inr ⟨_, _, rfl, ht, hc, .inr ⟨_, hr, hl, hx⟩⟩
theorem fp_inv {u : Nat} {cs : List PV} (r : Rp rd v (.fp u cs)) : ∃ a row, v = .pointer (some a) ∧ tgOk u a.spot ∧ rd a row ∧ a.off + cs.length ≤ row.length ∧ ∀ (i : Nat) y x, row[a.off + i]? = some y → cs[i]? = some x → Rp rd y x := by
  cases r with
  | fp ht hr hl hx => exact ⟨_, _, rfl, ht, hr, hl, hx⟩
theorem row_of {a : Addr} {row : List Value} (r : RdF h F a row) : h.row a = some row := by
  unfold RdF at r
  unfold AHeap.row
  split at r
  · rename_i e; simp only [e]; exact r
  · rename_i u e; simp only [e, r.2]
theorem rd_plus {a : Addr} {row : List Value} (r : RdF h F a row) (n : Nat) : RdF h F (plus a n) row := by
  unfold RdF at *
  exact r
theorem row_own {k off : Nat} {t : Nat} {c : List Value} (hg : h.get k = some (.cells c)) : h.row ⟨k, off, some t⟩ = some c := by simp [AHeap.row, hg]
/-- What a pure pointer leads to. -/
theorem rows_all2 {a : Addr} {row : List Value} {cs : List PV} (hl : a.off + cs.length ≤ row.length) (hx : ∀ (i : Nat) y x, row[a.off + i]? = some y → cs[i]? = some x → Rp rd y x) :
    All2 (Vr rd ids) ((row.drop a.off).take cs.length) (cs.map .p) :=
  ⟨by simp; omega, fun i v y hv hy => by
    rw [List.getElem?_take] at hv
    split at hv
    · rw [List.getElem?_drop] at hv
      rw [List.getElem?_map] at hy
      cases hc : cs[i]? with
      | none => rw [hc] at hy; cases hy
      | some z => rw [hc] at hy; cases hy; exact .p (hx i v z hv hc)
    · cases hv⟩
theorem blk_cells (t : St X S s h ids F) {a : Pa} {cs : List VV} {k : Nat} (hb : PT.get a S.B = some (.cells cs)) (hk : ids a = some k) : ∃ c, h.get k = some (.cells c) ∧ All2 (Vr (RdF h F) ids) c cs := by
  have r := t.blk a _ hb
  rw [hk] at r; exact r
theorem blk_none (t : St X S s h ids F) {a : Pa} {cs : List VV} (hb : PT.get a S.B = some (.cells cs)) (hk : ids a = none) : cs = [] := by
  have r := t.blk a _ hb
  rw [hk] at r; exact r
theorem blk_map (t : St X S s h ids F) {a : Pa} {es : List (Value × VV)} {k : Nat} (hb : PT.get a S.B = some (.map es)) (hk : ids a = some k) :
    ∃ c, h.get k = some (.map c) ∧ All2 (fun (e : Value × Value) (e' : Value × VV) => e.1 = e'.1 ∧ Vr (RdF h F) ids e.2 e'.2) c es := by
  have r := t.blk a _ hb
  rw [hk] at r; exact r
theorem partA_take {row : List Value} {off m : Nat} (n : Option Nat) {w : Value} (hl : off + m ≤ row.length) (hp : partA n ((row.drop off).take m) 0 = some w) : partA n row off = some w := by
  cases n with
  | none =>
    simp only [partA, List.getElem?_take, List.getElem?_drop] at hp ⊢
    split at hp
    · simpa using hp
    · cases hp
  | some n =>
    simp only [partA] at hp ⊢
    split at hp
    · rename_i h1
      simp only [Nat.zero_add, List.length_take, List.length_drop] at h1
      rw [if_pos (by omega)]
      rw [← hp]
      simp only [List.drop_zero, List.take_take]
      rw [Nat.min_eq_left (by omega)]
    · cases hp
theorem ld_sound' (t : St X S s h ids F) {n : Option Nat} (r : Vr (RdF h F) ids v x) (he : v_ld S n x = some y) : ∃ w, ldP n v h = some w ∧ Vr (RdF h F) ids w y := by
  unfold v_ld at he
  split at he
  · rename_i u a off
    split at he
    · rename_i cs hb
      obtain ⟨k, tg, hk, _, rfl⟩ := op_inv r
      obtain ⟨c, hg, hc⟩ := blk_cells t hb hk
      obtain ⟨w, h1, h2⟩ := part_sound hc he
      exact ⟨w, by simp only [ldP, ldA, row_own hg]; exact h1, h2⟩
    · cases he
  · rename_i u cs
    obtain ⟨a, row, rfl, _, hr, hl, hx⟩ := fp_inv (p_inv r)
    obtain ⟨w, h1, h2⟩ := part_sound (rows_all2 (ids := ids) hl hx) he
    exact ⟨w, by simp only [ldP, ldA, row_of hr]; exact partA_take n hl h1, h2⟩
  · cases he
theorem fp_drop {a : Addr} {row : List Value} {u : Nat} {cs : List PV} (ht : tgOk u a.spot) (hr : RdF h F a row) (hl : a.off + cs.length ≤ row.length)
    (hx : ∀ (i : Nat) y x, row[a.off + i]? = some y → cs[i]? = some x → Rp (RdF h F) y x) {off : Nat} (ho : off ≤ cs.length) : Rp (RdF h F) (.pointer (some (plus a off))) (.fp u (cs.drop off)) := by
  refine .fp (row := row) ht (rd_plus hr off) (by simp only [plus, List.length_drop]; omega) (fun i y x hy hxx => ?_)
  rw [List.getElem?_drop] at hxx
  exact hx (off + i) y x (by rw [← hy]; simp only [plus, Nat.add_assoc]) hxx
theorem fad_sound' (r : Vr (RdF h F) ids v x) {off : Nat} (he : v_fad off x = some y) : ∃ w, fad off v = some w ∧ Vr (RdF h F) ids w y := by
  unfold v_fad at he
  split at he
  · cases he
    obtain ⟨k, tg, hk, ht, rfl⟩ := op_inv r
    exact ⟨_, rfl, .op _ hk ht⟩
  · split at he
    · rename_i cs hl0
      cases he
      obtain ⟨a, row, rfl, ht, hr, hl, hx⟩ := fp_inv (p_inv r)
      exact ⟨_, rfl, .p (fp_drop ht hr hl hx hl0)⟩
    · cases he
  · cases he
theorem iad_sound' (r : Vr (RdF h F) ids v x) (r2 : Vr (RdF h F) ids v' y) {len size : Nat} (he : v_iad len size x y = some z) : ∃ w, iad len size v v' = some w ∧ Vr (RdF h F) ids w z := by
  unfold v_iad at he
  split at he
  · rename_i i hi
    obtain ⟨k', rfl⟩ := atI_sound r2 hi
    split at he
    · split at he
      · rename_i hc
        cases he
        obtain ⟨k, tg, hk, ht, rfl⟩ := op_inv r
        exact ⟨_, by simp only [iad]; rw [if_pos hc]; rfl, .op _ hk ht⟩
      · cases he
    · split at he
      · rename_i cs hc
        cases he
        obtain ⟨a, row, rfl, ht, hr, hl, hx⟩ := fp_inv (p_inv r)
        exact ⟨_, by simp only [iad]; rw [if_pos ⟨hc.1, hc.2.1⟩], .p (fp_drop ht hr hl hx hc.2.2)⟩
      · cases he
    · cases he
  · cases he
theorem ias_sound' (r : Vr (RdF h F) ids v x) (r2 : Vr (RdF h F) ids v' y) {size : Nat} (he : v_ias size x y = some z) : ∃ w, ias size v v' = some w ∧ Vr (RdF h F) ids w z := by
  unfold v_ias at he
  split at he
  · rename_i i hi
    obtain ⟨k', rfl⟩ := atI_sound r2 hi
    split at he
    · rename_i u a n
      split at he
      · rename_i hc
        cases he
        rcases os_inv r with ⟨_, h0, _⟩ | ⟨k, tg, hk, ht, rfl⟩
        · omega
        · refine ⟨_, by simp only [ias]; rw [if_pos hc], ?_⟩
          simp only [plus, Nat.zero_add]
          exact .op _ hk ht
      · cases he
    · rename_i u a off n c
      split at he
      · rename_i hc
        cases he
        obtain ⟨k, tg, hk, ht, _, rfl⟩ := ob_inv r
        exact ⟨_, by simp only [ias]; rw [if_pos hc]; rfl, .op _ hk ht⟩
      · cases he
    · rename_i u n cs
      split at he
      · rename_i hc
        cases he
        rcases sl_inv (p_inv r) with ⟨_, h0, _⟩ | ⟨a, c, rfl, ht, hcap, h1⟩
        · omega
        · rcases h1 with ⟨_, h0⟩ | ⟨row, hr, hl, hx⟩
          · omega
          · exact ⟨_, by simp only [ias]; rw [if_pos ⟨hc.1, hc.2.1⟩], .p (fp_drop ht hr hl hx hc.2.2)⟩
      · cases he
    · cases he
  · cases he
theorem bnd_sound {rd : Addr → List Value → Prop} {o : Option Value} {o' : Option VV} (ho : o.isSome = o'.isSome) (r : ∀ v x, o = some v → o' = some x → Vr rd ids v x) {d y m : Nat} (he : bndV o' d y = some m) : bnd o d y = some m := by
  cases o' with
  | none =>
    cases o with
    | none => exact he
    | some v => cases ho
  | some x =>
    cases o with
    | none => cases ho
    | some v =>
      simp only [bndV] at he
      split at he
      · rename_i i hi
        obtain ⟨k, rfl⟩ := atI_sound (r v x rfl rfl) hi
        exact he
      · cases he
theorem bnds_sound {rd : Addr → List Value → Prop} {lo hi mx : Option Value} {lo' hi' mx' : Option VV} (h1 : lo.isSome = lo'.isSome) (h2 : hi.isSome = hi'.isSome) (h3 : mx.isSome = mx'.isSome)
    (r1 : ∀ v x, lo = some v → lo' = some x → Vr rd ids v x) (r2 : ∀ v x, hi = some v → hi' = some x → Vr rd ids v x) (r3 : ∀ v x, mx = some v → mx' = some x → Vr rd ids v x)
    {len cap l m c : Nat} (he : bndsV len cap lo' hi' mx' = some (l, m, c)) : bnds len cap lo hi mx = some (l, m, c) := by
  unfold bndsV at he
  split at he
  · rename_i m1 e1
    have e1 := bnd_sound h3 r3 e1
    simp only [bnds, e1]
    split at he
    · rename_i m2 e2
      split at e2
      · cases e2
      · rename_i hcond
        have e2 := bnd_sound h2 r2 e2
        have hcond' : ¬(mx.isSome && hi.isNone) = true := by rw [← Option.not_isSome, h3, h2, Option.not_isSome]; exact hcond
        rw [if_neg hcond', e2]
        simp only
        split at he
        · rename_i m3 e3
          have e3 := bnd_sound h1 r1 e3
          rw [e3]; exact he
        · cases he
    · cases he
  · cases he
theorem opt_ev (t : St X S s h ids F) (o : Option Opd) : (o.map (evA s)).isSome = (o.map (evV S)).isSome ∧ ∀ v x, o.map (evA s) = some v → o.map (evV S) = some x → Vr (RdF h F) ids v x := by
  cases o with
  | none => exact ⟨rfl, fun v x h => by cases h⟩
  | some o => exact ⟨rfl, fun v x h h' => by cases h; cases h'; exact evV_sound t o⟩
theorem bnd_le {o : Option VV} {d y m : Nat} (he : bndV o d y = some m) (hd : d ≤ y) : m ≤ y := by
  cases o with
  | none => simp only [bndV, Option.some.injEq] at he; omega
  | some x =>
    simp only [bndV] at he
    split at he
    · split at he
      · rename_i hc; cases he; omega
      · cases he
    · cases he
theorem bnds_le {lo hi mx : Option VV} {n c l m k : Nat} (he : bndsV n c lo hi mx = some (l, m, k)) (hn : n ≤ c) : l ≤ m ∧ k ≤ c ∧ (m ≤ k) := by
  unfold bndsV at he
  split at he
  · rename_i m1 e1
    have h1 := bnd_le e1 (Nat.le_refl c)
    split at he
    · rename_i m2 e2
      split at e2
      · cases e2
      · rename_i hcond
        split at he
        · rename_i m3 e3
          cases he
          have h3 := bnd_le e3 (Nat.zero_le _)
          refine ⟨h3, h1, ?_⟩
          cases hi with
          | some y =>
            cases hm : mx with
            | none =>
              rw [hm] at e1; simp only [bndV, Option.some.injEq] at e1; subst e1
              simp only [bndV] at e2
              split at e2
              · split at e2
                · rename_i hc; cases e2; omega
                · cases e2
              · cases e2
            | some z =>
              simp only [bndV] at e2
              split at e2
              · split at e2
                · rename_i hc; cases e2; omega
                · cases e2
              · cases e2
          | none =>
            cases hm : mx with
            | none =>
              rw [hm] at e1; simp only [bndV, Option.some.injEq] at e1; subst e1
              simp only [bndV, Option.some.injEq] at e2; subst e2; exact hn
            | some z => rw [hm] at hcond; simp at hcond
        · cases he
    · cases he
  · cases he
end
end Go.Ab.V

/- The second evaluator is sound: slices, stores, appends, maps. -/
namespace Go.Ab.V

section
variable {X : Ctx} {S S1 : VSt} {s : Slots} {h : AHeap} {ids : Pa → Option Nat} {F : Nat → Prop} {C : Cfg} {v v' : Value} {x y z : VV} {rd : Addr → List Value → Prop}

theorem tg_ok {t u size : Nat} (ht : t = 0 ∨ t = u) (hu : u = 0 ∨ u = size) : tagOk (some t) size = true := by
  simp only [tagOk, Bool.or_eq_true, beq_iff_eq]
  rcases ht with h | h
  · exact .inl h
  · rcases hu with h' | h'
    · exact .inl (by omega)
    · exact .inr (by omega)
theorem tgOk_ok {a : Addr} {u size : Nat} (ht : tgOk u a.spot) (hu : u = 0 ∨ u = size) : tagOk a.spot size = true := by
  unfold tgOk at ht
  split at ht
  · rename_i e; rw [e]; rfl
  · rename_i t e; rw [e]; exact tg_ok ht hu
theorem tgOk_0 {s : Option Nat} {u size : Nat} (ht : tgOk u s) (hu : u = 0 ∨ u = size) : tgOk size s := by
  unfold tgOk at *
  split
  · trivial
  · rename_i t
    simp only at ht
    rcases ht with h | h
    · exact .inl h
    · rcases hu with h' | h'
      · exact .inl (by omega)
      · exact .inr (by omega)
/-- A part of a pure slice. -/
theorem sl_part {a : Addr} {row : List Value} {u : Nat} {cs : List PV} (ht : tgOk u a.spot) (hr : RdF h F a row) (hl : a.off + cs.length ≤ row.length)
    (hx : ∀ (i : Nat) y x, row[a.off + i]? = some y → cs[i]? = some x → Rp (RdF h F) y x) {o n m c : Nat} (ho : o + m ≤ cs.length) (hc : n ≤ c) : Rp (RdF h F) (.slice (some (plus a o)) n c) (.sl u n ((cs.drop o).take m)) := by
  refine .sl (row := row) ht hc (rd_plus hr o) (by simp only [plus, List.length_take, List.length_drop]; omega) (fun i y x hy hxx => ?_)
  rw [List.getElem?_take] at hxx
  split at hxx
  · rw [List.getElem?_drop] at hxx
    exact hx (o + i) y x (by rw [← hy]; simp only [plus, Nat.add_assoc]) hxx
  · cases hxx
theorem bnd_up {rd : Addr → List Value → Prop} {o : Option Value} {o' : Option VV} (ho : o.isSome = o'.isSome) (r : ∀ v x, o = some v → o' = some x → Vr rd ids v x) {d y y' m : Nat} (he : bndV o' d y = some m) (hy : y ≤ y') : bnd o d y' = some m := by
  cases o' with
  | none =>
    cases o with
    | none => exact he
    | some v => cases ho
  | some x =>
    cases o with
    | none => cases ho
    | some v =>
      simp only [bndV] at he
      split at he
      · rename_i i hi
        obtain ⟨k, rfl⟩ := atI_sound (r v x rfl rfl) hi
        split at he
        · rename_i hc
          cases he
          simp only [bnd]; rw [if_pos (by omega)]
        · cases he
      · cases he
/-- Bounds that hold against the length hold against a capacity too. -/
theorem bnds_cap {rd : Addr → List Value → Prop} {lo hi mx : Option Value} {lo' hi' mx' : Option VV} (h1 : lo.isSome = lo'.isSome) (h2 : hi.isSome = hi'.isSome) (h3 : mx.isSome = mx'.isSome)
    (r1 : ∀ v x, lo = some v → lo' = some x → Vr rd ids v x) (r2 : ∀ v x, hi = some v → hi' = some x → Vr rd ids v x) (r3 : ∀ v x, mx = some v → mx' = some x → Vr rd ids v x)
    {n c l m k : Nat} (hn : n ≤ c) (he : bndsV n n lo' hi' mx' = some (l, m, k)) : ∃ k', bnds n c lo hi mx = some (l, m, k') ∧ m ≤ k' ∧ (mx'.isSome = true → k' = k) := by
  have hle := bnds_le he (Nat.le_refl n)
  unfold bndsV at he
  split at he
  · rename_i m1 e1
    have hm1 := bnd_le e1 (Nat.le_refl n)
    split at he
    · rename_i m2 e2
      split at e2
      · cases e2
      · rename_i hcond
        have hcond' : ¬(mx.isSome && hi.isNone) = true := by rw [← Option.not_isSome, h3, h2, Option.not_isSome]; exact hcond
        split at he
        · rename_i m3 e3
          cases he
          have e3' := bnd_up h1 r1 e3 (Nat.le_refl _)
          cases hm : mx with
          | none =>
            have e2' := bnd_up h2 r2 e2 (Nat.le_trans hm1 hn)
            refine ⟨c, ?_, by omega, fun h => by rw [← h3, hm] at h; cases h⟩
            rw [hm] at hcond'
            have e1' : bnd none c c = some c := rfl
            simp only [bnds, e1']
            rw [if_neg hcond', e2']
            simp only [e3']
          | some z =>
            cases hm' : mx' with
            | none => rw [hm, hm'] at h3; cases h3
            | some z' =>
              rw [hm'] at e1
              have e1' : bnd (some z) c c = some k := by
                simp only [bndV] at e1
                split at e1
                · rename_i i hi
                  obtain ⟨kk, rfl⟩ := atI_sound (r3 z z' hm hm') hi
                  split at e1
                  · rename_i hc
                    cases e1
                    simp only [bnd]; rw [if_pos (by omega)]
                  · cases e1
                · cases e1
              have e2' := bnd_up h2 r2 e2 (Nat.le_refl _)
              refine ⟨k, ?_, hle.2.2, fun _ => rfl⟩
              rw [hm] at hcond'
              simp only [bnds, e1']
              rw [if_neg hcond', e2']
              simp only [e3']
        · cases he
    · cases he
  · cases he
theorem xct_exact {mx : Option Value} (hm : mx.isSome = true) (a : Addr) : (xct mx a).spot = none ∨ (xct mx a).spot = some 0 := by
  obtain ⟨b, o, s⟩ := a
  cases mx with
  | none => cases hm
  | some v => cases s <;> simp [xct]
theorem xct_own (mx : Option Value) (k off : Nat) {t u : Nat} (ht : t = 0 ∨ t = u) : ∃ t', (t' = 0 ∨ t' = u) ∧ xct mx ⟨k, off, some t⟩ = ⟨k, off, some t'⟩ := by
  unfold xct
  split
  · exact ⟨0, .inl rfl, rfl⟩
  · exact ⟨t, ht, rfl⟩
theorem sl_xct {p p' : Addr} {u n c : Nat} {cs : List PV} (hp : p'.block = p.block ∧ p'.off = p.off ∧ (tgOk u p.spot → tgOk u p'.spot) ∧ (p'.spot = none ↔ p.spot = none)) (r : Rp (RdF h F) (.slice (some p) n c) (.sl u n cs)) :
    Rp (RdF h F) (.slice (some p') n c) (.sl u n cs) := by
  obtain ⟨h1, h2, h3, h4⟩ := hp
  cases r with
  | sl0 ht => exact .sl0 (h3 ht)
  | sl ht hc hr hl hx =>
    refine .sl (h3 ht) hc ?_ (by rw [h2]; exact hl) (by rw [h2]; exact hx)
    unfold RdF at *
    cases hs : p.spot with
    | none => rw [h4.2 hs]; rw [hs] at hr; simp only at hr ⊢; rw [h1]; exact hr
    | some t =>
      cases hs' : p'.spot with
      | none => rw [h4.1 hs'] at hs; cases hs
      | some t' => rw [hs] at hr; simp only at hr ⊢; rw [h1]; exact hr
theorem slsl_sound' {lo hi mx : Option Value} {lo' hi' mx' : Option VV} (h1 : lo.isSome = lo'.isSome) (h2 : hi.isSome = hi'.isSome) (h3 : mx.isSome = mx'.isSome)
    (r1 : ∀ v x, lo = some v → lo' = some x → Vr (RdF h F) ids v x) (r2 : ∀ v x, hi = some v → hi' = some x → Vr (RdF h F) ids v x) (r3 : ∀ v x, mx = some v → mx' = some x → Vr (RdF h F) ids v x)
    (r : Vr (RdF h F) ids v x) {size : Nat} (he : v_slsl S size x lo' hi' mx' = some y) : ∃ w, slsl size v lo hi mx = some w ∧ Vr (RdF h F) ids w y := by
  unfold v_slsl at he
  split at he
  · split at he
    · rename_i q hb
      obtain ⟨l, m, k⟩ := q
      cases he
      obtain ⟨rfl, _⟩ := at_inv r
      have hb' := bnds_sound h1 h2 h3 r1 r2 r3 hb
      have hle := bnds_le hb (Nat.le_refl 0)
      refine ⟨_, by simp only [slsl, hb']; rfl, ?_⟩
      have : l = 0 ∧ m = 0 ∧ k = 0 := by omega
      obtain ⟨rfl, rfl, rfl⟩ := this
      exact vr_at rfl
    · cases he
  · rename_i u n cs
    split at he
    · rename_i l m k hb
      split at he
      · rename_i hc
        obtain ⟨rfl, hlen⟩ := hc
        cases he
        have hle := bnds_le hb (Nat.le_refl n)
        rcases sl_inv (p_inv r) with ⟨rfl, rfl, rfl⟩ | ⟨a, c, rfl, ht, hcap, h4⟩
        · have hb' := bnds_sound h1 h2 h3 r1 r2 r3 hb
          have : l = 0 ∧ m = 0 ∧ k = 0 := by omega
          obtain ⟨rfl, rfl, rfl⟩ := this
          refine ⟨_, by simp only [slsl, hb']; rfl, ?_⟩
          split
          · exact .xs (.inl rfl)
          · simp only [Nat.sub_self, List.drop_nil, List.take_nil]
            exact .p .nil
        · obtain ⟨k', hb', hk', hkk⟩ := bnds_cap h1 h2 h3 r1 r2 r3 hcap hb
          refine ⟨_, by simp only [slsl, tgOk_ok ht (.inr rfl), if_true, hb']; rfl, ?_⟩
          have hxa : ∀ (p : Addr), (xct mx p).block = p.block ∧ (xct mx p).off = p.off ∧ (tgOk u p.spot → tgOk u (xct mx p).spot) ∧ ((xct mx p).spot = none ↔ p.spot = none) := by
            intro p
            unfold xct
            split
            · rename_i e; exact ⟨rfl, rfl, fun _ => .inl rfl, by simp [e]⟩
            · exact ⟨rfl, rfl, id, Iff.rfl⟩
          split
          · rename_i hx
            obtain ⟨rfl, hs⟩ := hx
            have hk0 : k' = l := hkk hs
            subst hk0
            have : m - k' = 0 := by omega
            rw [this, Nat.sub_self]
            refine .xs (.inr ⟨_, rfl, ?_⟩)
            rw [← h3] at hs
            exact xct_exact hs _
          rcases h4 with ⟨rfl, rfl⟩ | ⟨row, hr, hl, hx⟩
          · have : l = 0 ∧ m = 0 := by omega
            obtain ⟨rfl, rfl⟩ := this
            simp only [Nat.sub_self, List.drop_nil, List.take_nil]
            exact .p (.sl0 ((hxa _).2.2.1 ht))
          · have r := sl_part (o := l * u) (n := m - l) (m := (m - l) * u) (c := k' - l) ht hr hl hx (by
              rw [hlen, ← Nat.add_mul]
              exact Nat.mul_le_mul_right _ (by omega)) (by omega)
            exact .p (sl_xct (hxa _) r)
      · cases he
    · cases he
  · rename_i u a n
    split at he
    · rename_i l m k hb
      split at he
      · rename_i hc
        obtain ⟨rfl, hn⟩ := hc
        cases he
        have hle := bnds_le hb (Nat.le_refl n)
        rcases os_inv r with ⟨_, h0, _⟩ | ⟨kk, t, hk, ht, rfl⟩
        · exact absurd h0 hn
        · have hb' := bnds_sound h1 h2 h3 r1 r2 r3 hb
          refine ⟨_, by simp only [slsl, tg_ok ht (.inr rfl), if_true, hb']; rfl, ?_⟩
          obtain ⟨t', ht', e⟩ := xct_own mx kk (0 + l * u) ht
          have := Vr.ob (rd := RdF h F) (l * u) (n := m - l) (c := k - l) hk ht' (by omega)
          simp only [Nat.zero_add] at e
          simp only [plus, Nat.zero_add, e]
          exact this
      · cases he
    · cases he
  · rename_i u a off n c
    split at he
    · rename_i l m k hb
      split at he
      · rename_i hc
        subst hc
        cases he
        obtain ⟨kk, t, hk, ht, hcap, rfl⟩ := ob_inv r
        have hle := bnds_le hb hcap
        have hb' := bnds_sound h1 h2 h3 r1 r2 r3 hb
        obtain ⟨t', ht', e⟩ := xct_own mx kk (off + l * u) ht
        refine ⟨_, by simp only [slsl, tg_ok ht (.inr rfl), if_true, hb']; rfl, ?_⟩
        simp only [plus, e]
        exact .ob _ hk ht' (by omega)
      · cases he
    · cases he
  · cases he
theorem slarr_sound' {lo hi mx : Option Value} {lo' hi' mx' : Option VV} (h1 : lo.isSome = lo'.isSome) (h2 : hi.isSome = hi'.isSome) (h3 : mx.isSome = mx'.isSome)
    (r1 : ∀ v x, lo = some v → lo' = some x → Vr (RdF h F) ids v x) (r2 : ∀ v x, hi = some v → hi' = some x → Vr (RdF h F) ids v x) (r3 : ∀ v x, mx = some v → mx' = some x → Vr (RdF h F) ids v x)
    (r : Vr (RdF h F) ids v x) {n size : Nat} (he : v_slarr n size x lo' hi' mx' = some y) : ∃ w, slarr n size v lo hi mx = some w ∧ Vr (RdF h F) ids w y := by
  unfold v_slarr at he
  split at he
  · rename_i u a off
    split at he
    · rename_i l m k hb
      split at he
      · rename_i hc
        cases he
        obtain ⟨kk, t, hk, ht, rfl⟩ := op_inv r
        have hle := bnds_le hb (Nat.le_refl n)
        have hb' := bnds_sound h1 h2 h3 r1 r2 r3 hb
        exact ⟨_, by simp only [slarr, tg_ok ht hc, if_true, hb']; rfl, .ob _ hk (tgOk_0 (s := some t) ht hc) (by omega)⟩
      · cases he
    · cases he
  · rename_i u cs
    split at he
    · rename_i l m k hb
      split at he
      · rename_i hc
        cases he
        obtain ⟨a, row, rfl, ht, hr, hl, hx⟩ := fp_inv (p_inv r)
        have hle := bnds_le hb (Nat.le_refl n)
        have hb' := bnds_sound h1 h2 h3 r1 r2 r3 hb
        refine ⟨_, by simp only [slarr, tgOk_ok ht hc.1, if_true, hb']; rfl, .p (sl_part (tgOk_0 ht hc.1) hr hl hx ?_ (by omega))⟩
        refine Nat.le_trans ?_ hc.2
        rw [← Nat.add_mul]
        exact Nat.mul_le_mul_right _ (by omega)
      · cases he
    · cases he
  · cases he

/-! ### Stores, new blocks -/
theorem st_sound' (t : St X S s h ids F) {n : Nat} (r : Vr (RdF h F) ids v x) (r2 : Vr (RdF h F) ids v' y) (he : v_st S n x y = some (z, S1)) :
    ∃ h', stP false n v v' h = some (undef, h') ∧ St X S1 s h' ids F ∧ z = .dead := by
  unfold v_st at he
  split at he
  · rename_i u a off ys hcs
    split at he
    · rename_i cs hb
      split at he
      · rename_i hc
        cases he
        obtain ⟨k, tg, hk, _, rfl⟩ := op_inv r
        obtain ⟨c, hg, hcc⟩ := blk_cells t hb hk
        obtain ⟨_, rc⟩ := cells_sound r2 hcs
        have hlen : v'.cells.size = ys.length := by simpa using rc.1
        have hput := putC_sound hcc rc off
        refine ⟨h.put false k (.cells (c.take off ++ (v'.cells.toList ++ c.drop (off + v'.cells.toList.length)))), ?_, t.putB hb hk ⟨_, by simp, hput⟩, rfl⟩
        simp only [stP, stA, hlen, hc.1, if_true, stCells, hg]
        rw [if_pos ⟨by rw [hcc.1]; simp only [Array.length_toList]; rw [hlen, hc.1]; exact hc.2.1, okV_list rc hc.2.2⟩]
        rfl
      · cases he
    · cases he
  · cases he
theorem free_spec {d : Pa} (hf : free S d = true) : d ∉ S.K := nos_spec hf
/-- A block of cells is made. -/
theorem new_sound (t : St X S s h ids F) {d : Option Pa} {cs : List VV} {r : Pa → VV} {c : List Value} (hc : All2 (Vr (RdF h F) ids) c cs) (he : newV S d cs r = some (x, S1)) :
    ∃ d0, x = r d0 ∧ S1 = S.alloc d0 (.cells cs) ∧ St X S1 s (h.add false (.cells c)) (updI ids d0 (some h.next)) F := by
  unfold newV at he
  split at he
  · rename_i d0
    cases hq : (free S d0 && nos d0 (nmL cs)) with
    | false => rw [hq] at he; cases he
    | true =>
      rw [hq] at he
      cases he
      rw [Bool.and_eq_true] at hq
      exact ⟨d0, rfl, rfl, t.alloc (free_spec hq.1) (nos_spec hq.2) ⟨c, by simp, hc⟩⟩
  · cases he
theorem all2_atoms {l : List UInt8} : All2 (Vr rd ids) (l.map fun b => Value.int .u8 b.toNat) (l.map fun b => VV.p (.at (.int .u8 b.toNat))) :=
  ⟨by simp, fun i v x hv hx => by
    rw [List.getElem?_map] at hv hx
    cases hl : l[i]? with
    | none => rw [hl] at hv; cases hv
    | some b => rw [hl] at hv hx; cases hv; cases hx; exact vr_at rfl⟩
/-- The elements of a slice. -/
theorem els_sound (t : St X S s h ids F) {size m : Nat} {ys : List VV} (r : Vr (RdF h F) ids v x) (he : elsV S size x = some (m, ys)) : lenA v = some m ∧
    ∀ k, k ≤ m → ∃ xs, firsts0 size k v h = some xs ∧ All2 (Vr (RdF h F) ids) xs (ys.take (k * size)) := by
  unfold elsV at he
  split at he
  · obtain ⟨rfl, _⟩ := at_inv r
    cases he
    exact ⟨rfl, fun k _ => ⟨[], by unfold firsts0; split <;> rfl, by simpa using All2.nil⟩⟩
  · rename_i sb
    obtain ⟨rfl, _⟩ := at_inv r
    split at he
    · rename_i h1
      cases he
      subst h1
      refine ⟨rfl, fun k hk => ?_⟩
      unfold firsts0
      split
      · rename_i h0; subst h0; exact ⟨[], rfl, by simpa using All2.nil⟩
      · refine ⟨_, rfl, ?_⟩
        rw [Nat.mul_one, ← List.map_take]
        exact all2_atoms
    · cases he
  · cases he
    have : exN v := by cases r with | xs e => exact e
    rcases this with rfl | ⟨a, rfl, _⟩
    · exact ⟨rfl, fun k hk => ⟨[], by unfold firsts0; split <;> rfl, by simpa using All2.nil⟩⟩
    · exact ⟨rfl, fun k hk => ⟨[], by unfold firsts0; rw [if_pos (by omega)], by simpa using All2.nil⟩⟩
  · rename_i u n cs
    split at he
    · rename_i hc
      cases he
      rcases sl_inv (p_inv r) with ⟨rfl, rfl, rfl⟩ | ⟨a, c, rfl, ht, hcap, h4⟩
      · exact ⟨rfl, fun k _ => ⟨[], by unfold firsts0; split <;> rfl, by simpa using All2.nil⟩⟩
      · refine ⟨rfl, fun k hk => ?_⟩
        rcases h4 with ⟨rfl, rfl⟩ | ⟨row, hr, hl, hx⟩
        · exact ⟨[], by unfold firsts0; rw [if_pos (by omega)], by simpa using All2.nil⟩
        · have hks : k * size ≤ cs.length := by rw [hc]; exact Nat.mul_le_mul_right _ hk
          refine ⟨(row.drop a.off).take (k * size), ?_, ?_⟩
          · unfold firsts0
            split
            · rename_i h0; subst h0; simp
            · simp only [firsts, row_of hr]
              rw [if_pos (by omega)]
          · have r2 := (rows_all2 (ids := ids) hl hx).take (k * size)
            rw [List.take_take, Nat.min_eq_left hks] at r2
            exact r2
    · cases he
  · rename_i u a n
    split at he
    · rename_i cs hb
      split at he
      · rename_i hc
        cases he
        rcases os_inv r with ⟨hk0, rfl, hx⟩ | ⟨kk, tg, hk0, ht, rfl⟩
        · have : ys = [] := List.eq_nil_of_length_eq_zero (by omega)
          subst this
          refine ⟨by rcases hx with rfl | ⟨_, rfl, _⟩ <;> rfl, fun k hk => ⟨[], by unfold firsts0; rw [if_pos (by omega)], by simpa using All2.nil⟩⟩
        · obtain ⟨c, hg, hcc⟩ := blk_cells t hb hk0
          refine ⟨rfl, fun k hk => ⟨c.take (k * size), ?_, hcc.take _⟩⟩
          have hks : k * size ≤ ys.length := by rw [hc]; exact Nat.mul_le_mul_right _ hk
          unfold firsts0
          split
          · rename_i h0; subst h0; simp
          · simp only [firsts, row_own hg]
            rw [if_pos (by rw [hcc.1]; omega)]
            simp
      · cases he
    · cases he
  · rename_i u a off n c0
    split at he
    · rename_i cs hb
      split at he
      · rename_i hc
        cases he
        obtain ⟨kk, tg, hk0, ht, hcap, rfl⟩ := ob_inv r
        obtain ⟨c, hg, hcc⟩ := blk_cells t hb hk0
        refine ⟨rfl, fun k hk => ⟨(c.drop off).take (k * size), ?_, ?_⟩⟩
        · have hks : k * size ≤ m * size := Nat.mul_le_mul_right _ hk
          unfold firsts0
          split
          · rename_i h0; subst h0; simp
          · simp only [firsts, row_own hg]
            rw [if_pos (by rw [hcc.1]; omega)]
        · have r2 := ((hcc.drop off).take (m * size)).take (k * size)
          rw [List.take_take, Nat.min_eq_left (Nat.mul_le_mul_right _ hk)] at r2
          exact r2
      · cases he
    · cases he
  · cases he
end
end Go.Ab.V
