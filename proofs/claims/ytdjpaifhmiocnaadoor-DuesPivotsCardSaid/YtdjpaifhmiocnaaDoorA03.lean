/- A part of the proof of a law: an evaluator of the code, proved sound against the model, and contracts of functions over it. No condition. -/
import Derived.FnData
import Derived.ChangeAnyMap
import Derived.Test.YtdjpaifhmiocnaaDoorA02
set_option linter.unusedSimpArgs false
set_option linter.unusedVariables false
/- Operations that write nothing, and regions whose reads may come earlier or later. -/
namespace Go.Ab.V
def pur : AOp → Bool
  | .box _ => false
  | .zero _ => false
  | .bslice .. => false
  | .st .. => false
  | .mkmap => false
  | .mks .. => false
  | .mset .. => false
  | .app .. => false
  | .cpy .. => false
  | .clr .. => false
  | _ => true
section
variable {X : Ctx} {S S1 : VSt} {s : Slots} {h : AHeap} {ids : Pa → Option Nat} {F : Nat → Prop} {C : Cfg} {v v' : Value} {x y z : VV} {rd : Addr → List Value → Prop}
def PurS (C : Cfg) (o : AOp) (S : VSt) (x : VV) (S1 : VSt) : Prop := S1 = S ∧ ∀ X s h ids F, St X S s h ids F → ∃ v, aev o false C noSelf s h = some (v, h) ∧ Vr (RdF h F) ids v x
theorem PurS.mk {o : AOp} (hp : ∀ X s h ids F, St X S s h ids F → ∃ v, aev o false C noSelf s h = some (v, h) ∧ Vr (RdF h F) ids v x) : PurS C o S x S := ⟨rfl, hp⟩
theorem vev_pur {o : AOp} {d : Option Pa} (hp : pur o = true) (he : vev o d S = some (x, S1)) : PurS C o S x S1 := by
  cases o with
  | mov x' => cases he; exact PurS.mk fun X s h ids F t => ⟨_, rfl, evV_sound t _⟩
  | pick c a b =>
    simp only [vev] at he
    split at he
    · rename_i tb hc
      cases he
      refine PurS.mk fun X s h ids F t => ?_
      have rc := evV_sound t c
      rw [hc] at rc
      obtain ⟨e, _⟩ := at_inv rc
      refine ⟨_, by rw [aev_pick, e]; rfl, ?_⟩
      cases tb
      · exact evV_sound t b
      · exact evV_sound t a
    · cases he
  | box y => cases hp
  | zero z => cases hp
  | build z ps =>
    simp only [vev] at he
    split at he
    · rename_i cs hcs
      cases he
      refine PurS.mk fun X s h ids F t => ?_
      obtain ⟨ws, h1, h2⟩ := fill_sound (all2_map ofAtom ofAtom_sound z) (pEv_sound t ps) hcs
      exact ⟨_, by rw [aev_build, h1]; rfl, .agg h2.1 h2.2⟩
    · cases he
  | bslice len size z ps => cases hp
  | ld n a =>
    obtain ⟨he, rfl⟩ := ret1X_inv he
    refine PurS.mk fun X s h ids F t => ?_
    obtain ⟨w, h1, h2⟩ := ld_sound' t (evV_sound t a) he
    exact ⟨w, by rw [aev_ld, h1]; rfl, h2⟩
  | st n a y => cases hp
  | nilchk y =>
    simp only [vev] at he
    split at he
    · rename_i u a off hy
      cases he
      refine PurS.mk fun X s h ids F t => ?_
      have r := evV_sound t y
      rw [hy] at r
      obtain ⟨k, tg, hk, ht, e⟩ := op_inv r
      exact ⟨_, by rw [aev_nilchk, e]; rfl, .op _ hk ht⟩
    · rename_i u cs hy
      cases he
      refine PurS.mk fun X s h ids F t => ?_
      have r := evV_sound t y
      rw [hy] at r
      have r' := r
      obtain ⟨a, row, e, _⟩ := fp_inv (p_inv r)
      rw [e] at r'
      exact ⟨_, by rw [aev_nilchk, e]; rfl, r'⟩
    · cases he
  | bin op a b =>
    simp only [vev] at he
    split at he
    · rename_i a' b' ha hb
      obtain ⟨w, hw, rfl, rfl⟩ := ret1V_inv he
      refine PurS.mk fun X s h ids F t => ?_
      exact ⟨w, by rw [aev_bin, (atV_sound (evV_sound t a) ha).1, (atV_sound (evV_sound t b) hb).1, hw]; rfl, vr_at (bin_atom hw)⟩
    · cases he
  | eqs k neg a b =>
    simp only [vev] at he
    split at he
    · rename_i q hq
      cases he
      refine PurS.mk fun X s h ids F t => ?_
      exact ⟨_, by rw [aev_eqs]; simp only [eqsA, eqX_sound (evV_sound t a) (evV_sound t b) hq]; rfl, vr_at rfl⟩
    · cases he
  | un op a =>
    simp only [vev] at he
    split at he
    · rename_i a' ha
      obtain ⟨w, hw, rfl, rfl⟩ := ret1V_inv he
      exact PurS.mk fun X s h ids F t => ⟨w, by rw [aev_un, (atV_sound (evV_sound t a) ha).1, hw]; rfl, vr_at (un_atom hw)⟩
    · cases he
  | cvt k a =>
    simp only [vev] at he
    split at he
    · rename_i a' ha
      obtain ⟨w, hw, rfl, rfl⟩ := ret1V_inv he
      exact PurS.mk fun X s h ids F t => ⟨w, by rw [aev_cvt, (atV_sound (evV_sound t a) ha).1, hw]; rfl, vr_at (cvt_atom hw)⟩
    · cases he
  | str a =>
    simp only [vev] at he
    split at he
    · rename_i a' ha
      obtain ⟨w, hw, rfl, rfl⟩ := ret1V_inv he
      exact PurS.mk fun X s h ids F t => ⟨w, by rw [aev_str, (atV_sound (evV_sound t a) ha).1, hw]; rfl, vr_at (str_atom hw)⟩
    · cases he
  | clos fn a b =>
    cases fn with
    | func f =>
      cases he
      refine PurS.mk fun X s h ids F t => ?_
      have r1 := evV_list t a
      have r2 := evV_list t b
      exact ⟨_, aev_clos, .clos f r1.1 r1.2 r2.1 r2.2⟩
    | _ => cases he
  | mkmap => cases hp
  | mks size bytes z l c => cases hp
  | slstr a lo hi =>
    simp only [vev] at he
    split at he
    · rename_i sb ha
      split at he
      · rename_i l m k hb
        cases he
        refine PurS.mk fun X s h ids F t => ?_
        have e := (atV_sound (evV_sound t a) ha).1
        obtain ⟨o1, r1⟩ := opt_ev t lo
        obtain ⟨o2, r2⟩ := opt_ev t hi
        have hb' := bnds_sound (mx := none) (rd := RdF h F) (ids := ids) o1 o2 rfl r1 r2 (fun v x h => by cases h) hb
        exact ⟨_, by rw [aev_slstr, e]; simp only [slstr, hb']; rfl, vr_at rfl⟩
      · cases he
    · cases he
  | slsl size a lo hi mx =>
    obtain ⟨he, rfl⟩ := ret1X_inv he
    refine PurS.mk fun X s h ids F t => ?_
    obtain ⟨o1, r1⟩ := opt_ev t lo
    obtain ⟨o2, r2⟩ := opt_ev t hi
    obtain ⟨o3, r3⟩ := opt_ev t mx
    obtain ⟨w, h1, h2⟩ := slsl_sound' o1 o2 o3 r1 r2 r3 (evV_sound t a) he
    exact ⟨w, by rw [aev_slsl, h1]; rfl, h2⟩
  | slarr n size a lo hi mx =>
    obtain ⟨he, rfl⟩ := ret1X_inv he
    refine PurS.mk fun X s h ids F t => ?_
    obtain ⟨o1, r1⟩ := opt_ev t lo
    obtain ⟨o2, r2⟩ := opt_ev t hi
    obtain ⟨o3, r3⟩ := opt_ev t mx
    obtain ⟨w, h1, h2⟩ := slarr_sound' o1 o2 o3 r1 r2 r3 (evV_sound t a) he
    exact ⟨w, by rw [aev_slarr, h1]; rfl, h2⟩
  | fad off a =>
    obtain ⟨he, rfl⟩ := ret1X_inv he
    refine PurS.mk fun X s h ids F t => ?_
    obtain ⟨w, h1, h2⟩ := fad_sound' (evV_sound t a) he
    exact ⟨w, by rw [aev_fad, h1]; rfl, h2⟩
  | iad len size a i =>
    obtain ⟨he, rfl⟩ := ret1X_inv he
    refine PurS.mk fun X s h ids F t => ?_
    obtain ⟨w, h1, h2⟩ := iad_sound' (evV_sound t a) (evV_sound t i) he
    exact ⟨w, by rw [aev_iad, h1]; rfl, h2⟩
  | ias size a i =>
    obtain ⟨he, rfl⟩ := ret1X_inv he
    refine PurS.mk fun X s h ids F t => ?_
    obtain ⟨w, h1, h2⟩ := ias_sound' (evV_sound t a) (evV_sound t i) he
    exact ⟨w, by rw [aev_ias, h1]; rfl, h2⟩
  | fld n off a =>
    simp only [vev] at he
    split at he
    · rename_i cs ha
      obtain ⟨hq, rfl⟩ := ret1X_inv he
      refine PurS.mk fun X s h ids F t => ?_
      have r := evV_sound t a
      rw [ha] at r
      obtain ⟨xs, e, r⟩ := agg_inv r
      obtain ⟨w, h1, h2⟩ := part_sound r hq
      exact ⟨w, by rw [aev_fld, e]; simp only [fld, List.toList_toArray, h1]; rfl, h2⟩
    · cases he
  | idx len size n a i =>
    simp only [vev] at he
    split at he
    · rename_i cs i' ha hi
      split at he
      · rename_i hc
        obtain ⟨hq, rfl⟩ := ret1X_inv he
        refine PurS.mk fun X s h ids F t => ?_
        have r := evV_sound t a
        rw [ha] at r
        obtain ⟨xs, e, r⟩ := agg_inv r
        obtain ⟨k, e2⟩ := atI_sound (evV_sound t i) hi
        obtain ⟨w, h1, h2⟩ := part_sound r hq
        exact ⟨w, by rw [aev_idx, e, e2]; simp only [idxA, List.toList_toArray]; rw [if_pos hc, h1]; rfl, h2⟩
      · cases he
    · cases he
  | idxs a i =>
    simp only [vev] at he
    split at he
    · rename_i a' b' ha hb
      obtain ⟨w, hw, rfl, rfl⟩ := ret1V_inv he
      exact PurS.mk fun X s h ids F t => ⟨w, by rw [aev_idxs, (atV_sound (evV_sound t a) ha).1, (atV_sound (evV_sound t i) hb).1, hw]; rfl, vr_at (idxs_atom hw)⟩
    · cases he
  | look ok ts zv m k =>
    obtain ⟨he, rfl⟩ := ret1X_inv he
    refine PurS.mk fun X s h ids F t => ?_
    obtain ⟨w, h1, h2⟩ := look_sound' t (evV_sound t m) (evV_sound t k) he
    exact ⟨w, by rw [aev_look, h1]; rfl, h2⟩
  | mset ts m k y => cases hp
  | ext i a =>
    simp only [vev] at he
    split at he
    · rename_i vs ha
      obtain ⟨hq, rfl⟩ := ret1X_inv he
      refine PurS.mk fun X s h ids F t => ?_
      have r := evV_sound t a
      rw [ha] at r
      obtain ⟨xs, e, r⟩ := tup_inv r
      obtain ⟨w, h1, h2⟩ := r.get hq
      exact ⟨w, by rw [aev_ext, e]; simp only [extA, List.toList_toArray, h1]; rfl, h2⟩
    · cases he
  | app size a b => cases hp
  | cpy size a b => cases hp
  | clr z a => cases hp
  | len k a =>
    obtain ⟨w, hw, rfl, rfl⟩ := ret1V_inv he
    refine PurS.mk fun X s h ids F t => ?_
    obtain ⟨h1, h2⟩ := len_sound' t (evV_sound t a) hw
    exact ⟨w, by rw [aev_len, h1]; rfl, vr_at h2⟩
  | min a l =>
    simp only [vev] at he
    split at he
    · rename_i a' l' ha hl
      obtain ⟨w, hw, rfl, rfl⟩ := ret1V_inv he
      refine PurS.mk fun X s h ids F t => ?_
      obtain ⟨e1, e2⟩ := atV_sound (evV_sound t a) ha
      obtain ⟨e3, _⟩ := atL_sound (evV_list t l) hl
      exact ⟨w, by rw [aev_min, e1, e3, hw]; rfl, vr_at (fold_atom (fun h => min2_atom h) e2 hw)⟩
    · cases he
  | max a l =>
    simp only [vev] at he
    split at he
    · rename_i a' l' ha hl
      obtain ⟨w, hw, rfl, rfl⟩ := ret1V_inv he
      refine PurS.mk fun X s h ids F t => ?_
      obtain ⟨e1, e2⟩ := atV_sound (evV_sound t a) ha
      obtain ⟨e3, _⟩ := atL_sound (evV_list t l) hl
      exact ⟨w, by rw [aev_max, e1, e3, hw]; rfl, vr_at (fold_atom (fun h => max2_atom h) e2 hw)⟩
    · cases he
  | _ => cases he
end
/-! ### Before the acts of a region -/
def HK (n0 : Nat → Prop) (h h' : AHeap) : Prop := h'.base = h.base ∧ ∀ k, n0 k → h'.get k = h.get k
theorem HK.refl {n0 : Nat → Prop} {h : AHeap} : HK n0 h h := ⟨rfl, fun _ _ => rfl⟩
theorem HK.trans {n0 : Nat → Prop} {h h1 h2 : AHeap} (a : HK n0 h h1) (b : HK n0 h1 h2) : HK n0 h h2 := ⟨b.1.trans a.1, fun k hk => (b.2 k hk).trans (a.2 k hk)⟩
def Look (n0 : Nat → Prop) (o : AOper) (s : Slots) (h : AHeap) : Prop := wantedA s o.guard = some false ∨ wantedA s o.guard = some true ∧ ∃ nn a ad w, o.op = .ld nn a ∧ evA s a = .pointer (some ad) ∧ (ad.spot = none ∨ n0 ad.block) ∧ ldA nn ad h = some w ∧ veq w w = true
theorem ldA_HK {n0 : Nat → Prop} {h h1 h2 : AHeap} {nn : Option Nat} {ad : Addr} (k1 : HK n0 h h1) (k2 : HK n0 h h2) (hb : ad.spot = none ∨ n0 ad.block) : ldA nn ad h1 = ldA nn ad h2 := by
  have : h1.row ad = h2.row ad := by
    unfold AHeap.row
    cases hs : ad.spot with
    | none => simp only [k1.1, k2.1]
    | some t =>
      rcases hb with hb | hb
      · rw [hs] at hb; cases hb
      · simp only [k1.2 _ hb, k2.2 _ hb]
  unfold ldA
  rw [this]
structure PreR (C : Cfg) (n0 : Nat → Prop) (m : Nat) (pl : Nat → Bool) (i : Nat) (ops : List AOper) (s : Slots) (h : AHeap) (s' : Slots) (h' : AHeap) : Prop where
  runs : runOps false C (run false C m) ops s h = some (s', h')
  cut : ∀ (A1 A2 : List AOper), ops = A1 ++ A2 → ∃ s1 h1, runOps false C (run false C m) A1 s h = some (s1, h1) ∧ HK n0 h h1 ∧ ∀ o r, A2 = o :: r → pl (i + A1.length) = true → Look n0 o s1 h1
section
variable {C : Cfg} {n0 : Nat → Prop} {m i : Nat} {pl : Nat → Bool} {ops r : List AOper} {s s' : Slots} {h h1 h' : AHeap} {o : AOper} {v : Value}
theorem PreR.nil : PreR C n0 m pl i [] s h s h := ⟨rfl, fun A1 A2 e => by
  obtain ⟨rfl, rfl⟩ := List.append_eq_nil_iff.1 e.symm
  exact ⟨s, h, rfl, .refl, fun o r e => by cases e⟩⟩
theorem PreR.cons (hw : wantedA s o.guard = some true) (hv : aev o.op false C (Ab.run false C m) s h = some (v, h1)) (hk : HK n0 h h1) (hl : pl i = true → Look n0 o s h) (hr : PreR C n0 m pl (i + 1) r (setO o.dst s v fun s => s) h1 s' h') : PreR C n0 m pl i (o :: r) s h s' h' := by
  refine ⟨by rw [runOps_step _ hw hv]; exact hr.runs, fun A1 A2 e => ?_⟩
  cases A1 with
  | nil =>
    refine ⟨s, h, rfl, .refl, fun o' r' e' hp => ?_⟩
    rw [List.nil_append] at e
    rw [← e] at e'
    cases e'
    exact hl hp
  | cons a A1 =>
    have e0 : o :: r = a :: (A1 ++ A2) := e
    injection e0 with e1 e9
    subst e1
    obtain ⟨s1, h2, g1, g2, g3⟩ := hr.cut A1 A2 e9
    exact ⟨s1, h2, by rw [runOps_step _ hw hv]; exact g1, hk.trans g2, fun o' r' e' hp => g3 o' r' e' (by rw [show i + 1 + A1.length = i + (o :: A1).length from by simp; omega]; exact hp)⟩
theorem runOps_skip (self : Task → Option Res) {c : AOper} {X : List AOper} (hw : wantedA s c.guard = some false) : runOps false C self (c :: X) s h = runOps false C self X (setO c.dst s skipV fun s => s) h := by
  show (match wantedA s c.guard with
      | none => none
      | some t => Bool.casesOn t (setO c.dst s skipV fun s => runOps false C self X s h)
        (match aev c.op false C self s h with
          | some (v, h') => frcV false v fun v => frcH false h' fun h' => setO c.dst s v fun s => runOps false C self X s h'
          | none => none)) = _
  rw [hw]
  show setO c.dst s skipV (fun s => runOps false C self X s h) = _
  rw [setO_eq]
theorem PreR.skip (hw : wantedA s o.guard = some false) (hr : PreR C n0 m pl (i + 1) r (setO o.dst s skipV fun s => s) h s' h') : PreR C n0 m pl i (o :: r) s h s' h' := by
  refine ⟨by rw [runOps_skip _ hw]; exact hr.runs, fun A1 A2 e => ?_⟩
  cases A1 with
  | nil =>
    rw [List.nil_append] at e
    exact ⟨s, h, rfl, .refl, fun o' r' e' _ => by rw [← e] at e'; cases e'; exact .inl hw⟩
  | cons a A1 =>
    have e0 : o :: r = a :: (A1 ++ A2) := e
    injection e0 with e1 e9
    subst e1
    obtain ⟨s1, h2, g1, g2, g3⟩ := hr.cut A1 A2 e9
    exact ⟨s1, h2, by rw [runOps_skip _ hw]; exact g1, g2, fun o' r' e' hp => g3 o' r' e' (by rw [show i + 1 + A1.length = i + (o :: A1).length from by simp; omega]; exact hp)⟩
theorem PreR.mono {m' : Nat} (hm : m ≤ m') (hr : PreR C n0 m pl i ops s h s' h') : PreR C n0 m' pl i ops s h s' h' := by
  refine ⟨(runOps_mono (run_mono (b := false) (C := C) hm) ops hr.runs).1, fun A1 A2 e => ?_⟩
  obtain ⟨s1, h2, g1, g2, g3⟩ := hr.cut A1 A2 e
  exact ⟨s1, h2, (runOps_mono (run_mono (b := false) (C := C) hm) A1 g1).1, g2, g3⟩
theorem codeE_pre {A R : List AOper} {plan : List (Nat × List Nat)} (hA : PreR C n0 m pl 0 A s h s' h1) (hplan : (plan.all fun q => Nat.blt q.1 A.length && pl q.1 && q.2.all fun p => Nat.ble p A.length) = true) {s2 : Slots} (hR : OpsE C R s' h1 s2 h') : CodeE C (.reg (A ++ R) plan) s h .normal s2 h' := by
  obtain ⟨n, eR⟩ := hR
  have hA' := hA.mono (Nat.le_max_left m n)
  have eR' := (runOps_mono (run_mono (b := false) (C := C) (Nat.le_max_right m n)) R eR).1
  generalize max m n = M at hA' eR'
  refine ⟨M, ?_⟩
  have e3 : runOps false C (run false C M) (A ++ R) s h = some (s2, h') := by rw [runOps_append _ _ _ _ _ _ _ hA'.runs]; exact eR'
  show (match regA false C (run false C M) (A ++ R) plan s h with
    | some (s, h) => some (Ex.normal, s, h)
    | none => none) = _
  have hreg : regA false C (run false C M) (A ++ R) plan s h = some (s2, h') := by
    unfold regA
    cases plan with
    | nil => exact e3
    | cons q0 rest =>
      simp only
      rw [if_pos, e3]
      rw [List.all_eq_true] at hplan ⊢
      intro q hq
      have hq' := hplan q hq
      simp only [Bool.and_eq_true] at hq'
      obtain ⟨⟨b1, b2⟩, b3⟩ := hq'
      have b1 : q.1 < A.length := by simpa [Nat.blt_eq] using b1
      rw [List.all_eq_true] at b3 ⊢
      intro p hp
      have hpl : p ≤ A.length := by simpa [Nat.ble_eq] using b3 p hp
      obtain ⟨sj, hj, j1, j2, j3⟩ := hA'.cut (A.take q.1) (A.drop q.1) (List.take_append_drop _ _).symm
      obtain ⟨sp, hp', p1, p2, _⟩ := hA'.cut (A.take p) (A.drop p) (List.take_append_drop _ _).symm
      have lj : (A.take q.1).length = q.1 := by rw [List.length_take]; omega
      have lp : (A.take p).length = p := by rw [List.length_take]; omega
      have gj : (states false C (run false C M) (A ++ R) s h)[q.1]? = some (sj, hj) := by
        have := states_get (C := C) (run false C M) (A.take q.1) (A.drop q.1 ++ R) s sj h hj j1
        rwa [← List.append_assoc, List.take_append_drop, lj] at this
      have gp : (states false C (run false C M) (A ++ R) s h)[p]? = some (sp, hp') := by
        have := states_get (C := C) (run false C M) (A.take p) (A.drop p ++ R) s sp h hp' p1
        rwa [← List.append_assoc, List.take_append_drop, lp] at this
      have go : (A ++ R)[q.1]? = some A[q.1] := by rw [List.getElem?_append_left b1, List.getElem?_eq_getElem b1]
      unfold planOk1
      rw [go, gj, gp]
      rcases j3 A[q.1] _ (List.drop_eq_getElem_cons b1) (by rw [lj, Nat.zero_add]; exact b2) with hg | ⟨hg, nn, a, ad, w, ho, ha, hb, hl, hv⟩
      · simp only [hg]
      have e1 : aev A[q.1].op false C (run false C M) sj hj = some (w, hj) := by rw [ho, aev_ld, ha]; show ret1 (ldA nn ad hj) hj = _; rw [hl]; rfl
      have e2 : aev A[q.1].op false C (run false C M) sj hp' = some (w, hp') := by rw [ho, aev_ld, ha]; show ret1 (ldA nn ad hp') hp' = _; rw [ldA_HK p2 j2 hb, hl]; rfl
      simp only [hg, e1, e2, hv]
  rw [hreg]
end
/-! ### The same over states -/
def VPl (C : Cfg) (plan : List (Nat × List Nat)) (pl : Nat → Bool) (i : Nat) (N0 : List Pa) (b : Bool) (ops : List AOper) (S : VSt) (Q : VSt → Prop) : Prop :=
  ∀ (E : Env C) X s h ids F (F0 : Nat → Prop), E.ok X → St X S s h ids F → (N0.all fun a => (PT.get a S.B).isSome) = true → (b = true → ∀ k, F k → F0 k) → (∀ k, F0 k → F k) →
    ∃ m A R s' h' F' S' ids', ops = A ++ R ∧ PreR C (fun k => (∃ a ∈ N0, ids a = some k) ∨ F0 k) m pl i A s h s' h' ∧ (plan.all fun q => Nat.blt q.1 (i + A.length) && pl q.1 && q.2.all fun p => Nat.ble p (i + A.length)) = true ∧ St X S' s' h' ids' F' ∧ VO C R S' Q
section
variable {C : Cfg} {plan : List (Nat × List Nat)} {pl : Nat → Bool} {i : Nat} {N0 : List Pa} {b : Bool} {ops r : List AOper} {S : VSt} {Q : VSt → Prop}
theorem put_B (S : VSt) (d : Option Pa) (x : VV) : (S.put d x).B = S.B := by cases d <;> rfl
theorem VPl.stop (hp : (plan.all fun q => Nat.blt q.1 i && pl q.1 && q.2.all fun p => Nat.ble p i) = true) (hq : VO C ops S Q) : VPl C plan pl i N0 b ops S Q :=
  fun E X s h ids F F0 hE t hN _ _ => ⟨0, [], ops, s, h, F, S, ids, rfl, .nil, hp, t, hq⟩
theorem VPl.go {o : AOper} {x : VV} {S1 : VSt} (hw : wantV S o.guard = some true) (hu : pur o.op = true) (he : vev o.op o.dst S = some (x, S1)) (hl : pl i = true → ∃ n a, o.op = .ld n a ∧ ((∃ u q off, evV S a = .op u q off ∧ q ∈ N0) ∨ b = true ∧ ∃ u cs, evV S a = .p (.fp u cs)) ∧ okPl x = true)
    (hq : VPl C plan pl (i + 1) N0 b r (S.put o.dst x) Q) : VPl C plan pl i N0 b (o :: r) S Q := by
  intro E X s h ids F F0 hE t hN hb1 hb2
  obtain ⟨rfl, hv⟩ := vev_pur (C := C) hu he
  obtain ⟨v, h1, h2⟩ := hv X s h ids F t
  obtain ⟨m, A, R, s', h', F', S', ids9, rfl, g1, g2, g3, g4⟩ := hq E X _ h ids F F0 hE (t.put h2 o.dst) (by rw [put_B]; exact hN) hb1 hb2
  refine ⟨m, o :: A, R, s', h', F', S', ids9, rfl, PreR.cons (want_sound t hw) (aev_mono (self := noSelf) (fun t r e => by cases e) _ h1) .refl (fun hp => ?_) g1, by rw [List.length_cons, show i + (A.length + 1) = i + 1 + A.length from by omega]; exact g2, g3, g4⟩
  obtain ⟨n, a, ho, hor, hx⟩ := hl hp
  have hg := want_sound t hw
  have ra := evV_sound t a
  rw [ho, aev_ld] at h1
  have h1 : ret1 (ldP n (evA s a) h) h = some (v, h) := h1
  rcases hor with ⟨u, q, off, ha, hqN⟩ | ⟨hb, u, cs, ha⟩
  · rw [ha] at ra
    obtain ⟨k, tg, hk, _, hav⟩ := op_inv ra
    refine .inr ⟨hg, n, a, _, v, ho, hav, .inr (.inl ⟨q, hqN, hk⟩), ?_, okPl_veq h2 hx⟩
    rw [hav] at h1
    have h1 : ret1 (ldA n ⟨k, off, some tg⟩ h) h = some (v, h) := h1
    cases hc : ldA n ⟨k, off, some tg⟩ h with
    | none => rw [hc] at h1; cases h1
    | some w => rw [hc] at h1; cases h1; rfl
  · rw [ha] at ra
    obtain ⟨ad, hav, hsp⟩ : ∃ ad, evA s a = .pointer (some ad) ∧ (ad.spot = none ∨ F ad.block) := by
      generalize evA s a = w at ra
      cases ra with
      | p r =>
        cases r with
        | fp _ hrd _ _ =>
          refine ⟨_, rfl, ?_⟩
          unfold RdF at hrd
          split at hrd
          · rename_i e; exact .inl e
          · exact .inr hrd.1
    refine .inr ⟨hg, n, a, _, v, ho, hav, hsp.imp id fun hF => .inr (hb1 hb _ hF), ?_, okPl_veq h2 hx⟩
    rw [hav] at h1
    have h1 : ret1 (ldA n ad h) h = some (v, h) := h1
    cases hc : ldA n ad h with
    | none => rw [hc] at h1; cases h1
    | some w => rw [hc] at h1; cases h1; rfl
theorem VPl.pass {o : AOper} (hw : wantV S o.guard = some false) (hq : VPl C plan pl (i + 1) N0 b r (S.put o.dst .skip) Q) : VPl C plan pl i N0 b (o :: r) S Q := by
  intro E X s h ids F F0 hE t hN hb1 hb2
  obtain ⟨m, A, R, s', h', F', S', ids9, rfl, g1, g2, g3, g4⟩ := hq E X _ h ids F F0 hE (t.put .skip o.dst) (by rw [put_B]; exact hN) hb1 hb2
  exact ⟨m, o :: A, R, s', h', F', S', ids9, rfl, PreR.skip (want_sound t hw) g1, by rw [List.length_cons, show i + (A.length + 1) = i + 1 + A.length from by omega]; exact g2, g3, g4⟩
theorem VPl.call {d : Option Pa} {gd : Option (Pa × Bool)} {g : Opd} {args : List Opd} {f : Nat} {first cap L : List VV} {y : VV} (ho : ∀ l b, C.orc f l b = none) (hc : VCall C f L [] [] y []) (hL : first ++ args.map (evV S) ++ cap = L) (hw : wantV S gd = some true) (hg : evV S g = .clos f first cap) (hl : pl i = false)
    (hq : VPl C plan pl (i + 1) N0 false r (S.put d y) Q) : VPl C plan pl i N0 b (⟨d, gd, .call g args⟩ :: r) S Q := by
  subst hL
  intro E X s h1 ids1 F1 F0 hE t1 hN _ hb2
  have rg := evV_sound t1 g
  rw [hg] at rg
  obtain ⟨vf, vc, hvf, rf, rc⟩ : ∃ vf vc : List Value, evA s g = .func (.func f) vf.toArray vc.toArray ∧ All2 (Vr (RdF h1 F1) ids1) vf first ∧ All2 (Vr (RdF h1 F1) ids1) vc cap := by
    generalize evA s g = w at rg
    cases rg with
    | clos f h1 h2 h3 h4 => exact ⟨_, _, rfl, ⟨h1, h2⟩, ⟨h3, h4⟩⟩
  have rall := (rf.append (evV_list t1 args)).append rc
  have t0 : St (cx h1 ids1 F1 []) ⟨.lf, mkB [] .lf, nmsL [], none⟩ .lf h1 ids1 F1 :=
    ⟨t1.wf, rfl, fun _ hk => hk, fun _ _ _ => rfl, fun _ _ => Iff.rfl, t1.flt, fun a b hb => by simp [mkB] at hb, fun a b k hb => by simp [mkB] at hb, fun a a' b b' k hb => by simp [mkB] at hb, fun p x hx => by simp at hx, fun _ _ => rfl, ⟨rfl, rfl⟩, Nat.le_refl _⟩
  obtain ⟨v, h2, hcall, ids2, F2, t2, rv, hids⟩ := hc h1 ids1 F1 _ (by rw [t1.base]; exact E.glob hE) t0 rall
  have hidseq : ids2 = ids1 := funext fun a => hids a (by simp)
  subst hidseq
  have hkeep : ∀ k, k < h1.next → h2.get k = h1.get k := fun k hk => t2.keep k hk (fun ⟨a, b, hb, _⟩ => by simp [mkB] at hb)
  have hnx : h1.next ≤ h2.next := by
    rcases Nat.lt_or_ge h2.next h1.next with hc | hc
    · exact absurd (t2.next _ hc) (Nat.lt_irrefl _)
    · exact hc
  have tS : St X S s h2 ids2 F2 := t1.later t2.wf t2.base (fun k hk => Nat.lt_of_lt_of_le (t1.next k hk) hnx) (fun k hk _ => hkeep k (t1.next k hk))
    (fun a b k hb hk => ⟨hkeep k (t1.lt hb hk), fun hF => (t1.own a b k hb hk).1 ((t2.frz k (t1.lt hb hk)).1 hF)⟩) (fun k hk => ⟨(t2.frz k (t1.flt k hk)).2 hk, hkeep k (t1.flt k hk)⟩)
    (fun k hk => (t2.frz k (t1.next k hk)).trans (t1.frz k hk)) t2.flt t2.nx
  have oc : OpE C (.call g args) s h1 v h2 := OpE.call (by rw [hvf]) (ho _ _) (by simpa using hcall)
  obtain ⟨n, en⟩ := oc
  obtain ⟨m, A, R, s', h', F', S', ids9, rfl, g1, g2, g3, g4⟩ := hq E X _ h2 ids2 F2 F0 hE (tS.put rv d) (by rw [put_B]; exact hN) (fun e => by cases e) (fun k hk => (t2.frz k (t1.flt k (hb2 k hk))).2 (hb2 k hk))
  refine ⟨max n m, ⟨d, gd, .call g args⟩ :: A, R, s', h', F', S', ids9, rfl, PreR.cons (want_sound t1 hw) (aev_mono (run_mono (b := false) (C := C) (Nat.le_max_left n m)) _ en) ⟨t2.base, fun k hP => hkeep k (by
      rcases hP with ⟨a, ha, hk⟩ | hk
      · rw [List.all_eq_true] at hN
        have := hN a ha
        cases hb : PT.get a S.B with
        | none => rw [hb] at this; cases this
        | some b => exact t1.lt hb hk
      · exact t1.flt k (hb2 k hk))⟩ (fun hp => by rw [hl] at hp; cases hp) (g1.mono (Nat.le_max_right n m)),
    by rw [List.length_cons, show i + (A.length + 1) = i + 1 + A.length from by omega]; exact g2, g3, g4⟩
theorem VPl.callB {d : Option Pa} {gd : Option (Pa × Bool)} {g : Opd} {args : List Opd} {f : Nat} {first cap L : List VV} {y : VV} (Bf : List (Pa × VB)) (Br : PT VB) {B' : List (Pa × VB)} (ho : ∀ l b, C.orc f l b = none) (hc : VCall C f L Bf [] y B') (hL : first ++ args.map (evV S) ++ cap = L)
    (hBf : PT.Le (mkB Bf .lf) S.B) (hBr : PT.Le Br S.B) (hw : wantV S gd = some true) (hg : evV S g = .clos f first cap) (hl : pl i = false) (hdis : hasNo Br (nmsL Bf) = true) (hdisN : hasNo Br (nmsL B') = true) (hsub : subs (nmsL B') (nmsL Bf) = true)
    (hNB : (N0.all fun a => (PT.get a Br).isSome && (PT.get a (mkB B' Br)).isSome) = true)
    (hq : VPl C plan pl (i + 1) N0 false r (VSt.put ⟨S.L, mkB B' Br, S.K, S.H⟩ d y) Q) : VPl C plan pl i N0 b (⟨d, gd, .call g args⟩ :: r) S Q := by
  subst hL
  intro E X s h ids F F0 hE t hN _ hb2
  rw [List.all_eq_true] at hNB
  obtain ⟨vf, vc, hvf, v, h', hcall, ids', F2, t2, ry, hids, hkeep, hbase, hfrz⟩ := call_core (N := []) (args := args) [] Bf Br hg (by
      rw [borL_eq]
      have : (List.map (borV []) (first ++ args.map (evV S) ++ cap)) = first ++ args.map (evV S) ++ cap := by
        have h1 : borV [] = id := by funext x; rfl
        rw [h1, List.map_id]
      rw [this]; exact hc) trivial hBf hBr hdis hdisN rfl rfl (by rw [List.append_nil]; exact hsub) (by rw [List.all_eq_true]; intro a _; rfl) rfl t (by rw [t.base]; exact E.glob hE)
  have hidseq : ids' = ids := funext fun a => hids a (by simp)
  subst hidseq
  have oc : OpE C (.call g args) s h v h' := OpE.call hvf (ho _ _) hcall
  obtain ⟨n, en⟩ := oc
  obtain ⟨m, A, R, s', h2, F', S', ids9, rfl, g1, g2, g3, g4⟩ := hq E X _ h' ids' F2 F0 hE (t2.put ry d) (by
    rw [put_B, List.all_eq_true]
    intro a ha
    have := hNB a ha
    rw [Bool.and_eq_true] at this; exact this.2) (fun e => by cases e) (fun k hk => hfrz k (hb2 k hk))
  refine ⟨max n m, ⟨d, gd, .call g args⟩ :: A, R, s', h2, F', S', ids9, rfl, PreR.cons (want_sound t hw) (aev_mono (run_mono (b := false) (C := C) (Nat.le_max_left n m)) _ en) ⟨hbase, fun k hP => ?_⟩ (fun hp => by rw [hl] at hp; cases hp) (g1.mono (Nat.le_max_right n m)),
    by rw [List.length_cons, show i + (A.length + 1) = i + 1 + A.length from by omega]; exact g2, g3, g4⟩
  rcases hP with ⟨a, ha, hk⟩ | hk
  rotate_left
  · exact hkeep k (t.flt k (hb2 k hk)) fun a0 b0 h0 e => (t.own a0 b0 k (hBf.get h0) e).1 (hb2 k hk)
  have h1 := hNB a ha
  rw [Bool.and_eq_true] at h1
  cases hb : PT.get a Br with
  | none => rw [hb] at h1; cases h1.1
  | some b =>
    have hbS := hBr.get hb
    refine hkeep k (t.lt hbS hk) fun a0 b0 h0 e => ?_
    have := t.inj a0 a b0 b k (hBf.get h0) hbS e hk
    subst this
    rcases mkB_get h0 with ⟨e0, he0, rfl, _⟩ | ⟨h9, _⟩
    · have := hasNo_spec hdis _ (mem_nms he0)
      rw [hb] at this; cases this
    · simp at h9
end
def lookB (N0 : List Pa) (b : Bool) (o : AOper) (S : VSt) (x : VV) : Bool := match o.op with
  | .ld _ a => (match evV S a with
    | .op _ q _ => !nos q N0
    | .p (.fp _ _) => b
    | _ => false) && okPl x
  | _ => false
/-- As far as the next call or act. -/
def runP (pl : Nat → Bool) (N0 : List Pa) (b : Bool) : Nat → List AOper → VSt → Option (List AOper × Nat × VSt)
  | i, [], S => some ([], i, S)
  | i, o :: r, S => match wantV S o.guard with
    | some true => bif isCall o.op || !pur o.op then some (o :: r, i, S) else match vev o.op o.dst S with
      | some (x, _) => bif !pl i || lookB N0 b o S x then runP pl N0 b (i + 1) r (S.put o.dst x) else none
      | none => none
    | some false => runP pl N0 b (i + 1) r (S.put o.dst .skip)
    | none => none
theorem VPl.run {C : Cfg} {plan : List (Nat × List Nat)} {pl : Nat → Bool} {N0 : List Pa} {b : Bool} {Q : VSt → Prop} : ∀ {ops rest : List AOper} {i j : Nat} {S S' : VSt}, runP pl N0 b i ops S = some (rest, j, S') → VPl C plan pl j N0 b rest S' Q → VPl C plan pl i N0 b ops S Q
  | [], rest, i, j, S, S', he, hq => by cases he; exact hq
  | o :: r, rest, i, j, S, S', he, hq => by
    simp only [runP] at he
    split at he
    · rename_i hw
      cases hc : (isCall o.op || !pur o.op) with
      | true => rw [hc] at he; cases he; exact hq
      | false =>
        rw [hc] at he
        simp only [cond_false] at he
        simp only [Bool.or_eq_false_iff, Bool.not_eq_false'] at hc
        split at he
        · rename_i x S1 hv
          cases hl : (!pl i || lookB N0 b o S x) with
          | false => rw [hl] at he; cases he
          | true =>
            rw [hl] at he
            simp only [cond_true] at he
            refine VPl.go hw hc.2 hv (fun hp => ?_) (VPl.run he hq)
            rw [hp] at hl
            have hl : lookB N0 b o S x = true := by simpa using hl
            unfold lookB at hl
            split at hl
            · rename_i n a ho
              rw [Bool.and_eq_true] at hl
              obtain ⟨h1, h2⟩ := hl
              split at h1
              · rename_i u q off ha
                exact ⟨n, a, ho, .inl ⟨u, q, off, ha, nos_not (by simpa using h1)⟩, h2⟩
              · rename_i u cs ha
                exact ⟨n, a, ho, .inr ⟨h1, u, cs, ha⟩, h2⟩
              · cases h1
            · cases hl
        · cases he
    · rename_i hw
      exact VPl.pass hw (VPl.run he hq)
    · cases he
/-- A region with a plan. -/
theorem VC.planP {C : Cfg} {plan : List (Nat × List Nat)} {ops : List AOper} {S : VSt} {Q : Ex → VSt → Prop} (N0 : List Pa) (hN : (N0.all fun a => (PT.get a S.B).isSome) = true)
    (hq : VPl C plan (fun j => plan.any fun q => q.1 == j) 0 N0 true ops S (Q .normal)) : VC C (.reg ops plan) S Q := by
  intro E s h ids F t
  obtain ⟨X, hE, t⟩ := t
  obtain ⟨m, A, R, s', h1, F', S', ids9, rfl, g1, g2, g3, g4⟩ := hq E X s h ids F F hE t hN (fun _ _ h => h) (fun _ h => h)
  obtain ⟨s2, h', eR, S2, ids', F2, hQ, tQ⟩ := g4 E _ _ _ _ ⟨X, hE, g3⟩
  exact ⟨.normal, s2, h', codeE_pre g1 (by simpa using g2) eR, S2, ids', F2, hQ, tQ⟩
end Go.Ab.V

/- What the program's text lays, read out of a row's condition. -/
namespace Go.Ab.V
section
variable {H : Type} {enc : TypeId × Value → H} {P : Program} {W : World} {base : Nat} {sp : Nat → Bool} {held : Bool}
theorem laid_int {fuel : Nat} {t : TypeId} {k : IntKind} {cs : List Value} {n : Int} {p : List MemPlace} (ht : P.underlying t = some (.int k)) (hl : cs.length = 1) (h : DataW.trod enc P W base sp held fuel t cs = some (.lit (.int k n), p)) : cs = [.int k n] := by
  cases fuel with
  | zero => simp [DataW.trod] at h
  | succ fuel =>
    match cs, hl with
    | [c], _ =>
      cases c <;> simp [DataW.trod, ht] at h
      rename_i k' n'
      obtain ⟨⟨rfl, _⟩, h, _⟩ := h
      rw [h]
/-- An array of integers. -/
theorem laid_arr {fuel : Nat} {t e : TypeId} {n : Nat} {k : IntKind} {cs : List Value} {zs : List Int} {p : List MemPlace} (ht : P.underlying t = some (.array n e)) (he : P.underlying e = some (.int k)) (hc : P.cellsOf e = 1) (hn : P.cellsOf t = n)
    (h : DataW.trod enc P W base sp held fuel t cs = some (.agg (zs.map fun z => .lit (.int k z)), p)) : cs = zs.map fun z => .int k z := by
  cases fuel with
  | zero => simp [DataW.trod] at h
  | succ fuel =>
    simp only [DataW.trod, ht, hc, hn] at h
    split at h
    · rename_i hl
      cases hm : (List.range n).mapM (fun i => DataW.trod enc P W base sp held fuel e ((cs.drop (i * 1)).take 1)) with
      | none => rw [hm] at h; cases h
      | some xs =>
        rw [hm] at h
        simp only [Option.map_some, Option.some.injEq, Prod.mk.injEq, DataW.agg.injEq] at h
        obtain ⟨hx, _⟩ := h
        have hlen := mapM_some_length hm
        rw [List.length_range] at hlen
        have hzl : zs.length = n := by have := congrArg List.length hx; simp at this; omega
        refine List.ext_getElem (by simp [hzl, hl]) fun i h1 h2 => ?_
        have hi : i < n := by omega
        have hg := mapM_some_get hm i i (by simp [hi])
        rw [List.getElem?_eq_getElem (by omega)] at hg
        have hxi : xs[i].1 = .lit (.int k (zs[i]'(by omega))) := by
          have := congrArg (fun l => l[i]?) hx
          simp only [List.getElem?_map, List.getElem?_eq_getElem (show i < xs.length by omega), List.getElem?_eq_getElem (show i < zs.length by omega), Option.map_some, Option.some.injEq] at this
          exact this
        have hd : (cs.drop (i * 1)).take 1 = [cs[i]] := by
          rw [Nat.mul_one, List.drop_eq_getElem_cons h1]; rfl
        rw [hd] at hg
        have := laid_int he rfl (n := zs[i]'(by omega)) (p := xs[i].2) (by rw [hg]; congr 1; exact Prod.ext hxi rfl)
        rw [List.getElem_map]
        injection this
    · cases h
/-- Two integers side by side. -/
theorem laid_st2 {fuel : Nat} {t : TypeId} {f g : Field} {k : IntKind} {cs : List Value} {x y : Int} {p : List MemPlace} (ht : P.underlying t = some (.struct #[f, g])) (hf : P.underlying f.type = some (.int k)) (hg : P.underlying g.type = some (.int k)) (cf : P.cellsOf f.type = 1) (cg : P.cellsOf g.type = 1) (of : f.offset = 0) (og : g.offset = 1) (hn : P.cellsOf t = 2)
    (h : DataW.trod enc P W base sp held fuel t cs = some (.agg [.lit (.int k x), .lit (.int k y)], p)) : cs = [.int k x, .int k y] := by
  cases fuel with
  | zero => simp [DataW.trod] at h
  | succ fuel =>
    simp only [DataW.trod, ht, hn] at h
    split at h
    · rename_i hl
      match cs, hl with
      | [a, b], _ =>
        simp only [List.mapM_cons, List.mapM_nil, cf, cg, of, og] at h
        cases h1 : DataW.trod enc P W base sp held fuel f.type [a] with
        | none => simp [h1] at h
        | some u =>
          cases h2 : DataW.trod enc P W base sp held fuel g.type [b] with
          | none => simp [h1, h2] at h
          | some v =>
            simp [h1, h2] at h
            have e1 := laid_int hf rfl (n := x) (p := u.2) (by rw [h1]; congr 1; exact Prod.ext h.1.1 rfl)
            have e2 := laid_int hg rfl (n := y) (p := v.2) (by rw [h2]; congr 1; exact Prod.ext h.1.2 rfl)
            injection e1 with e1; injection e2 with e2
            rw [e1, e2]
    · cases h
theorem laid_base {n : String} {d : DataW Unit} {r : List (String × DataW Unit)} {ps : List MemPlace} (h : DataW.LaidVars P W ((n, d) :: r) ps) {g : Nat} {t : TypeId} (hg : P.globalNamed n = some g) (ht : (P.globals[g]?).map (·.type) = some t) {row : List (IntKind × Int)}
    (hr : ∀ fuel cs p, DataW.trod (fun _ => ()) P W 0 (fun _ => true) false fuel t cs = some (d, p) → cs = rowI row) : baseW W g = some (rowI row) ∧ ∃ q, DataW.LaidVars P W r q := by
  obtain ⟨g', t', cs, fuel, p, q, h1, h2, h3, h4, h5, _⟩ := h
  rw [hg] at h1; cases h1
  rw [ht] at h2; cases h2
  have hcs := hr _ _ _ h4
  refine ⟨?_, q, h5⟩
  unfold World.var? at h3
  rw [hg] at h3
  simp only [Option.bind_some] at h3
  unfold baseW
  split at h3
  · rename_i arr u fz hb
    cases h3
    rw [hb]
    simp only [hcs, Option.some.injEq]
    refine List.ext_getElem (by simp) fun i h1 h2 => ?_
    simp [rowI, cln, clnS, selfB]
  · cases h3
end
end Go.Ab.V

/- Acts ahead of the last read of a drawn region. -/
namespace Go.Ab.V
def remB : List Pa → PT VB → PT VB
  | [], t => t
  | a :: r, t => remB r (PT.set a t none)
def addB : List Pa → PT VB → PT VB → PT VB
  | [], _, t => t
  | a :: r, B0, t => addB r B0 (PT.set a t (PT.get a B0))
theorem get_remB : ∀ {N : List Pa} {t : PT VB} {q : Pa} {b : VB}, PT.get q (remB N t) = some b → q ∉ N ∧ PT.get q t = some b
  | [], t, q, b, h => ⟨by simp, h⟩
  | a :: r, t, q, b, h => by
    obtain ⟨h1, h2⟩ := get_remB (N := r) h
    rw [PT.get_set] at h2
    split at h2
    · cases h2
    · rename_i e
      exact ⟨by simp only [List.mem_cons, not_or]; exact ⟨e, h1⟩, h2⟩
theorem get_addB : ∀ {N : List Pa} {B0 t : PT VB} {q : Pa}, (q ∈ N → PT.get q (addB N B0 t) = PT.get q B0) ∧ (q ∉ N → PT.get q (addB N B0 t) = PT.get q t)
  | [], B0, t, q => ⟨fun h => by simp at h, fun _ => rfl⟩
  | a :: r, B0, t, q => by
    obtain ⟨i1, i2⟩ := get_addB (N := r) (B0 := B0) (t := PT.set a t (PT.get a B0)) (q := q)
    constructor
    · intro h
      by_cases hr : q ∈ r
      · exact i1 hr
      · have e : q = a := by simpa [hr] using h
        show PT.get q (addB r B0 _) = _
        rw [i2 hr, PT.get_set, if_pos e, e]
    · intro h
      simp only [List.mem_cons, not_or] at h
      show PT.get q (addB r B0 _) = _
      rw [i2 h.2, PT.get_set, if_neg h.1]
def namesIn (N0 : List Pa) (B : PT VB) : Bool := N0.all fun a => match PT.get a B with
  | some b => (nmB b).all fun c => !nos c N0
  | none => false
section
variable {C : Cfg} {plan : List (Nat × List Nat)} {pl : Nat → Bool} {i : Nat} {N0 : List Pa} {b : Bool} {r : List AOper} {S S1 : VSt} {Q : VSt → Prop}
theorem VPl.act {o : AOper} {x : VV} (hv : vev o.op o.dst ⟨S.L, remB N0 S.B, N0 ++ S.K, S.H⟩ = some (x, S1)) (hw : wantV S o.guard = some true) (hl : pl i = false) (hnm : namesIn N0 S.B = true) (hK : S1.K = N0 ++ S.K)
    (hq : VPl C plan pl (i + 1) N0 b r (VSt.put ⟨S1.L, addB N0 S.B S1.B, S.K, S1.H⟩ o.dst x) Q) : VPl C plan pl i N0 b (o :: r) S Q := by
  intro E X s h ids F F0 hE t hN hb1 hb2
  have hN' : ∀ a ∈ N0, ∃ bb, PT.get a S.B = some bb := fun a ha => by
    rw [List.all_eq_true] at hN
    have := hN a ha
    cases hb : PT.get a S.B with
    | none => rw [hb] at this; cases this
    | some bb => exact ⟨bb, rfl⟩
  let P : Nat → Prop := fun k => ∃ a ∈ N0, ids a = some k
  have hPlt : ∀ k, P k → k < h.next := fun k ⟨a, ha, hk⟩ => let ⟨bb, hb⟩ := hN' a ha; t.lt hb hk
  let X' : Ctx := ⟨h, fun k => P k ∨ X.old k ∨ F k, fun k => X.T k ∧ ¬P k ∧ ¬F k, F, ids, X.H, N0 ++ S.K⟩
  have hnP : ∀ a bb k, a ∉ N0 → PT.get a S.B = some bb → ids a = some k → ¬P k := fun a bb k ha hb hk ⟨a', ha', hk'⟩ => by
    obtain ⟨b', hb'⟩ := hN' a' ha'
    have := t.inj a a' bb b' k hb hb' hk hk'
    subst this; exact ha ha'
  have t' : St X' ⟨S.L, remB N0 S.B, N0 ++ S.K, S.H⟩ s h ids F := by
    refine ⟨t.wf, rfl, fun k hk => ?_, fun _ _ _ => rfl, fun _ _ => Iff.rfl, t.flt, fun a bb hb => t.blk a bb (get_remB hb).2, fun a bb k hb hk => ?_, fun a a' b1 b2 k g1 g2 => t.inj a a' b1 b2 k (get_remB g1).2 (get_remB g2).2, t.slots, fun _ _ => rfl, ⟨t.hist.1, rfl⟩, Nat.le_refl _⟩
    · rcases hk with hk | hk | hk
      · exact hPlt k hk
      · exact t.next k hk
      · exact t.flt k hk
    · obtain ⟨h1, h2⟩ := get_remB hb
      obtain ⟨o1, o2⟩ := t.own a bb k h2 hk
      have hp := hnP a bb k h1 h2 hk
      refine ⟨o1, ?_⟩
      rcases o2 with o2 | ⟨o2, o3⟩
      · exact .inl fun hh => hh.elim hp fun hh => hh.elim o2 o1
      · exact .inr ⟨⟨o2, hp, o1⟩, List.mem_append_right _ o3⟩
  obtain ⟨v, h', ids', hev, t1, rv⟩ := vev_sound (C := C) hv X' s h ids F t'
  have hstab : ∀ a ∈ N0 ++ S.K, ids' a = ids a := fun a ha => t1.stab a (by rw [hK]; exact ha)
  have hkeep : ∀ k, P k ∨ F k → h'.get k = h.get k := fun k hk => t1.keep k (hk.elim .inl fun h => .inr (.inr h)) fun hT => hk.elim hT.2.1 hT.2.2
  have hbase : h'.base = h.base := t1.base
  rw [namesIn, List.all_eq_true] at hnm
  have t2 : St X ⟨S1.L, addB N0 S.B S1.B, S.K, S1.H⟩ s h' ids' F := by
    have hB : ∀ {a bb}, PT.get a (addB N0 S.B S1.B) = some bb → (a ∈ N0 ∧ PT.get a S.B = some bb) ∨ (a ∉ N0 ∧ PT.get a S1.B = some bb) := by
      intro a bb hb
      by_cases ha : a ∈ N0
      · exact .inl ⟨ha, by rw [← get_addB.1 ha]; exact hb⟩
      · exact .inr ⟨ha, by rw [← get_addB.2 ha]; exact hb⟩
    refine ⟨t1.wf, hbase.trans t.base, fun k hk => t1.next k (.inr (.inl hk)), fun k hk hn => (t1.keep k (.inr (.inl hk)) fun hT => hn hT.1).trans (t.keep k hk hn), t.frz, t1.flt, fun a bb hb => ?_, fun a bb k hb hk => ?_, fun a1 a2 b1 b2 k g1 g2 e1 e2 => ?_, t1.slots, fun a ha => (hstab a (List.mem_append_right _ ha)).trans (t.stab a ha), ⟨t1.hist.1, t.hist.2⟩, Nat.le_trans t.nx t1.nx⟩
    · rcases hB hb with ⟨ha, h0⟩ | ⟨ha, h0⟩
      · rw [hstab a (List.mem_append_left _ ha)]
        refine (t.blk a bb h0).mono (fun _ _ r => RdF.mono hbase (fun k hk => ⟨hk, hkeep k (.inr hk)⟩) r) (fun c hc => ?_) (fun k hk => hkeep k (.inl ⟨a, ha, hk⟩))
        have := hnm a ha
        rw [h0] at this
        simp only [List.all_eq_true, Bool.not_eq_true'] at this
        exact hstab c (List.mem_append_left _ (nos_not (this c hc)))
      · exact t1.blk a bb h0
    · rcases hB hb with ⟨ha, h0⟩ | ⟨ha, h0⟩
      · rw [hstab a (List.mem_append_left _ ha)] at hk
        exact t.own a bb k h0 hk
      · obtain ⟨o1, o2⟩ := t1.own a bb k h0 hk
        refine ⟨o1, ?_⟩
        rcases o2 with o2 | ⟨o2, o3⟩
        · exact .inl fun hh => o2 (.inr (.inl hh))
        · rw [hK] at o3
          exact .inr ⟨o2.1, (List.mem_append.1 o3).resolve_left ha⟩
    · have cross : ∀ {a1 a2 : Pa} {b2 : VB}, a1 ∈ N0 → ids' a1 = some k → PT.get a2 S1.B = some b2 → ids' a2 = some k → False := by
        intro a1 a2 b2 ha1 h1 h2 h3
        rw [hstab a1 (List.mem_append_left _ ha1)] at h1
        rcases (t1.own a2 b2 k h2 h3).2 with o | o
        · exact o (.inl ⟨a1, ha1, h1⟩)
        · exact o.1.2.1 ⟨a1, ha1, h1⟩
      rcases hB g1 with ⟨p1, p2⟩ | ⟨p1, p2⟩
      · rcases hB g2 with ⟨q1, q2⟩ | ⟨q1, q2⟩
        · rw [hstab a1 (List.mem_append_left _ p1)] at e1
          rw [hstab a2 (List.mem_append_left _ q1)] at e2
          exact t.inj a1 a2 b1 b2 k p2 q2 e1 e2
        · exact (cross p1 e1 q2 e2).elim
      · rcases hB g2 with ⟨q1, q2⟩ | ⟨q1, q2⟩
        · exact (cross q1 e2 p2 e1).elim
        · exact t1.inj a1 a2 b1 b2 k p2 q2 e1 e2
  obtain ⟨m, A, R, s', h2, F', S', ids9, rfl, g1, g2, g3, g4⟩ := hq E X _ h' ids' F F0 hE (t2.put rv o.dst) (by
    rw [put_B, List.all_eq_true]
    intro a ha
    obtain ⟨bb, hb⟩ := hN' a ha
    rw [get_addB.1 ha, hb]; rfl) hb1 hb2
  have hPe : (fun k => (∃ a ∈ N0, ids' a = some k) ∨ F0 k) = fun k => (∃ a ∈ N0, ids a = some k) ∨ F0 k := by
    funext k
    apply propext
    constructor
    · rintro (⟨a, ha, hk⟩ | hk)
      · exact .inl ⟨a, ha, by rw [← hstab a (List.mem_append_left _ ha)]; exact hk⟩
      · exact .inr hk
    · rintro (⟨a, ha, hk⟩ | hk)
      · exact .inl ⟨a, ha, by rw [hstab a (List.mem_append_left _ ha)]; exact hk⟩
      · exact .inr hk
  rw [hPe] at g1
  exact ⟨m, o :: A, R, s', h2, F', S', ids9, rfl, PreR.cons (want_sound t hw) (aev_mono (self := noSelf) (fun t r e => by cases e) _ hev) ⟨hbase, fun k hP => hkeep k (hP.imp id fun hk => hb2 k hk)⟩ (fun hp => by rw [hl] at hp; cases hp) g1,
    by rw [List.length_cons, show i + (A.length + 1) = i + 1 + A.length from by omega]; exact g2, g3, g4⟩
end
/-- A nil slice, seen as a pure one. -/
theorem G.nilp {S : VSt} {p : Pa} (u : Nat) {S2 : VSt} (hq : G ⟨PT.set p S.L (some (.p (.sl u 0 []))), S.B, S.K, S.H⟩ S2) (hp : PT.get p S.L = some (.p (.at (.slice none 0 0))) := by rfl) : G S S2 := by
  refine G.trans (S2 := ⟨PT.set p S.L (some (.p (.sl u 0 []))), S.B, S.K, S.H⟩) ?_ hq
  intro X s h ids F t
  refine ⟨ids, F, ⟨t.wf, t.base, t.next, t.keep, t.frz, t.flt, t.blk, t.own, t.inj, fun q x hq => ?_, t.stab, t.hist, t.nx⟩⟩
  have hq : PT.get q (PT.set p S.L (some (.p (.sl u 0 [])))) = some x := hq
  rw [PT.get_set] at hq
  split at hq
  · rename_i e
    cases hq
    subst e
    have r := t.slots q _ hp
    have := (at_inv r).1
    rw [this]; exact .p .nil
  · exact t.slots q x hq
theorem vPl {α : Sort _} {a b : α} (h : a = b := by simp (config := {decide := false, maxSteps := 1000000}) (disch := omega) only [vev_call, putC_c0, putC_n0, putC_cs, ble0, List.getElem?_cons_zero, List.getElem?_cons_succ, runU, isCall, wantV, vev, evV, ofVal, ofAtom, atomB, cond_true, cond_false, PT.get, PT.set, PT.filt, PT.map, Option.getD_some, Option.getD_none, ret1V, ret1X, v_ld, v_ias, v_iad, v_fad, v_slsl, v_slarr, v_st, v_app, v_cpy, v_clr, v_len, v_look, v_mset, elsV, partV, newV, free, atV, atI, atL, toVal, cellsV, okV, VSt.put, VSt.kill, VSt.alloc, VSt.frz, VSt.adopt, noref, norefB, deadB, deadV, nos, nm, nmL, nmB, nmE, Pa.eqb, Bool.not_false, Bool.not_true, Bool.and_true, Bool.true_and, Bool.false_and, Bool.and_false, bin, intOps, intBin, cvt, un, goInt, bndsV, bndV, Option.map_some, Option.map_none, List.map_cons, List.map_nil, Int.toNat_natCast, Nat.mul_one, Nat.zero_add, beq_true, beq_false, beq_self_eq_true, List.length_map, List.length_cons, List.length_nil, List.length_append, fillV, pEvV, repsV, List.append_nil, List.nil_append, if_pos, if_neg, reduceIte, List.getElem?_map, List.getElem?_drop, Nat.add_zero, List.getElem?_eq_getElem, Go.IntWalk.i64_in, wrap_u64, tmod_pos, eq_self, true_and, and_true, and_self, List.all_cons, List.all_nil, nmL_vi, flV_len, flP_len, flV_nm, flV_ok, flV_pv, flP_map, drop_flP, drop_flV, putC_flV, eqV2, eqV3, bneT, bneF, decide_true, decide_false, frzL_vi, frzL_flV, nmE_ag, nmE_at, frzE_ag, frzE_at, ofAg_len, ofAt_len, atL_vi, nmL_map_p, frzL_map_p, okL_p, toPVs_p, repsZ, nmL_reps, putC_vi, get_flV0, get_flV1, Int.toNat_zero, Int.toNat_one, Int.reduceToNat, eqV_slice, eqV_ptr, eqV_func, nilS, nilP, nilF, nmL_append, okL_vi, toPVs_vi, toPVs, toPV, frzV, frzL, frzB, resVV, vi, vb, nilV, sl1, bl1, pi, foldV, max2, min2, max_eq, min_eq, Int.tdiv_eq_ediv_of_nonneg, Int.cast_ofNat_Int, Option.isSome_none, Option.isSome_some, Option.isNone_none, Option.isNone_some, and_false, false_and, sl2, sl1P, slP, min_cast, take_map_pi, map_pi, Nat.sub_zero, Nat.zero_mul, List.length_take, decide_eq_true, decide_eq_false, Bool.true_eq_false, Bool.false_eq_true, beqT, beqF, ibeq, ibne, List.take_zero, List.take_succ_cons, List.drop_zero, List.drop_succ_cons, List.drop_nil, List.take_nil, List.cons_append, Bool.not_true, Bool.not_false, runP, pur, lookB, okPl, okPl1, List.any_cons, List.any_nil, Nat.reduceBEq, Nat.reduceEqDiff, beq_self_eq_true, Bool.or_false, Bool.or_true, Bool.false_or, Bool.true_or, Bool.not_true, Bool.not_false, Bool.and_true, Bool.true_and, Nat.zero_add, Nat.reduceAdd, nos, Pa.eqb]; rfl) : a = b := h
theorem vPlF {α : Sort _} {a b : α} {φ : Prop} (hφ : φ) (h : φ → a = b := by intro hh; simp (config := {decide := false, maxSteps := 1000000}) (disch := omega) only [vev_call, putC_c0, putC_n0, putC_cs, ble0, List.getElem?_cons_zero, List.getElem?_cons_succ, runU, isCall, wantV, vev, evV, ofVal, ofAtom, atomB, cond_true, cond_false, PT.get, PT.set, PT.filt, PT.map, Option.getD_some, Option.getD_none, ret1V, ret1X, v_ld, v_ias, v_iad, v_fad, v_slsl, v_slarr, v_st, v_app, v_cpy, v_clr, v_len, v_look, v_mset, elsV, partV, newV, free, atV, atI, atL, toVal, cellsV, okV, VSt.put, VSt.kill, VSt.alloc, VSt.frz, VSt.adopt, noref, norefB, deadB, deadV, nos, nm, nmL, nmB, nmE, Pa.eqb, Bool.not_false, Bool.not_true, Bool.and_true, Bool.true_and, Bool.false_and, Bool.and_false, bin, intOps, intBin, cvt, un, goInt, bndsV, bndV, Option.map_some, Option.map_none, List.map_cons, List.map_nil, Int.toNat_natCast, Nat.mul_one, Nat.zero_add, beq_true, beq_false, beq_self_eq_true, List.length_map, List.length_cons, List.length_nil, List.length_append, fillV, pEvV, repsV, List.append_nil, List.nil_append, if_pos, if_neg, reduceIte, List.getElem?_map, List.getElem?_drop, Nat.add_zero, List.getElem?_eq_getElem, Go.IntWalk.i64_in, wrap_u64, tmod_pos, eq_self, true_and, and_true, and_self, List.all_cons, List.all_nil, nmL_vi, flV_len, flP_len, flV_nm, flV_ok, flV_pv, flP_map, drop_flP, drop_flV, putC_flV, eqV2, eqV3, bneT, bneF, decide_true, decide_false, frzL_vi, frzL_flV, nmE_ag, nmE_at, frzE_ag, frzE_at, ofAg_len, ofAt_len, atL_vi, nmL_map_p, frzL_map_p, okL_p, toPVs_p, repsZ, nmL_reps, putC_vi, get_flV0, get_flV1, Int.toNat_zero, Int.toNat_one, Int.reduceToNat, eqV_slice, eqV_ptr, eqV_func, nilS, nilP, nilF, nmL_append, okL_vi, toPVs_vi, toPVs, toPV, frzV, frzL, frzB, resVV, vi, vb, nilV, sl1, bl1, pi, foldV, max2, min2, max_eq, min_eq, Int.tdiv_eq_ediv_of_nonneg, Int.cast_ofNat_Int, Option.isSome_none, Option.isSome_some, Option.isNone_none, Option.isNone_some, and_false, false_and, sl2, sl1P, slP, min_cast, take_map_pi, map_pi, Nat.sub_zero, Nat.zero_mul, List.length_take, decide_eq_true, decide_eq_false, Bool.true_eq_false, Bool.false_eq_true, beqT, beqF, ibeq, ibne, List.take_zero, List.take_succ_cons, List.drop_zero, List.drop_succ_cons, List.drop_nil, List.take_nil, List.cons_append, Bool.not_true, Bool.not_false, runP, pur, lookB, okPl, okPl1, List.any_cons, List.any_nil, Nat.reduceBEq, Nat.reduceEqDiff, beq_self_eq_true, Bool.or_false, Bool.or_true, Bool.false_or, Bool.true_or, Bool.not_true, Bool.not_false, Bool.and_true, Bool.true_and, Nat.zero_add, Nat.reduceAdd, nos, Pa.eqb, hh]; rfl) : a = b := h hφ
theorem vAc {α : Sort _} {a b : α} (h : a = b := by simp (config := {decide := false, maxSteps := 1000000}) (disch := omega) only [vev_call, putC_c0, putC_n0, putC_cs, ble0, List.getElem?_cons_zero, List.getElem?_cons_succ, runU, isCall, wantV, vev, evV, ofVal, ofAtom, atomB, cond_true, cond_false, PT.get, PT.set, PT.filt, PT.map, Option.getD_some, Option.getD_none, ret1V, ret1X, v_ld, v_ias, v_iad, v_fad, v_slsl, v_slarr, v_st, v_app, v_cpy, v_clr, v_len, v_look, v_mset, elsV, partV, newV, free, atV, atI, atL, toVal, cellsV, okV, VSt.put, VSt.kill, VSt.alloc, VSt.frz, VSt.adopt, noref, norefB, deadB, deadV, nos, nm, nmL, nmB, nmE, Pa.eqb, Bool.not_false, Bool.not_true, Bool.and_true, Bool.true_and, Bool.false_and, Bool.and_false, bin, intOps, intBin, cvt, un, goInt, bndsV, bndV, Option.map_some, Option.map_none, List.map_cons, List.map_nil, Int.toNat_natCast, Nat.mul_one, Nat.zero_add, beq_true, beq_false, beq_self_eq_true, List.length_map, List.length_cons, List.length_nil, List.length_append, fillV, pEvV, repsV, List.append_nil, List.nil_append, if_pos, if_neg, reduceIte, List.getElem?_map, List.getElem?_drop, Nat.add_zero, List.getElem?_eq_getElem, Go.IntWalk.i64_in, wrap_u64, tmod_pos, eq_self, true_and, and_true, and_self, List.all_cons, List.all_nil, nmL_vi, flV_len, flP_len, flV_nm, flV_ok, flV_pv, flP_map, drop_flP, drop_flV, putC_flV, eqV2, eqV3, bneT, bneF, decide_true, decide_false, frzL_vi, frzL_flV, nmE_ag, nmE_at, frzE_ag, frzE_at, ofAg_len, ofAt_len, atL_vi, nmL_map_p, frzL_map_p, okL_p, toPVs_p, repsZ, nmL_reps, putC_vi, get_flV0, get_flV1, Int.toNat_zero, Int.toNat_one, Int.reduceToNat, eqV_slice, eqV_ptr, eqV_func, nilS, nilP, nilF, nmL_append, okL_vi, toPVs_vi, toPVs, toPV, frzV, frzL, frzB, resVV, vi, vb, nilV, sl1, bl1, pi, foldV, max2, min2, max_eq, min_eq, Int.tdiv_eq_ediv_of_nonneg, Int.cast_ofNat_Int, Option.isSome_none, Option.isSome_some, Option.isNone_none, Option.isNone_some, and_false, false_and, sl2, sl1P, slP, min_cast, take_map_pi, map_pi, Nat.sub_zero, Nat.zero_mul, List.length_take, decide_eq_true, decide_eq_false, Bool.true_eq_false, Bool.false_eq_true, beqT, beqF, ibeq, ibne, List.take_zero, List.take_succ_cons, List.drop_zero, List.drop_succ_cons, List.drop_nil, List.take_nil, List.cons_append, Bool.not_true, Bool.not_false, remB, addB]; rfl) : a = b := h
end Go.Ab.V

/- Other names for what a call hands back; such calls in drawn regions. -/
namespace Go.Ab.V
theorem VCall.ren {C : Cfg} {f : Nat} {args : List VV} {b : Pa} {u n : Nat} {l : List VV} (hl : nmL l = []) (hc : VCall C f args [] [b] (.os u b n) [(b, .cells l)]) (a : Pa) : VCall C f args [] [a] (.os u a n) [(a, .cells l)] := by
  intro h ids F vals hg t r
  refine (hc h ids F vals hg t r).mono fun v h' ⟨ids', F', t', rv, hids⟩ => ?_
  refine ⟨fun x => if x = a then ids' b else ids x, F', ?_, ?_, fun x hx => if_neg (by simpa using hx)⟩
  · have hb0 : PT.get b (mkB [(b, VB.cells l)] .lf) = some (VB.cells l) := by
      show PT.get b (PT.set b .lf (some (VB.cells l))) = _
      rw [PT.get_set, if_pos rfl]
    have ha0 : ∀ {x bb}, PT.get x (mkB [(a, VB.cells l)] .lf) = some bb → x = a ∧ bb = VB.cells l := fun {x bb} hx => by
      have hx : PT.get x (PT.set a .lf (some (VB.cells l))) = some bb := hx
      rw [PT.get_set] at hx
      split at hx
      · rename_i e; cases hx; exact ⟨e, rfl⟩
      · simp at hx
    refine ⟨t'.wf, t'.base, t'.next, t'.keep, t'.frz, t'.flt, fun x bb hx => ?_, fun x bb k hx hk => ?_, fun x y b1 b2 k h1 h2 _ _ => ?_, fun p x hx => by simp at hx, fun x hx => by simp [nmsL] at hx, t'.hist, t'.nx⟩
    · obtain ⟨rfl, rfl⟩ := ha0 hx
      rw [if_pos rfl]
      exact (t'.blk b _ hb0).mono (fun _ _ r => r) (fun c hc => by simp only [nmB, hl] at hc; simp at hc) (fun _ _ => rfl)
    · obtain ⟨rfl, rfl⟩ := ha0 hx
      rw [if_pos rfl] at hk
      obtain ⟨o1, o2⟩ := t'.own b _ k hb0 hk
      exact ⟨o1, o2.imp id fun h => by simp [nmsL] at h⟩
    · rw [(ha0 h1).1, (ha0 h2).1]
  · cases rv with
    | osN e h0 => exact .osN (by rw [if_pos rfl]; exact e) h0
    | os n e t => exact .os n (by rw [if_pos rfl]; exact e) t
section
variable {C : Cfg} {plan : List (Nat × List Nat)} {pl : Nat → Bool} {i : Nat} {N0 : List Pa} {b : Bool} {ops r : List AOper} {S : VSt} {Q : VSt → Prop}
theorem VPl.callN {d : Option Pa} {gd : Option (Pa × Bool)} {g : Opd} {args : List Opd} {f : Nat} {first cap L : List VV} {N : List Pa} {y : VV} {B' : List (Pa × VB)} (ho : ∀ l b, C.orc f l b = none) (hc : VCall C f L [] N y B') (hL : first ++ args.map (evV S) ++ cap = L)
    (hw : wantV S gd = some true) (hg : evV S g = .clos f first cap) (hl : pl i = false) (hdisN : hasNo S.B (N ++ nmsL B') = true) (hNK : N.all (fun a => nos a S.K) = true) (hN0 : N.all (fun a => nos a N0) = true) (hsub : subs (nmsL B') N = true)
    (hNB : (N0.all fun a => (PT.get a (mkB B' (filtNB N S.B))).isSome) = true)
    (hq : VPl C plan pl (i + 1) N0 false r (VSt.put ⟨filtN N S.L, mkB B' (filtNB N S.B), S.K, S.H⟩ d y) Q) : VPl C plan pl i N0 b (⟨d, gd, .call g args⟩ :: r) S Q := by
  subst hL
  intro E X s h ids F F0 hE t hN _ hb2
  obtain ⟨vf, vc, hvf, v, h', hcall, ids', F2, t2, ry, hids, hkeep, hbase, hfrz⟩ := call_core (N := N) (args := args) [] [] S.B hg (by
      rw [borL_eq]
      have : (List.map (borV []) (first ++ args.map (evV S) ++ cap)) = first ++ args.map (evV S) ++ cap := by
        have h1 : borV [] = id := by funext x; rfl
        rw [h1, List.map_id]
      rw [this]; exact hc) trivial trivial (PT.Le.refl _) rfl hdisN rfl hNK hsub rfl rfl t (by rw [t.base]; exact E.glob hE)
  have oc : OpE C (.call g args) s h v h' := OpE.call hvf (ho _ _) hcall
  obtain ⟨n, en⟩ := oc
  obtain ⟨m, A, R, s', h2, F', S', ids9, rfl, g1, g2, g3, g4⟩ := hq E X _ h' ids' F2 F0 hE (t2.put ry d) (by rw [put_B]; exact hNB) (fun e => by cases e) (fun k hk => hfrz k (hb2 k hk))
  have hst : ∀ a ∈ N0, ids' a = ids a := fun a ha => hids a fun hn => by
    rw [List.all_eq_true] at hN0
    exact nos_spec (hN0 a hn) ha
  have hPe : (fun k => (∃ a ∈ N0, ids' a = some k) ∨ F0 k) = fun k => (∃ a ∈ N0, ids a = some k) ∨ F0 k := by
    funext k
    apply propext
    constructor
    · rintro (⟨a, ha, hk⟩ | hk)
      · exact .inl ⟨a, ha, by rw [← hst a ha]; exact hk⟩
      · exact .inr hk
    · rintro (⟨a, ha, hk⟩ | hk)
      · exact .inl ⟨a, ha, by rw [hst a ha]; exact hk⟩
      · exact .inr hk
  rw [hPe] at g1
  refine ⟨max n m, ⟨d, gd, .call g args⟩ :: A, R, s', h2, F', S', ids9, rfl, PreR.cons (want_sound t hw) (aev_mono (run_mono (b := false) (C := C) (Nat.le_max_left n m)) _ en) ⟨hbase, fun k hP => hkeep k ?_ fun a b hb => by simp [mkB] at hb⟩ (fun hp => by rw [hl] at hp; cases hp) (g1.mono (Nat.le_max_right n m)),
    by rw [List.length_cons, show i + (A.length + 1) = i + 1 + A.length from by omega]; exact g2, g3, g4⟩
  rcases hP with ⟨a, ha, hk⟩ | hk
  · rw [List.all_eq_true] at hN
    have := hN a ha
    cases hb : PT.get a S.B with
    | none => rw [hb] at this; cases this
    | some b => exact t.lt hb hk
  · exact t.flt k (hb2 k hk)
end
end Go.Ab.V

/- Calls of functions that hand items on themselves. -/
namespace Go.Ab.V
section
variable {X : Ctx} {S S1 : VSt} {s : Slots} {h : AHeap} {ids : Pa → Option Nat} {F : Nat → Prop} {C : Cfg} {v v' : Value} {x y z : VV}
/-- A function that hands on the items 'its', or the first of them, till it is stopped. Bf: blocks that are handed over, Bg: blocks that are given away; R: what is left, by its answer. -/
def VYCall (C : Cfg) (f : Nat) (k : Nat) (args : List VV) (Bf Bg : List (Pa × VB)) (st : Bool) (H : List Itm) (R : VV → List (Pa × VB) → List Itm → Bool → Prop) : Prop :=
  ∀ (E : Env C) h ids F vals, StE E ⟨.lf, mkB (Bf ++ Bg) .lf, nmsL Bf, some ⟨k, H, true, st⟩⟩ .lf h ids F → All2 (Vr (RdF h F) ids) vals args →
    WpF C f vals (fun v h' => ∃ y B' rest live ids' F', R y B' rest live ∧ nm y = [] ∧ StE E ⟨.lf, mkB B' .lf, nmsL Bf, some ⟨k, rest, live, st⟩⟩ .lf h' ids' F' ∧ Vr (RdF h' F') ids' v y) h
def FinY (S : VSt) (rs : List ARes) (K : List Pa) (k : Nat) (st : Bool) (R : VV → List (Pa × VB) → List Itm → Bool → Prop) : Prop :=
  ∃ S' ys B' rest live, G S S' ∧ resVV S' rs = some ys ∧ nm (resX ys) = [] ∧ R (resX ys) B' rest live ∧ PT.Le (mkB B' .lf) S'.B ∧ S'.K = K ∧ S'.H = some ⟨k, rest, live, st⟩
theorem VYCall.mk {f k : Nat} {fn : AFunc} {args : List VV} {Bf Bg : List (Pa × VB)} {st : Bool} {H : List Itm} {R : VV → List (Pa × VB) → List Itm → Bool → Prop} (hf : C.fn f = some fn) (hl : args.length = fn.params.length)
    (hc : VC C fn.body ⟨inV fn.params args .lf, mkB (Bf ++ Bg) .lf, nmsL Bf, some ⟨k, H, true, st⟩⟩ (fun e S => match e with
      | .exit _ => False
      | _ => FinY S fn.results (nmsL Bf) k st R)) : VYCall C f k args Bf Bg st H R := by
  intro E h ids F vals t r
  obtain ⟨X, hE, t⟩ := t
  refine WpF.mk hf (r.1.trans hl) ?_
  have t0 : St X ⟨inV fn.params args .lf, mkB (Bf ++ Bg) .lf, nmsL Bf, some ⟨k, H, true, st⟩⟩ (putL fn.params vals fn.init fun s => s) h ids F :=
    ⟨t.wf, t.base, t.next, t.keep, t.frz, t.flt, t.blk, t.own, t.inj, inV_sound fn.params r (fun p x hx => by simp at hx), t.stab, t.hist, t.nx⟩
  refine (hc E _ _ _ _ ⟨X, hE, t0⟩).mono fun e s' h' ⟨S', i, f', q, Y, hY, t'⟩ => ?_
  have key : FinY S' fn.results (nmsL Bf) k st R → ∃ vs, resOf s' h' fn.results = some vs ∧ ∃ y B' rest live ids' F', R y B' rest live ∧ nm y = [] ∧ StE E ⟨.lf, mkB B' .lf, nmsL Bf, some ⟨k, rest, live, st⟩⟩ .lf h' ids' F' ∧ Vr (RdF h' F') ids' (resV vs) y := by
    rintro ⟨S2, ys, B', rest, live, g, hys, hn, hR, hB, hK, hH⟩
    obtain ⟨i2, f2, t2⟩ := g _ _ _ _ _ t'
    obtain ⟨vs, h1, h2⟩ := res_sound t2 hys
    have t3 := t2.weak (S' := ⟨.lf, mkB B' .lf, nmsL Bf, some ⟨k, rest, live, st⟩⟩) ⟨trivial, hB, hK.symm, hH.symm⟩
    exact ⟨vs, h1, _, B', rest, live, i2, f2, hR, hn, ⟨Y, hY, t3.wf, t3.base, t3.next, t3.keep, t3.frz, t3.flt, t3.blk, t3.own, t3.inj, fun p x hx => by simp at hx, t3.stab, t3.hist, t3.nx⟩, resX_sound h2⟩
  cases e with
  | exit id => exact q.elim
  | normal => obtain ⟨vs, h1, h2⟩ := key q; simp only [h1]; exact h2
  | ret => obtain ⟨vs, h1, h2⟩ := key q; simp only [h1]; exact h2
/-- A part in a box, that is the whole block. -/
def _root_.Go.Ab.VSt.obos (S : VSt) (p : Pa) (i : Nat) (u : Nat) (a : Pa) (n : Nat) (cs : List VV) : VSt := ⟨S.L, PT.set p S.B (some (.cells (cs.set i (.os u a n)))), S.K, S.H⟩
theorem G.obos {p : Pa} {i : Nat} {u : Nat} {a : Pa} {n : Nat} {cs : List VV} (hb : PT.get p S.B = some (.cells cs)) (hi : cs[i]? = some (.ob u a 0 n n)) : G S (S.obos p i u a n cs) := by
  intro X s h ids F t
  have hB : ∀ {a' b}, PT.get a' (S.obos p i u a n cs).B = some b → (a' = p ∧ b = .cells (cs.set i (.os u a n))) ∨ PT.get a' S.B = some b := by
    intro a' b hg
    have hg : PT.get a' (PT.set p S.B (some (.cells (cs.set i (.os u a n))))) = some b := hg
    rw [PT.get_set] at hg
    split at hg
    · rename_i e; cases hg; exact .inl ⟨e, rfl⟩
    · exact .inr hg
  have hB' : ∀ {a' b}, PT.get a' (S.obos p i u a n cs).B = some b → ∃ c, PT.get a' S.B = some c := fun hg => by
    rcases hB hg with ⟨rfl, _⟩ | g
    · exact ⟨_, hb⟩
    · exact ⟨_, g⟩
  refine ⟨ids, F, ⟨t.wf, t.base, t.next, t.keep, t.frz, t.flt, fun a' b hg => ?_, fun a' b k hg hk => ?_, fun a1 a2 b1 b2 k g1 g2 e1 e2 => ?_, t.slots, t.stab, t.hist, t.nx⟩⟩
  · rcases hB hg with ⟨rfl, rfl⟩ | hg
    · have r := t.blk a' _ hb
      revert r
      cases hk : ids a' with
      | none =>
        intro r
        have r : cs = [] := r
        subst r; simp at hi
      | some k =>
        rintro ⟨c, h1, h2⟩
        refine ⟨c, h1, by rw [List.length_set]; exact h2.1, fun j w y hw hy => ?_⟩
        rw [List.getElem?_set] at hy
        split at hy
        · rename_i e
          subst e
          split at hy
          · cases hy
            have r := h2.2 i _ _ hw hi
            obtain ⟨k', tg, hk', ht, _, rfl⟩ := ob_inv r
            exact .os n hk' ht
          · cases hy
        · exact h2.2 j _ _ hw hy
    · exact t.blk a' b hg
  · obtain ⟨c, hg⟩ := hB' hg
    exact t.own a' c k hg hk
  · obtain ⟨c1, g1⟩ := hB' g1
    obtain ⟨c2, g2⟩ := hB' g2
    exact t.inj a1 a2 c1 c2 k g1 g2 e1 e2
/-- A call of a function that hands on itself. L: the slots that are kept. -/
theorem VO.ycall {Q : VSt → Prop} {d : Option Pa} {gd : Option (Pa × Bool)} {g : Opd} {args : List Opd} {r : List AOper} {f k : Nat} {first cap : List VV} {st : Bool} {H : List Itm} {R : VV → List (Pa × VB) → List Itm → Bool → Prop} (Bf Bg : List (Pa × VB)) (L : PT VV)
    (hw : wantV S gd = some true) (hg : evV S g = .clos f first cap) (ho : ∀ l b, C.orc f l b = none) (hc : VYCall C f k (first ++ args.map (evV S) ++ cap) Bf Bg st H R) (hH : S.H = some ⟨k, H, true, st⟩) (hBf : PT.Le (mkB (Bf ++ Bg) .lf) S.B)
    (hL : PT.Le L S.L) (hN : NmOk (nmsL Bf) L) (hK : subs S.K (nmsL Bf) = true) (hg2 : (nmsL Bg).all (fun a => nos a (nmsL Bf) && nos a S.K) = true)
    (hq : ∀ y B' rest live, R y B' rest live → VO C r (VSt.put ⟨L, mkB B' .lf, S.K, some ⟨k, rest, live, st⟩⟩ d y) Q) : VO C (⟨d, gd, .call g args⟩ :: r) S Q := by
  intro E s h ids F t
  obtain ⟨X, hE, t⟩ := t
  have rg := evV_sound t g
  rw [hg] at rg
  obtain ⟨vf, vc, hvf, rf, rc⟩ : ∃ vf vc : List Value, evA s g = .func (.func f) vf.toArray vc.toArray ∧ All2 (Vr (RdF h F) ids) vf first ∧ All2 (Vr (RdF h F) ids) vc cap := by
    generalize evA s g = w at rg
    cases rg with
    | clos f h1 h2 h3 h4 => exact ⟨_, _, rfl, ⟨h1, h2⟩, ⟨h3, h4⟩⟩
  have rall := (rf.append (evV_list t args)).append rc
  have hK := subs_spec hK
  rw [List.all_eq_true] at hg2
  let KZ := nmsL Bf
  let Tk : Nat → Prop := fun m => ∃ a ∈ KZ, ids a = some m
  let RB : Nat → Prop := fun m => ∃ a ∈ nmsL Bg, ids a = some m
  let old2 : Nat → Prop := fun m => m < h.next ∧ ¬RB m
  let Xa : Ctx := ⟨h, old2, Tk, F, ids, S.H, KZ⟩
  have happ : ∀ {l l' : List (Pa × VB)} {a : Pa}, a ∈ nmsL (l ++ l') ↔ a ∈ nmsL l ∨ a ∈ nmsL l' := by
    intro l l' a
    induction l with
    | nil => simp [nmsL]
    | cons e l ih => simp only [List.cons_append, nmsL, List.mem_cons, ih, or_assoc]
  have hBn0 : ∀ a ∈ nmsL (Bf ++ Bg), ∃ b, PT.get a S.B = some b := fun a ha => by
    obtain ⟨b, hb⟩ := mkB_some (t := .lf) ha
    exact ⟨b, hBf.get hb⟩
  have hBn : ∀ a ∈ KZ, ∃ b, PT.get a S.B = some b := fun a ha => hBn0 a (happ.2 (.inl ha))
  have hGf : ∀ a ∈ nmsL Bg, a ∉ KZ ∧ a ∉ S.K := fun a ha => by
    have := hg2 a ha
    rw [Bool.and_eq_true] at this
    exact ⟨nos_spec this.1, nos_spec this.2⟩
  have hRB : ∀ m, RB m → ¬F m ∧ ¬X.old m := fun m ⟨a, ha, hm⟩ => by
    obtain ⟨b, hb⟩ := hBn0 a (happ.2 (.inr ha))
    obtain ⟨o1, o2⟩ := t.own a b m hb hm
    exact ⟨o1, o2.elim id fun h => ((hGf a ha).2 h.2).elim⟩
  have hTk : ∀ m, Tk m → ¬F m ∧ m < h.next ∧ (X.old m → X.T m) ∧ ¬RB m := fun m ⟨a, ha, hm⟩ => by
    obtain ⟨b, hb⟩ := hBn a ha
    obtain ⟨o1, o2⟩ := t.own a b m hb hm
    refine ⟨o1, t.lt hb hm, fun hx => o2.elim (fun h => (h hx).elim) fun h => h.1, fun ⟨a', ha', hm'⟩ => ?_⟩
    obtain ⟨b', hb'⟩ := hBn0 a' (happ.2 (.inr ha'))
    have := t.inj a a' b b' m hb hb' hm hm'
    subst this; exact (hGf a ha').1 ha
  have hnm : ∀ a ∈ KZ, ∀ m, ids a = some m → Tk m → (X.old m → a ∈ S.K) := fun a ha m hm _ hx => by
    obtain ⟨b, hb⟩ := hBn a ha
    exact (t.own a b m hb hm).2.elim (fun h => (h hx).elim) fun h => h.2
  have zi0 : Inr X X L S.K s ids ids h F old2 RB Tk KZ X Xa :=
    ⟨t.weak (S' := ⟨L, .lf, S.K, S.H⟩) ⟨hL, trivial, rfl, rfl⟩, rfl, rfl, rfl, fun m hm => ⟨t.next m hm, fun h => (hRB m h).2 hm⟩, fun m hm => ⟨⟨(hTk m hm).2.1, (hTk m hm).2.2.2⟩, (hTk m hm).1, id, (hTk m hm).2.2.1⟩, fun m _ h1 _ _ => ⟨rfl, fun h => ⟨h, h1⟩⟩,
      fun m hm => ⟨hm, rfl⟩, fun _ h => h, rfl, Nat.le_refl _, fun m hm => ⟨t.flt m hm, fun h => (hRB m h).1 hm⟩, fun _ h => h, rfl, rfl, rfl⟩
  let Ea : Env C := ⟨fun Z => ∃ X', E.ok X' ∧ Inr X X L S.K s ids ids h F old2 RB Tk KZ X' Z, (fun ⟨_, hE, zi⟩ => by rw [zi.z1.base]; exact E.glob hE), by
    intro Z S3 s3 h3 ids3 F3 k rest st vals args Bf ⟨X', hE, zi⟩ t hH ra hB hn
    exact inr_law hK (fun _ _ => rfl) hnm (fun k h1 h2 => ⟨h1, h2⟩) hE zi t hH ra hB hn⟩
  have ta : StE Ea ⟨.lf, mkB (Bf ++ Bg) .lf, nmsL Bf, some ⟨k, H, true, st⟩⟩ .lf h ids F := by
    refine ⟨Xa, ⟨X, hE, zi0⟩, t.wf, rfl, fun m hm => hm.1, fun _ _ _ => rfl, fun _ _ => Iff.rfl, t.flt, fun a b hb => t.blk a b (hBf.get hb), fun a b m hb hm => ?_, fun a a' b b' m g1 g2 => t.inj a a' b b' m (hBf.get g1) (hBf.get g2), fun p x hx => by simp at hx, fun _ _ => rfl, ⟨hH, rfl⟩, Nat.le_refl _⟩
    refine ⟨(t.own a b m (hBf.get hb) hm).1, ?_⟩
    rcases happ.1 (mkB_nms hb).1 with ha | ha
    · exact .inr ⟨⟨a, ha, hm⟩, ha⟩
    · exact .inl fun ho => ho.2 ⟨a, ha, hm⟩
  refine WpO.callG (want_sound t hw) hvf (ho _ _) ?_
  simp only [List.toList_toArray]
  refine (hc Ea _ _ _ _ ta rall).mono fun v h' ⟨y, B', rest, live, ids', F', hR, hny, ⟨Z, ⟨X', hE', zi⟩, tz⟩, rv⟩ => ?_
  have tf := zi.frame tz
  have hids : ∀ a ∈ KZ, ids' a = ids a := fun a ha => (tz.stab a ha).trans (congrFun zi.zid a)
  have tt : St X' ⟨L, mkB B' .lf, S.K, some ⟨k, rest, live, st⟩⟩ s h' ids' F' := by
   refine ⟨tf.wf, tf.base, tf.next, tf.keep, tf.frz, tf.flt, tz.blk, fun a b m hb hm => ?_, tz.inj, fun p x hx => ?_, fun a ha => ?_, ⟨tf.hist.1.trans tz.hist.1, tf.hist.2⟩, tf.nx⟩
   · obtain ⟨o1, o2⟩ := tz.own a b m hb hm
     refine ⟨o1, ?_⟩
     rcases o2 with o2 | ⟨o2, o3⟩
     · exact .inl fun hx => o2 (zi.zo m hx)
     · have hT : Tk m := by rw [← zi.zT]; exact o2
       by_cases hx : X'.old m
       · obtain ⟨_, _, g3, g4⟩ := zi.zt m hT
         have ha : ids a = some m := by rw [← hids a o3]; exact hm
         exact .inr ⟨by rw [zi.zXT]; exact g4 (g3 hx), hnm a o3 m ha hT (g3 hx)⟩
       · exact .inl hx
   · exact (tf.slots p x hx).mono (fun _ _ r => r) fun a ha => hids a (hN.get hx a ha)
   · rw [hids a (hK a ha)]; exact tf.stab a ha
  exact hq y B' rest live hR E _ _ _ _ ⟨X', hE', tt.put rv d⟩
end
end Go.Ab.V

/- Another name for a block of one's own. -/
namespace Go.Ab.V
def rnP (a b c : Pa) : Pa := bif a.eqb c then b else c
mutual
def renV (a b : Pa) : VV → VV
  | .os u c n => .os u (rnP a b c) n
  | .ob u c off n k => .ob u (rnP a b c) off n k
  | .op u c off => .op u (rnP a b c) off
  | .om c => .om (rnP a b c)
  | .oi c => .oi (rnP a b c)
  | .clos f x y => .clos f (renL a b x) (renL a b y)
  | .agg x => .agg (renL a b x)
  | .tup x => .tup (renL a b x)
  | x => x
def renL (a b : Pa) : List VV → List VV
  | [] => []
  | x :: r => renV a b x :: renL a b r
end
theorem renL_eq (a b : Pa) : ∀ l, renL a b l = l.map (renV a b)
  | [] => rfl
  | x :: r => by simp only [renL, List.map_cons, renL_eq a b r]
def renB (a b : Pa) : VB → VB
  | .cells l => .cells (renL a b l)
  | .map es => .map (es.map fun e => (e.1, renV a b e.2))
  | .siter s p => .siter s p
mutual
theorem renV_id {a b : Pa} : ∀ {x : VV}, a ∉ nm x → renV a b x = x
  | .os u c n, h => by simp only [renV, rnP]; rw [show a.eqb c = false from ?_, cond_false]; cases e : a.eqb c; rfl; exact absurd (Pa.eqb_iff.1 e) (by simpa [nm] using h)
  | .ob u c off n k, h => by simp only [renV, rnP]; rw [show a.eqb c = false from ?_, cond_false]; cases e : a.eqb c; rfl; exact absurd (Pa.eqb_iff.1 e) (by simpa [nm] using h)
  | .op u c off, h => by simp only [renV, rnP]; rw [show a.eqb c = false from ?_, cond_false]; cases e : a.eqb c; rfl; exact absurd (Pa.eqb_iff.1 e) (by simpa [nm] using h)
  | .om c, h => by simp only [renV, rnP]; rw [show a.eqb c = false from ?_, cond_false]; cases e : a.eqb c; rfl; exact absurd (Pa.eqb_iff.1 e) (by simpa [nm] using h)
  | .oi c, h => by simp only [renV, rnP]; rw [show a.eqb c = false from ?_, cond_false]; cases e : a.eqb c; rfl; exact absurd (Pa.eqb_iff.1 e) (by simpa [nm] using h)
  | .clos f x y, h => by
    simp only [nm, List.mem_append, not_or] at h
    simp only [renV, renL_id h.1, renL_id h.2]
  | .agg x, h => by simp only [renV, renL_id (l := x) h]
  | .tup x, h => by simp only [renV, renL_id (l := x) h]
  | .p _, _ => rfl
  | .xs, _ => rfl
  | .yl _, _ => rfl
  | .skip, _ => rfl
  | .dead, _ => rfl
theorem renL_id {a b : Pa} : ∀ {l : List VV}, a ∉ nmL l → renL a b l = l
  | [], _ => rfl
  | x :: r, h => by
    simp only [nmL, List.mem_append, not_or] at h
    simp only [renL, renV_id h.1, renL_id h.2]
end
section
variable {X : Ctx} {S : VSt} {s : Slots} {h : AHeap} {ids : Pa → Option Nat} {F : Nat → Prop} {v : Value} {x : VV} {rd : Addr → List Value → Prop} {a b : Pa}
theorem rnP_id (he : ids b = ids a) (c : Pa) : ids (rnP a b c) = ids c := by
  unfold rnP
  cases hb : a.eqb c with
  | false => rfl
  | true => rw [eqb_true hb]; exact he
theorem ren_sound (he : ids b = ids a) (r : Vr rd ids v x) : Vr rd ids v (renV a b x) := by
  have hL : ∀ {xs : List Value} {ys : List VV}, xs.length = ys.length → (∀ (i : Nat) x y, xs[i]? = some x → ys[i]? = some y → Vr rd ids x (renV a b y)) →
      xs.length = (renL a b ys).length ∧ ∀ (i : Nat) x y, xs[i]? = some x → (renL a b ys)[i]? = some y → Vr rd ids x y := by
    intro xs ys hl h
    rw [renL_eq]
    refine ⟨by simp [hl], fun i x y hx hy => ?_⟩
    rw [List.getElem?_map] at hy
    cases hi : ys[i]? with
    | none => rw [hi] at hy; cases hy
    | some z => rw [hi] at hy; cases hy; exact h i x z hx hi
  induction r with
  | p r => exact .p r
  | xs e => exact .xs e
  | osN e h0 => exact .osN (by rw [rnP_id he]; exact e) h0
  | os n e ht => exact .os n (by rw [rnP_id he]; exact e) ht
  | ob off e ht hc => exact .ob off (by rw [rnP_id he]; exact e) ht hc
  | op off e ht => exact .op off (by rw [rnP_id he]; exact e) ht
  | om e => exact .om (by rw [rnP_id he]; exact e)
  | oi e => exact .oi (by rw [rnP_id he]; exact e)
  | clos f h1 _ h2 _ i1 i2 =>
    obtain ⟨a1, a2⟩ := hL h1 i1
    obtain ⟨b1, b2⟩ := hL h2 i2
    exact .clos f a1 a2 b1 b2
  | agg h1 _ i1 => obtain ⟨a1, a2⟩ := hL h1 i1; exact .agg a1 a2
  | tup h1 _ i1 => obtain ⟨a1, a2⟩ := hL h1 i1; exact .tup a1 a2
  | yl l => exact .yl l
  | skip => exact .skip
  | dead v => exact .dead v
theorem renB_sound (he : ids b = ids a) {o : Option Nat} {B : VB} (r : BlkR rd ids h o B) : BlkR rd ids h o (renB a b B) := by
  cases o with
  | none => cases B with
    | cells cs =>
      have r : cs = [] := r
      subst r; rfl
    | map es => exact r
    | siter s pos => exact r
  | some k => cases B with
    | cells cs =>
      obtain ⟨c, h1, h2⟩ := r
      refine ⟨c, h1, by rw [renL_eq, List.length_map]; exact h2.1, fun i x y hx hy => ?_⟩
      rw [renL_eq, List.getElem?_map] at hy
      cases hc : cs[i]? with
      | none => rw [hc] at hy; cases hy
      | some z => rw [hc] at hy; cases hy; exact ren_sound he (h2.2 i x z hx hc)
    | map es =>
      obtain ⟨c, h1, h2⟩ := r
      refine ⟨c, h1, by rw [List.length_map]; exact h2.1, fun i x y hx hy => ?_⟩
      rw [List.getElem?_map] at hy
      cases hc : es[i]? with
      | none => rw [hc] at hy; cases hy
      | some z =>
        rw [hc] at hy; cases hy
        have := h2.2 i x z hx hc
        exact ⟨this.1, ren_sound he this.2⟩
    | siter s pos => exact r
def _root_.Go.Ab.VSt.ren (S : VSt) (a b : Pa) (l : VB) : VSt := ⟨PT.map (renV a b) (PT.filt (noref b) S.L), PT.set b (PT.map (renB a b) (PT.map (deadB b) (PT.set a S.B none))) (some (renB a b (deadB b l))), S.K, S.H⟩
theorem G.ren {l : VB} (a b : Pa) (hb : PT.get a S.B = some l) (hab : a.eqb b = false) (ha : free S a = true) (hf : free S b = true) {S2 : VSt} (hq : G (S.ren a b l) S2) : G S S2 := by
  refine G.trans ?_ hq
  intro X s h ids F t
  have hne : b ≠ a := fun e => by rw [Pa.eqb_iff.2 e.symm] at hab; cases hab
  have ha := nos_spec ha
  have hf := nos_spec hf
  obtain ⟨ids', hi⟩ : ∃ ids', ids' = updI ids b (ids a) := ⟨_, rfl⟩
  have i1 : ∀ c, c ≠ b → ids' c = ids c := fun c hc => by rw [hi, updI_ne _ _ hc]
  have i2 : ids' b = ids a := by rw [hi, updI_same]
  have i3 : ids' b = ids' a := by rw [i2, i1 a (Ne.symm hne)]
  have hB : ∀ {c bl}, PT.get c (S.ren a b l).B = some bl → (c = b ∧ bl = renB a b (deadB b l)) ∨ (c ≠ b ∧ c ≠ a ∧ ∃ b0, PT.get c S.B = some b0 ∧ bl = renB a b (deadB b b0)) := by
    intro c bl hg
    have hg : PT.get c (PT.set b (PT.map (renB a b) (PT.map (deadB b) (PT.set a S.B none))) (some (renB a b (deadB b l)))) = some bl := hg
    rw [PT.get_set] at hg
    split at hg
    · rename_i e; cases hg; exact .inl ⟨e, rfl⟩
    · rename_i e
      obtain ⟨b1, h1, rfl⟩ := PT.get_map hg
      obtain ⟨b2, h2, rfl⟩ := PT.get_map h1
      rw [PT.get_set] at h2
      split at h2
      · cases h2
      · rename_i e2; exact .inr ⟨e, e2, b2, h2, rfl⟩
  refine ⟨ids', F, t.wf, t.base, t.next, t.keep, t.frz, t.flt, fun c bl hc => ?_, fun c bl k hc hk => ?_, fun c c' b1 b2 k h1 h2 e1 e2 => ?_, fun p x hx => ?_, fun c hc => ?_, t.hist, t.nx⟩
  · rcases hB hc with ⟨rfl, rfl⟩ | ⟨hcb, hca, b0, h0, rfl⟩
    · rw [i2]
      exact renB_sound i3 ((t.blk a l hb).deadM (fun _ _ r => r) i1 (fun _ _ => rfl))
    · rw [i1 c hcb]
      exact renB_sound i3 ((t.blk c b0 h0).deadM (fun _ _ r => r) i1 (fun _ _ => rfl))
  · rcases hB hc with ⟨rfl, rfl⟩ | ⟨hcb, hca, b0, h0, rfl⟩
    · rw [i2] at hk
      obtain ⟨o1, o2⟩ := t.own a l k hb hk
      exact ⟨o1, o2.imp id fun h => absurd h.2 ha⟩
    · rw [i1 c hcb] at hk
      exact t.own c b0 k h0 hk
  · rcases hB h1 with ⟨rfl, rfl⟩ | ⟨hcb, hca, b0, h0, rfl⟩
    · rcases hB h2 with ⟨rfl, rfl⟩ | ⟨hcb', hca', b0', h0', rfl⟩
      · rfl
      · rw [i2] at e1; rw [i1 _ hcb'] at e2
        exact absurd (t.inj c' a b0' l k h0' hb e2 e1) hca'
    · rcases hB h2 with ⟨rfl, rfl⟩ | ⟨hcb', hca', b0', h0', rfl⟩
      · rw [i1 _ hcb] at e1; rw [i2] at e2
        exact absurd (t.inj c a b0 l k h0 hb e1 e2) hca
      · rw [i1 _ hcb] at e1; rw [i1 _ hcb'] at e2
        exact t.inj c c' b0 b0' k h0 h0' e1 e2
  · have hx : PT.get p (PT.map (renV a b) (PT.filt (noref b) S.L)) = some x := hx
    obtain ⟨y, hy, rfl⟩ := PT.get_map hx
    obtain ⟨g1, g2⟩ := PT.get_filt hy
    exact ren_sound i3 ((t.slots p y g1).mono (fun _ _ r => r) fun c hc => i1 c fun e => nos_spec g2 (by rw [← e]; exact hc))
  · rw [i1 c (fun e => hf (by rw [← e]; exact hc))]
    exact t.stab c hc
end
end Go.Ab.V

namespace Go.Ab.V
end Go.Ab.V

/- Ways that come together again. -/
namespace Go.Ab.V
def joinQ (S1 : VSt) (Q : Ex → VSt → Prop) : Ex → VSt → Prop
  | .normal, S' => G S' S1
  | e, S' => Q e S'
/-- After the next two pieces of code the state S1 is known, whichever way was gone. -/
theorem VC.cut {C : Cfg} {S : VSt} {a b r : ACode} {Q : Ex → VSt → Prop} (S1 : VSt) (ha : VC C a S (thenV C b (joinQ S1 Q))) (hr : VC C r S1 Q) : VC C a S (thenV C b (thenV C r Q)) := by
  have key : ∀ e S', joinQ S1 Q e S' → thenV C r Q e S' := fun e S' h => match e, h with
    | .normal, h => VC.ghost h hr
    | .exit _, h => h
    | .ret, h => h
  exact VC.mono ha fun e S' h => match e, h with
    | .normal, h => VC.mono (show VC C b S' (joinQ S1 Q) from h) key
    | .exit i, h => key (.exit i) S' h
    | .ret, h => key .ret S' h
theorem VC.cut1 {C : Cfg} {S : VSt} {a r : ACode} {Q : Ex → VSt → Prop} (S1 : VSt) (ha : VC C a S (joinQ S1 Q)) (hr : VC C r S1 Q) : VC C a S (thenV C r Q) :=
  VC.mono ha fun e S' h => match e, h with
    | .normal, h => VC.ghost h hr
    | .exit _, h => h
    | .ret, h => h
end Go.Ab.V
