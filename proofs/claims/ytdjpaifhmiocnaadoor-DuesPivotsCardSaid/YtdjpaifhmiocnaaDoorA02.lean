/- A part of the proof of a law: an evaluator of the code, proved sound against the model, and contracts of functions over it. No condition. -/
import Derived.IntWalk
import Derived.Below
import Derived.CallsIn
import Derived.ChangeSlices
import Derived.ChangeArms
import Derived.Test.YtdjpaifhmiocnaaDoorA01
set_option linter.unusedSimpArgs false
set_option linter.unusedVariables false
/- The second evaluator is sound: appends, copies, maps; all operations. -/
namespace Go.Ab.V

section
variable {X : Ctx} {S S1 : VSt} {s : Slots} {h : AHeap} {ids : Pa → Option Nat} {F : Nat → Prop} {C : Cfg} {v v' : Value} {x y z : VV} {rd : Addr → List Value → Prop}

/-- An append to an empty slice without room. -/
theorem app_empty (hx : exN v) {size m : Nat} {xs : List Value} (hl : lenA v' = some m) (hf : firsts0 size m v' h = some xs) (h1 : size ≠ 0) (h2 : size ≤ 4096) (h3 : m ≤ 2147483648) (h4 : xs.length = m * size) (h5 : xs.all okCell = true) :
    app false size v v' h = if m = 0 then some (v, h) else some (.slice (some ⟨h.next, 0, some size⟩) m m, h.add false (.cells xs)) := by
  rcases hx with rfl | ⟨a, rfl, hsp⟩
  · simp only [Ab.app, hl, hf]
    rw [if_pos ⟨h1, h2, Nat.le_refl _, by omega, h4, h5⟩]
    by_cases hm : m = 0
    · subst hm; simp
    · rw [if_neg (by omega), if_neg hm]; simp [grow]
  · simp only [Ab.app, hl, hf]
    rw [if_pos ⟨h1, h2, Nat.le_refl _, by omega, h4, h5⟩]
    by_cases hm : m = 0
    · subst hm; simp
    · rw [if_neg (by omega), if_neg hm]
      have ho : growOld size 0 (.slice (some a) 0 0) h a = some [] := by
        unfold growOld
        rcases hsp with e | e <;> simp [e, firsts0]
      simp only [grow, ho]
      rcases hsp with e | e <;> simp [e]
/-- The state behind an append to nothing. -/
theorem St.appE (t : St X S s h ids F) {size m : Nat} {d : Pa} {ys : List VV} {xs : List Value} (hx : exN v) (hl : lenA v' = some m) (hf : firsts0 size m v' h = some xs) (ha : All2 (Vr (RdF h F) ids) xs ys)
    (h1 : size ≠ 0) (h2 : size ≤ 4096) (h3 : m ≤ 2147483648) (h4 : ys.length = m * size) (h5 : ys.all okV = true) (hK : d ∉ S.K) (hn : d ∉ nmL ys) :
    ∃ w h' ids', app false size v v' h = some (w, h') ∧ St X (S.alloc d (.cells ys)) s h' ids' F ∧ Vr (RdF h' F) ids' w (.os size d m) := by
  rw [app_empty hx hl hf h1 h2 h3 (ha.1.trans h4) (okV_list ha h5)]
  by_cases hm : m = 0
  · subst hm
    rw [if_pos rfl]
    have hy : ys = [] := List.eq_nil_of_length_eq_zero (by omega)
    subst hy
    refine ⟨_, _, updI ids d none, rfl, ?_, .osN (updI_same _ _ _) hx⟩
    have hB : ∀ {a' b'}, PT.get a' (S.alloc d (.cells [])).B = some b' → (a' = d ∧ b' = .cells []) ∨ (a' ≠ d ∧ ∃ b0, PT.get a' S.B = some b0 ∧ b' = deadB d b0) := by
      intro a' b' hg
      have hg : PT.get a' (PT.set d (PT.map (deadB d) S.B) (some (.cells []))) = some b' := hg
      rw [PT.get_set] at hg
      split at hg
      · rename_i e; cases hg; exact .inl ⟨e, rfl⟩
      · rename_i e; obtain ⟨b0, g1, g2⟩ := PT.get_map hg; exact .inr ⟨e, b0, g1, g2⟩
    refine ⟨t.wf, t.base, t.next, t.keep, t.frz, t.flt, ?_, ?_, ?_, ?_, ?_, t.hist, t.nx⟩
    · intro a' b' hg
      rcases hB hg with ⟨rfl, rfl⟩ | ⟨e, b0, g1, rfl⟩
      · rw [updI_same]; rfl
      · rw [updI_ne _ _ e]
        exact (t.blk a' b0 g1).deadM (fun _ _ r => r) (fun c hc => updI_ne _ _ hc) (fun _ _ => rfl)
    · intro a' b' k hg hk
      rcases hB hg with ⟨rfl, rfl⟩ | ⟨e, b0, g1, _⟩
      · rw [updI_same] at hk; cases hk
      · rw [updI_ne _ _ e] at hk; exact t.own a' b0 k g1 hk
    · intro a1 a2 b1 b2 k g1 g2 e1 e2
      rcases hB g1 with ⟨rfl, rfl⟩ | ⟨i1, c1, g1, _⟩
      · rw [updI_same] at e1; cases e1
      · rcases hB g2 with ⟨rfl, rfl⟩ | ⟨i2, c2, g2, _⟩
        · rw [updI_same] at e2; cases e2
        · rw [updI_ne _ _ i1] at e1; rw [updI_ne _ _ i2] at e2
          exact t.inj a1 a2 c1 c2 k g1 g2 e1 e2
    · intro p x hx
      obtain ⟨g1, g2⟩ := PT.get_filt hx
      exact (t.slots p x g1).mono (fun _ _ r => r) fun c hc => updI_ne _ _ fun e => nos_spec g2 (by rw [← e]; exact hc)
    · intro c hc
      rw [updI_ne _ _ (fun e => hK (by rw [← e]; exact hc))]
      exact t.stab c hc
  · rw [if_neg hm]
    have t2 := t.alloc (o := .cells xs) (b := .cells ys) hK hn ⟨xs, by simp, ha⟩
    exact ⟨_, _, _, rfl, t2, .os m (updI_same _ _ _) (.inr rfl)⟩
theorem app_sound' (t : St X S s h ids F) {size : Nat} {d : Option Pa} (r : Vr (RdF h F) ids v x) (r2 : Vr (RdF h F) ids v' y) (he : v_app S size d x y = some (z, S1)) :
    ∃ w h' ids', app false size v v' h = some (w, h') ∧ St X S1 s h' ids' F ∧ Vr (RdF h' F) ids' w z := by
  unfold v_app at he
  split at he
  rotate_left
  · cases he
  rename_i m ys hels
  obtain ⟨hlen, hfst⟩ := els_sound t r2 hels
  obtain ⟨xs, hf, ha⟩ := hfst m (Nat.le_refl _)
  split at he
  rotate_left
  · cases he
  rename_i hc
  obtain ⟨h1, h2, h5, h4⟩ := hc
  replace ha : All2 (Vr (RdF h F) ids) xs ys := by rw [List.take_of_length_le (by omega)] at ha; exact ha
  have emp : exN v → m ≤ 2147483648 → newV S d ys (fun d => .os size d m) = some (z, S1) → ∃ w h' ids', app false size v v' h = some (w, h') ∧ St X S1 s h' ids' F ∧ Vr (RdF h' F) ids' w z := by
    intro hx h3 hn
    unfold newV at hn
    split at hn
    · rename_i d0
      cases hq : (free S d0 && nos d0 (nmL ys)) with
      | false => rw [hq] at hn; cases hn
      | true =>
        rw [hq] at hn
        cases hn
        rw [Bool.and_eq_true] at hq
        exact St.appE t hx hlen hf ha h1 h2 h3 h4 h5 (free_spec hq.1) (nos_spec hq.2)
    · cases hn
  split at he
  · split at he
    · rename_i h3
      obtain ⟨rfl, _⟩ := at_inv r
      exact emp (.inl rfl) h3 he
    · cases he
  · split at he
    · rename_i h3
      exact emp (by cases r with | xs e => exact e) h3 he
    · cases he
  · rename_i u a n
    split at he
    rotate_left
    · cases he
    rename_i cs hb
    split at he
    rotate_left
    · cases he
    rename_i hcond
    obtain ⟨rfl, h3, h6, hq⟩ := hcond
    cases he
    simp only [Bool.and_eq_true] at hq
    obtain ⟨⟨q1, q2⟩, q3⟩ := hq
    have hK := free_spec q1
    rcases os_inv r with ⟨hk, rfl, hx⟩ | ⟨k, tg, hk, ht, rfl⟩
    · have hcs : cs = [] := blk_none t hb hk
      subst hcs
      simp only [List.nil_append, Nat.zero_add] at h3 ⊢
      exact St.appE t hx hlen hf ha h1 h2 h3 h4 h5 hK (nos_spec q3)
    · obtain ⟨c, hg, hcc⟩ := blk_cells t hb hk
      have hol : growOld u n (.slice (some ⟨k, 0, some tg⟩) n n) h ⟨k, 0, some tg⟩ = some c := by
        have h7 : c.length = n * u := hcc.1.trans h6
        have hfs : firsts u n (.slice (some ⟨k, 0, some tg⟩) n n) h = some c := by
          simp only [firsts, row_own hg]
          rw [if_pos (by omega)]
          simp [← h7]
        simp only [growOld]
        split
        · unfold firsts0
          split
          · rename_i e; subst e
            have : c = [] := List.eq_nil_of_length_eq_zero (by omega)
            rw [this]
          · exact hfs
        · exact hfs
      have happ : app false u (.slice (some ⟨k, 0, some tg⟩) n n) v' h = if m = 0 then some (.slice (some ⟨k, 0, some tg⟩) n n, h) else
          if tg = 0 then some (.slice (some ⟨h.next, 0, some u⟩) (n + m) (n + m), h.add false (.cells (c ++ xs))) else some (.slice (some ⟨h.next, 0, some u⟩) (n + m) (n + m), (h.del k).add false (.cells (c ++ xs))) := by
        simp only [Ab.app, hlen, hf]
        rw [if_pos ⟨h1, h2, Nat.le_refl _, h3, ha.1.trans h4, okV_list ha h5⟩]
        by_cases hm : m = 0
        · subst hm; simp
        · rw [if_neg (by omega), if_neg hm]
          simp only [grow, hol]
          by_cases ht0 : tg = 0
          · rw [if_pos ht0, if_pos ht0]
          · rw [if_neg ht0, if_neg ht0, hg]
            simp only [Option.isSome_some, Bool.and_true]
            rw [if_pos (tg_ok ht (.inr rfl))]
      rw [happ]
      have hcx : All2 (Vr (RdF h F) ids) (c ++ xs) (cs ++ ys) := hcc.append ha
      have hno : a ∉ nmL (cs ++ ys) := by
        have h1 := nos_spec q2
        have h2 := nos_spec q3
        have : ∀ l l' : List VV, nmL (l ++ l') = nmL l ++ nmL l' := by
          intro l l'
          induction l with
          | nil => rfl
          | cons x l ih => simp only [List.cons_append, nmL, ih, List.append_assoc]
        rw [this]
        simp [h1, h2]
      by_cases hm : m = 0
      · subst hm
        rw [if_pos rfl]
        have hys : ys = [] := List.eq_nil_of_length_eq_zero (by omega)
        subst hys
        simp only [List.append_nil, Nat.add_zero] at hno ⊢
        refine ⟨_, h, ids, rfl, ?_, .os n hk ht⟩
        refine ⟨t.wf, t.base, t.next, t.keep, t.frz, t.flt, ?_, ?_, ?_, fun p x hx => t.slots p x (PT.get_filt hx).1, t.stab, t.hist, t.nx⟩
        all_goals
          have hB : ∀ {a' b'}, PT.get a' (S.alloc a (.cells cs)).B = some b' → ∃ b0, PT.get a' S.B = some b0 ∧ (b' = b0 ∨ b' = deadB a b0) := by
            intro a' b' hg
            have hg : PT.get a' (PT.set a (PT.map (deadB a) S.B) (some (.cells cs))) = some b' := hg
            rw [PT.get_set] at hg
            split at hg
            · rename_i e; cases hg; rw [e]; exact ⟨_, hb, .inl rfl⟩
            · obtain ⟨b0, g1, g2⟩ := PT.get_map hg; exact ⟨b0, g1, .inr g2⟩
        · intro a' b' hg
          obtain ⟨b0, g1, rfl | rfl⟩ := hB hg
          · exact t.blk a' _ g1
          · exact (t.blk a' b0 g1).deadM (fun _ _ r => r) (fun _ _ => rfl) (fun _ _ => rfl)
        · intro a' b' k hg hk
          obtain ⟨b0, g1, _⟩ := hB hg
          exact t.own a' b0 k g1 hk
        · intro a1 a2 b1 b2 k g1 g2 e1 e2
          obtain ⟨c1, g1, _⟩ := hB g1
          obtain ⟨c2, g2, _⟩ := hB g2
          exact t.inj a1 a2 c1 c2 k g1 g2 e1 e2
      · rw [if_neg hm]
        have new : ∀ {h' : AHeap} {D : Option Nat}, (∀ m, D = some m → ids a = some m ∧ ∃ b, PT.get a S.B = some b) → WF h' → h'.base = h.base → h'.next = h.next + 1 → (∀ m, m < h.next → D ≠ some m → h'.get m = h.get m) → h'.get h.next = some (.cells (c ++ xs)) →
            St X (S.alloc a (.cells (cs ++ ys))) s h' (updI ids a (some h.next)) F ∧ Vr (RdF h' F) (updI ids a (some h.next)) (.slice (some ⟨h.next, 0, some u⟩) (n + m) (n + m)) (.os u a (n + m)) := by
          intro h' D hD hwf hbb hnn hold hnew
          refine ⟨t.reid hK hD hwf hbb hnn hold (fun hrd => ⟨_, hnew, hcx.mono fun v x hx r => r.mono hrd fun c hc => updI_ne _ _ fun e => hno (by rw [← e]; exact nm_mem hc hx)⟩), .os _ (updI_same _ _ _) (.inr rfl)⟩
        split
        · obtain ⟨g1, g2⟩ := new (h' := h.add false (.cells (c ++ xs))) (D := none) (fun m e => by cases e) (t.wf.add false _) (AHeap.base_add _ _ _) (AHeap.next_add _ _ _) (fun m hm _ => by rw [AHeap.get_add, if_neg (by omega)]) (by simp)
          exact ⟨_, _, _, rfl, g1, g2⟩
        · obtain ⟨g1, g2⟩ := new (h' := (h.del k).add false (.cells (c ++ xs))) (D := some k) (fun m e => by cases e; exact ⟨hk, _, hb⟩) ((t.wf.del k).add false _) (by simp) (by simp) (fun m hm hD => by
              rw [AHeap.get_add, if_neg (by simp; omega), AHeap.get_del, if_neg (fun e => hD (by rw [e]))]) (by simp)
          exact ⟨_, _, _, rfl, g1, g2⟩
  · rename_i u a off n c0
    split at he
    rotate_left
    · cases he
    rename_i cs hb
    obtain ⟨k, tg, hk, ht, hnc, rfl⟩ := ob_inv r
    obtain ⟨c, hg, hcc⟩ := blk_cells t hb hk
    split at he
    · rename_i hlt
      split at he
      rotate_left
      · cases he
      rename_i hcond
      obtain ⟨rfl, rfl, hm, h3, h6, hq⟩ := hcond
      cases he
      simp only [Bool.and_eq_true] at hq
      obtain ⟨⟨q1, q2⟩, q3⟩ := hq
      have hK := free_spec q1
      have hfs : firsts u n (.slice (some ⟨k, off, some tg⟩) n n) h = some ((c.drop off).take (n * u)) := by
        simp only [firsts, row_own hg]
        rw [if_pos (by rw [hcc.1]; exact h6)]
      have hol : growOld u n (.slice (some ⟨k, off, some tg⟩) n n) h ⟨k, off, some tg⟩ = some ((c.drop off).take (n * u)) := by
        simp only [growOld]
        split
        · unfold firsts0
          split
          · rename_i e; subst e; simp
          · exact hfs
        · exact hfs
      have happ : app false u (.slice (some ⟨k, off, some tg⟩) n n) v' h = 
          if tg = 0 then some (.slice (some ⟨h.next, 0, some u⟩) (n + m) (n + m), h.add false (.cells ((c.drop off).take (n * u) ++ xs))) else some (.slice (some ⟨h.next, 0, some u⟩) (n + m) (n + m), (h.del k).add false (.cells ((c.drop off).take (n * u) ++ xs))) := by
        simp only [Ab.app, hlen, hf]
        rw [if_pos ⟨h1, h2, Nat.le_refl _, h3, ha.1.trans h4, okV_list ha h5⟩]
        rw [if_neg (by omega)]
        simp only [grow, hol]
        by_cases ht0 : tg = 0
        · rw [if_pos ht0, if_pos ht0]
        · rw [if_neg ht0, if_neg ht0, hg]
          simp only [Option.isSome_some, Bool.and_true]
          rw [if_pos (tg_ok ht (.inr rfl))]
      rw [happ]
      have hcx : All2 (Vr (RdF h F) ids) ((c.drop off).take (n * u) ++ xs) ((cs.drop off).take (n * u) ++ ys) := ((hcc.drop off).take (n * u)).append ha
      have hno : a ∉ nmL ((cs.drop off).take (n * u) ++ ys) := by
        have h1 := nos_spec q2
        have h2 := nos_spec q3
        have : ∀ l l' : List VV, nmL (l ++ l') = nmL l ++ nmL l' := by
          intro l l'
          induction l with
          | nil => rfl
          | cons x l ih => simp only [List.cons_append, nmL, ih, List.append_assoc]
        rw [this]
        have hsub : ∀ (l : List VV) b, b ∈ nmL l → ∃ x ∈ l, b ∈ nm x := by
          intro l b
          induction l with
          | nil => intro h; simp [nmL] at h
          | cons x l ih =>
            intro h
            simp only [nmL, List.mem_append] at h
            rcases h with h | h
            · exact ⟨x, .head _, h⟩
            · obtain ⟨y, h1, h2⟩ := ih h
              exact ⟨y, .tail _ h1, h2⟩
        intro hm
        rcases List.mem_append.1 hm with hm | hm
        · obtain ⟨x, hx, hb⟩ := hsub _ _ hm
          exact h1 (nm_mem hb (List.mem_of_mem_drop (List.mem_of_mem_take hx)))
        · exact h2 hm
      have new : ∀ {h' : AHeap} {D : Option Nat}, (∀ m, D = some m → ids a = some m ∧ ∃ b, PT.get a S.B = some b) → WF h' → h'.base = h.base → h'.next = h.next + 1 → (∀ m, m < h.next → D ≠ some m → h'.get m = h.get m) → h'.get h.next = some (.cells ((c.drop off).take (n * u) ++ xs)) →
          St X (S.alloc a (.cells ((cs.drop off).take (n * u) ++ ys))) s h' (updI ids a (some h.next)) F ∧ Vr (RdF h' F) (updI ids a (some h.next)) (.slice (some ⟨h.next, 0, some u⟩) (n + m) (n + m)) (.os u a (n + m)) := by
        intro h' D hD hwf hbb hnn hold hnew
        refine ⟨t.reid hK hD hwf hbb hnn hold (fun hrd => ⟨_, hnew, hcx.mono fun v x hx r => r.mono hrd fun c hc => updI_ne _ _ fun e => hno (by rw [← e]; exact nm_mem hc hx)⟩), .os _ (updI_same _ _ _) (.inr rfl)⟩
      split
      · obtain ⟨g1, g2⟩ := new (h' := h.add false (.cells ((c.drop off).take (n * u) ++ xs))) (D := none) (fun m e => by cases e) (t.wf.add false _) (AHeap.base_add _ _ _) (AHeap.next_add _ _ _) (fun m hm _ => by rw [AHeap.get_add, if_neg (by omega)]) (by simp)
        exact ⟨_, _, _, rfl, g1, g2⟩
      · obtain ⟨g1, g2⟩ := new (h' := (h.del k).add false (.cells ((c.drop off).take (n * u) ++ xs))) (D := some k) (fun m e => by cases e; exact ⟨hk, _, hb⟩) ((t.wf.del k).add false _) (by simp) (by simp) (fun m hm hD => by
            rw [AHeap.get_add, if_neg (by simp; omega), AHeap.get_del, if_neg (fun e => hD (by rw [e]))]) (by simp)
        exact ⟨_, _, _, rfl, g1, g2⟩
    · rename_i hlt
      split at he
      · rename_i hm0
        subst hm0
        split at he
        rotate_left
        · cases he
        rename_i h3
        cases he
        refine ⟨.slice (some ⟨k, off, some tg⟩) (n + 0) c0, h, ids, ?_, t, .ob off hk ht hnc⟩
        simp only [Ab.app, hlen, hf]
        rw [if_pos ⟨h1, h2, hnc, by omega, ha.1.trans h4, okV_list ha h5⟩, if_pos (by omega), if_pos trivial]
      split at he
      rotate_left
      · cases he
      rename_i hcond
      obtain ⟨rfl, hm, h3, h6⟩ := hcond
      cases he
      have hput := putC_sound hcc ha (off + n * u)
      refine ⟨.slice (some ⟨k, off, some tg⟩) (n + m) c0, h.put false k (.cells (c.take (off + n * u) ++ (xs ++ c.drop (off + n * u + xs.length)))), ids, ?_, t.putB hb hk ⟨_, by simp, hput⟩, .ob off hk ht (by omega)⟩
      simp only [Ab.app, hlen, hf]
      rw [if_pos ⟨h1, h2, hnc, by omega, ha.1.trans h4, okV_list ha h5⟩, if_pos (by omega), if_neg hm]
      have hcnd : off + n * u + xs.length ≤ c.length ∧ xs.all okCell = true := ⟨by rw [hcc.1, ha.1, h4]; exact h6, okV_list ha h5⟩
      have hst : stCells false ⟨k, off + n * u, some tg⟩ xs h = some (h.put false k (.cells (c.take (off + n * u) ++ (xs ++ c.drop (off + n * u + xs.length))))) := by
        simp only [stCells, hg]
        exact if_pos hcnd
      simp only [plus, hst]
  · cases he
theorem cpy_sound' (t : St X S s h ids F) {size : Nat} (r : Vr (RdF h F) ids v x) (r2 : Vr (RdF h F) ids v' y) (he : v_cpy S size x y = some (z, S1)) :
    ∃ w h', cpy false size v v' h = some (w, h') ∧ St X S1 s h' ids F ∧ Vr (RdF h' F) ids w z := by
  unfold v_cpy at he
  split at he
  · rename_i u a off n c0 m ys hels
    obtain ⟨hlen, hfst⟩ := els_sound t r2 hels
    obtain ⟨xs, hf, ha⟩ := hfst (Nat.min m n) (Nat.min_le_left _ _)
    split at he
    · rename_i cs hb
      split at he
      · rename_i hc
        obtain ⟨h1, h2, h3⟩ := hc
        cases he
        obtain ⟨k, tg, hk, ht, hcap, rfl⟩ := ob_inv r
        obtain ⟨c, hg, hcc⟩ := blk_cells t hb hk
        have hput := putC_sound hcc ha off
        have hxl : xs.length ≤ Nat.min m n * size := by rw [ha.1, List.length_take]; exact Nat.min_le_left _ _
        have hres : ∀ {h' : AHeap}, Vr (RdF h' F) ids (goInt (Nat.min m n)) (vi (Nat.min m n : Nat)) := vr_at rfl
        by_cases h0 : Nat.min m n = 0
        · refine ⟨goInt (Nat.min m n), h, ?_, ?_, hres⟩
          · simp only [cpy, hlen, hf]; rw [if_pos h0]
          · have : ys.take (Nat.min m n * size) = [] := by rw [h0]; simp
            have hB : ∀ {a' b'}, PT.get a' (PT.set a S.B (some (.cells (putC cs off [])))) = some b' → PT.get a' S.B = some b' := by
              intro a' b' hg'
              rw [PT.get_set] at hg'
              split at hg'
              · rename_i e; cases hg'; rw [e, hb]; simp [putC]
              · exact hg'
            rw [this]
            exact ⟨t.wf, t.base, t.next, t.keep, t.frz, t.flt, fun a' b' hg => t.blk a' b' (hB hg), fun a' b' k hg hk => t.own a' b' k (hB hg) hk, fun a1 a2 b1 b2 k g1 g2 e1 e2 => t.inj a1 a2 b1 b2 k (hB g1) (hB g2) e1 e2, t.slots, t.stab, t.hist, t.nx⟩
        · refine ⟨goInt (Nat.min m n), h.put false k (.cells (c.take off ++ (xs ++ c.drop (off + xs.length)))), ?_, t.putB hb hk ⟨_, by simp, hput⟩, hres⟩
          simp only [cpy, hlen, hf]
          rw [if_neg h0]
          simp only [stCells, hg]
          rw [if_pos ⟨by rw [hcc.1]; omega, okV_list ha h2⟩]
      · cases he
    · cases he
  · cases he
theorem clr_sound' (t : St X S s h ids F) {z : List Value} (r : Vr (RdF h F) ids v y) (he : v_clr S (z.map ofAtom) y = some (x, S1)) :
    ∃ h', clr false z v h = some h' ∧ St X S1 s h' ids F ∧ x = .dead := by
  unfold v_clr at he
  split at he
  · cases he
    have := (at_inv r).1
    subst this
    exact ⟨h, rfl, t, rfl⟩
  · cases he
    cases r with
    | xs e =>
      rcases e with rfl | ⟨a, rfl, _⟩
      · exact ⟨h, rfl, t, rfl⟩
      · exact ⟨h, by simp only [clr, if_pos], t, rfl⟩
  · rename_i u a off n c0
    split at he
    · rename_i cs hb
      split at he
      · rename_i hc
        obtain ⟨h0, h1, h2⟩ := hc
        cases he
        obtain ⟨k, tg, hk, ht, hcap, rfl⟩ := ob_inv r
        obtain ⟨c, hg, hcc⟩ := blk_cells t hb hk
        have ha : All2 (Vr (RdF h F) ids) (reps z n) (repsV (z.map ofAtom) n) := reps_sound (all2_map ofAtom ofAtom_sound z) n
        have hput := putC_sound hcc ha off
        refine ⟨h.put false k (.cells (c.take off ++ (reps z n ++ c.drop (off + (reps z n).length)))), ?_, t.putB hb hk ⟨_, by simp, hput⟩, rfl⟩
        simp only [clr]
        rw [if_neg h0]
        simp only [stCells, hg]
        rw [if_pos ⟨by rw [hcc.1, ha.1]; exact h1, okV_list ha h2⟩]
      · cases he
    · cases he
  · cases he
end
end Go.Ab.V

/- The second evaluator is sound: maps; every operation. -/
namespace Go.Ab.V

section
variable {X : Ctx} {S S1 : VSt} {s : Slots} {h : AHeap} {ids : Pa → Option Nat} {F : Nat → Prop} {C : Cfg} {v v' : Value} {x y z : VV} {rd : Addr → List Value → Prop}
def ER (rd : Addr → List Value → Prop) (ids : Pa → Option Nat) (e : Value × Value) (e' : Value × VV) : Prop := e.1 = e'.1 ∧ Vr rd ids e.2 e'.2
def OR2 (rd : Addr → List Value → Prop) (ids : Pa → Option Nat) : Option Value → Option VV → Prop
  | none, none => True
  | some v, some x => Vr rd ids v x
  | _, _ => False
theorem find_sound {ts : List CK} {k : Value} : ∀ {es : List (Value × VV)} {c : List (Value × Value)} {o : Option VV}, All2 (ER rd ids) c es → findV ts k es = some o → ∃ o', findE ts k c = some o' ∧ OR2 rd ids o' o
  | [], c, o, r, he => by
    have : c = [] := List.eq_nil_of_length_eq_zero (by simpa using r.1)
    subst this
    simp only [findV, Option.some.injEq] at he; subst he
    exact ⟨none, rfl, trivial⟩
  | (k', x) :: es, [], o, r, he => by have := r.1; simp at this
  | (k', x) :: es, (k2, v) :: c, o, r, he => by
    obtain ⟨e1, r1⟩ := r.head
    simp only at e1 r1; subst e1
    simp only [findV] at he
    split at he
    · rename_i h1
      cases he
      exact ⟨some v, by simp only [findE, h1], r1⟩
    · rename_i h1
      obtain ⟨o', g1, g2⟩ := find_sound r.tail he
      exact ⟨o', by simp only [findE, h1]; exact g1, g2⟩
    · cases he
theorem setE_sound {ts : List CK} {k : Value} (rv : Vr rd ids v x) : ∀ {es : List (Value × VV)} {c : List (Value × Value)}, All2 (ER rd ids) c es → All2 (ER rd ids) (setE ts k v c) (setE2 ts k x es)
  | [], c, r => by
    have : c = [] := List.eq_nil_of_length_eq_zero (by simpa using r.1)
    subst this
    exact .cons ⟨rfl, rv⟩ .nil
  | (k', y) :: es, [], r => by have := r.1; simp at this
  | (k', y) :: es, (k2, w) :: c, r => by
    obtain ⟨e1, r1⟩ := r.head
    simp only at e1 r1; subst e1
    have hc : ∀ {c' : List (Value × Value)} {es' : List (Value × VV)} {a b : Value} {w : VV}, a = a → Vr rd ids b w → All2 (ER rd ids) c' es' → All2 (ER rd ids) ((a, b) :: c') ((a, w) :: es') := fun _ r1 r2 => .cons ⟨rfl, r1⟩ r2
    cases hq : keyEq ts k k2 with
    | none => simp only [setE, setE2, hq]; exact hc rfl r1 (setE_sound rv r.tail)
    | some b => cases b with
      | false => simp only [setE, setE2, hq]; exact hc rfl r1 (setE_sound rv r.tail)
      | true => simp only [setE, setE2, hq]; exact hc rfl rv r.tail
theorem om_inv {a : Pa} (r : Vr rd ids v (.om a)) : ∃ k, ids a = some k ∧ v = .map (some k) := by
  cases r with
  | om e => exact ⟨_, e, rfl⟩
theorem look_sound' (t : St X S s h ids F) {ok : Bool} {ts : List CK} {zv : Value} (r : Vr (RdF h F) ids v x) (r2 : Vr (RdF h F) ids v' y) (he : v_look S ok ts zv x y = some z) :
    ∃ w, look ok ts zv v v' h = some w ∧ Vr (RdF h F) ids w z := by
  unfold v_look at he
  split at he
  · rename_i a kv hkv
    have := toVal_sound r2 hkv
    subst this
    split at he
    · rename_i es hb
      split at he
      · rename_i hk
        obtain ⟨k, hik, rfl⟩ := om_inv r
        obtain ⟨c, hg, hcc⟩ := blk_map t hb hik
        split at he
        · rename_i o hf
          cases he
          obtain ⟨o', g1, g2⟩ := find_sound hcc hf
          have hd : Vr (RdF h F) ids (o'.getD zv) (o.getD (ofVal zv)) ∧ o'.isSome = o.isSome := by
            cases o with
            | none => cases o' with
              | none => exact ⟨ofVal_sound zv, rfl⟩
              | some w => exact g2.elim
            | some x => cases o' with
              | none => exact g2.elim
              | some w => exact ⟨g2, rfl⟩
          refine ⟨_, (by simp only [look, hg, hk, if_true, g1]; rfl), ?_⟩
          cases ok with
          | false => exact hd.1
          | true =>
            simp only [cond_true, if_true]
            refine (Vr.tup (xs := [o'.getD zv, .bool o'.isSome]) (All2.cons hd.1 (All2.cons ?_ All2.nil)).1 (All2.cons hd.1 (All2.cons ?_ All2.nil)).2 : Vr _ _ (.tuple #[o'.getD zv, .bool o'.isSome]) _)
            all_goals (rw [hd.2]; exact vr_at rfl)
        · cases he
      · cases he
    · cases he
  · cases he
theorem mset_sound' (t : St X S s h ids F) {ts : List CK} {v3 : Value} {y3 : VV} (r : Vr (RdF h F) ids v x) (r2 : Vr (RdF h F) ids v' y) (r3 : Vr (RdF h F) ids v3 y3) (he : v_mset S ts x y y3 = some (z, S1)) :
    ∃ h', mset false ts v v' v3 h = some h' ∧ St X S1 s h' ids F ∧ z = .dead := by
  unfold v_mset at he
  split at he
  · rename_i a kv cs hkv hcs
    have := toVal_sound r2 hkv
    subst this
    obtain ⟨hu, _⟩ := cells_sound r3 hcs
    split at he
    · rename_i es hb
      split at he
      · rename_i hk
        cases he
        obtain ⟨k, hik, rfl⟩ := om_inv r
        obtain ⟨c, hg, hcc⟩ := blk_map t hb hik
        obtain ⟨o, hf⟩ := Option.isSome_iff_exists.1 hk.2
        obtain ⟨o', g1, g2⟩ := find_sound hcc hf
        refine ⟨h.put false k (.map (setE ts v' v3 c)), ?_, t.putB hb hik ⟨_, by simp, setE_sound r3 hcc⟩, rfl⟩
        simp only [mset, hg, hk.1, g1, hu, Option.isSome_some, Bool.not_false, Bool.and_self, if_true]
      · cases he
    · cases he
  · cases he
theorem len_sound' (t : St X S s h ids F) {k : Nat} {w : Value} (r : Vr (RdF h F) ids v x) (he : v_len S k x = some w) : lenV k v h = some w ∧ atomB w = true := by
  unfold v_len at he
  split at he
  · split at he
    · cases he
      obtain ⟨rfl, _⟩ := at_inv r
      exact ⟨rfl, rfl⟩
    · cases he
  · split at he
    · cases he; obtain ⟨rfl, _⟩ := at_inv r; exact ⟨rfl, rfl⟩
    · cases he
      rcases sl_inv (p_inv r) with ⟨rfl, rfl, _⟩ | ⟨a, c, rfl, _⟩ <;> exact ⟨rfl, rfl⟩
    · cases he
      rcases os_inv r with ⟨_, rfl, hx⟩ | ⟨k, tg, hk, ht, rfl⟩
      · rcases hx with rfl | ⟨_, rfl, _⟩ <;> exact ⟨rfl, rfl⟩
      · exact ⟨rfl, rfl⟩
    · cases he
      obtain ⟨k, tg, hk, ht, _, rfl⟩ := ob_inv r
      exact ⟨rfl, rfl⟩
    · cases he
      have : exN v := by cases r with | xs e => exact e
      rcases this with rfl | ⟨_, rfl, _⟩ <;> exact ⟨rfl, rfl⟩
    · cases he
  · split at he
    · rename_i a
      split at he
      · rename_i es hb
        cases he
        obtain ⟨k, hik, rfl⟩ := om_inv r
        obtain ⟨c, hg, hcc⟩ := blk_map t hb hik
        refine ⟨?_, rfl⟩
        simp only [lenV, lenM, hg]
        rw [hcc.1]
      · cases he
    · cases he
  · cases he
theorem nilS_spec {b : Bool} (r : Vr rd ids v x) (he : nilS x = some b) : ∃ a l c, v = .slice a l c ∧ b = a.isNone := by
  unfold nilS at he
  split at he
  · cases he; obtain ⟨rfl, _⟩ := at_inv r; exact ⟨_, _, _, rfl, rfl⟩
  · split at he
    · rename_i hn
      cases he
      rcases sl_inv (p_inv r) with ⟨_, h0, _⟩ | ⟨a, c, rfl, _⟩
      · exact absurd h0 hn
      · exact ⟨_, _, _, rfl, rfl⟩
    · cases he
  · split at he
    · rename_i hn
      cases he
      rcases os_inv r with ⟨_, h0, _⟩ | ⟨k, tg, hk, ht, rfl⟩
      · exact absurd h0 hn
      · exact ⟨_, _, _, rfl, rfl⟩
    · cases he
  · cases he; obtain ⟨k, tg, hk, ht, _, rfl⟩ := ob_inv r; exact ⟨_, _, _, rfl, rfl⟩
  · cases he
theorem nilP_spec {b : Bool} (r : Vr rd ids v x) (he : nilP x = some b) : ∃ a, v = .pointer a ∧ b = a.isNone := by
  unfold nilP at he
  split at he
  · cases he; obtain ⟨rfl, _⟩ := at_inv r; exact ⟨_, rfl, rfl⟩
  · cases he; obtain ⟨a, row, rfl, _⟩ := fp_inv (p_inv r); exact ⟨_, rfl, rfl⟩
  · cases he; obtain ⟨k, tg, hk, ht, rfl⟩ := op_inv r; exact ⟨_, rfl, rfl⟩
  · cases he
theorem nilF_spec {b : Bool} (r : Vr rd ids v x) (he : nilF x = some b) : (v = .nilFunc ∧ b = true) ∨ (∃ f a c, v = .func f a c ∧ b = false) := by
  unfold nilF at he
  split at he
  · cases he; obtain ⟨rfl, _⟩ := at_inv r; exact .inl ⟨rfl, rfl⟩
  · cases he
    cases r with
    | clos => exact .inr ⟨_, _, _, rfl, rfl⟩
  · cases he
end
end Go.Ab.V

/- The second evaluator is sound: every operation. -/
namespace Go.Ab.V

section
variable {X : Ctx} {S S1 : VSt} {s : Slots} {h : AHeap} {ids : Pa → Option Nat} {F : Nat → Prop} {C : Cfg} {v v' : Value} {x y z : VV} {rd : Addr → List Value → Prop}
theorem eqX_sound {k : EqK} {b : Bool} (r : Vr rd ids v x) (r2 : Vr rd ids v' y) (he : eqV k x y = some b) : eqA k v v' = some b := by
  unfold eqV at he
  split at he
  · split at he
    · rename_i h1 h2; rw [toVal_sound r h1, toVal_sound r2 h2]; exact he
    · cases he
  · split at he
    · rename_i h1 h2; rw [toVal_sound r h1, toVal_sound r2 h2]; exact he
    · cases he
  · split at he
    · rename_i b' h1 h2
      cases he
      obtain ⟨a, l, c, rfl, e1⟩ := nilS_spec r h1
      obtain ⟨a', l', c', rfl, rfl⟩ := nilS_spec r2 h2
      cases a with
      | none => rfl
      | some a => cases e1
    · rename_i h1 h2
      cases he
      obtain ⟨a, l, c, rfl, e1⟩ := nilS_spec r h1
      obtain ⟨a', l', c', rfl, e2⟩ := nilS_spec r2 h2
      cases a with
      | none => cases e1
      | some a => cases a' with
        | none => rfl
        | some a' => cases e2
    · cases he
  · split at he
    · rename_i b' h1 h2
      cases he
      obtain ⟨a, rfl, e1⟩ := nilP_spec r h1
      obtain ⟨a', rfl, rfl⟩ := nilP_spec r2 h2
      cases a with
      | none => rfl
      | some a => cases e1
    · rename_i h1 h2
      cases he
      obtain ⟨a, rfl, e1⟩ := nilP_spec r h1
      obtain ⟨a', rfl, e2⟩ := nilP_spec r2 h2
      cases a with
      | none => cases e1
      | some a => cases a' with
        | none => rfl
        | some a' => cases e2
    · cases he
  · split at he
    · rename_i h1 h2
      cases he
      rcases nilF_spec r h1 with ⟨_, h⟩ | ⟨f, a, c, rfl, _⟩
      · cases h
      · rcases nilF_spec r2 h2 with ⟨rfl, _⟩ | ⟨_, _, _, _, h⟩
        · rfl
        · cases h
    · cases he
theorem vev_sound {o : AOp} {d : Option Pa} (he : vev o d S = some (x, S1)) : OpS C o S x S1 := by
  cases o with
  | mov x' => cases he; exact OpS.pure fun X s h ids F t => ⟨_, rfl, evV_sound t _⟩
  | pick c a b =>
    simp only [vev] at he
    split at he
    · rename_i tb hc
      cases he
      refine OpS.pure fun X s h ids F t => ?_
      have rc := evV_sound t c
      rw [hc] at rc
      obtain ⟨e, _⟩ := at_inv rc
      refine ⟨_, by rw [aev_pick, e]; rfl, ?_⟩
      cases tb
      · exact evV_sound t b
      · exact evV_sound t a
    · cases he
  | box y =>
    simp only [vev] at he
    split at he
    · rename_i cs hcs
      intro X s h ids F t
      obtain ⟨hu, hc⟩ := cells_sound (evV_sound t y) hcs
      obtain ⟨d0, rfl, rfl, t'⟩ := new_sound t hc he
      exact ⟨_, _, _, (by rw [aev_box, hu]; rfl), t', .op 0 (updI_same _ _ _) (.inl rfl)⟩
    · cases he
  | zero z =>
    simp only [vev] at he
    intro X s h ids F t
    obtain ⟨d0, rfl, rfl, t'⟩ := new_sound t (all2_map ofAtom ofAtom_sound z) he
    exact ⟨_, _, _, aev_zero, t', .op 0 (updI_same _ _ _) (.inl rfl)⟩
  | build z ps =>
    simp only [vev] at he
    split at he
    · rename_i cs hcs
      cases he
      refine OpS.pure fun X s h ids F t => ?_
      obtain ⟨ws, h1, h2⟩ := fill_sound (all2_map ofAtom ofAtom_sound z) (pEv_sound t ps) hcs
      exact ⟨_, by rw [aev_build, h1]; rfl, .agg h2.1 h2.2⟩
    · cases he
  | bslice len size z ps =>
    simp only [vev] at he
    split at he
    · rename_i hc
      split at he
      · rename_i cs hcs
        intro X s h ids F t
        obtain ⟨ws, h1, h2⟩ := fill_sound (reps_sound (all2_map ofAtom ofAtom_sound z) len) (pEv_sound t ps) hcs
        obtain ⟨d0, rfl, rfl, t'⟩ := new_sound t h2 he
        exact ⟨_, _, _, by rw [aev_bslice]; simp only [Ab.bslice]; rw [if_pos hc, h1]; rfl, t', .os _ (updI_same _ _ _) (.inl rfl)⟩
      · cases he
    · cases he
  | ld n a =>
    obtain ⟨he, rfl⟩ := ret1X_inv he
    refine OpS.pure fun X s h ids F t => ?_
    obtain ⟨w, h1, h2⟩ := ld_sound' t (evV_sound t a) he
    exact ⟨w, by rw [aev_ld, h1]; rfl, h2⟩
  | st n a y =>
    intro X s h ids F t
    obtain ⟨h', h1, h2, rfl⟩ := st_sound' t (evV_sound t a) (evV_sound t y) he
    exact ⟨_, _, _, by rw [aev_st, h1], h2, .dead _⟩
  | nilchk y =>
    simp only [vev] at he
    split at he
    · rename_i u a off hy
      cases he
      refine OpS.pure fun X s h ids F t => ?_
      have r := evV_sound t y
      rw [hy] at r
      obtain ⟨k, tg, hk, ht, e⟩ := op_inv r
      exact ⟨_, by rw [aev_nilchk, e]; rfl, .op _ hk ht⟩
    · rename_i u cs hy
      cases he
      refine OpS.pure fun X s h ids F t => ?_
      have r := evV_sound t y
      rw [hy] at r
      have r' := r
      obtain ⟨a, row, e, _⟩ := fp_inv (p_inv r)
      rw [e] at r'
      exact ⟨_, by rw [aev_nilchk, e]; rfl, r'⟩
    · cases he
  | bin op a b =>
    simp only [vev] at he
    split at he
    · rename_i a' b' ha hb
      obtain ⟨w, hw, rfl, rfl⟩ := ret1V_inv he
      refine OpS.pure fun X s h ids F t => ?_
      exact ⟨w, by rw [aev_bin, (atV_sound (evV_sound t a) ha).1, (atV_sound (evV_sound t b) hb).1, hw]; rfl, vr_at (bin_atom hw)⟩
    · cases he
  | eqs k neg a b =>
    simp only [vev] at he
    split at he
    · rename_i q hq
      cases he
      refine OpS.pure fun X s h ids F t => ?_
      exact ⟨_, by rw [aev_eqs]; simp only [eqsA, eqX_sound (evV_sound t a) (evV_sound t b) hq]; rfl, vr_at rfl⟩
    · cases he
  | un op a =>
    simp only [vev] at he
    split at he
    · rename_i a' ha
      obtain ⟨w, hw, rfl, rfl⟩ := ret1V_inv he
      exact OpS.pure fun X s h ids F t => ⟨w, by rw [aev_un, (atV_sound (evV_sound t a) ha).1, hw]; rfl, vr_at (un_atom hw)⟩
    · cases he
  | cvt k a =>
    simp only [vev] at he
    split at he
    · rename_i a' ha
      obtain ⟨w, hw, rfl, rfl⟩ := ret1V_inv he
      exact OpS.pure fun X s h ids F t => ⟨w, by rw [aev_cvt, (atV_sound (evV_sound t a) ha).1, hw]; rfl, vr_at (cvt_atom hw)⟩
    · cases he
  | str a =>
    simp only [vev] at he
    split at he
    · rename_i a' ha
      obtain ⟨w, hw, rfl, rfl⟩ := ret1V_inv he
      exact OpS.pure fun X s h ids F t => ⟨w, by rw [aev_str, (atV_sound (evV_sound t a) ha).1, hw]; rfl, vr_at (str_atom hw)⟩
    · cases he
  | clos fn a b =>
    cases fn with
    | func f =>
      cases he
      refine OpS.pure fun X s h ids F t => ?_
      have r1 := evV_list t a
      have r2 := evV_list t b
      exact ⟨_, aev_clos, .clos f r1.1 r1.2 r2.1 r2.2⟩
    | _ => cases he
  | mkmap =>
    simp only [vev] at he
    split at he
    · rename_i d0
      cases hf : free S d0 with
      | true =>
        rw [hf] at he
        cases he
        intro X s h ids F t
        exact ⟨_, _, _, aev_mkmap, t.alloc (free_spec hf) (by simp [nmB, nmE]) ⟨[], by simp, .nil⟩, .om (updI_same _ _ _)⟩
      | false => rw [hf] at he; cases he
    · cases he
  | mks size bytes z l c =>
    simp only [vev] at he
    split at he
    · rename_i li ci hl hc
      split at he
      · rename_i hcond
        intro X s h ids F t
        obtain ⟨k1, e1⟩ := atI_sound (evV_sound t l) hl
        obtain ⟨k2, e2⟩ := atI_sound (evV_sound t c) hc
        obtain ⟨c1, c2, c3, c4, rfl, c6⟩ := hcond
        obtain ⟨d0, rfl, rfl, t'⟩ := new_sound t (reps_sound (all2_map ofAtom ofAtom_sound z) li.toNat) he
        exact ⟨_, _, _, by rw [aev_mks, e1, e2]; simp only [Ab.mks]; rw [if_pos ⟨c1, c2, c3, c4, Int.le_refl _, c6⟩]; rfl, t', .os _ (updI_same _ _ _) (.inl rfl)⟩
      · cases he
    · cases he
  | slstr a lo hi =>
    simp only [vev] at he
    split at he
    · rename_i sb ha
      split at he
      · rename_i l m k hb
        cases he
        refine OpS.pure fun X s h ids F t => ?_
        have e := (atV_sound (evV_sound t a) ha).1
        obtain ⟨o1, r1⟩ := opt_ev t lo
        obtain ⟨o2, r2⟩ := opt_ev t hi
        have hb' := bnds_sound (mx := none) (rd := RdF h F) (ids := ids) o1 o2 rfl r1 r2 (fun v x h => by cases h) hb
        exact ⟨_, by rw [aev_slstr, e]; simp only [slstr, hb']; rfl, vr_at rfl⟩
      · cases he
    · cases he
  | slsl size a lo hi mx =>
    obtain ⟨he, rfl⟩ := ret1X_inv he
    refine OpS.pure fun X s h ids F t => ?_
    obtain ⟨o1, r1⟩ := opt_ev t lo
    obtain ⟨o2, r2⟩ := opt_ev t hi
    obtain ⟨o3, r3⟩ := opt_ev t mx
    obtain ⟨w, h1, h2⟩ := slsl_sound' o1 o2 o3 r1 r2 r3 (evV_sound t a) he
    exact ⟨w, by rw [aev_slsl, h1]; rfl, h2⟩
  | slarr n size a lo hi mx =>
    obtain ⟨he, rfl⟩ := ret1X_inv he
    refine OpS.pure fun X s h ids F t => ?_
    obtain ⟨o1, r1⟩ := opt_ev t lo
    obtain ⟨o2, r2⟩ := opt_ev t hi
    obtain ⟨o3, r3⟩ := opt_ev t mx
    obtain ⟨w, h1, h2⟩ := slarr_sound' o1 o2 o3 r1 r2 r3 (evV_sound t a) he
    exact ⟨w, by rw [aev_slarr, h1]; rfl, h2⟩
  | fad off a =>
    obtain ⟨he, rfl⟩ := ret1X_inv he
    refine OpS.pure fun X s h ids F t => ?_
    obtain ⟨w, h1, h2⟩ := fad_sound' (evV_sound t a) he
    exact ⟨w, by rw [aev_fad, h1]; rfl, h2⟩
  | iad len size a i =>
    obtain ⟨he, rfl⟩ := ret1X_inv he
    refine OpS.pure fun X s h ids F t => ?_
    obtain ⟨w, h1, h2⟩ := iad_sound' (evV_sound t a) (evV_sound t i) he
    exact ⟨w, by rw [aev_iad, h1]; rfl, h2⟩
  | ias size a i =>
    obtain ⟨he, rfl⟩ := ret1X_inv he
    refine OpS.pure fun X s h ids F t => ?_
    obtain ⟨w, h1, h2⟩ := ias_sound' (evV_sound t a) (evV_sound t i) he
    exact ⟨w, by rw [aev_ias, h1]; rfl, h2⟩
  | fld n off a =>
    simp only [vev] at he
    split at he
    · rename_i cs ha
      obtain ⟨hq, rfl⟩ := ret1X_inv he
      refine OpS.pure fun X s h ids F t => ?_
      have r := evV_sound t a
      rw [ha] at r
      obtain ⟨xs, e, r⟩ := agg_inv r
      obtain ⟨w, h1, h2⟩ := part_sound r hq
      exact ⟨w, by rw [aev_fld, e]; simp only [fld, List.toList_toArray, h1]; rfl, h2⟩
    · cases he
  | idx len size n a i =>
    simp only [vev] at he
    split at he
    · rename_i cs i' ha hi
      split at he
      · rename_i hc
        obtain ⟨hq, rfl⟩ := ret1X_inv he
        refine OpS.pure fun X s h ids F t => ?_
        have r := evV_sound t a
        rw [ha] at r
        obtain ⟨xs, e, r⟩ := agg_inv r
        obtain ⟨k, e2⟩ := atI_sound (evV_sound t i) hi
        obtain ⟨w, h1, h2⟩ := part_sound r hq
        exact ⟨w, by rw [aev_idx, e, e2]; simp only [idxA, List.toList_toArray]; rw [if_pos hc, h1]; rfl, h2⟩
      · cases he
    · cases he
  | idxs a i =>
    simp only [vev] at he
    split at he
    · rename_i a' b' ha hb
      obtain ⟨w, hw, rfl, rfl⟩ := ret1V_inv he
      exact OpS.pure fun X s h ids F t => ⟨w, by rw [aev_idxs, (atV_sound (evV_sound t a) ha).1, (atV_sound (evV_sound t i) hb).1, hw]; rfl, vr_at (idxs_atom hw)⟩
    · cases he
  | look ok ts zv m k =>
    obtain ⟨he, rfl⟩ := ret1X_inv he
    refine OpS.pure fun X s h ids F t => ?_
    obtain ⟨w, h1, h2⟩ := look_sound' t (evV_sound t m) (evV_sound t k) he
    exact ⟨w, by rw [aev_look, h1]; rfl, h2⟩
  | mset ts m k y =>
    intro X s h ids F t
    obtain ⟨h', h1, h2, rfl⟩ := mset_sound' t (evV_sound t m) (evV_sound t k) (evV_sound t y) he
    exact ⟨_, _, _, by rw [aev_mset, h1]; rfl, h2, .dead _⟩
  | ext i a =>
    simp only [vev] at he
    split at he
    · rename_i vs ha
      obtain ⟨hq, rfl⟩ := ret1X_inv he
      refine OpS.pure fun X s h ids F t => ?_
      have r := evV_sound t a
      rw [ha] at r
      obtain ⟨xs, e, r⟩ := tup_inv r
      obtain ⟨w, h1, h2⟩ := r.get hq
      exact ⟨w, by rw [aev_ext, e]; simp only [extA, List.toList_toArray, h1]; rfl, h2⟩
    · cases he
  | app size a b =>
    intro X s h ids F t
    obtain ⟨w, h', ids', h1, h2, h3⟩ := app_sound' t (evV_sound t a) (evV_sound t b) he
    exact ⟨w, h', ids', by rw [aev_app, h1], h2, h3⟩
  | cpy size a b =>
    intro X s h ids F t
    obtain ⟨w, h', h1, h2, h3⟩ := cpy_sound' t (evV_sound t a) (evV_sound t b) he
    exact ⟨w, h', ids, by rw [aev_cpy, h1], h2, h3⟩
  | clr z a =>
    intro X s h ids F t
    obtain ⟨h', h1, h2, rfl⟩ := clr_sound' t (evV_sound t a) he
    exact ⟨_, h', ids, by show (match clr false z (evA s a) h with | some h => some (Value.tuple #[], h) | none => none) = _; rw [h1], h2, .dead _⟩
  | len k a =>
    obtain ⟨w, hw, rfl, rfl⟩ := ret1V_inv he
    refine OpS.pure fun X s h ids F t => ?_
    obtain ⟨h1, h2⟩ := len_sound' t (evV_sound t a) hw
    exact ⟨w, by rw [aev_len, h1]; rfl, vr_at h2⟩
  | min a l =>
    simp only [vev] at he
    split at he
    · rename_i a' l' ha hl
      obtain ⟨w, hw, rfl, rfl⟩ := ret1V_inv he
      refine OpS.pure fun X s h ids F t => ?_
      obtain ⟨e1, e2⟩ := atV_sound (evV_sound t a) ha
      obtain ⟨e3, _⟩ := atL_sound (evV_list t l) hl
      exact ⟨w, by rw [aev_min, e1, e3, hw]; rfl, vr_at (fold_atom (fun h => min2_atom h) e2 hw)⟩
    · cases he
  | max a l =>
    simp only [vev] at he
    split at he
    · rename_i a' l' ha hl
      obtain ⟨w, hw, rfl, rfl⟩ := ret1V_inv he
      refine OpS.pure fun X s h ids F t => ?_
      obtain ⟨e1, e2⟩ := atV_sound (evV_sound t a) ha
      obtain ⟨e3, _⟩ := atL_sound (evV_list t l) hl
      exact ⟨w, by rw [aev_max, e1, e3, hw]; rfl, vr_at (fold_atom (fun h => max2_atom h) e2 hw)⟩
    · cases he
  | _ => cases he
end
end Go.Ab.V

/- Blocks of one's own that are written no more; slices that are still empty. -/
namespace Go.Ab.V

def toPV : VV → Option PV
  | .p x => some x
  | _ => none
def toPVs : List VV → Option (List PV)
  | [] => some []
  | x :: r => match toPV x, toPVs r with
    | some y, some l => some (y :: l)
    | _, _ => none
mutual
/-- What leads into block a, seen as read alone. -/
def frzV (a : Pa) (cs : List PV) : VV → VV
  | .os u b n => bif a.eqb b then .p (.sl u n cs) else .os u b n
  | .ob u b off n c => bif a.eqb b && Nat.ble (off + n * u) cs.length then .p (.sl u n ((cs.drop off).take (n * u))) else .ob u b off n c
  | .op u b off => bif a.eqb b && Nat.ble off cs.length then .p (.fp u (cs.drop off)) else .op u b off
  | .clos f x y => .clos f (frzL a cs x) (frzL a cs y)
  | .agg x => .agg (frzL a cs x)
  | .tup x => .tup (frzL a cs x)
  | x => x
def frzL (a : Pa) (cs : List PV) : List VV → List VV
  | [] => []
  | x :: r => frzV a cs x :: frzL a cs r
end
theorem frzL_eq (a : Pa) (cs : List PV) : ∀ l, frzL a cs l = l.map (frzV a cs)
  | [] => rfl
  | x :: r => by simp only [frzL, List.map_cons, frzL_eq a cs r]
def frzB (a : Pa) (cs : List PV) : VB → VB
  | .cells l => .cells (frzL a cs l)
  | .map es => .map (es.map fun e => (e.1, frzV a cs e.2))
  | .siter s p => .siter s p

section
variable {X : Ctx} {S S1 : VSt} {s : Slots} {h : AHeap} {ids : Pa → Option Nat} {F : Nat → Prop} {C : Cfg} {v v' : Value} {x y z : VV} {rd : Addr → List Value → Prop}
theorem toPVs_spec : ∀ {l : List VV} {cs : List PV}, toPVs l = some cs → l = cs.map .p
  | [], cs, h => by simp only [toPVs, Option.some.injEq] at h; subst h; rfl
  | x :: l, cs, h => by
    simp only [toPVs] at h
    split at h
    · rename_i y l' h1 h2
      cases h
      rw [toPVs_spec h2]
      cases x <;> simp [toPV] at h1
      subst h1; rfl
    · cases h
theorem eqb_true {a b : Pa} (h : a.eqb b = true) : b = a := (Pa.eqb_iff.1 h).symm
/-- The block can be read under rd'. -/
def Opn (rd : Addr → List Value → Prop) (o : Option Nat) (cs : List PV) : Prop := match o with
  | none => cs = []
  | some k => ∃ row, (∀ off t, rd ⟨k, off, some t⟩ row) ∧ row.length = cs.length ∧ ∀ (i : Nat) y x, row[i]? = some y → cs[i]? = some x → Rp rd y x
theorem frz_sound {rd rd' : Addr → List Value → Prop} {a : Pa} {cs : List PV} (hr : ∀ a row, rd a row → rd' a row) (ho : Opn rd' (ids a) cs) (r : Vr rd ids v x) : Vr rd' ids v (frzV a cs x) := by
  have hL : ∀ {xs : List Value} {ys : List VV}, xs.length = ys.length → (∀ (i : Nat) x y, xs[i]? = some x → ys[i]? = some y → Vr rd' ids x (frzV a cs y)) →
      xs.length = (frzL a cs ys).length ∧ ∀ (i : Nat) x y, xs[i]? = some x → (frzL a cs ys)[i]? = some y → Vr rd' ids x y := by
    intro xs ys hl h
    rw [frzL_eq]
    refine ⟨by simp [hl], fun i x y hx hy => ?_⟩
    rw [List.getElem?_map] at hy
    cases hi : ys[i]? with
    | none => rw [hi] at hy; cases hy
    | some z => rw [hi] at hy; cases hy; exact h i x z hx hi
  induction r with
  | p r => exact .p (r.mono hr)
  | xs e => exact .xs e
  | @osN v u b e h0 =>
    simp only [frzV]
    cases hb : a.eqb b with
    | false => exact .osN e h0
    | true =>
      have := eqb_true hb; subst this
      rw [e] at ho
      have : cs = [] := ho
      subst this
      rcases h0 with rfl | ⟨p, rfl, hp⟩
      · exact .p .nil
      · exact .p (.sl0 (by unfold tgOk; rcases hp with e | e <;> rw [e]; exact trivial; exact .inl rfl))
  | @os u b k t n e ht =>
    simp only [frzV]
    cases hb : a.eqb b with
    | false => exact .os n e ht
    | true =>
      have := eqb_true hb; subst this
      rw [e] at ho
      obtain ⟨row, h1, h2, h3⟩ := ho
      exact .p (.sl ht (Nat.le_refl _) (h1 0 t) (by simp; omega) (fun i y x hy hx => h3 i y x (by simpa using hy) hx))
  | @ob u b k t off n c e ht hc =>
    simp only [frzV]
    cases hb : (a.eqb b && Nat.ble (off + n * u) cs.length) with
    | false => exact .ob off e ht hc
    | true =>
      rw [Bool.and_eq_true] at hb
      have h0 := eqb_true hb.1; subst h0
      have hl := Nat.le_of_ble_eq_true hb.2
      rw [e] at ho
      obtain ⟨row, h1, h2, h3⟩ := ho
      refine .p (.sl ht hc (h1 off t) (by simp; omega) (fun i y x hy hx => ?_))
      rw [List.getElem?_take] at hx
      split at hx
      · rw [List.getElem?_drop] at hx; exact h3 _ y x hy hx
      · cases hx
  | @op u b k t off e ht =>
    simp only [frzV]
    cases hb : (a.eqb b && Nat.ble off cs.length) with
    | false => exact .op off e ht
    | true =>
      rw [Bool.and_eq_true] at hb
      have h0 := eqb_true hb.1; subst h0
      have hl := Nat.le_of_ble_eq_true hb.2
      rw [e] at ho
      obtain ⟨row, h1, h2, h3⟩ := ho
      refine .p (.fp ht (h1 off t) (by simp; omega) (fun i y x hy hx => ?_))
      rw [List.getElem?_drop] at hx; exact h3 _ y x hy hx
  | om e => exact .om e
  | oi e => exact .oi e
  | clos f h1 _ h2 _ i1 i2 =>
    obtain ⟨a1, a2⟩ := hL h1 i1
    obtain ⟨b1, b2⟩ := hL h2 i2
    exact .clos f a1 a2 b1 b2
  | agg h1 _ i1 => obtain ⟨a1, a2⟩ := hL h1 i1; exact .agg a1 a2
  | tup h1 _ i1 => obtain ⟨a1, a2⟩ := hL h1 i1; exact .tup a1 a2
  | yl l => exact .yl l
  | skip => exact .skip
  | dead v => exact .dead v

def _root_.Go.Ab.VSt.frz (S : VSt) (a : Pa) (cs : List PV) : VSt := ⟨PT.map (frzV a cs) S.L, PT.map (frzB a cs) (PT.set a S.B none), S.K, S.H⟩
/-- The ghosts: steps that the machine does not make. -/
def G (S S' : VSt) : Prop := ∀ X s h ids F, St X S s h ids F → ∃ ids' F', St X S' s h ids' F'
theorem G.trans {S1 S2 S3 : VSt} (a : G S1 S2) (b : G S2 S3) : G S1 S3 := fun X s h ids F t => let ⟨i, f, t'⟩ := a X s h ids F t; b X s h i f t'
theorem G.weak {S S' : VSt} (hl : VLe S' S) : G S S' := fun _ _ _ ids F t => ⟨ids, F, t.weak hl⟩
theorem G.refl {S : VSt} : G S S := fun _ _ _ ids F t => ⟨ids, F, t⟩

theorem opn_of (t : St X S s h ids F) {a : Pa} {l : List VV} {cs : List PV} (hb : PT.get a S.B = some (.cells l)) (hc : toPVs l = some cs) {F' : Nat → Prop} (hF : ∀ k, F k → F' k) (hk : ∀ k, ids a = some k → F' k) : Opn (RdF h F') (ids a) cs := by
  have hl := toPVs_spec hc
  subst hl
  have r := t.blk a _ hb
  cases hi : ids a with
  | none => rw [hi] at r; have : cs.map VV.p = [] := r; show cs = []; simpa using this
  | some k =>
    rw [hi] at r
    obtain ⟨c, h1, h2⟩ := r
    refine ⟨c, fun off t => ⟨hk k hi, h1⟩, by simpa using h2.1, fun i y x hy hx => ?_⟩
    have := h2.2 i y (.p x) hy (by rw [List.getElem?_map, hx]; rfl)
    exact (p_inv this).mono fun a row r => RdF.mono rfl (fun k hk => ⟨hF k hk, rfl⟩) r
theorem _root_.Go.Ab.St.freeze (t : St X S s h ids F) {a : Pa} {l : List VV} {cs : List PV} (hb : PT.get a S.B = some (.cells l)) (hc : toPVs l = some cs) (hK : a ∉ S.K) : St X (S.frz a cs) s h ids (fun k => F k ∨ ids a = some k) := by
  have hrd : ∀ p row, RdF h F p row → RdF h (fun k => F k ∨ ids a = some k) p row := fun p row r => RdF.mono rfl (fun k hk => ⟨.inl hk, rfl⟩) r
  have ho := opn_of t hb hc (F' := fun k => F k ∨ ids a = some k) (fun k h => .inl h) (fun k h => .inr h)
  have hnew : ∀ k, ids a = some k → ¬X.old k := fun k hk => (t.own a _ k hb hk).2.resolve_right fun h => hK h.2
  have hB : ∀ {a' b'}, PT.get a' (S.frz a cs).B = some b' → a' ≠ a ∧ ∃ b0, PT.get a' S.B = some b0 ∧ b' = frzB a cs b0 := by
    intro a' b' hg
    obtain ⟨b0, h1, h2⟩ := PT.get_map hg
    rw [PT.get_set] at h1
    split at h1
    · cases h1
    · rename_i e; exact ⟨e, b0, h1, h2⟩
  refine ⟨t.wf, t.base, t.next, t.keep, fun k hk => ?_, fun k hk => ?_, ?_, ?_, ?_, ?_, t.stab, t.hist, t.nx⟩
  · rw [← t.frz k hk]
    exact ⟨fun h => h.elim id fun h => (hnew k h hk).elim, .inl⟩
  · rcases hk with hk | hk
    · exact t.flt k hk
    · exact t.lt hb hk
  · intro a' b' hg
    obtain ⟨e, b0, h1, rfl⟩ := hB hg
    have r := t.blk a' b0 h1
    cases hi : ids a' with
    | none =>
      rw [hi] at r
      cases b0 with
      | cells l => have : l = [] := r; subst this; rfl
      | map es => exact r
      | siter _ _ => exact r
    | some k =>
      rw [hi] at r
      cases b0 with
      | cells l =>
        obtain ⟨c, g1, g2⟩ := r
        refine ⟨c, g1, ?_⟩
        rw [frzL_eq]
        refine ⟨by simp [g2.1], fun i x y hx hy => ?_⟩
        rw [List.getElem?_map] at hy
        cases hl : l[i]? with
        | none => rw [hl] at hy; cases hy
        | some z => rw [hl] at hy; cases hy; exact frz_sound hrd ho (g2.2 i x z hx hl)
      | map es =>
        obtain ⟨c, g1, g2⟩ := r
        refine ⟨c, g1, ⟨by simp [g2.1], fun i x y hx hy => ?_⟩⟩
        rw [List.getElem?_map] at hy
        cases hl : es[i]? with
        | none => rw [hl] at hy; cases hy
        | some z => rw [hl] at hy; cases hy; exact ⟨(g2.2 i x z hx hl).1, frz_sound hrd ho (g2.2 i x z hx hl).2⟩
      | siter _ _ => exact r
  · intro a' b' k hg hk
    obtain ⟨e, b0, h1, _⟩ := hB hg
    obtain ⟨o1, o2⟩ := t.own a' b0 k h1 hk
    exact ⟨fun h => h.elim o1 fun h => e (t.inj a' a b0 _ k h1 hb hk h), o2⟩
  · intro a1 a2 b1 b2 k g1 g2 e1 e2
    obtain ⟨_, c1, h1, _⟩ := hB g1
    obtain ⟨_, c2, h2, _⟩ := hB g2
    exact t.inj a1 a2 c1 c2 k h1 h2 e1 e2
  · intro p x hx
    obtain ⟨x0, h1, rfl⟩ := PT.get_map hx
    exact frz_sound hrd ho (t.slots p x0 h1)
theorem G.frz {a : Pa} {l : List VV} {cs : List PV} (hb : PT.get a S.B = some (.cells l)) (hc : toPVs l = some cs) (hf : free S a = true) : G S (S.frz a cs) := fun _ _ _ ids _ t => ⟨ids, _, t.freeze hb hc (free_spec hf)⟩
/-- A name for an empty slice. -/
theorem _root_.Go.Ab.St.newN (t : St X S s h ids F) {d : Pa} (hK : d ∉ S.K) : St X (S.alloc d (.cells [])) s h (updI ids d none) F := by
  have hB : ∀ {a' b'}, PT.get a' (S.alloc d (.cells [])).B = some b' → (a' = d ∧ b' = .cells []) ∨ (a' ≠ d ∧ ∃ b0, PT.get a' S.B = some b0 ∧ b' = deadB d b0) := by
    intro a' b' hg
    have hg : PT.get a' (PT.set d (PT.map (deadB d) S.B) (some (.cells []))) = some b' := hg
    rw [PT.get_set] at hg
    split at hg
    · rename_i e; cases hg; exact .inl ⟨e, rfl⟩
    · rename_i e; obtain ⟨b0, g1, g2⟩ := PT.get_map hg; exact .inr ⟨e, b0, g1, g2⟩
  refine ⟨t.wf, t.base, t.next, t.keep, t.frz, t.flt, ?_, ?_, ?_, ?_, ?_, t.hist, t.nx⟩
  · intro a' b' hg
    rcases hB hg with ⟨rfl, rfl⟩ | ⟨e, b0, g1, rfl⟩
    · rw [updI_same]; rfl
    · rw [updI_ne _ _ e]
      exact (t.blk a' b0 g1).deadM (fun _ _ r => r) (fun c hc => updI_ne _ _ hc) (fun _ _ => rfl)
  · intro a' b' k hg hk
    rcases hB hg with ⟨rfl, rfl⟩ | ⟨e, b0, g1, _⟩
    · rw [updI_same] at hk; cases hk
    · rw [updI_ne _ _ e] at hk; exact t.own a' b0 k g1 hk
  · intro a1 a2 b1 b2 k g1 g2 e1 e2
    rcases hB g1 with ⟨rfl, rfl⟩ | ⟨i1, c1, g1, _⟩
    · rw [updI_same] at e1; cases e1
    · rcases hB g2 with ⟨rfl, rfl⟩ | ⟨i2, c2, g2, _⟩
      · rw [updI_same] at e2; cases e2
      · rw [updI_ne _ _ i1] at e1; rw [updI_ne _ _ i2] at e2
        exact t.inj a1 a2 c1 c2 k g1 g2 e1 e2
  · intro p x hx
    obtain ⟨g1, g2⟩ := PT.get_filt hx
    exact (t.slots p x g1).mono (fun _ _ r => r) fun c hc => updI_ne _ _ fun e => nos_spec g2 (by rw [← e]; exact hc)
  · intro c hc
    rw [updI_ne _ _ (fun e => hK (by rw [← e]; exact hc))]
    exact t.stab c hc
def _root_.Go.Ab.VSt.adopt (S : VSt) (p : Pa) (u : Nat) (d : Pa) : VSt := ⟨PT.set p (S.alloc d (.cells [])).L (some (.os u d 0)), (S.alloc d (.cells [])).B, S.K, S.H⟩
def emptyV : VV → Bool
  | .p (.at (.slice none 0 0)) => true
  | .xs => true
  | _ => false
theorem G.adopt {p : Pa} (u : Nat) (d : Pa) (hp : emptyV ((PT.get p S.L).getD .dead) = true) (hf : free S d = true) : G S (S.adopt p u d) := by
  intro X s h ids F t
  have t2 := t.newN (free_spec hf)
  refine ⟨_, F, ⟨t2.wf, t2.base, t2.next, t2.keep, t2.frz, t2.flt, t2.blk, t2.own, t2.inj, fun q x hq => ?_, t2.stab, t2.hist, t2.nx⟩⟩
  have hq : PT.get q (PT.set p (S.alloc d (.cells [])).L (some (.os u d 0))) = some x := hq
  rw [PT.get_set] at hq
  split at hq
  · rename_i e
    cases hq
    subst e
    have r := t.slot q
    refine .osN (updI_same _ _ _) ?_
    revert r hp
    generalize (PT.get q S.L).getD .dead = y
    generalize getS q s = w
    intro hp r
    unfold emptyV at hp
    split at hp
    · exact .inl (at_inv r).1
    · cases r with
      | xs e => exact e
    · cases hp
  · exact t2.slots q x hq
end
end Go.Ab.V

/- Code and calls over the second evaluator's states. -/
namespace Go.Ab.V

section
variable {X : Ctx} {S S1 : VSt} {s : Slots} {h : AHeap} {ids : Pa → Option Nat} {F : Nat → Prop} {C : Cfg} {v v' : Value} {x y z : VV}
/-- What the program's text lays lies there. -/
def GlobOK (C : Cfg) (base : Nat → Option (List Value)) : Prop := ∀ e ∈ C.glob, base e.1 = some (rowI e.2)
theorem GlobOK.nil {C : Cfg} {base : Nat → Option (List Value)} (h : C.glob = []) : GlobOK C base := fun e he => by rw [h] at he; cases he
def mkB (l : List (Pa × VB)) (t : PT VB) : PT VB := match l with
  | [] => t
  | e :: r => mkB r (PT.set e.1 t (some e.2))
def nmsL (l : List (Pa × VB)) : List Pa := match l with
  | [] => []
  | e :: r => e.1 :: nmsL r
theorem mkB_get : ∀ {l : List (Pa × VB)} {t : PT VB} {a : Pa} {b : VB}, PT.get a (mkB l t) = some b → (∃ e ∈ l, e.1 = a ∧ e.2 = b) ∨ (PT.get a t = some b ∧ a ∉ nmsL l)
  | [], t, a, b, h => .inr ⟨h, by simp [nmsL]⟩
  | e :: r, t, a, b, h => by
    rcases mkB_get (l := r) h with ⟨e', h1, h2⟩ | ⟨h1, h2⟩
    · exact .inl ⟨e', .tail _ h1, h2⟩
    · rw [PT.get_set] at h1
      split at h1
      · rename_i q; cases h1; exact .inl ⟨e, .head _, q.symm, rfl⟩
      · rename_i q; exact .inr ⟨h1, by simp only [nmsL, List.mem_cons, not_or]; exact ⟨q, h2⟩⟩
theorem mem_nms : ∀ {l : List (Pa × VB)} {e : Pa × VB}, e ∈ l → e.1 ∈ nmsL l
  | _ :: _, _, .head _ => by simp [nmsL]
  | _ :: l, _, .tail _ h => by simp only [nmsL, List.mem_cons]; exact .inr (mem_nms h)
def subs (l m : List Pa) : Bool := match l with
  | [] => true
  | a :: r => !nos a m && subs r m
theorem nos_not {a : Pa} : ∀ {l : List Pa}, nos a l = false → a ∈ l
  | [], h => by simp [nos] at h
  | b :: r, h => by
    simp only [nos, Bool.and_eq_false_iff, Bool.not_eq_false'] at h
    rcases h with h | h
    · rw [Pa.eqb_iff.1 h]; simp
    · exact .tail _ (nos_not h)
theorem subs_spec : ∀ {l m : List Pa}, subs l m = true → ∀ a ∈ l, a ∈ m
  | [], m, _, a, h => by simp at h
  | b :: r, m, hs, a, h => by
    simp only [subs, Bool.and_eq_true, Bool.not_eq_true'] at hs
    rcases List.mem_cons.1 h with rfl | h
    · exact nos_not hs.1
    · exact subs_spec hs.2 a h
def nmsB : List (Pa × VB) → List Pa
  | [] => []
  | e :: r => e.1 :: (nmB e.2 ++ nmsB r)
theorem nmsB_mem : ∀ {l : List (Pa × VB)} {e : Pa × VB}, e ∈ l → e.1 ∈ nmsB l ∧ ∀ a ∈ nmB e.2, a ∈ nmsB l
  | _ :: _, _, .head _ => ⟨by simp [nmsB], fun a h => by simp [nmsB, h]⟩
  | _ :: l, _, .tail _ h => by
    obtain ⟨h1, h2⟩ := nmsB_mem h
    exact ⟨by simp [nmsB, h1], fun a ha => by simp [nmsB, h2 a ha]⟩
/-- What a round leaves as it was: X, X': what the ranger lets be known before and after it; T: the blocks that were lent. -/
structure After (X X' : Ctx) (h h' : AHeap) (F F' : Nat → Prop) (T : Nat → Prop) : Prop where
  nx : h.next ≤ h'.next
  base : h'.base = h.base
  old : ∀ k, X.old k → X'.old k
  keep : ∀ k, k < h.next → (X.old k → X.T k) → ¬T k → h'.get k = h.get k
  own : ∀ k, k < h.next → (X.old k → X.T k) → ¬F k → ¬F' k ∧ (X'.old k → X.old k)
  frz : ∀ k, F k → F' k ∧ h'.get k = h.get k
  tt : X'.T = X.T
  id0 : X'.id0 = X.id0
/-- Who ranges over the function that runs: what he lets be known of what he keeps, and what a call of his round does. -/
structure Env (C : Cfg) where
  ok : Ctx → Prop
  glob : ∀ {X : Ctx}, ok X → GlobOK C X.h0.base
  law : ∀ {X : Ctx} {S : VSt} {s : Slots} {h : AHeap} {ids : Pa → Option Nat} {F : Nat → Prop} {k : Nat} {rest : List Itm} {st : Bool} {vals : List Value} {args : List VV} {Bf : List (Pa × VB)}, ok X → St X S s h ids F → X.H = some ⟨k, (args, Bf) :: rest, true, st⟩ →
    All2 (Vr (RdF h F) ids) vals args → PT.Le (mkB Bf .lf) S.B → subs (nmL args ++ nmsB Bf) (nmsL Bf) = true →
    ∃ b h', (st = true → b = true → rest ≠ []) ∧ YieldE C k vals h (.bool b) h' ∧ ∃ X' F', ok X' ∧ St X' ⟨S.L, S.B, S.K, some ⟨k, rest, b, st⟩⟩ s h' ids F' ∧ After X X' h h' F F' (fun k => ∃ a ∈ nmsL Bf, ids a = some k)
/-- Nobody ranges. -/
def env0 (C : Cfg) (X0 : Ctx) (h0 : X0.H = none) (hg : GlobOK C X0.h0.base) : Env C := ⟨fun X => X = X0, fun e => by subst e; exact hg, fun e _ h _ _ _ => by subst e; rw [h0] at h; cases h⟩
def StE {C : Cfg} (E : Env C) (S : VSt) (s : Slots) (h : AHeap) (ids : Pa → Option Nat) (F : Nat → Prop) : Prop := ∃ X, E.ok X ∧ St X S s h ids F
def VO (C : Cfg) (ops : List AOper) (S : VSt) (Q : VSt → Prop) : Prop := ∀ (E : Env C) s h ids F, StE E S s h ids F → WpO C ops (fun s' h' => ∃ S' ids' F', Q S' ∧ StE E S' s' h' ids' F') s h
def VC (C : Cfg) (c : ACode) (S : VSt) (Q : Ex → VSt → Prop) : Prop := ∀ (E : Env C) s h ids F, StE E S s h ids F → WpC C c (fun e s' h' => ∃ S' ids' F', Q e S' ∧ StE E S' s' h' ids' F') s h
theorem _root_.Go.Ab.V.G.e {S S' : VSt} (g : G S S') {E : Env C} {s : Slots} {h : AHeap} {ids : Pa → Option Nat} {F : Nat → Prop} (t : StE E S s h ids F) : ∃ ids' F', StE E S' s h ids' F' := by
  obtain ⟨X, hE, t⟩ := t
  obtain ⟨i, f, t'⟩ := g X s h ids F t
  exact ⟨i, f, X, hE, t'⟩

def wantV (S : VSt) (g : Option (Pa × Bool)) : Option Bool := match g with
  | none => some true
  | some (d, want) => match PT.get d S.L with
    | some (.p (.at (.bool x))) => some (x == want)
    | some .skip => some false
    | _ => none
theorem want_sound (t : St X S s h ids F) {g : Option (Pa × Bool)} {b : Bool} (he : wantV S g = some b) : wantedA s g = some b := by
  cases g with
  | none => exact he
  | some g =>
    obtain ⟨d, want⟩ := g
    simp only [wantV] at he
    split at he
    · rename_i q hq
      have r := t.slots d _ hq
      have := (at_inv r).1
      simp only [wantedA, this]; exact he
    · rename_i hq
      have r := t.slots d _ hq
      have e : getS d s = skipV := by
        generalize getS d s = w at r
        cases r with
        | skip => rfl
      simp only [wantedA, e]; exact he
    · cases he
/-- The first k operations of a region, none of them a call of a function. -/
def runK : Nat → List AOper → VSt → Option (List AOper × VSt)
  | 0, ops, S => some (ops, S)
  | _ + 1, [], _ => none
  | k + 1, o :: r, S => match wantV S o.guard with
    | some true => match vev o.op o.dst S with
      | some (x, S1) => runK k r (S1.put o.dst x)
      | none => none
    | some false => runK k r (S.put o.dst .skip)
    | none => none
theorem VO.nil {Q : VSt → Prop} (hq : Q S) : VO C [] S Q := fun _ _ _ ids F t => .nil ⟨S, ids, F, hq, t⟩
theorem VO.runs {Q : VSt → Prop} : ∀ (k : Nat) {ops rest : List AOper} {S S' : VSt}, runK k ops S = some (rest, S') → VO C rest S' Q → VO C ops S Q
  | 0, ops, rest, S, S', he, hq => by cases he; exact hq
  | k + 1, [], rest, S, S', he, hq => by cases he
  | k + 1, o :: r, rest, S, S', he, hq => by
    intro X s h ids F t
    simp only [runK] at he
    split at he
    · rename_i hw
      split at he
      · rename_i x S1 hv
        obtain ⟨X0, hE, t⟩ := t
        obtain ⟨v, h', ids', h1, h2, h3⟩ := vev_sound (C := C) hv X0 s h ids F t
        refine WpO.step ?_
        rw [want_sound t hw, h1]
        exact VO.runs k he hq X _ _ _ _ ⟨X0, hE, h2.put h3 o.dst⟩
      · cases he
    · rename_i hw
      refine WpO.step ?_
      obtain ⟨X0, hE, t⟩ := t
      rw [want_sound t hw]
      exact VO.runs k he hq X _ _ _ _ ⟨X0, hE, t.put .skip o.dst⟩
    · cases he
theorem VO.ghost {Q : VSt → Prop} {ops : List AOper} {S' : VSt} (g : G S S') (hq : VO C ops S' Q) : VO C ops S Q := fun X s h ids F t => let ⟨i, f, t'⟩ := g.e t; hq X s h i f t'
theorem VC.ghost {Q : Ex → VSt → Prop} {c : ACode} {S' : VSt} (g : G S S') (hq : VC C c S' Q) : VC C c S Q := fun X s h ids F t => let ⟨i, f, t'⟩ := g.e t; hq X s h i f t'
theorem VO.mono {Q Q' : VSt → Prop} {ops : List AOper} (hw : VO C ops S Q) (hq : ∀ S, Q S → Q' S) : VO C ops S Q' := fun X s h ids F t => (hw X s h ids F t).mono fun _ _ ⟨S', i, f, q, t'⟩ => ⟨S', i, f, hq _ q, t'⟩
theorem VC.mono {Q Q' : Ex → VSt → Prop} {c : ACode} (hw : VC C c S Q) (hq : ∀ e S, Q e S → Q' e S) : VC C c S Q' := fun X s h ids F t => (hw X s h ids F t).mono fun _ _ _ ⟨S', i, f, q, t'⟩ => ⟨S', i, f, hq _ _ q, t'⟩

def thenV (C : Cfg) (c : ACode) (Q : Ex → VSt → Prop) : Ex → VSt → Prop
  | .normal, S => VC C c S Q
  | e, S => Q e S
theorem VC.reg {Q : Ex → VSt → Prop} {ops : List AOper} (hw : VO C ops S (Q .normal)) : VC C (.reg ops []) S Q := fun X s h ids F t => .reg (hw X s h ids F t)
theorem VC.skip {Q : Ex → VSt → Prop} (hq : Q .normal S) : VC C .skip S Q := fun _ _ _ ids F t => .skip ⟨S, ids, F, hq, t⟩
theorem VC.ret {Q : Ex → VSt → Prop} (hq : Q .ret S) : VC C .ret S Q := fun _ _ _ ids F t => .ret ⟨S, ids, F, hq, t⟩
theorem VC.exit {Q : Ex → VSt → Prop} {id : Nat} (hq : Q (.exit id) S) : VC C (.exit id) S Q := fun _ _ _ ids F t => .exit ⟨S, ids, F, hq, t⟩
theorem VC.kill {Q : Ex → VSt → Prop} {l : List Pa} {c : ACode} (hc : VC C c (S.kill l) Q) : VC C (.kill l c) S Q := fun X s h ids F t => .kill (hc X _ h ids F (let ⟨Y, hE, t⟩ := t; ⟨Y, hE, t.kill l⟩))
theorem VC.seq {Q : Ex → VSt → Prop} {a b : ACode} (ha : VC C a S (thenV C b Q)) : VC C (.seq a b) S Q := fun X s h ids F t => by
  refine .seq ((ha X s h ids F t).mono fun e s' h' ⟨S', i, f, q, t'⟩ => ?_)
  cases e with
  | normal => exact q X s' h' i f t'
  | exit id => exact ⟨S', i, f, q, t'⟩
  | ret => exact ⟨S', i, f, q, t'⟩
theorem VC.cond {Q : Ex → VSt → Prop} {o : Opd} {a b : ACode} (p : Bool) (ht : evV S o = .p (.at (.bool p))) (ha : p = true → VC C a S Q) (hb : p = false → VC C b S Q) : VC C (.cond o a b) S Q := fun X s h ids F t => by
  obtain ⟨Y, hE, t⟩ := t
  have r := evV_sound t o
  rw [ht] at r
  have t : StE X S s h ids F := ⟨Y, hE, t⟩
  exact .cond (at_inv r).1 (fun e => ha e X s h ids F t) (fun e => hb e X s h ids F t)
theorem VC.block {Q : Ex → VSt → Prop} {id : Nat} {c : ACode} (hc : VC C c S (fun e S => Q (blockEx id e) S)) : VC C (.block id c) S Q := fun X s h ids F t => .block (hc X s h ids F t)
/-- A loop: a family of states, an invariant with a number that falls. -/
theorem VC.loop {Q : Ex → VSt → Prop} {c : ACode} {σ : Type} (T : σ → VSt) (I : Nat → σ → Prop)
    (hr : ∀ n x, I n x → VC C c (T x) (fun e S' => match e with
      | .normal => ∃ m y, m < n ∧ I m y ∧ G S' (T y)
      | e => Q e S')) {n : Nat} {x : σ} (hi : I n x) : VC C (.loop c) (T x) Q := fun X s h ids F t => by
  refine WpC.loop (fun n s h => ∃ x ids F, I n x ∧ StE X (T x) s h ids F) ?_ n ⟨x, ids, F, hi, t⟩
  rintro n s h ⟨x, ids, F, hi, t⟩
  refine (hr n x hi X s h ids F t).mono fun e s' h' ⟨S', i, f, q, t'⟩ => ?_
  cases e with
  | normal =>
    obtain ⟨m, y, hm, hi', g⟩ := q
    obtain ⟨i', f', t''⟩ := g.e t'
    exact ⟨m, hm, y, i', f', hi', t''⟩
  | exit id => exact ⟨S', i, f, q, t'⟩
  | ret => exact ⟨S', i, f, q, t'⟩

/-! ### Functions -/
def cx (h : AHeap) (ids : Pa → Option Nat) (F : Nat → Prop) (l : List (Pa × VB)) : Ctx := ⟨h, fun k => k < h.next, fun k => ∃ a b, PT.get a (mkB l .lf) = some b ∧ ids a = some k, F, ids, none, nmsL l⟩
/-- Function f, called with these values and blocks, hands back y and leaves the blocks B'; N: the names of new blocks. -/
def VCall (C : Cfg) (f : Nat) (args : List VV) (B : List (Pa × VB)) (N : List Pa) (y : VV) (B' : List (Pa × VB)) : Prop :=
  ∀ h ids F vals, GlobOK C h.base → St (cx h ids F B) ⟨.lf, mkB B .lf, nmsL B, none⟩ .lf h ids F → All2 (Vr (RdF h F) ids) vals args →
    WpF C f vals (fun v h' => ∃ ids' F', St (cx h ids F B) ⟨.lf, mkB B' .lf, nmsL B, none⟩ .lf h' ids' F' ∧ Vr (RdF h' F') ids' v y ∧ ∀ a, a ∉ N → ids' a = ids a) h

def inV : List Pa → List VV → PT VV → PT VV
  | p :: ps, x :: xs, t => inV ps xs (PT.set p t (some x))
  | _, _, t => t
theorem inV_sound {rd : Addr → List Value → Prop} : ∀ (ps : List Pa) {vs : List Value} {xs : List VV} {L : PT VV} {s : Slots}, All2 (Vr rd ids) vs xs → (∀ p x, PT.get p L = some x → Vr rd ids (getS p s) x) →
    ∀ p x, PT.get p (inV ps xs L) = some x → Vr rd ids (getS p (putL ps vs s fun s => s)) x
  | [], vs, xs, L, s, r, h0, p, x, hp => by cases xs <;> exact h0 p x hp
  | q :: ps, [], xs, L, s, r, h0, p, x, hp => by
    have : xs = [] := List.eq_nil_of_length_eq_zero (by simpa using r.1.symm)
    subst this; exact h0 p x hp
  | q :: ps, v :: vs, [], L, s, r, h0, p, x, hp => by have := r.1; simp at this
  | q :: ps, v :: vs, y :: xs, L, s, r, h0, p, x, hp => by
    have hput : (putL (q :: ps) (v :: vs) s fun s => s) = putL ps vs (setS q s v) fun s => s := by
      show Ab.setK q s v (fun s => putL ps vs s fun s => s) = _
      rw [Ab.setK_eq]
    rw [hput]
    refine inV_sound ps r.tail (fun p x hx => ?_) p x hp
    rw [PT.get_set] at hx
    rw [getS_setS]
    split at hx
    · rename_i e; rw [if_pos e]; cases hx; exact r.head
    · rename_i e; rw [if_neg e]; exact h0 p x hx
def resVV (S : VSt) : List ARes → Option (List VV)
  | [] => some []
  | .tmp t :: r => match resVV S r with
    | some l => some ((PT.get t S.L).getD .dead :: l)
    | none => none
  | .cell n t :: r => match v_ld S n ((PT.get t S.L).getD .dead), resVV S r with
    | some x, some l => some (x :: l)
    | _, _ => none
def resX : List VV → VV
  | [x] => x
  | l => .tup l
theorem res_sound (t : St X S s h ids F) : ∀ {rs : List ARes} {ys : List VV}, resVV S rs = some ys → ∃ vs, resOf s h rs = some vs ∧ All2 (Vr (RdF h F) ids) vs ys
  | [], ys, he => by simp only [resVV, Option.some.injEq] at he; subst he; exact ⟨[], rfl, .nil⟩
  | .tmp p :: r, ys, he => by
    simp only [resVV] at he
    split at he
    · rename_i l hl
      cases he
      obtain ⟨vs, h1, h2⟩ := res_sound t hl
      exact ⟨_, by simp only [resOf, h1], .cons (t.slot p) h2⟩
    · cases he
  | .cell n p :: r, ys, he => by
    simp only [resVV] at he
    split at he
    · rename_i x l hx hl
      cases he
      obtain ⟨vs, h1, h2⟩ := res_sound t hl
      obtain ⟨w, h3, h4⟩ := ld_sound' t (t.slot p) hx
      exact ⟨_, by simp only [resOf, h1, h3], .cons h4 h2⟩
    · cases he
theorem resX_sound {rd : Addr → List Value → Prop} {vs : List Value} {ys : List VV} (r : All2 (Vr rd ids) vs ys) : Vr rd ids (resV vs) (resX ys) := by
  match vs, ys, r with
  | [], [], r => exact .tup (xs := []) rfl (fun i x y h => by simp at h)
  | [v], [y], r => exact r.head
  | _ :: _ :: _, _ :: _ :: _, r => exact .tup r.1 r.2
  | [], _ :: _, r => have := r.1; simp at this
  | _ :: _, [], r => have := r.1; simp at this
  | [_], _ :: _ :: _, r => have := r.1; simp at this
  | _ :: _ :: _, [_], r => have := r.1; simp at this
/-- Names that nothing bears may mean anything. -/
theorem _root_.Go.Ab.St.reids (t : St X S s h ids F) {ids' : Pa → Option Nat} (h1 : ∀ a b, PT.get a S.B = some b → ids' a = ids a ∧ ∀ c ∈ nmB b, ids' c = ids c) (h2 : ∀ p x, PT.get p S.L = some x → ∀ c ∈ nm x, ids' c = ids c)
    (h3 : ∀ a ∈ S.K, ids' a = ids a) : St X S s h ids' F := by
  refine ⟨t.wf, t.base, t.next, t.keep, t.frz, t.flt, fun a b hb => ?_, fun a b k hb hk => ?_, fun a a' b b' k g1 g2 e1 e2 => ?_, fun p x hx => (t.slots p x hx).mono (fun _ _ r => r) (h2 p x hx), fun a ha => (h3 a ha).trans (t.stab a ha), t.hist, t.nx⟩
  · rw [(h1 a b hb).1]; exact (t.blk a b hb).mono (fun _ _ r => r) (h1 a b hb).2 (fun _ _ => rfl)
  · rw [(h1 a b hb).1] at hk; exact t.own a b k hb hk
  · rw [(h1 a b g1).1] at e1; rw [(h1 a' b' g2).1] at e2; exact t.inj a a' b b' k g1 g2 e1 e2
structure Fin (S : VSt) (rs : List ARes) (K N : List Pa) (y : VV) (B' : List (Pa × VB)) : Prop where
  out : ∃ S', G S S' ∧ (∃ ys, resVV S' rs = some ys ∧ y = resX ys) ∧ PT.Le (mkB B' .lf) S'.B ∧ S'.K = K ∧ S'.H = none
  nms : subs (nm y ++ nmsB B') (N ++ K) = true
theorem VCall.mk {f : Nat} {fn : AFunc} {args : List VV} {B B' : List (Pa × VB)} {N : List Pa} {y : VV} (hf : C.fn f = some fn) (hl : args.length = fn.params.length) (hN : (nmsL B).all (fun a => nos a N) = true)
    (hc : VC C fn.body ⟨inV fn.params args .lf, mkB B .lf, nmsL B, none⟩ (fun e S => match e with
      | .exit _ => False
      | _ => Fin S fn.results (nmsL B) N y B')) : VCall C f args B N y B' := by
  intro h ids F vals hgl t r
  refine WpF.mk hf (r.1.trans hl) ?_
  have t0 : St (cx h ids F B) ⟨inV fn.params args .lf, mkB B .lf, nmsL B, none⟩ (putL fn.params vals fn.init fun s => s) h ids F :=
    ⟨t.wf, t.base, t.next, t.keep, t.frz, t.flt, t.blk, t.own, t.inj, inV_sound fn.params r (fun p x hx => by simp at hx), t.stab, t.hist, t.nx⟩
  refine (hc (env0 C _ rfl hgl) _ _ _ _ ⟨_, rfl, t0⟩).mono fun e s' h' ⟨S', i, f', q, Y, hY, t'⟩ => ?_
  obtain rfl : Y = _ := hY
  have key : Fin S' fn.results (nmsL B) N y B' → ∃ vs, resOf s' h' fn.results = some vs ∧ ∃ ids' F', St (cx h ids F B) ⟨.lf, mkB B' .lf, nmsL B, none⟩ .lf h' ids' F' ∧ Vr (RdF h' F') ids' (resV vs) y ∧ ∀ a, a ∉ N → ids' a = ids a := by
    rintro ⟨⟨S2, g, ⟨ys, hys, rfl⟩, hB, hK, hH⟩, hnm⟩
    obtain ⟨i2, f2, t2⟩ := g _ _ _ _ _ t'
    obtain ⟨vs, h1, h2⟩ := res_sound t2 hys
    have hsub := subs_spec hnm
    have hKN : ∀ a, a ∈ N ++ nmsL B → (if a ∈ N then i2 a else ids a) = i2 a := by
      intro a ha
      split
      · rfl
      · rename_i hn
        have := t2.stab a (by rw [hK]; exact (List.mem_append.1 ha).resolve_left hn)
        exact this.symm
    refine ⟨vs, h1, fun a => if a ∈ N then i2 a else ids a, f2, ?_, ?_, fun a ha => if_neg ha⟩
    · have t3 : St (cx h ids F B) ⟨.lf, mkB B' .lf, nmsL B, none⟩ .lf h' i2 f2 := by
        have := t2.weak (S' := ⟨.lf, mkB B' .lf, nmsL B, none⟩) ⟨trivial, hB, hK.symm, hH.symm⟩
        exact ⟨this.wf, this.base, this.next, this.keep, this.frz, this.flt, this.blk, this.own, this.inj, fun p x hx => by simp at hx, this.stab, this.hist, this.nx⟩
      refine t3.reids (fun a b hb => ?_) (fun p x hx => by simp at hx) (fun a ha => hKN a (List.mem_append_right _ ha))
      rcases mkB_get hb with ⟨e, he, rfl, rfl⟩ | ⟨h0, _⟩
      · obtain ⟨m1, m2⟩ := nmsB_mem he
        exact ⟨hKN _ (hsub _ (List.mem_append_right _ m1)), fun c hc => hKN c (hsub c (List.mem_append_right _ (m2 c hc)))⟩
      · simp at h0
    · exact (resX_sound h2).mono (fun _ _ r => r) fun a ha => hKN a (hsub a (List.mem_append_left _ ha))
  cases e with
  | exit id => exact q.elim
  | normal => obtain ⟨vs, h1, h2⟩ := key q; simp only [h1]; exact h2
  | ret => obtain ⟨vs, h1, h2⟩ := key q; simp only [h1]; exact h2
end
end Go.Ab.V

/- A call by a contract. -/
namespace Go.Ab.V

mutual
/-- Nothing in it is read from a row that is merely lent. -/
def flatV : VV → Bool
  | .p (.at _) => true
  | .p _ => false
  | .clos _ x y => flatL x && flatL y
  | .agg x => flatL x
  | .tup x => flatL x
  | _ => true
def flatL : List VV → Bool
  | [] => true
  | x :: r => flatV x && flatL r
end
def flatE : List (Value × VV) → Bool
  | [] => true
  | e :: r => flatV e.2 && flatE r
def flatB : List (Pa × VB) → Bool
  | [] => true
  | (_, .cells l) :: r => flatL l && flatB r
  | (_, .map es) :: r => flatE es && flatB r
  | (_, .siter ..) :: r => flatB r
theorem flatL_mem : ∀ {l : List VV} {x : VV}, flatL l = true → x ∈ l → flatV x = true
  | _ :: _, _, h, .head _ => by simp only [flatL, Bool.and_eq_true] at h; exact h.1
  | _ :: l, _, h, .tail _ hx => by simp only [flatL, Bool.and_eq_true] at h; exact flatL_mem h.2 hx
theorem flatE_mem : ∀ {l : List (Value × VV)} {x : Value × VV}, flatE l = true → x ∈ l → flatV x.2 = true
  | _ :: _, _, h, .head _ => by simp only [flatE, Bool.and_eq_true] at h; exact h.1
  | _ :: l, _, h, .tail _ hx => by simp only [flatE, Bool.and_eq_true] at h; exact flatE_mem h.2 hx
def flatB1 : VB → Bool
  | .cells l => flatL l
  | .map es => flatE es
  | .siter .. => true
theorem flatB_mem : ∀ {l : List (Pa × VB)} {e : Pa × VB}, flatB l = true → e ∈ l → flatB1 e.2 = true
  | (a, b) :: l, _, h, .head _ => by
    cases b <;> simp only [flatB, Bool.and_eq_true] at h
    · exact h.1
    · exact h.1
    · rfl
  | (a, b) :: l, _, h, .tail _ he => by
    cases b <;> simp only [flatB, Bool.and_eq_true] at h
    · exact flatB_mem h.2 he
    · exact flatB_mem h.2 he
    · exact flatB_mem h he
def borV : List (Pa × List PV) → VV → VV
  | [], x => x
  | w :: r, x => borV r (frzV w.1 w.2 x)
def borL (W : List (Pa × List PV)) : List VV → List VV
  | [] => []
  | x :: r => borV W x :: borL W r
def filtN : List Pa → PT VV → PT VV
  | [], t => t
  | a :: r, t => filtN r (PT.filt (noref a) t)
def filtNB : List Pa → PT VB → PT VB
  | [], t => t
  | a :: r, t => filtNB r (PT.filt (norefB a) t)
def lent (S : VSt) : List (Pa × List PV) → Prop
  | [] => True
  | w :: r => (∃ l, PT.get w.1 S.B = some (.cells l) ∧ toPVs l = some w.2) ∧ lent S r
def nmsW : List (Pa × List PV) → List Pa
  | [] => []
  | w :: r => w.1 :: nmsW r
def hasNo (B : PT VB) : List Pa → Bool
  | [] => true
  | a :: r => (PT.get a B).isNone && hasNo B r

section
variable {X : Ctx} {S S1 : VSt} {s : Slots} {h : AHeap} {ids : Pa → Option Nat} {F : Nat → Prop} {C : Cfg} {v v' : Value} {x y z : VV} {rd rd' : Addr → List Value → Prop}
theorem flat_sound (r : Vr rd ids v x) : flatV x = true → Vr rd' ids v x := by
  induction r with
  | p r =>
    intro hf
    cases r with
    | «at» ha => exact .p (.at ha)
    | _ => simp [flatV] at hf
  | xs e => exact fun _ => .xs e
  | osN e h0 => exact fun _ => .osN e h0
  | os n e t => exact fun _ => .os n e t
  | ob off e t hc => exact fun _ => .ob off e t hc
  | op off e t => exact fun _ => .op off e t
  | om e => exact fun _ => .om e
  | oi e => exact fun _ => .oi e
  | clos f h1 _ h2 _ i1 i2 =>
    intro hf
    simp only [flatV, Bool.and_eq_true] at hf
    exact .clos f h1 (fun i x y hx hy => i1 i x y hx hy (flatL_mem hf.1 (List.mem_of_getElem? hy))) h2 (fun i x y hx hy => i2 i x y hx hy (flatL_mem hf.2 (List.mem_of_getElem? hy)))
  | agg h1 _ i1 => intro hf; simp only [flatV] at hf; exact .agg h1 (fun i x y hx hy => i1 i x y hx hy (flatL_mem hf (List.mem_of_getElem? hy)))
  | tup h1 _ i1 => intro hf; simp only [flatV] at hf; exact .tup h1 (fun i x y hx hy => i1 i x y hx hy (flatL_mem hf (List.mem_of_getElem? hy)))
  | yl l => exact fun _ => .yl l
  | skip => exact fun _ => .skip
  | dead v => exact fun _ => .dead v
theorem flatBlk {o : Option Nat} {b : VB} (r : BlkR rd ids h o b) (hf : flatB1 b = true) : BlkR rd' ids h o b := by
  cases o with
  | none => cases b <;> exact r
  | some k =>
    cases b with
    | cells l =>
      obtain ⟨c, h1, h2⟩ := r
      exact ⟨c, h1, h2.mono fun x y hy r => flat_sound r (flatL_mem hf hy)⟩
    | map es =>
      obtain ⟨c, h1, h2⟩ := r
      exact ⟨c, h1, h2.mono fun x y hy r => ⟨r.1, flat_sound r.2 (flatE_mem hf hy)⟩⟩
    | siter _ _ => exact r
theorem bor_sound (t : St X S s h ids F) : ∀ (W : List (Pa × List PV)) {v : Value} {x : VV} {F1 : Nat → Prop}, lent S W → (∀ k, F k → F1 k) → (∀ a ∈ nmsW W, ∀ k, ids a = some k → F1 k) → Vr (RdF h F1) ids v x → Vr (RdF h F1) ids v (borV W x)
  | [], _, _, _, _, _, _, r => r
  | w :: W, v, x, F1, hl, h1, h2, r => by
    obtain ⟨⟨l, hb, hc⟩, hl⟩ := hl
    refine bor_sound t W hl h1 (fun a ha => h2 a (.tail _ ha)) ?_
    exact frz_sound (fun _ _ r => r) (opn_of t hb hc h1 (h2 w.1 (.head _))) r
theorem borL_eq (W : List (Pa × List PV)) : ∀ l, borL W l = l.map (borV W)
  | [] => rfl
  | x :: r => by simp only [borL, List.map_cons, borL_eq W r]
theorem filtN_get : ∀ {N : List Pa} {t : PT VV} {q : Pa} {x : VV}, PT.get q (filtN N t) = some x → PT.get q t = some x ∧ ∀ a ∈ N, a ∉ nm x
  | [], _, _, _, h => ⟨h, by simp⟩
  | a :: r, t, q, x, h => by
    obtain ⟨h1, h2⟩ := filtN_get (N := r) h
    obtain ⟨h3, h4⟩ := PT.get_filt h1
    exact ⟨h3, fun b hb => by
      rcases List.mem_cons.1 hb with rfl | hb
      · exact nos_spec h4
      · exact h2 b hb⟩
theorem filtNB_get : ∀ {N : List Pa} {t : PT VB} {q : Pa} {x : VB}, PT.get q (filtNB N t) = some x → PT.get q t = some x ∧ ∀ a ∈ N, a ∉ nmB x
  | [], _, _, _, h => ⟨h, by simp⟩
  | a :: r, t, q, x, h => by
    obtain ⟨h1, h2⟩ := filtNB_get (N := r) h
    obtain ⟨h3, h4⟩ := PT.get_filt h1
    exact ⟨h3, fun b hb => by
      rcases List.mem_cons.1 hb with rfl | hb
      · exact nos_spec h4
      · exact h2 b hb⟩
theorem hasNo_spec {B : PT VB} : ∀ {l : List Pa}, hasNo B l = true → ∀ a ∈ l, PT.get a B = none
  | [], _, a, h => by simp at h
  | b :: r, hs, a, h => by
    simp only [hasNo, Bool.and_eq_true, Option.isNone_iff_eq_none] at hs
    rcases List.mem_cons.1 h with rfl | h
    · exact hs.1
    · exact hasNo_spec hs.2 a h
/-- A call by its contract. W: blocks that are lent (and their cells), Bf: blocks that are handed over, Br: those that stay behind. -/
theorem call_core {g : Opd} {args : List Opd} {f : Nat} {first cap : List VV} (W : List (Pa × List PV)) (Bf : List (Pa × VB)) (Br : PT VB) {N : List Pa} {B' : List (Pa × VB)}
    (hg : evV S g = .clos f first cap) (hc : VCall C f (borL W (first ++ args.map (evV S) ++ cap)) Bf N y B') (hW : lent S W) (hBf : PT.Le (mkB Bf .lf) S.B) (hBr : PT.Le Br S.B)
    (hdis : hasNo Br (nmsL Bf) = true) (hdisN : hasNo Br (N ++ nmsL B') = true) (hWf : (nmsW W).all (fun a => nos a (nmsL Bf)) = true) (hNK : N.all (fun a => nos a S.K) = true) (hsub : subs (nmsL B') (nmsL Bf ++ N) = true) (hKf : (nmsL Bf).all (fun a => nos a N) = true)
    (hflat : (W.isEmpty || (flatV y && flatB B')) = true) (t : St X S s h ids F) (hglob : GlobOK C h.base) : ∃ first' cap' : Array Value, evA s g = .func (.func f) first' cap' ∧
      WpF C f (first'.toList ++ args.map (evA s) ++ cap'.toList) (fun v h' => ∃ ids' F2, St X ⟨filtN N S.L, mkB B' (filtNB N Br), S.K, S.H⟩ s h' ids' F2 ∧ Vr (RdF h' F2) ids' v y ∧ (∀ a, a ∉ N → ids' a = ids a) ∧
        (∀ k, k < h.next → (∀ a b, PT.get a (mkB Bf .lf) = some b → ids a ≠ some k) → h'.get k = h.get k) ∧ h'.base = h.base ∧ ∀ k, F k → F2 k) h := by
  have rg := evV_sound t g
  rw [hg] at rg
  obtain ⟨vf, vc, hvf, rf, rc⟩ : ∃ vf vc : List Value, evA s g = .func (.func f) vf.toArray vc.toArray ∧ All2 (Vr (RdF h F) ids) vf first ∧ All2 (Vr (RdF h F) ids) vc cap := by
    generalize evA s g = w at rg
    cases rg with
    | clos f h1 h2 h3 h4 => exact ⟨_, _, rfl, ⟨h1, h2⟩, ⟨h3, h4⟩⟩
  have rall := (rf.append (evV_list t args)).append rc
  let F1 : Nat → Prop := fun k => F k ∨ ∃ a ∈ nmsW W, ids a = some k
  have hF1 : ∀ k, F k → F1 k := fun k h => .inl h
  have hlent : ∀ {W : List (Pa × List PV)}, lent S W → ∀ a ∈ nmsW W, ∃ b, PT.get a S.B = some b := by
    intro W
    induction W with
    | nil => intro _ a ha; simp [nmsW] at ha
    | cons w W ih =>
      intro hl a ha
      simp only [nmsW, List.mem_cons] at ha
      rcases ha with rfl | ha
      · obtain ⟨⟨l, hb, _⟩, _⟩ := hl; exact ⟨_, hb⟩
      · exact ih hl.2 a ha
  have rargs : All2 (Vr (RdF h F1) ids) (vf ++ args.map (evA s) ++ vc) (borL W (first ++ args.map (evV S) ++ cap)) := by
    rw [borL_eq]
    refine ⟨by rw [List.length_map]; exact rall.1, fun i a b ha hb => ?_⟩
    rw [List.getElem?_map] at hb
    cases hi : (first ++ args.map (evV S) ++ cap)[i]? with
    | none => rw [hi] at hb; cases hb
    | some z =>
      rw [hi] at hb; cases hb
      refine bor_sound t W hW hF1 (fun a ha k hk => .inr ⟨a, ha, hk⟩) ?_
      exact (rall.2 i a z ha hi).mono (fun a row r => RdF.mono rfl (fun k hk => ⟨hF1 k hk, rfl⟩) r) fun _ _ => rfl
  -- the blocks handed over
  have hBfS : ∀ {a b}, PT.get a (mkB Bf .lf) = some b → PT.get a S.B = some b := fun hb => hBf.get hb
  have hBfn : ∀ {a b}, PT.get a (mkB Bf .lf) = some b → a ∈ nmsL Bf := by
    intro a b hb
    rcases mkB_get hb with ⟨e, he, rfl, _⟩ | ⟨h0, _⟩
    · exact mem_nms he
    · simp at h0
  rw [List.all_eq_true] at hWf hNK hKf
  have hTF : ∀ {a b k}, PT.get a (mkB Bf .lf) = some b → ids a = some k → ¬F1 k := by
    intro a b k hb hk hF
    rcases hF with hF | ⟨a', ha', hk'⟩
    · exact (t.own a b k (hBfS hb) hk).1 hF
    · obtain ⟨b', hb'⟩ := hlent hW a' ha'
      have := t.inj a a' b b' k (hBfS hb) hb' hk hk'
      subst this
      exact nos_spec (hWf a ha') (hBfn hb)
  have t0 : St (cx h ids F1 Bf) ⟨.lf, mkB Bf .lf, nmsL Bf, none⟩ .lf h ids F1 := by
    refine ⟨t.wf, rfl, fun _ hk => hk, fun _ _ _ => rfl, fun _ _ => Iff.rfl, fun k hk => ?_, fun a b hb => ?_, fun a b k hb hk => ⟨hTF hb hk, .inr ⟨⟨a, b, hb, hk⟩, hBfn hb⟩⟩, fun a a' b b' k g1 g2 => t.inj a a' b b' k (hBfS g1) (hBfS g2), fun p x hx => by simp at hx, fun a _ => rfl, ⟨rfl, rfl⟩, Nat.le_refl _⟩
    · rcases hk with hk | ⟨a, ha, hk⟩
      · exact t.flt k hk
      · obtain ⟨b, hb⟩ := hlent hW a ha; exact t.lt hb hk
    · exact (t.blk a b (hBfS hb)).mono (fun a row r => RdF.mono rfl (fun k hk => ⟨hF1 k hk, rfl⟩) r) (fun _ _ => rfl) (fun _ _ => rfl)
  refine ⟨_, _, hvf, ?_⟩
  simp only [List.toList_toArray]
  refine (hc h ids F1 _ hglob t0 rargs).mono fun v h' ⟨ids', F', t', rv, hids⟩ => ?_
  -- what stays
  have hkeep : ∀ k, k < h.next → (∀ a b, PT.get a (mkB Bf .lf) = some b → ids a ≠ some k) → h'.get k = h.get k := fun k hk hn => t'.keep k hk (fun ⟨a, b, h1, h2⟩ => hn a b h1 h2)
  let F2 : Nat → Prop := fun k => (k < h.next ∧ F k) ∨ (h.next ≤ k ∧ F' k)
  have hF2 : ∀ k, k < h.next → (F2 k ↔ F k) := fun k hk => ⟨fun h => h.elim (·.2) (fun h => by omega), fun h => .inl ⟨hk, h⟩⟩
  have hF2' : ∀ k, F2 k → F' k := fun k hk => by
    rcases hk with ⟨h1, h2⟩ | ⟨_, h2⟩
    · exact (t'.frz k h1).2 (.inl h2)
    · exact h2
  have hFkeep : ∀ k, F k → h'.get k = h.get k := fun k hk => hkeep k (t.flt k hk) fun a b hb e => hTF hb e (.inl hk)
  have hrd : ∀ a row, RdF h F a row → RdF h' F2 a row := fun a row r => RdF.mono t'.base (fun k hk => ⟨.inl ⟨t.flt k hk, hk⟩, hFkeep k hk⟩) r
  have hlend : ∀ {x : VV} {v : Value}, (W.isEmpty = true ∨ flatV x = true) → Vr (RdF h' F') ids' v x → Vr (RdF h' F2) ids' v x := by
    intro x v hw r
    rcases hw with hw | hw
    · refine r.mono (fun a row r => RdF.mono rfl (fun k hk => ⟨?_, rfl⟩) r) fun _ _ => rfl
      have : W = [] := by simpa using hw
      subst this
      by_cases hlt : k < h.next
      · have := (t'.frz k hlt).1 hk
        rcases this with h1 | ⟨a, ha, _⟩
        · exact .inl ⟨hlt, h1⟩
        · simp [nmsW] at ha
      · exact .inr ⟨by omega, hk⟩
    · exact flat_sound r hw
  have hBn : ∀ {a b}, PT.get a (mkB B' (filtNB N Br)) = some b → (PT.get a (mkB B' .lf) = some b ∧ (W.isEmpty = true ∨ flatB1 b = true) ∧ a ∈ nmsL B') ∨ (PT.get a S.B = some b ∧ (∀ c ∈ nmB b, ids' c = ids c) ∧ ids' a = ids a ∧ (∀ k, ids a = some k → h'.get k = h.get k ∧ k < h.next ∧ ∀ a0 b0, PT.get a0 (mkB Bf .lf) = some b0 → ids a0 ≠ some k)) := by
    intro a b hb
    by_cases hin : a ∈ nmsL B'
    · left
      have hgen : ∀ {l : List (Pa × VB)} {t1 t2 : PT VB}, a ∈ nmsL l → PT.get a (mkB l t1) = PT.get a (mkB l t2) := by
        intro l
        induction l with
        | nil => intro t1 t2 h; simp [nmsL] at h
        | cons e l ih =>
          intro t1 t2 hm
          by_cases hl : a ∈ nmsL l
          · exact ih hl
          · have he : a = e.1 := by simp only [nmsL, List.mem_cons] at hm; exact hm.resolve_right hl
            have hout : ∀ {l : List (Pa × VB)} {t : PT VB}, a ∉ nmsL l → PT.get a (mkB l t) = PT.get a t := by
              intro l
              induction l with
              | nil => intro t _; rfl
              | cons e l ih =>
                intro t hn
                simp only [nmsL, List.mem_cons, not_or] at hn
                show PT.get a (mkB l (PT.set e.1 t (some e.2))) = _
                rw [ih hn.2, PT.get_set, if_neg hn.1]
            show PT.get a (mkB l (PT.set e.1 t1 (some e.2))) = PT.get a (mkB l (PT.set e.1 t2 (some e.2)))
            rw [hout hl, hout hl, PT.get_set, PT.get_set, if_pos he, if_pos he]
      rw [hgen hin (t2 := .lf)] at hb
      refine ⟨hb, ?_, hin⟩
      rcases mkB_get hb with ⟨e, he, rfl, rfl⟩ | ⟨h0, _⟩
      · cases hw : W.isEmpty with
        | true => exact .inl rfl
        | false =>
          rw [hw] at hflat
          simp only [Bool.false_or, Bool.and_eq_true] at hflat
          exact .inr (flatB_mem hflat.2 he)
      · simp at h0
    · right
      rcases mkB_get hb with ⟨e, he, rfl, _⟩ | ⟨h0, _⟩
      · exact absurd (mem_nms he) hin
      · obtain ⟨h1, h2⟩ := filtNB_get h0
        have hS := hBr.get h1
        have hnN : a ∉ N := fun hn => by
          have := hasNo_spec hdisN a (List.mem_append_left _ hn)
          rw [h1] at this; cases this
        refine ⟨hS, fun c hc => hids c fun hn => h2 c hn hc, hids a hnN, fun k hk => ?_⟩
        have hno : ∀ a0 b0, PT.get a0 (mkB Bf .lf) = some b0 → ids a0 ≠ some k := by
          intro a0 b0 hb0 e
          have := t.inj a0 a b0 b k (hBfS hb0) hS e hk
          subst this
          have := hasNo_spec hdis a0 (hBfn hb0)
          rw [h1] at this; cases this
        exact ⟨hkeep k (t.lt hS hk) hno, t.lt hS hk, hno⟩
  have hnx : h.next ≤ h'.next := by
    rcases Nat.lt_or_ge h'.next h.next with hc | hc
    · exact absurd (t'.next _ hc) (Nat.lt_irrefl _)
    · exact hc
  have hT : ∀ k, X.old k → ¬X.T k → h'.get k = h.get k := by
    intro k hk hn
    refine hkeep k (t.next k hk) fun a b hb e => ?_
    rcases (t.own a b k (hBfS hb) e).2 with h1 | h1
    · exact h1 hk
    · exact hn h1.1
  have t2 : St X ⟨filtN N S.L, mkB B' (filtNB N Br), S.K, S.H⟩ s h' ids' F2 := by
    refine ⟨t'.wf, t'.base.trans t.base, fun k hk => Nat.lt_of_lt_of_le (t.next k hk) hnx, fun k hk hn => (hT k hk hn).trans (t.keep k hk hn), fun k hk => ?_, fun k hk => t'.flt k (hF2' k hk), fun a b hb => ?_, fun a b k hb hk => ?_, fun a1 a2 b1 b2 k g1 g2 e1 e2 => ?_, fun p x hx => ?_, fun a ha => ?_, t.hist, Nat.le_trans t.nx t'.nx⟩
    · rw [hF2 k (t.next k hk)]; exact t.frz k hk
    · rcases hBn hb with ⟨g1, g2, _⟩ | ⟨g1, g2, g3, g4⟩
      · have rb := t'.blk a b g1
        rcases g2 with g2 | g2
        · refine rb.mono (fun p row r => RdF.mono rfl (fun k hk => ⟨?_, rfl⟩) r) (fun _ _ => rfl) (fun _ _ => rfl)
          have : W = [] := by simpa using g2
          subst this
          by_cases hlt : k < h.next
          · have := (t'.frz k hlt).1 hk
            rcases this with h1 | ⟨a, ha, _⟩
            · exact .inl ⟨hlt, h1⟩
            · simp [nmsW] at ha
          · exact .inr ⟨by omega, hk⟩
        · exact flatBlk rb g2
      · rw [g3]
        exact (t.blk a b g1).mono hrd g2 (fun k hk => (g4 k hk).1)
    · rcases hBn hb with ⟨g1, _, _⟩ | ⟨g1, _, g3, g4⟩
      · obtain ⟨o1, o2⟩ := t'.own a b k g1 hk
        refine ⟨fun hF => o1 (hF2' k hF), ?_⟩
        rcases o2 with o2 | ⟨⟨a0, b0, c1, c2⟩, hka⟩
        · have o2 : ¬k < h.next := o2
          exact .inl fun ho => o2 (t.next k ho)
        · have hids0 : ids a = some k := by
            rw [← hids a (fun hn => by
              have := hKf a hka
              exact nos_spec this hn)]; exact hk
          have hfrom := (t.own a0 b0 k (hBfS c1) c2).2
          rcases hfrom with h1 | ⟨h1, h2⟩
          · exact .inl h1
          · have : a = a0 := by
              obtain ⟨b1, hb1⟩ : ∃ b1, PT.get a (mkB Bf .lf) = some b1 := by
                have hex : ∀ {l : List (Pa × VB)} {t : PT VB}, a ∈ nmsL l → ∃ b1, PT.get a (mkB l t) = some b1 := by
                  intro l
                  induction l with
                  | nil => intro t h; simp [nmsL] at h
                  | cons e l ih =>
                    intro t hm
                    by_cases hl : a ∈ nmsL l
                    · exact ih hl
                    · have he : a = e.1 := by simp only [nmsL, List.mem_cons] at hm; exact hm.resolve_right hl
                      have hout : ∀ {l : List (Pa × VB)} {t : PT VB}, a ∉ nmsL l → PT.get a (mkB l t) = PT.get a t := by
                        intro l
                        induction l with
                        | nil => intro t _; rfl
                        | cons e l ih =>
                          intro t hn
                          simp only [nmsL, List.mem_cons, not_or] at hn
                          show PT.get a (mkB l (PT.set e.1 t (some e.2))) = _
                          rw [ih hn.2, PT.get_set, if_neg hn.1]
                      exact ⟨e.2, by show PT.get a (mkB l (PT.set e.1 t (some e.2))) = _; rw [hout hl, PT.get_set, if_pos he]⟩
                exact hex hka
              exact t.inj a a0 b1 b0 k (hBfS hb1) (hBfS c1) hids0 c2
            rw [this]; exact .inr ⟨h1, h2⟩
      · rw [g3] at hk
        obtain ⟨o1, o2⟩ := t.own a b k g1 hk
        exact ⟨fun hF => o1 ((hF2 k (g4 k hk).2.1).1 hF), o2⟩
    · have cross : ∀ {a1 a2 b1 b2}, PT.get a1 (mkB B' .lf) = some b1 → ids' a1 = some k → ids a2 = some k → PT.get a2 S.B = some b2 → (∀ k, ids a2 = some k → h'.get k = h.get k ∧ k < h.next ∧ ∀ a0 b0, PT.get a0 (mkB Bf .lf) = some b0 → ids a0 ≠ some k) → False := by
        intro a1 a2 b1 b2 c1 c2 c3 c4 c5
        obtain ⟨_, c6, c7⟩ := c5 k c3
        rcases (t'.own a1 b1 k c1 c2).2 with o2 | ⟨⟨a0, b0, d1, d2⟩, _⟩
        · have o2 : ¬k < h.next := o2
          omega
        · exact c7 a0 b0 d1 d2
      rcases hBn g1 with ⟨p1, _, _⟩ | ⟨p1, _, p3, p4⟩
      · rcases hBn g2 with ⟨q1, _, _⟩ | ⟨q1, _, q3, q4⟩
        · exact t'.inj a1 a2 b1 b2 k p1 q1 e1 e2
        · rw [q3] at e2; exact (cross p1 e1 e2 q1 q4).elim
      · rw [p3] at e1
        rcases hBn g2 with ⟨q1, _, _⟩ | ⟨q1, _, q3, q4⟩
        · exact (cross q1 e2 e1 p1 p4).elim
        · rw [q3] at e2; exact t.inj a1 a2 b1 b2 k p1 q1 e1 e2
    · obtain ⟨h1, h2⟩ := filtN_get hx
      exact (t.slots p x h1).mono hrd fun c hc => hids c fun hn => h2 c hn hc
    · rw [hids a (fun hn => nos_spec (hNK a hn) ha)]; exact t.stab a ha
  have ry : Vr (RdF h' F2) ids' v y := hlend (by
    cases hw : W.isEmpty with
    | true => exact .inl rfl
    | false =>
      rw [hw] at hflat
      simp only [Bool.false_or, Bool.and_eq_true] at hflat
      exact .inr hflat.1) rv
  exact ⟨ids', F2, t2, ry, hids, hkeep, t'.base, fun k hk => .inl ⟨t.flt k hk, hk⟩⟩
/-- A call by its contract. -/
theorem VO.call {Q : VSt → Prop} {d : Option Pa} {gd : Option (Pa × Bool)} {g : Opd} {args : List Opd} {r : List AOper} {f : Nat} {first cap : List VV} (W : List (Pa × List PV)) (Bf : List (Pa × VB)) (Br : PT VB) {N : List Pa} {B' : List (Pa × VB)}
    (hw : wantV S gd = some true) (hg : evV S g = .clos f first cap) (ho : ∀ l b, C.orc f l b = none) (hc : VCall C f (borL W (first ++ args.map (evV S) ++ cap)) Bf N y B') (hW : lent S W) (hBf : PT.Le (mkB Bf .lf) S.B) (hBr : PT.Le Br S.B)
    (hdis : hasNo Br (nmsL Bf) = true) (hdisN : hasNo Br (N ++ nmsL B') = true) (hWf : (nmsW W).all (fun a => nos a (nmsL Bf)) = true) (hNK : N.all (fun a => nos a S.K) = true) (hsub : subs (nmsL B') (nmsL Bf ++ N) = true) (hKf : (nmsL Bf).all (fun a => nos a N) = true)
    (hflat : (W.isEmpty || (flatV y && flatB B')) = true) (hq : VO C r (VSt.put ⟨filtN N S.L, mkB B' (filtNB N Br), S.K, S.H⟩ d y) Q) : VO C (⟨d, gd, .call g args⟩ :: r) S Q := by
  intro E s h ids F t
  obtain ⟨X, hE, t⟩ := t
  obtain ⟨vf, vc, hvf, hw2⟩ := call_core (args := args) W Bf Br hg hc hW hBf hBr hdis hdisN hWf hNK hsub hKf hflat t (by rw [t.base]; exact E.glob hE)
  refine WpO.callG (want_sound t hw) hvf (ho _ _) ?_
  exact hw2.mono fun v h' ⟨ids', F2, t2, ry, _⟩ => hq E _ _ _ _ ⟨X, hE, t2.put ry d⟩
theorem eqInts_refl : ∀ r : List (IntKind × Int), eqInts (rowI r) r = true
  | [] => rfl
  | q :: r => by
    show (decide (q.1 = q.1) && decide (q.2 = q.2) && eqInts (rowI r) r) = true
    rw [eqInts_refl r]; simp
theorem globB_ok {C : Cfg} {base : Nat → Option (List Value)} (h : GlobOK C base) : globB C.glob base = true := by
  unfold globB
  rw [List.all_eq_true]
  intro e he
  rw [h e he]; exact eqInts_refl _
theorem orc_known {C : Cfg} {base : Nat → Option (List Value)} {f : Nat} {w : Value} (ho : C.awk = some (f, w)) (h : GlobOK C base) : C.orc f [] base = some w := by
  unfold Cfg.orc
  rw [ho]
  show (bif Nat.beq f f && true && globB C.glob base then some w else none) = some w
  rw [globB_ok h, Nat.beq_refl]; rfl
/-- A call of a closed function whose answer is known. -/
theorem VO.known {Q : VSt → Prop} {d : Option Pa} {gd : Option (Pa × Bool)} {g : Opd} {r : List AOper} {f : Nat} {w : Value} (hwt : wantV S gd = some true) (hg : evV S g = .clos f [] []) (ho : C.awk = some (f, w)) (hw : atomB w = true) (hq : VO C r (S.put d (.p (.at w))) Q) : VO C (⟨d, gd, .call g []⟩ :: r) S Q := by
  intro E s h ids F t
  obtain ⟨X, hE, t⟩ := t
  have rg := evV_sound t g
  rw [hg] at rg
  have hvf : evA s g = .func (.func f) #[] #[] := by
    generalize evA s g = w at rg
    cases rg with
    | @clos f xs ys _ _ h1 h2 h3 h4 =>
      have e1 : xs = [] := List.eq_nil_of_length_eq_zero h1
      have e2 : ys = [] := List.eq_nil_of_length_eq_zero h3
      subst e1 e2; rfl
  refine WpO.step ?_
  have he : aev (.call g []) false C noSelf s h = some (w, h) := by
    show callV false C noSelf (evA s g) ([].map (evA s)) h = _
    simp only [callV, hvf, callF, List.map_nil, Array.toList_empty, List.append_nil, orc_known ho (show GlobOK C h.base from by rw [t.base]; exact E.glob hE)]
  rw [want_sound t hwt, he]
  exact hq E _ _ _ _ ⟨X, hE, t.put (.p (.at hw)) d⟩
/-- The operations ahead of the first call. -/
def isCall : AOp → Bool
  | .call _ _ => true
  | _ => false
def runU : List AOper → VSt → Option (List AOper × VSt)
  | [], S => some ([], S)
  | o :: r, S => match wantV S o.guard with
    | some true => bif isCall o.op then some (o :: r, S) else match vev o.op o.dst S with
      | some (x, S1) => runU r (S1.put o.dst x)
      | none => none
    | some false => runU r (S.put o.dst .skip)
    | none => none
theorem VO.upto {Q : VSt → Prop} : ∀ {ops rest : List AOper} {S S' : VSt}, runU ops S = some (rest, S') → VO C rest S' Q → VO C ops S Q
  | [], rest, S, S', he, hq => by cases he; exact hq
  | o :: r, rest, S, S', he, hq => by
    simp only [runU] at he
    split at he
    · rename_i hw
      cases hc : isCall o.op with
      | true => rw [hc] at he; cases he; exact hq
      | false =>
        rw [hc] at he
        simp only [cond_false] at he
        split at he
        · rename_i x S1 hv
          intro E s h ids F t
          obtain ⟨X, hE, t⟩ := t
          obtain ⟨v, h', ids', h1, h2, h3⟩ := vev_sound (C := C) hv X s h ids F t
          refine WpO.step ?_
          rw [want_sound t hw, h1]
          exact VO.upto he hq E _ _ _ _ ⟨X, hE, h2.put h3 o.dst⟩
        · cases he
    · rename_i hw
      intro E s h ids F t
      obtain ⟨X, hE, t⟩ := t
      refine WpO.step ?_
      rw [want_sound t hw]
      exact VO.upto he hq E _ _ _ _ ⟨X, hE, t.put .skip o.dst⟩
    · cases he
/-- A region without calls. -/
theorem VC.regU {Q : Ex → VSt → Prop} {ops : List AOper} {S' : VSt} (he : runU ops S = some ([], S')) (hq : Q .normal S') : VC C (.reg ops []) S Q := .reg (.upto he (.nil hq))
theorem VC.regC {Q : Ex → VSt → Prop} {ops rest : List AOper} {S' : VSt} (he : runU ops S = some (rest, S')) (hq : VO C rest S' (Q .normal)) : VC C (.reg ops []) S Q := .reg (.upto he hq)
theorem Fin.of {rs : List ARes} {K N : List Pa} {y : VV} {B' : List (Pa × VB)} {ys : List VV} (hys : resVV S rs = some ys) (hy : y = resX ys) (hB : PT.Le (mkB B' .lf) S.B) (hK : S.K = K) (hH : S.H = none) (hn : subs (nm y ++ nmsB B') (N ++ K) = true) : Fin S rs K N y B' :=
  ⟨⟨S, G.refl, ⟨ys, hys, hy⟩, hB, hK, hH⟩, hn⟩
theorem Fin.ghost {rs : List ARes} {K N : List Pa} {y : VV} {B' : List (Pa × VB)} {S' : VSt} (g : G S S') (f : Fin S' rs K N y B') : Fin S rs K N y B' :=
  let ⟨⟨S2, g2, h⟩, hn⟩ := f; ⟨⟨S2, g.trans g2, h⟩, hn⟩
/-- A call of a pure function. -/
theorem VO.call0 {Q : VSt → Prop} {d : Option Pa} {gd : Option (Pa × Bool)} {g : Opd} {args : List Opd} {r : List AOper} {f : Nat} {first cap : List VV}
    (hw : wantV S gd = some true) (hg : evV S g = .clos f first cap) (ho : ∀ l b, C.orc f l b = none) (hc : VCall C f (first ++ args.map (evV S) ++ cap) [] [] y []) (hq : VO C r (S.put d y) Q) : VO C (⟨d, gd, .call g args⟩ :: r) S Q := by
  refine VO.call [] [] S.B hw hg ho (y := y) (N := []) (B' := []) ?_ trivial trivial (PT.Le.refl _) rfl rfl rfl rfl rfl rfl rfl ?_
  · rw [borL_eq]
    have : (List.map (borV []) (first ++ args.map (evV S) ++ cap)) = first ++ args.map (evV S) ++ cap := by
      have h1 : borV [] = id := by funext x; rfl
      rw [h1, List.map_id]
    rw [this]; exact hc
  · obtain ⟨L, B, K, H⟩ := S
    exact hq
end
end Go.Ab.V

/- Ranges over functions. -/
namespace Go.Ab.V
section
variable {X : Ctx} {S S1 : VSt} {s : Slots} {h : AHeap} {ids : Pa → Option Nat} {F : Nat → Prop} {C : Cfg} {v v' : Value} {x y z : VV}
/-- The function hands an item on. -/
theorem VO.yield {Q : VSt → Prop} {d : Option Pa} {gd : Option (Pa × Bool)} {g : Opd} {args : List Opd} {r : List AOper} {k : Nat} {rest : List Itm} {st : Bool} {ys : List VV} {Bf : List (Pa × VB)}
    (hw : wantV S gd = some true) (hg : evV S g = .yl k) (hH : S.H = some ⟨k, (ys, Bf) :: rest, true, st⟩) (hy : args.map (evV S) = ys) (hB : PT.Le (mkB Bf .lf) S.B) (hn : subs (nmL ys ++ nmsB Bf) (nmsL Bf) = true)
    (hq : ∀ b, (st = true → b = true → rest ≠ []) → VO C r (VSt.put ⟨S.L, S.B, S.K, some ⟨k, rest, b, st⟩⟩ d (.p (.at (.bool b)))) Q) : VO C (⟨d, gd, .call g args⟩ :: r) S Q := by
  intro E s h ids F t
  obtain ⟨X, hE, t⟩ := t
  have rg := evV_sound t g
  rw [hg] at rg
  have hvf : evA s g = Value.func (.yield k) #[] #[] := by
    generalize evA s g = w at rg
    cases rg; rfl
  have ra := evV_list t args
  rw [hy] at ra
  obtain ⟨b, h', hst, hY, X', F', hE', t', _⟩ := E.law hE t (t.hist.1.trans hH) ra hB hn
  refine WpO.yieldG (want_sound t hw) hvf ⟨_, h', hY, ?_⟩
  exact hq b hst E _ _ _ _ ⟨X', hE', t'.put (.p (.at rfl)) d⟩
/-- An iterator: called with a round's number, it hands on the items till it is stopped. -/
def VIter (C : Cfg) (f : Nat) (first cap : List VV) (st : Bool) (items : List Itm) : Prop :=
  ∀ (E : Env C) k h ids F vals, StE E ⟨.lf, .lf, [], some ⟨k, items, true, st⟩⟩ .lf h ids F → All2 (Vr (RdF h F) ids) vals (first ++ [.yl k] ++ cap) →
    WpF C f vals (fun _ h' => ∃ rest live ids' F', StE E ⟨.lf, .lf, [], some ⟨k, rest, live, st⟩⟩ .lf h' ids' F' ∧ (live = false ∨ rest = [] ∧ st = false)) h
theorem VIter.mk {f : Nat} {fn : AFunc} {first cap : List VV} {st : Bool} {items : List Itm} (hf : C.fn f = some fn) (hl : first.length + 1 + cap.length = fn.params.length) (hres : fn.results = [])
    (hc : ∀ k, VC C fn.body ⟨inV fn.params (first ++ [.yl k] ++ cap) .lf, .lf, [], some ⟨k, items, true, st⟩⟩ (fun e S => match e with
      | .exit _ => False
      | _ => S.K = [] ∧ ∃ rest live, S.H = some ⟨k, rest, live, st⟩ ∧ (live = false ∨ rest = [] ∧ st = false))) : VIter C f first cap st items := by
  intro E k h ids F vals t r
  obtain ⟨X, hE, t⟩ := t
  refine WpF.mk hf (r.1.trans (by simp; omega)) ?_
  have t0 : St X ⟨inV fn.params (first ++ [.yl k] ++ cap) .lf, .lf, [], some ⟨k, items, true, st⟩⟩ (putL fn.params vals fn.init fun s => s) h ids F :=
    ⟨t.wf, t.base, t.next, t.keep, t.frz, t.flt, t.blk, t.own, t.inj, inV_sound fn.params r (fun p x hx => by simp at hx), t.stab, t.hist, t.nx⟩
  refine (hc k E _ _ _ _ ⟨X, hE, t0⟩).mono fun e s' h' ⟨S', i, f', q, Y, hY, t'⟩ => ?_
  have key : (S'.K = [] ∧ ∃ rest live, S'.H = some ⟨k, rest, live, st⟩ ∧ (live = false ∨ rest = [] ∧ st = false)) → ∃ rest live ids' F', StE E ⟨.lf, .lf, [], some ⟨k, rest, live, st⟩⟩ .lf h' ids' F' ∧ (live = false ∨ rest = [] ∧ st = false) := by
    rintro ⟨hK, rest, live, hH, hd⟩
    have t2 := t'.weak (S' := ⟨.lf, .lf, [], some ⟨k, rest, live, st⟩⟩) ⟨trivial, trivial, hK.symm, hH.symm⟩
    exact ⟨rest, live, i, f', ⟨Y, hY, t2.wf, t2.base, t2.next, t2.keep, t2.frz, t2.flt, t2.blk, t2.own, t2.inj, fun p x hx => by simp at hx, t2.stab, t2.hist, t2.nx⟩, hd⟩
  cases e with
  | exit id => exact q.elim
  | normal => simp only [hres, resOf]; exact key q
  | ret => simp only [hres, resOf]; exact key q
theorem _root_.Go.Ab.St.later (t : St X S s h ids F) {h' : AHeap} {F' : Nat → Prop} (hwf : WF h') (hb : h'.base = h.base) (hn : ∀ k, X.old k → k < h'.next) (hold : ∀ k, X.old k → ¬X.T k → h'.get k = h.get k)
    (hown : ∀ a b k, PT.get a S.B = some b → ids a = some k → h'.get k = h.get k ∧ ¬F' k) (hF : ∀ k, F k → F' k ∧ h'.get k = h.get k) (hfrz : ∀ k, X.old k → (F' k ↔ X.F k)) (hflt : ∀ k, F' k → k < h'.next) (hnx : h.next ≤ h'.next) : St X S s h' ids F' :=
  ⟨hwf, hb.trans t.base, hn, fun k hk hT => (hold k hk hT).trans (t.keep k hk hT), hfrz, hflt, fun a b hb' => (t.blk a b hb').mono (fun _ _ r => RdF.mono hb hF r) (fun _ _ => rfl) (fun k hk => (hown a b k hb' hk).1),
    fun a b k hb' hk => ⟨(hown a b k hb' hk).2, (t.own a b k hb' hk).2⟩, t.inj, fun p x hx => (t.slots p x hx).mono (fun _ _ r => RdF.mono hb hF r) (fun _ _ => rfl), t.stab, t.hist, Nat.le_trans t.nx hnx⟩
theorem _root_.Go.Ab.St.since (t : St X S s h ids F) {h' : AHeap} (hwf : WF h') (hb : h'.base = h.base) (hn : h'.next = h.next)
    (hown : ∀ a b k, PT.get a S.B = some b → ids a = some k → h'.get k = h.get k) (hF : ∀ k, F k → h'.get k = h.get k) : St ⟨h', X.old, X.T, F, X.id0, X.H, X.K⟩ S s h' ids F :=
  ⟨hwf, rfl, fun k hk => by rw [hn]; exact t.next k hk, fun _ _ _ => rfl, fun _ _ => Iff.rfl, fun k hk => by rw [hn]; exact t.flt k hk, fun a b hb' => (t.blk a b hb').mono (fun _ _ r => RdF.mono hb (fun k hk => ⟨hk, hF k hk⟩) r) (fun _ _ => rfl) (fun k hk => hown a b k hb' hk),
    fun a b k hb' hk => t.own a b k hb' hk, t.inj, fun p x hx => (t.slots p x hx).mono (fun _ _ r => RdF.mono hb (fun k hk => ⟨hk, hF k hk⟩) r) (fun _ _ => rfl), t.stab, t.hist, Nat.le_refl _⟩
/-- A frame that waits, after a round. -/
theorem _root_.Go.Ab.St.after (t : St X S s h ids F) {X' : Ctx} {S' : VSt} {s' : Slots} {h' : AHeap} {ids' : Pa → Option Nat} {F' : Nat → Prop} {T : Nat → Prop} (ts : St X' S' s' h' ids' F') (af : After X X' h h' F F' T)
    (hT : ∀ a b k, PT.get a S.B = some b → ids a = some k → ¬T k) {H : Option Hi} (hH : X'.H = H) (hK : X'.K = S.K) : St X' ⟨S.L, S.B, S.K, H⟩ s h' ids F' := by
  have ho : ∀ a b k, PT.get a S.B = some b → ids a = some k → (X.old k → X.T k) := fun a b k hb hk hx => (t.own a b k hb hk).2.elim (fun h => (h hx).elim) fun h => h.1
  refine ⟨ts.wf, ts.base, ts.next, ts.keep, ts.frz, ts.flt, fun a b hb => ?_, fun a b k hb hk => ?_, t.inj, fun p x hx => ?_, fun a ha => ?_, ⟨hH, hK⟩, ts.nx⟩
  · exact (t.blk a b hb).mono (fun _ _ r => RdF.mono af.base af.frz r) (fun _ _ => rfl) (fun k hk => af.keep k (t.lt hb hk) (ho a b k hb hk) (hT a b k hb hk))
  · obtain ⟨o1, o2⟩ := t.own a b k hb hk
    obtain ⟨a1, a2⟩ := af.own k (t.lt hb hk) (ho a b k hb hk) o1
    refine ⟨a1, o2.imp (fun h hx => h (a2 hx)) fun h => ⟨by rw [af.tt]; exact h.1, h.2⟩⟩
  · exact (t.slots p x hx).mono (fun _ _ r => RdF.mono af.base af.frz r) (fun _ _ => rfl)
  · rw [af.id0]; exact t.stab a ha
theorem mkB_out : ∀ {l : List (Pa × VB)} {t : PT VB} {a : Pa}, a ∉ nmsL l → PT.get a (mkB l t) = PT.get a t
  | [], _, _, _ => rfl
  | e :: l, t, a, hn => by
    simp only [nmsL, List.mem_cons, not_or] at hn
    show PT.get a (mkB l (PT.set e.1 t (some e.2))) = _
    rw [mkB_out hn.2, PT.get_set, if_neg hn.1]
theorem mkB_in : ∀ {l : List (Pa × VB)} {t1 t2 : PT VB} {a : Pa}, a ∈ nmsL l → PT.get a (mkB l t1) = PT.get a (mkB l t2)
  | [], _, _, _, h => by simp [nmsL] at h
  | e :: l, t1, t2, a, hm => by
    by_cases hl : a ∈ nmsL l
    · exact mkB_in (l := l) hl
    · have he : a = e.1 := by simp only [nmsL, List.mem_cons] at hm; exact hm.resolve_right hl
      show PT.get a (mkB l (PT.set e.1 t1 (some e.2))) = PT.get a (mkB l (PT.set e.1 t2 (some e.2)))
      rw [mkB_out hl, mkB_out hl, PT.get_set, PT.get_set, if_pos he, if_pos he]
theorem mkB_nms {l : List (Pa × VB)} {a : Pa} {b : VB} (h : PT.get a (mkB l .lf) = some b) : a ∈ nmsL l ∧ ∀ c ∈ nmB b, c ∈ nmsB l := by
  rcases mkB_get h with ⟨e, he, rfl, rfl⟩ | ⟨h0, _⟩
  · exact ⟨mem_nms he, (nmsB_mem he).2⟩
  · simp at h0
def asgV (C : Cfg) (body : ACode) (Q : Ex → VSt → Prop) : Ex → VSt → Prop
  | .normal, S => VC C body S Q
  | _, _ => False
/-- What a round comes to. -/
def roundQ {σ : Type} (T : σ → PT VB) (Hf : σ → Option Hi) (I : Nat → σ → Prop) (N : List Pa) (L : PT VV) (K : List Pa) (Bf : List (Pa × VB)) (st : Bool) (m i : Nat) (Q : Ex → VSt → Prop) : Ex → VSt → Prop
  | .normal, S' => (st = true → i + 1 < m) ∧ ∃ y, I (i + 1) y ∧ G S' ⟨.lf, mkB Bf (T y), N ++ nmsL Bf, Hf y⟩
  | e, S' => ∃ B2 H2, hasNo B2 (nmsL Bf) = true ∧ G S' ⟨.lf, mkB Bf B2, N ++ nmsL Bf, H2⟩ ∧ Q e ⟨L, B2, K, H2⟩
def stageQ {σ : Type} (T : σ → PT VB) (Hf : σ → Option Hi) (I : Nat → σ → Prop) (items : List Itm) (L : PT VV) (K : List Pa) (Q : Ex → VSt → Prop) (B : PT VB) (H : Option Hi) (rest : List Itm) : Ex → Prop
  | .normal => ∃ i x, i ≤ items.length ∧ rest = items.drop i ∧ I i x ∧ B = T x ∧ H = Hf x
  | e => Q e ⟨L, B, K, H⟩
structure Kept {σ : Type} (C : Cfg) (E : Env C) (X : Ctx) (L : PT VV) (K : List Pa) (s : Slots) (l : Nat) (st : Bool) (ps : List Pa) (asg body : ACode) (items : List Itm) (T : σ → PT VB) (Hf : σ → Option Hi) (I : Nat → σ → Prop) (Q : Ex → VSt → Prop) (Y : Ctx)
    (B : PT VB) (Hx : Option Hi) (ids : Pa → Option Nat) (e : Ex) (rest : List Itm) : Prop where
  hH : Y.H = some ⟨l, rest, goesOn e, st⟩
  hT : ∀ k, ¬Y.T k
  hE : E.ok X
  t : St X ⟨L, B, K, Hx⟩ s Y.h0 ids Y.F
  hl : Y.h0.get l = some (.loop (stOf e) (pendOf e) s ps asg body)
  ol : Y.old l
  fl : ¬Y.F l
  xl : ¬X.old l
  old : ∀ k, X.old k → Y.old k
  frz : ∀ k, Y.F k → Y.old k
  own : ∀ a b k, PT.get a B = some b → ids a = some k → Y.old k ∧ k ≠ l
  stage : stageQ T Hf I items L K Q B Hx rest e
/-- What is known of the ranger, while his round runs: since the round began at the heap h2. -/
structure Inr (X : Ctx) (Y : Ctx) (L : PT VV) (K : List Pa) (s : Slots) (idc idr : Pa → Option Nat) (h2 : AHeap) (F2 old2 RB Tk : Nat → Prop) (KZ : List Pa) (X' Z : Ctx) : Prop where
  z1 : St X' ⟨L, .lf, K, Z.H⟩ s Z.h0 idc Z.F
  zT : Z.T = Tk
  zid : Z.id0 = idr
  zK : Z.K = KZ
  zo : ∀ k, X'.old k → Z.old k
  zt : ∀ k, Tk k → Z.old k ∧ ¬Z.F k ∧ (X'.old k → X.old k) ∧ (X.old k → X.T k)
  zp : ∀ k, k < h2.next → ¬X.old k → ¬RB k → ¬Tk k → Z.h0.get k = h2.get k ∧ (¬F2 k → ¬Z.F k ∧ ¬X'.old k)
  zf : ∀ k, F2 k → Z.F k ∧ Z.h0.get k = h2.get k
  zx : ∀ k, X.old k → X'.old k
  zb : Z.h0.base = h2.base
  zn : h2.next ≤ Z.h0.next
  zFo : ∀ k, Z.F k → Z.old k
  z2 : ∀ k, old2 k → Z.old k
  zXT : X'.T = X.T
  zXi : X'.id0 = X.id0
  zXK : X'.K = X.K
theorem Inr.hF {X Y : Ctx} {L : PT VV} {K : List Pa} {s0 : Slots} {idc idr : Pa → Option Nat} {h2 : AHeap} {F2 old2 RB Tk : Nat → Prop} {KZ : List Pa} {X' Z : Ctx} (zi : Inr X Y L K s0 idc idr h2 F2 old2 RB Tk KZ X' Z) (t : St Z S s h ids F) :
    ∀ m, Z.F m → F m ∧ h.get m = Z.h0.get m := fun m hm => ⟨(t.frz m (zi.zFo m hm)).2 hm, t.keep m (zi.zFo m hm) fun hT => (zi.zt m (by rw [← zi.zT]; exact hT)).2.1 hm⟩
/-- The ranger's frame now. -/
theorem Inr.frame {X Y : Ctx} {L : PT VV} {K : List Pa} {s0 : Slots} {idc idr : Pa → Option Nat} {h2 : AHeap} {F2 old2 RB Tk : Nat → Prop} {KZ : List Pa} {X' Z : Ctx} (zi : Inr X Y L K s0 idc idr h2 F2 old2 RB Tk KZ X' Z) (t : St Z S s h ids F) :
    St X' ⟨L, .lf, K, Z.H⟩ s0 h idc F := by
  have hF := zi.hF t
  have hXT : ∀ m, Z.T m → X'.old m → X'.T m := fun m hm hx => by
    obtain ⟨_, _, h3, h4⟩ := zi.zt m (by rw [← zi.zT]; exact hm)
    rw [zi.zXT]; exact h4 (h3 hx)
  refine ⟨t.wf, t.base.trans zi.z1.base, fun m hm => t.next m (zi.zo m hm), fun m hm hT => ?_, fun m hm => (t.frz m (zi.zo m hm)).trans (zi.z1.frz m hm), t.flt, fun a b hb => by simp at hb, fun a b m hb => by simp at hb, fun a a' b b' m hb => by simp at hb, fun p x hx => ?_, zi.z1.stab, zi.z1.hist, Nat.le_trans zi.z1.nx t.nx⟩
  · exact (t.keep m (zi.zo m hm) fun h => hT (hXT m h hm)).trans (zi.z1.keep m hm hT)
  · exact (zi.z1.slots p x hx).mono (fun _ _ r => RdF.mono t.base hF r) (fun _ _ => rfl)
theorem _root_.Go.Ab.St.since2 (t : St X S s h ids F) {h' : AHeap} (hwf : WF h') (hb : h'.base = h.base) (hn : h'.next = h.next)
    (hown : ∀ a b k, PT.get a S.B = some b → ids a = some k → h'.get k = h.get k) (hF : ∀ k, F k → h'.get k = h.get k) : St ⟨h', fun k => X.old k ∨ F k, X.T, F, X.id0, X.H, X.K⟩ S s h' ids F :=
  ⟨hwf, rfl, fun k hk => by rw [hn]; exact hk.elim (t.next k) (t.flt k), fun _ _ _ => rfl, fun _ _ => Iff.rfl, fun k hk => by rw [hn]; exact t.flt k hk, fun a b hb' => (t.blk a b hb').mono (fun _ _ r => RdF.mono hb (fun k hk => ⟨hk, hF k hk⟩) r) (fun _ _ => rfl) (fun k hk => hown a b k hb' hk),
    fun a b k hb' hk => let ⟨o1, o2⟩ := t.own a b k hb' hk; ⟨o1, o2.imp (fun h hh => hh.elim h o1) id⟩, t.inj, fun p x hx => (t.slots p x hx).mono (fun _ _ r => RdF.mono hb (fun k hk => ⟨hk, hF k hk⟩) r) (fun _ _ => rfl), t.stab, t.hist, Nat.le_refl _⟩
theorem mkB_some : ∀ {l : List (Pa × VB)} {t : PT VB} {a : Pa}, a ∈ nmsL l → ∃ b, PT.get a (mkB l t) = some b
  | [], _, _, h => by simp [nmsL] at h
  | e :: l, t, a, hm => by
    by_cases hl : a ∈ nmsL l
    · exact mkB_some (l := l) hl
    · have he : a = e.1 := by simp only [nmsL, List.mem_cons] at hm; exact hm.resolve_right hl
      exact ⟨e.2, by show PT.get a (mkB l (PT.set e.1 t (some e.2))) = _; rw [mkB_out hl, PT.get_set, if_pos he]⟩
/-- Who ranges over the function in whose round the code runs, seen from that code. -/
theorem inr_law {E : Env C} {X Y : Ctx} {L : PT VV} {K : List Pa} {s0 : Slots} {idc idr : Pa → Option Nat} {h2 : AHeap} {F2 old2 RB Tk : Nat → Prop} {KZ : List Pa} {X' Z : Ctx} (hK : ∀ a ∈ K, a ∈ KZ) (hKi : ∀ a ∈ K, idr a = idc a)
    (hnm : ∀ a ∈ KZ, ∀ k, idr a = some k → Tk k → (X.old k → a ∈ K)) (ho2 : ∀ k, k < h2.next → ¬RB k → old2 k)
    (hE : E.ok X') (zi : Inr X Y L K s0 idc idr h2 F2 old2 RB Tk KZ X' Z) {k : Nat} {rest : List Itm} {st : Bool} {vals : List Value} {args : List VV} {Bf : List (Pa × VB)}
    (t : St Z S s h ids F) (hH : Z.H = some ⟨k, (args, Bf) :: rest, true, st⟩) (ra : All2 (Vr (RdF h F) ids) vals args) (hB : PT.Le (mkB Bf .lf) S.B) (hn : subs (nmL args ++ nmsB Bf) (nmsL Bf) = true) :
    ∃ b h', (st = true → b = true → rest ≠ []) ∧ YieldE C k vals h (.bool b) h' ∧ ∃ Z' F', (∃ X'', E.ok X'' ∧ Inr X Y L K s0 idc idr h2 F2 old2 RB Tk KZ X'' Z') ∧ St Z' ⟨S.L, S.B, S.K, some ⟨k, rest, b, st⟩⟩ s h' ids F' ∧
      After Z Z' h h' F F' (fun k => ∃ a ∈ nmsL Bf, ids a = some k) := by
  have hSK : S.K = KZ := t.hist.2.symm.trans zi.zK
  have hTT : ∀ m, Z.T m → Tk m := fun m hm => by rw [← zi.zT]; exact hm
  have hF : ∀ m, Z.F m → F m ∧ h.get m = Z.h0.get m := fun m hm => ⟨(t.frz m (zi.zFo m hm)).2 hm, t.keep m (zi.zFo m hm) fun hT => (zi.zt m (hTT m hT)).2.1 hm⟩
  have hXT : ∀ m, Tk m → X'.old m → X'.T m := fun m hm hx => by
    obtain ⟨_, _, h3, h4⟩ := zi.zt m hm
    rw [zi.zXT]; exact h4 (h3 hx)
  -- the ranger's frame now
  have tX : St X' ⟨L, .lf, K, Z.H⟩ s0 h idc F := by
    refine ⟨t.wf, t.base.trans zi.z1.base, fun m hm => t.next m (zi.zo m hm), fun m hm hT => ?_, fun m hm => (t.frz m (zi.zo m hm)).trans (zi.z1.frz m hm), t.flt, fun a b hb => by simp at hb, fun a b m hb => by simp at hb, fun a a' b b' m hb => by simp at hb, fun p x hx => ?_, zi.z1.stab, zi.z1.hist, Nat.le_trans zi.z1.nx t.nx⟩
    · exact (t.keep m (zi.zo m hm) fun h => hT (hXT m (hTT m h) hm)).trans (zi.z1.keep m hm hT)
    · exact (zi.z1.slots p x hx).mono (fun _ _ r => RdF.mono t.base hF r) (fun _ _ => rfl)
  -- what is lent
  have tl : St X' ⟨.lf, mkB Bf .lf, K, Z.H⟩ s h ids F := by
    refine ⟨t.wf, tX.base, tX.next, tX.keep, tX.frz, tX.flt, fun a b hb => t.blk a b (hB.get hb), fun a b m hb hm => ?_, fun a a' b b' m g1 g2 => t.inj a a' b b' m (hB.get g1) (hB.get g2), fun p x hx => by simp at hx, fun a ha => ?_, tX.hist, tX.nx⟩
    · obtain ⟨o1, o2⟩ := t.own a b m (hB.get hb) hm
      refine ⟨o1, ?_⟩
      rcases o2 with o2 | ⟨o2, o3⟩
      · exact .inl fun hx => o2 (zi.zo m hx)
      · by_cases hx : X'.old m
        · have hk := hTT m o2
          refine .inr ⟨hXT m hk hx, ?_⟩
          have hid : idr a = some m := by rw [← zi.zid, ← t.stab a o3]; exact hm
          exact hnm a (by rw [← hSK]; exact o3) m hid hk ((zi.zt m hk).2.2.1 hx)
        · exact .inl hx
    · have h1 : ids a = idr a := by rw [← zi.zid]; exact t.stab a (by rw [hSK]; exact hK a ha)
      have h2 : idc a = X'.id0 a := zi.z1.stab a ha
      rw [h1, hKi a ha, h2]
  obtain ⟨b, h', hst, hY, X'', F', hE', tl', af⟩ := E.law hE tl (zi.z1.hist.1.trans hH) ra (PT.Le.refl _) hn
  refine ⟨b, h', hst, hY, ?_⟩
  have tf := tX.after tl' af (fun a b k hb => by simp at hb) tl'.hist.1 tl'.hist.2
  have hZX : ∀ m, (Z.old m → Z.T m) → (X'.old m → X'.T m) := fun m h hx => hXT m (hTT m (h (zi.zo m hx))) hx
  have hnx : h.next ≤ h'.next := af.nx
  let Z' : Ctx := ⟨h', fun m => m < h'.next ∧ (Z.old m ∨ h.next ≤ m ∨ F m), Z.T, F', Z.id0, some ⟨k, rest, b, st⟩, Z.K⟩
  have hown : ∀ a bb m, PT.get a S.B = some bb → ids a = some m → (Z.old m → Z.T m) ∧ ¬F m ∧ m < h.next := fun a bb m hb hm => by
    obtain ⟨o1, o2⟩ := t.own a bb m hb hm
    exact ⟨fun ho => o2.elim (fun h => (h ho).elim) fun h => h.1, o1, t.lt hb hm⟩
  have hnT : ∀ a bb m, a ∉ nmsL Bf → PT.get a S.B = some bb → ids a = some m → ¬∃ a ∈ nmsL Bf, ids a = some m := fun a bb m ha hb hm ⟨a', ha', hm'⟩ => by
    obtain ⟨b', hb'⟩ := mkB_some (t := .lf) ha'
    have := t.inj a a' bb b' m hb (hB.get hb') hm hm'
    subst this; exact ha ha'
  have tZ : St Z' ⟨S.L, S.B, S.K, some ⟨k, rest, b, st⟩⟩ s h' ids F' := by
    refine ⟨tl'.wf, rfl, fun m hm => hm.1, fun _ _ _ => rfl, fun _ _ => Iff.rfl, tl'.flt, fun a bb hb => ?_, fun a bb m hb hm => ?_, t.inj, fun p x hx => (t.slots p x hx).mono (fun _ _ r => RdF.mono af.base af.frz r) (fun _ _ => rfl), t.stab, ⟨rfl, t.hist.2⟩, Nat.le_refl _⟩
    · by_cases ha : a ∈ nmsL Bf
      · obtain ⟨b', hb'⟩ := mkB_some (t := .lf) ha
        have := hB.get hb'
        rw [hb] at this; cases this
        exact tl'.blk a bb hb'
      · exact (t.blk a bb hb).mono (fun _ _ r => RdF.mono af.base af.frz r) (fun _ _ => rfl) (fun m hm => by
          obtain ⟨h1, _, h3⟩ := hown a bb m hb hm
          exact af.keep m h3 (hZX m h1) (hnT a bb m ha hb hm))
    · obtain ⟨h1, h2, h3⟩ := hown a bb m hb hm
      obtain ⟨g1, _⟩ := af.own m h3 (hZX m h1) h2
      refine ⟨g1, ?_⟩
      rcases (t.own a bb m hb hm).2 with o2 | o2
      · exact .inl fun hh => hh.2.elim o2 fun hh => hh.elim (fun hh => by omega) h2
      · exact .inr o2
  refine ⟨Z', F', ⟨X'', hE', ⟨tf, zi.zT, zi.zid, zi.zK, fun m hm => ⟨tf.next m hm, ?_⟩, fun m hm => ?_, fun m h1 h2' h3 h4 => ?_, fun m hm => ?_, fun m hm => af.old m (zi.zx m hm), af.base.trans (t.base.trans zi.zb), Nat.le_trans zi.zn (Nat.le_trans t.nx hnx), fun m hm => ?_, fun m hm => ?_, af.tt.trans zi.zXT, af.id0.trans zi.zXi, ?_⟩⟩, tZ, ?_⟩
  · by_cases hlt : m < h.next
    · by_cases hFm : F m
      · exact .inr (.inr hFm)
      · by_cases hx : X'.old m
        · exact .inl (zi.zo m hx)
        · exact absurd ((af.own m hlt (fun h => (hx h).elim) hFm).2 hm) hx
    · exact .inr (.inl (by omega))
  · obtain ⟨g1, g2, g3, g4⟩ := zi.zt m hm
    have hlt := t.next m g1
    have hFm : ¬F m := fun hh => g2 ((t.frz m g1).1 hh)
    obtain ⟨a1, a2⟩ := af.own m hlt (hXT m hm) hFm
    exact ⟨⟨by omega, .inl g1⟩, a1, fun hx => g3 (a2 hx), g4⟩
  · obtain ⟨g1, g2⟩ := zi.zp m h1 h2' h3 h4
    have hz := zi.z2 m (ho2 m h1 h3)
    have hzT : ¬Z.T m := fun hh => h4 (hTT m hh)
    have hlt := t.next m hz
    have e1 := t.keep m hz hzT
    by_cases hF2 : F2 m
    · have := hF m (zi.zf m hF2).1
      exact ⟨(af.frz m this.1).2.trans (e1.trans g1), fun hh => (hh hF2).elim⟩
    · obtain ⟨g3, g4⟩ := g2 hF2
      have hFm : ¬F m := fun hh => g3 ((t.frz m hz).1 hh)
      have e2 := af.keep m hlt (fun hx => (g4 hx).elim) (fun ⟨a, ha, hm⟩ => by
        obtain ⟨b', hb'⟩ := mkB_some (t := .lf) ha
        rcases (t.own a b' m (hB.get hb') hm).2 with o | o
        · exact o hz
        · exact hzT o.1)
      obtain ⟨a1, a2⟩ := af.own m hlt (fun hx => (g4 hx).elim) hFm
      exact ⟨e2.trans (e1.trans g1), fun _ => ⟨a1, fun hx => g4 (a2 hx)⟩⟩
  · obtain ⟨g1, g2⟩ := zi.zf m hm
    obtain ⟨g3, g4⟩ := hF m g1
    obtain ⟨g5, g6⟩ := af.frz m g3
    exact ⟨g5, g6.trans (g4.trans g2)⟩
  · have hm : F' m := hm
    refine ⟨tl'.flt m hm, ?_⟩
    by_cases hlt : m < h.next
    · by_cases hFm : F m
      · exact .inr (.inr hFm)
      · by_cases hx : X'.old m
        · exact .inl (zi.zo m hx)
        · exact absurd hm (af.own m hlt (fun h => (hx h).elim) hFm).1
    · exact .inr (.inl (by omega))
  · have hz := zi.z2 m hm
    exact ⟨Nat.lt_of_lt_of_le (t.next m hz) hnx, .inl hz⟩
  · exact (tl'.hist.2).trans (zi.z1.hist.2.symm.trans zi.zXK)
  · refine ⟨hnx, af.base, fun m hm => ⟨Nat.lt_of_lt_of_le (t.next m hm) hnx, .inl hm⟩, fun m hlt h1 h2 => af.keep m hlt (hZX m h1) h2, fun m hlt h1 h2 => ⟨(af.own m hlt (hZX m h1) h2).1, fun hh => hh.2.elim id fun hh => hh.elim (fun hh => by omega) fun hh => (h2 hh).elim⟩, af.frz, rfl, rfl⟩
theorem Kept.round {σ : Type} {E : Env C} {L : PT VV} {K : List Pa} {l : Nat} {st : Bool} {ps : List Pa} {asg body : ACode} {items : List Itm} {T : σ → PT VB} {Hf : σ → Option Hi} {I : Nat → σ → Prop} {Q : Ex → VSt → Prop} {Y : Ctx} {B : PT VB} {Hx : Option Hi} {idc ids2 : Pa → Option Nat} {N : List Pa}
    {args : List VV} {Bf : List (Pa × VB)} {rest : List Itm} {Sc : VSt} {sc : Slots} {h2 : AHeap} {F2 : Nat → Prop} {vals : List Value}
    (kp : Kept C E X L K s l st ps asg body items T Hf I Q Y B Hx idc .normal ((args, Bf) :: rest)) (hN : ∀ p x, PT.get p L = some x → ∀ a ∈ nm x, a ∈ N) (hKN : ∀ a ∈ K, a ∈ N) (hNs : ∀ i x, I i x → ∀ a ∈ N, ∃ b, PT.get a (T x) = some b)
    (hr : ∀ i x (hlt : i < items.length), I i x → VC C asg ⟨inV ps items[i].1 L, mkB items[i].2 (filtNB (nmsL items[i].2) (T x)), N ++ nmsL items[i].2, Hf x⟩ (asgV C body (roundQ T Hf I N L K items[i].2 st items.length i Q)))
    (hlen : ∀ x ∈ items, x.1.length = ps.length) (hdis : ∀ i x (hlt : i < items.length), I i x → hasNo (T x) (nmsL items[i].2) = true) (hdis' : ∀ i y (hlt : i < items.length), I (i + 1) y → hasNo (T y) (nmsL items[i].2) = true) (hNB : ∀ it ∈ items, ∀ a ∈ nmsL it.2, a ∉ N)
    (tc : St Y Sc sc h2 ids2 F2) (ra : All2 (Vr (RdF h2 F2) ids2) vals args) (hB : PT.Le (mkB Bf .lf) Sc.B) (hn : subs (nmL args ++ nmsB Bf) (nmsL Bf) = true) :
    ∃ e h5, YieldE C l vals h2 (.bool (goesOn e)) h5 ∧ (st = true → goesOn e = true → rest ≠ []) ∧
      ∃ Y' F5 X' B' Hx' idc', Kept C E X' L K s l st ps asg body items T Hf I Q Y' B' Hx' idc' e rest ∧ St Y' ⟨Sc.L, Sc.B, Sc.K, some ⟨l, rest, goesOn e, st⟩⟩ sc h5 ids2 F5 ∧ After Y Y' h2 h5 F2 F5 (fun k => ∃ a ∈ nmsL Bf, ids2 a = some k) := by
  obtain ⟨i, x, _, hrest, hI, hBx, hHx⟩ := kp.stage
  have hlt : i < items.length := by
    rcases Nat.lt_or_ge i items.length with h | h
    · exact h
    · rw [List.drop_eq_nil_of_le h] at hrest; cases hrest
  rw [List.drop_eq_getElem_cons hlt] at hrest
  obtain ⟨hargs, hrest⟩ : (args, Bf) = items[i] ∧ rest = items.drop (i + 1) := by injection hrest with h1 h2; exact ⟨h1, h2⟩
  have hr := hr i x hlt hI
  have hdis := hdis i x hlt hI
  have hdis' := fun y => hdis' i y hlt
  have hNB := hNB _ (List.getElem_mem hlt)
  have hle := hlen _ (List.getElem_mem hlt)
  have hNs := hNs i x hI
  rw [← hargs] at hr hdis hNB hle
  simp only [← hargs] at hdis'
  rw [← hBx] at hdis hNs
  rw [← hBx, ← hHx] at hr
  simp only at hr hdis hNB hle hdis'
  have hsub := subs_spec hn
  -- the keeper's state now
  have hY : ∀ k, Y.old k → h2.get k = Y.h0.get k := fun k hk => tc.keep k hk (kp.hT k)
  have hFY : ∀ k, Y.F k → F2 k ∧ h2.get k = Y.h0.get k := fun k hk => ⟨(tc.frz k (kp.frz k hk)).2 hk, hY k (kp.frz k hk)⟩
  have t2 : St X ⟨L, B, K, Hx⟩ s h2 idc F2 := kp.t.later tc.wf tc.base (fun k hk => tc.next k (kp.old k hk)) (fun k hk _ => hY k (kp.old k hk))
    (fun a b k hb hk => ⟨hY k (kp.own a b k hb hk).1, fun hF => (kp.t.own a b k hb hk).1 ((tc.frz k (kp.own a b k hb hk).1).1 hF)⟩) hFY (fun k hk => (tc.frz k (kp.old k hk)).trans (kp.t.frz k hk)) tc.flt tc.nx
  have fl2 : ¬F2 l := fun h => kp.fl ((tc.frz l kp.ol).1 h)
  let RB : Nat → Prop := fun k => ∃ a b, a ∉ N ∧ PT.get a B = some b ∧ idc a = some k
  let NBk : Nat → Prop := fun k => ∃ a b, a ∈ N ∧ PT.get a B = some b ∧ idc a = some k
  let TB : Nat → Prop := fun k => ∃ a ∈ nmsL Bf, ids2 a = some k
  let old2 : Nat → Prop := fun k => k < h2.next ∧ ¬RB k
  let Tk : Nat → Prop := fun k => NBk k ∨ TB k
  let idr : Pa → Option Nat := fun a => if a ∈ nmsL Bf then ids2 a else idc a
  have idrB : ∀ a ∈ nmsL Bf, idr a = ids2 a := fun a ha => if_pos ha
  have idrN : ∀ a, a ∉ nmsL Bf → idr a = idc a := fun a ha => if_neg ha
  let KZ := N ++ nmsL Bf
  let Xa : Ctx := ⟨h2, old2, Tk, F2, idr, Hx, KZ⟩
  -- blocks that are lent
  have lent0 : ∀ a ∈ nmsL Bf, ∃ b, PT.get a Sc.B = some b ∧ PT.get a (mkB Bf .lf) = some b := fun a ha => by
    obtain ⟨b, hb⟩ := mkB_some (t := .lf) ha
    exact ⟨b, hB.get hb, hb⟩
  have tb1 : ∀ k, TB k → ¬Y.old k ∧ ¬F2 k ∧ k < h2.next := fun k ⟨a, ha, hk⟩ => by
    obtain ⟨b, hb, _⟩ := lent0 a ha
    obtain ⟨o1, o2⟩ := tc.own a b k hb hk
    exact ⟨o2.elim id fun h => (kp.hT k h.1).elim, o1, tc.lt hb hk⟩
  have rb1 : ∀ a b k, PT.get a B = some b → idc a = some k → Y.old k ∧ k ≠ l ∧ ¬F2 k ∧ k < h2.next := fun a b k hb hk => by
    obtain ⟨o1, o2⟩ := kp.own a b k hb hk
    exact ⟨o1, o2, (t2.own a b k hb hk).1, tc.next k o1⟩
  have nRB : ∀ k, NBk k → ¬RB k := fun k ⟨a, b, ha, hb, hk⟩ ⟨a', b', ha', hb', hk'⟩ => by
    have := t2.inj a a' b b' k hb hb' hk hk'
    subst this; exact ha' ha
  have ta : St Xa ⟨inV ps args L, mkB Bf (filtNB (nmsL Bf) B), KZ, Hx⟩ (putL ps vals s fun s => s) h2 idr F2 := by
    have hg : ∀ {a b}, PT.get a (mkB Bf (filtNB (nmsL Bf) B)) = some b → (a ∈ nmsL Bf ∧ PT.get a (mkB Bf .lf) = some b ∧ PT.get a Sc.B = some b) ∨ (a ∉ nmsL Bf ∧ PT.get a B = some b ∧ ∀ c ∈ nmsL Bf, c ∉ nmB b) := by
      intro a b hb
      by_cases ha : a ∈ nmsL Bf
      · rw [mkB_in ha (t2 := .lf)] at hb
        exact .inl ⟨ha, hb, hB.get hb⟩
      · rw [mkB_out ha] at hb
        obtain ⟨h1, h2⟩ := filtNB_get hb
        exact .inr ⟨ha, h1, h2⟩
    refine ⟨tc.wf, rfl, fun k hk => hk.1, fun _ _ _ => rfl, fun _ _ => Iff.rfl, tc.flt, fun a b hb => ?_, fun a b k hb hk => ?_, fun a a' b b' k g1 g2 e1 e2 => ?_, inV_sound ps ?_ fun p y hy => ?_, fun _ _ => rfl, ⟨rfl, rfl⟩, Nat.le_refl _⟩
    · rcases hg hb with ⟨h1, h2, h3⟩ | ⟨h1, h2, h3⟩
      · rw [idrB a h1]
        exact (tc.blk a b h3).mono (fun _ _ r => r) (fun c hc => idrB c (hsub c (List.mem_append_right _ ((mkB_nms h2).2 c hc)))) (fun _ _ => rfl)
      · rw [idrN a h1]
        exact (t2.blk a b h2).mono (fun _ _ r => r) (fun c hc => idrN c fun hm => h3 c hm hc) (fun _ _ => rfl)
    · rcases hg hb with ⟨h1, h2, h3⟩ | ⟨h1, h2, h3⟩
      · rw [idrB a h1] at hk
        exact ⟨(tc.own a b k h3 hk).1, .inr ⟨.inr ⟨a, h1, hk⟩, List.mem_append_right _ h1⟩⟩
      · rw [idrN a h1] at hk
        refine ⟨(t2.own a b k h2 hk).1, ?_⟩
        by_cases haN : a ∈ N
        · exact .inr ⟨.inl ⟨a, b, haN, h2, hk⟩, List.mem_append_left _ haN⟩
        · exact .inl fun ho => ho.2 ⟨a, b, haN, h2, hk⟩
    · have cross : ∀ {a1 a2 b1 b2}, a1 ∈ nmsL Bf → PT.get a1 Sc.B = some b1 → ids2 a1 = some k → PT.get a2 B = some b2 → idc a2 = some k → False := fun h1 h2 h3 h4 h5 => (tb1 k ⟨_, h1, h3⟩).1 (rb1 _ _ k h4 h5).1
      rcases hg g1 with ⟨h1, h2, h3⟩ | ⟨h1, h2, h3⟩
      · rw [idrB a h1] at e1
        rcases hg g2 with ⟨p1, p2, p3⟩ | ⟨p1, p2, p3⟩
        · rw [idrB a' p1] at e2; exact tc.inj a a' b b' k h3 p3 e1 e2
        · rw [idrN a' p1] at e2; exact (cross h1 h3 e1 p2 e2).elim
      · rw [idrN a h1] at e1
        rcases hg g2 with ⟨p1, p2, p3⟩ | ⟨p1, p2, p3⟩
        · rw [idrB a' p1] at e2; exact (cross p1 p3 e2 h2 e1).elim
        · rw [idrN a' p1] at e2; exact t2.inj a a' b b' k h2 p2 e1 e2
    · exact ra.mono fun v y hy r => r.mono (fun _ _ r => r) fun a ha => idrB a (hsub a (List.mem_append_left _ (nm_mem ha hy)))
    · exact (t2.slots p y hy).mono (fun _ _ r => r) fun a ha => idrN a fun hm => hNB a hm (hN p y hy a ha)
  -- who ranges, seen from the round
  have zi0 : Inr X Y L K s idc idr h2 F2 old2 RB Tk KZ X Xa := by
    refine ⟨t2.weak ⟨PT.Le.refl _, trivial, rfl, rfl⟩, rfl, rfl, rfl, fun k hk => ⟨t2.next k hk, fun ⟨a, b, ha, hb, hk'⟩ => ?_⟩, fun k hk => ?_, fun k _ h1 _ _ => ⟨rfl, fun h => ⟨h, h1⟩⟩, fun k hk => ⟨hk, rfl⟩, fun _ h => h, rfl, Nat.le_refl _, fun k hk => ⟨tc.flt k hk, fun ⟨a, b, ha, hb, hk'⟩ => (rb1 a b k hb hk').2.2.1 hk⟩, fun _ h => h, rfl, rfl, rfl⟩
    · rcases (t2.own a b k hb hk').2 with h | h
      · exact h hk
      · exact ha (hKN a h.2)
    · rcases hk with hk | hk
      · obtain ⟨a, b, ha, hb, hk'⟩ := hk
        obtain ⟨g1, g2, g3, g4⟩ := rb1 a b k hb hk'
        exact ⟨⟨g4, nRB k ⟨a, b, ha, hb, hk'⟩⟩, g3, id, fun hx => (t2.own a b k hb hk').2.elim (fun h => (h hx).elim) fun h => h.1⟩
      · obtain ⟨g1, g2, g3⟩ := tb1 k hk
        exact ⟨⟨g3, fun ⟨a, b, _, hb, hk'⟩ => g1 (rb1 a b k hb hk').1⟩, g2, id, fun hx => (g1 (kp.old k hx)).elim⟩
  have hKi : ∀ a ∈ K, idr a = idc a := fun a ha => idrN a fun hm => hNB a hm (hKN a ha)
  have hnm : ∀ a ∈ KZ, ∀ k, idr a = some k → Tk k → (X.old k → a ∈ K) := fun a ha k hk _ hx => by
    by_cases hm : a ∈ nmsL Bf
    · rw [idrB a hm] at hk
      exact ((tb1 k ⟨a, hm, hk⟩).1 (kp.old k hx)).elim
    · rw [idrN a hm] at hk
      have haN : a ∈ N := (List.mem_append.1 ha).resolve_right hm
      obtain ⟨b, hb⟩ := hNs a haN
      exact (t2.own a b k hb hk).2.elim (fun h => (h hx).elim) fun h => h.2
  let Ea : Env C := ⟨fun Z => ∃ X', E.ok X' ∧ Inr X Y L K s idc idr h2 F2 old2 RB Tk KZ X' Z, (fun ⟨_, hE, zi⟩ => by rw [zi.z1.base]; exact E.glob hE), by
    intro Z S s3 h3 ids3 F3 k rest st vals args Bf ⟨X', hE, zi⟩ t hH ra hB hn
    exact inr_law (fun a ha => List.mem_append_left _ (hKN a ha)) hKi hnm (fun k h1 h2 => ⟨h1, h2⟩) hE zi t hH ra hB hn⟩
  -- the parameters
  obtain ⟨e1, s3, h3, c3, S3, i3, F3, q3, Z3, ⟨X3, hE3, zi3⟩, t3⟩ := hr Ea _ _ _ _ ⟨Xa, ⟨X, kp.hE, zi0⟩, ta⟩
  cases e1 with
  | exit id => exact q3.elim
  | ret => exact q3.elim
  | normal =>
  -- the loop's own record
  have lPr : l < h2.next ∧ ¬X.old l ∧ ¬RB l ∧ ¬Tk l := ⟨tc.next l kp.ol, kp.xl, fun ⟨a, b, _, hb, hk⟩ => (kp.own a b l hb hk).2 rfl, fun h => h.elim (fun ⟨a, b, _, hb, hk⟩ => (kp.own a b l hb hk).2 rfl) fun h => (tb1 l h).1 kp.ol⟩
  have zl : ∀ {X' Z}, Inr X Y L K s idc idr h2 F2 old2 RB Tk KZ X' Z → Z.old l ∧ ¬Z.T l ∧ ¬Z.F l ∧ ¬X'.old l := fun zi => by
    obtain ⟨_, g2⟩ := zi.zp l lPr.1 lPr.2.1 lPr.2.2.1 lPr.2.2.2
    obtain ⟨g3, g4⟩ := g2 fl2
    exact ⟨zi.z2 l ⟨lPr.1, lPr.2.2.1⟩, fun h => lPr.2.2.2 (by rw [← zi.zT]; exact h), g3, g4⟩
  obtain ⟨l1, l2, l3, l4⟩ := zl zi3
  have g3 : h3.get l = some (.loop .ready none s ps asg body) := by
    rw [t3.keep l l1 l2, (zi3.zp l lPr.1 lPr.2.1 lPr.2.2.1 lPr.2.2.2).1, hY l kp.ol]; exact kp.hl
  -- the round begins
  have nF3 : ¬F3 l := fun h => l3 ((t3.frz l l1).1 h)
  have o3 : ∀ a b k, PT.get a S3.B = some b → i3 a = some k → k ≠ l := fun a b k hb hk e => by
    rcases (t3.own a b k hb hk).2 with h | h
    · exact h (by rw [e]; exact l1)
    · exact l2 (by rw [← e]; exact h.1)
  have f3 : ∀ k, F3 k → k ≠ l := fun k hk e => nF3 (by rw [← e]; exact hk)
  have tX3 := zi3.frame t3
  have hF3 := zi3.hF t3
  have pb : ∀ k, k ≠ l → (h3.put false l (.loop .busy none s ps asg body)).get k = h3.get k := fun k hk => by rw [AHeap.get_put, if_neg hk]
  have pb2 : ∀ k, k ≠ l → (h2.put false l (.loop .busy none s ps asg body)).get k = h2.get k := fun k hk => by rw [AHeap.get_put, if_neg hk]
  have t3b := t3.since2 (h' := h3.put false l (.loop .busy none s ps asg body)) (t3.wf.put false g3) (AHeap.base_put false h3 l _) (AHeap.next_put false h3 l _)
    (fun a b k hb hk => pb k (o3 a b k hb hk)) (fun k hk => pb k (f3 k hk))
  have zi3b : Inr X Y L K s idc idr (h2.put false l (.loop .busy none s ps asg body)) F2 old2 RB Tk KZ X3 ⟨h3.put false l (.loop .busy none s ps asg body), fun k => Z3.old k ∨ F3 k, Z3.T, F3, Z3.id0, Z3.H, Z3.K⟩ := by
    refine ⟨tX3.later (t3.wf.put false g3) (AHeap.base_put false h3 l _) (fun k hk => by rw [AHeap.next_put]; exact tX3.next k hk) (fun k hk _ => pb k fun e => l4 (by rw [← e]; exact hk)) (fun a b k hb => by simp at hb)
      (fun k hk => ⟨hk, pb k (f3 k hk)⟩) tX3.frz (fun k hk => by rw [AHeap.next_put]; exact t3.flt k hk) (by rw [AHeap.next_put]; exact Nat.le_refl _), zi3.zT, zi3.zid, zi3.zK, fun k hk => .inl (zi3.zo k hk), fun k hk => ?_, fun k h1 h2' h3' h4 => ?_, fun k hk => ?_, zi3.zx, ?_, ?_, fun k hk => .inr hk, fun k hk => .inl (zi3.z2 k hk), zi3.zXT, zi3.zXi, zi3.zXK⟩
    · obtain ⟨g1, g2, g3, g4⟩ := zi3.zt k hk
      exact ⟨.inl g1, fun hh => g2 ((t3.frz k g1).1 hh), g3, g4⟩
    · rw [AHeap.next_put] at h1
      obtain ⟨g1, g2⟩ := zi3.zp k h1 h2' h3' h4
      have hz := zi3.z2 k ⟨h1, h3'⟩
      refine ⟨?_, fun hh => ⟨fun hf => (g2 hh).1 ((t3.frz k hz).1 hf), (g2 hh).2⟩⟩
      by_cases e : k = l
      · subst e
        show (h3.put false k _).get k = _
        rw [AHeap.get_put, AHeap.get_put, if_pos rfl, if_pos rfl]
      · show (h3.put false l _).get k = _
        rw [pb k e, pb2 k e, t3.keep k hz (fun h => h4 (by rw [← zi3.zT]; exact h)), g1]
    · obtain ⟨g1, g2⟩ := zi3.zf k hk
      obtain ⟨g3, g4⟩ := hF3 k g1
      have e : k ≠ l := f3 k g3
      refine ⟨g3, ?_⟩
      show (h3.put false l _).get k = _
      rw [pb k e, pb2 k e, g4, g2]
    · show (h3.put false l _).base = _
      rw [AHeap.base_put, AHeap.base_put, t3.base, zi3.zb]
    · show _ ≤ (h3.put false l _).next
      rw [AHeap.next_put, AHeap.next_put]
      exact Nat.le_trans zi3.zn t3.nx
  let Eb : Env C := ⟨fun Z => ∃ X', E.ok X' ∧ Inr X Y L K s idc idr (h2.put false l (.loop .busy none s ps asg body)) F2 old2 RB Tk KZ X' Z, (fun ⟨_, hE, zi⟩ => by rw [zi.z1.base]; exact E.glob hE), by
    intro Z S s3 h3 ids3 F3 k rest st vals args Bf ⟨X', hE, zi⟩ t hH ra hB hn
    exact inr_law (fun a ha => List.mem_append_left _ (hKN a ha)) hKi hnm (fun k h1 h2 => ⟨by rw [AHeap.next_put] at h1; exact h1, h2⟩) hE zi t hH ra hB hn⟩
  obtain ⟨e, s4, h4, c4, S4, i4, F4, q4, Z4, ⟨X4, hE4, zi4⟩, t4⟩ := q3 Eb _ _ _ _ ⟨_, ⟨X3, hE3, zi3b⟩, t3b⟩
  have hst : st = true → goesOn e = true → rest ≠ [] := by
    intro h1 h2 h3
    cases e with
    | normal =>
      have := q4.1 h1
      rw [hrest] at h3
      have := congrArg List.length h3
      simp at this; omega
    | ret => cases h2
    | exit id => cases h2
  obtain ⟨B2, H2, hno, gB, stg⟩ : ∃ B2 H2, hasNo B2 (nmsL Bf) = true ∧ G S4 ⟨.lf, mkB Bf B2, KZ, H2⟩ ∧ stageQ T Hf I items L K Q B2 H2 rest e := by
    cases e with
    | normal => obtain ⟨_, y, h1, h2⟩ := q4; exact ⟨_, _, hdis' y h1, h2, i + 1, y, hlt, hrest, h1, rfl, rfl⟩
    | ret => obtain ⟨B2, H2, h1, h2, h3⟩ := q4; exact ⟨B2, H2, h1, h2, h3⟩
    | exit id => obtain ⟨B2, H2, h1, h2, h3⟩ := q4; exact ⟨B2, H2, h1, h2, h3⟩
  obtain ⟨i5, F5, t5⟩ := gB _ _ _ _ _ t4
  have tX4 := zi4.frame t5
  have hF4 := zi4.hF t5
  have lPr2 : l < (h2.put false l (.loop .busy none s ps asg body)).next := by rw [AHeap.next_put]; exact lPr.1
  obtain ⟨z41, z42⟩ := zi4.zp l lPr2 lPr.2.1 lPr.2.2.1 lPr.2.2.2
  have z4o : Z4.old l := zi4.z2 l ⟨lPr.1, lPr.2.2.1⟩
  have z4T : ∀ k, Z4.T k → Tk k := fun k h => by rw [← zi4.zT]; exact h
  have g4 : h4.get l = some (.loop .busy none s ps asg body) := by
    rw [t5.keep l z4o (fun h => lPr.2.2.2 (z4T l h)), z41, AHeap.get_put, if_pos rfl]
  have g2l : h2.get l = some (.loop .ready none s ps asg body) := by rw [hY l kp.ol]; exact kp.hl
  have hY5 := YieldE.mk (C := C) (l := l) (args := vals) (h := h2) g2l (by rw [ra.1]; exact hle) c3 g3 c4 g4
  refine ⟨e, _, hY5, hst, ?_⟩
  have hZH : Z4.H = H2 := t5.hist.1
  rw [hZH] at tX4
  generalize hh5 : h4.put false l (.loop (stOf e) (pendOf e) s ps asg body) = h5 at *
  have wf5 : WF h5 := by rw [← hh5]; exact t5.wf.put false g4
  have b54 : h5.base = h4.base := by rw [← hh5, AHeap.base_put]
  have n5 : h5.next = h4.next := by rw [← hh5, AHeap.next_put]
  have l5 : h5.get l = some (.loop (stOf e) (pendOf e) s ps asg body) := by rw [← hh5, AHeap.get_put, if_pos rfl]
  have ne5 : ∀ k, k ≠ l → h5.get k = h4.get k := fun k hk => by rw [← hh5, AHeap.get_put, if_neg hk]
  have nF5l : ¬F5 l := fun h => (z42 fl2).1 ((t5.frz l z4o).1 h)
  have nX4l : ¬X4.old l := (z42 fl2).2
  have f5 : ∀ k, F5 k → k ≠ l := fun k hk e => nF5l (by rw [← e]; exact hk)
  have hn25 : h2.next ≤ h5.next := by
    have := zi4.zn
    rw [AHeap.next_put] at this
    rw [n5]; exact Nat.le_trans this t5.nx
  have b52 : h5.base = h2.base := by rw [b54, t5.base, zi4.zb, AHeap.base_put]
  have raw : ∀ k, k < h2.next → ¬X.old k → ¬RB k → ¬Tk k → k ≠ l → h5.get k = h2.get k := fun k h1 h2' h3' h4' hne => by
    rw [ne5 k hne, t5.keep k (zi4.z2 k ⟨h1, h3'⟩) (fun h => h4' (z4T k h)), (zi4.zp k (by rw [AHeap.next_put]; exact h1) h2' h3' h4').1, pb2 k hne]
  have rawF : ∀ k, F2 k → F5 k ∧ h5.get k = h2.get k := fun k hk => by
    obtain ⟨g1, g2⟩ := zi4.zf k hk
    obtain ⟨g3, g4⟩ := hF4 k g1
    have hne := f5 k g3
    exact ⟨g3, by rw [ne5 k hne, g4, g2, pb2 k hne]⟩
  have nF : ∀ k, k < h2.next → ¬X.old k → ¬RB k → ¬Tk k → ¬F2 k → ¬F5 k ∧ ¬X4.old k := fun k h1 h2' h3' h4' h5' => by
    obtain ⟨g1, g2⟩ := (zi4.zp k (by rw [AHeap.next_put]; exact h1) h2' h3' h4').2 h5'
    exact ⟨fun h => g1 ((t5.frz k (zi4.z2 k ⟨h1, h3'⟩)).1 h), g2⟩
  have nFT : ∀ k, Tk k → ¬F5 k := fun k hk h => by
    obtain ⟨g1, g2, _⟩ := zi4.zt k hk
    exact g2 ((t5.frz k g1).1 h)
  have rbY : ∀ k, RB k → Y.old k := fun k ⟨a, b, _, hb, hk⟩ => (rb1 a b k hb hk).1
  have nbY : ∀ k, NBk k → Y.old k := fun k ⟨a, b, _, hb, hk⟩ => (rb1 a b k hb hk).1
  have i5r : ∀ a ∈ KZ, i5 a = idr a := fun a ha => (t5.stab a ha).trans (congrFun zi4.zid a)
  have hX4T : X4.T = X.T := zi4.zXT
  have ow5 : ∀ a b k, PT.get a B2 = some b → i5 a = some k → PT.get a (mkB Bf B2) = some b ∧ ¬F5 k ∧ k ≠ l ∧ (Y.old k ∨ F2 k ∨ h2.next ≤ k) ∧ k < h5.next ∧ (¬X4.old k ∨ X4.T k ∧ a ∈ K) := fun a b k hb hk => by
    have haB : a ∉ nmsL Bf := fun hm => by
      have := hasNo_spec hno a hm
      rw [hb] at this; cases this
    have hb' : PT.get a (mkB Bf B2) = some b := by rw [mkB_out haB]; exact hb
    obtain ⟨o1, o2⟩ := t5.own a b k hb' hk
    have hlt5 : k < h5.next := by rw [n5]; exact t5.lt hb' hk
    refine ⟨hb', o1, ?_⟩
    rcases o2 with o2 | ⟨o2, o3⟩
    · refine ⟨fun e => o2 (by rw [e]; exact z4o), ?_, hlt5, .inl fun hx => o2 (zi4.zo k hx)⟩
      by_cases hk2 : k < h2.next
      · have : RB k := Classical.byContradiction fun h => o2 (zi4.z2 k ⟨hk2, h⟩)
        exact .inl (rbY k this)
      · exact .inr (.inr (by omega))
    · have haN : a ∈ N := (List.mem_append.1 o3).resolve_right haB
      have hid : idc a = some k := by rw [← idrN a haB, ← i5r a o3]; exact hk
      obtain ⟨b0, hb0⟩ := hNs a haN
      obtain ⟨r1, r2, _⟩ := rb1 a b0 k hb0 hid
      refine ⟨r2, .inl r1, hlt5, ?_⟩
      by_cases hx : X4.old k
      · have hx0 := (zi4.zt k (z4T k o2)).2.2.1 hx
        rcases (t2.own a b0 k hb0 hid).2 with h | h
        · exact (h hx0).elim
        · exact .inr ⟨by rw [hX4T]; exact h.1, h.2⟩
      · exact .inl hx
  let Y' : Ctx := ⟨h5, fun k => k < h5.next ∧ (Y.old k ∨ F2 k ∨ h2.next ≤ k), Y.T, F5, Y.id0, some ⟨l, rest, goesOn e, st⟩, Y.K⟩
  have split : ∀ k, k < h2.next → Y.old k ∨ (¬Y.old k ∧ TB k) ∨ (¬Y.old k ∧ ¬TB k ∧ ¬X.old k ∧ ¬RB k ∧ ¬Tk k ∧ k ≠ l) := fun k hk => by
    by_cases h1 : Y.old k
    · exact .inl h1
    · by_cases h2 : TB k
      · exact .inr (.inl ⟨h1, h2⟩)
      · exact .inr (.inr ⟨h1, h2, fun h => h1 (kp.old k h), fun h => h1 (rbY k h), fun h => h.elim (fun h => h1 (nbY k h)) h2, fun e => h1 (by rw [e]; exact kp.ol)⟩)
  have cal : ∀ a b k, PT.get a Sc.B = some b → ids2 a = some k → ¬Y.old k ∧ ¬F2 k ∧ k < h2.next := fun a b k hb hk => by
    obtain ⟨o1, o2⟩ := tc.own a b k hb hk
    exact ⟨o2.elim id fun h => (kp.hT k h.1).elim, o1, tc.lt hb hk⟩
  have calT : ∀ a b k, a ∉ nmsL Bf → PT.get a Sc.B = some b → ids2 a = some k → ¬TB k := fun a b k ha hb hk ⟨a', ha', hk'⟩ => by
    obtain ⟨b', hb', _⟩ := lent0 a' ha'
    have := tc.inj a a' b b' k hb hb' hk hk'
    subst this; exact ha ha'
  refine ⟨Y', F5, X4, B2, H2, i5, ⟨rfl, kp.hT, hE4, ?_, l5, ⟨by rw [n5]; exact t5.next l z4o, .inl kp.ol⟩, nF5l, nX4l, fun k hk => ⟨by rw [n5]; exact tX4.next k hk, ?_⟩, fun k hk => ?_, fun a b k hb hk => ?_, stg⟩, ?_, ?_⟩
  · refine ⟨wf5, b54.trans tX4.base, fun k hk => by rw [n5]; exact tX4.next k hk, fun k hk hT => ?_, tX4.frz, fun k hk => by rw [n5]; exact t5.flt k hk, fun a b hb => ?_, fun a b k hb hk => ⟨(ow5 a b k hb hk).2.1, (ow5 a b k hb hk).2.2.2.2.2⟩, fun a a' b b' k g1 g2 e1 e2 => t5.inj a a' b b' k (ow5 a b k g1 e1).1 (ow5 a' b' k g2 e2).1 e1 e2, fun p y hy => ?_, fun a ha => ?_, ⟨tX4.hist.1, tX4.hist.2⟩, by rw [n5]; exact tX4.nx⟩
    · rw [ne5 k (fun e => nX4l (by rw [← e]; exact hk))]; exact tX4.keep k hk hT
    · have haB : a ∉ nmsL Bf := fun hm => by
        have := hasNo_spec hno a hm
        rw [hb] at this; cases this
      exact (t5.blk a b (by rw [mkB_out haB]; exact hb)).mono (fun _ _ r => RdF.mono b54 (fun k hk => ⟨hk, ne5 k (f5 k hk)⟩) r) (fun _ _ => rfl) (fun k hk => ne5 k (ow5 a b k hb hk).2.2.1)
    · refine (tX4.slots p y hy).mono (fun _ _ r => RdF.mono b54 (fun k hk => ⟨hk, ne5 k (f5 k hk)⟩) r) fun a ha => ?_
      have haN := hN p y hy a ha
      rw [i5r a (List.mem_append_left _ haN), idrN a (fun hm => hNB a hm haN)]
    · rw [i5r a (List.mem_append_left _ (hKN a ha)), hKi a ha]; exact tX4.stab a ha
  · by_cases hk2 : k < h2.next
    · rcases split k hk2 with h | ⟨h1, h2'⟩ | ⟨h1, h2', h3', h4', h5', h6'⟩
      · exact .inl h
      · exact .inl (kp.old k ((zi4.zt k (.inr h2')).2.2.1 hk))
      · by_cases hF : F2 k
        · exact .inr (.inl hF)
        · exact ((nF k hk2 h3' h4' h5' hF).2 hk).elim
    · exact .inr (.inr (by omega))
  · have hk5 : k < h5.next := by rw [n5]; exact t5.flt k hk
    refine ⟨hk5, ?_⟩
    by_cases hk2 : k < h2.next
    · rcases split k hk2 with h | ⟨h1, h2'⟩ | ⟨h1, h2', h3', h4', h5', h6'⟩
      · exact .inl h
      · exact ((nFT k (.inr h2')) hk).elim
      · by_cases hF : F2 k
        · exact .inr (.inl hF)
        · exact ((nF k hk2 h3' h4' h5' hF).1 hk).elim
    · exact .inr (.inr (by omega))
  · obtain ⟨_, _, h3', h4', h5', _⟩ := ow5 a b k hb hk
    exact ⟨⟨h5', h4'⟩, h3'⟩
  · refine ⟨wf5, rfl, fun k hk => hk.1, fun _ _ _ => rfl, fun _ _ => Iff.rfl, fun k hk => by rw [n5]; exact t5.flt k hk, fun a b hb => ?_, fun a b k hb hk => ?_, tc.inj, fun p y hy => (tc.slots p y hy).mono (fun _ _ r => RdF.mono b52 rawF r) (fun _ _ => rfl), tc.stab, ⟨rfl, tc.hist.2⟩, Nat.le_refl _⟩
    · by_cases haB : a ∈ nmsL Bf
      · obtain ⟨b', hb', hb2⟩ := lent0 a haB
        rw [hb] at hb'; cases hb'
        have hr5 := t5.blk a b (by show PT.get a (mkB Bf B2) = _; rw [mkB_in haB (t2 := .lf)]; exact hb2)
        have hia : i5 a = ids2 a := by rw [i5r a (List.mem_append_right _ haB), idrB a haB]
        rw [hia] at hr5
        refine hr5.mono (fun _ _ r => RdF.mono b54 (fun k hk => ⟨hk, ne5 k (f5 k hk)⟩) r) (fun c hc => ?_) (fun k hk => ne5 k fun e => (tb1 k ⟨a, haB, hk⟩).1 (by rw [e]; exact kp.ol))
        have hcB := hsub c (List.mem_append_right _ ((mkB_nms hb2).2 c hc))
        rw [i5r c (List.mem_append_right _ hcB), idrB c hcB]
      · refine (tc.blk a b hb).mono (fun _ _ r => RdF.mono b52 rawF r) (fun _ _ => rfl) (fun k hk => ?_)
        obtain ⟨c1, c2, c3⟩ := cal a b k hb hk
        rcases split k c3 with h | ⟨_, h⟩ | ⟨_, h2', h3', h4', h5', h6'⟩
        · exact (c1 h).elim
        · exact (calT a b k haB hb hk h).elim
        · exact raw k c3 h3' h4' h5' h6'
    · obtain ⟨c1, c2, c3⟩ := cal a b k hb hk
      refine ⟨?_, .inl fun hh => hh.2.elim c1 fun hh => hh.elim c2 fun hh => by omega⟩
      rcases split k c3 with h | ⟨_, h⟩ | ⟨_, h2', h3', h4', h5', h6'⟩
      · exact (c1 h).elim
      · exact nFT k (.inr h)
      · exact (nF k c3 h3' h4' h5' c2).1
  · refine ⟨hn25, b52, fun k hk => ⟨Nat.lt_of_lt_of_le (tc.next k hk) hn25, .inl hk⟩, fun k hlt' h1 h2' => ?_, fun k hlt' h1 h2' => ?_, rawF, rfl, rfl⟩
    · have h1 : ¬Y.old k := fun h => kp.hT k (h1 h)
      rcases split k hlt' with h | ⟨_, h⟩ | ⟨_, _, h3', h4', h5', h6'⟩
      · exact (h1 h).elim
      · exact (h2' h).elim
      · exact raw k hlt' h3' h4' h5' h6'
    · have h1 : ¬Y.old k := fun h => kp.hT k (h1 h)
      refine ⟨?_, fun hh => hh.2.elim id fun hh => hh.elim (fun h => (h2' h).elim) fun h => by omega⟩
      rcases split k hlt' with h | ⟨_, h⟩ | ⟨_, _, h3', h4', h5', h6'⟩
      · exact (h1 h).elim
      · exact nFT k (.inr h)
      · exact (nF k hlt' h3' h4' h5' h2').1
/-- A range over a function, by the contract of the iterator. L: the slots, T: the blocks ahead of a round, Hf: what the ranger has yet to hand on himself, N: the names that the slots bear. -/
theorem VC.rangeF {Q : Ex → VSt → Prop} {g : Opd} {ps : List Pa} {asg body : ACode} {f : Nat} {first cap : List VV} {st : Bool} {items : List Itm} {σ : Type} (T : σ → PT VB) (Hf : σ → Option Hi) (I : Nat → σ → Prop) {x0 : σ} (N : List Pa)
    (hH : S.H = Hf x0) (hg : evV S g = .clos f first cap) (ho : ∀ l b, C.orc f l b = none) (hit : VIter C f first cap st items) (hN : ∀ p x, PT.get p S.L = some x → ∀ a ∈ nm x, a ∈ N) (hKN : ∀ a ∈ S.K, a ∈ N) (hNs : ∀ i x, I i x → ∀ a ∈ N, ∃ b, PT.get a (T x) = some b)
    (hB : PT.Le (T x0) S.B) (hi : I 0 x0) (hlen : ∀ x ∈ items, x.1.length = ps.length) (hdis : ∀ i x (hlt : i < items.length), I i x → hasNo (T x) (nmsL items[i].2) = true) (hdis' : ∀ i y (hlt : i < items.length), I (i + 1) y → hasNo (T y) (nmsL items[i].2) = true) (hNB : ∀ it ∈ items, ∀ a ∈ nmsL it.2, a ∉ N)
    (hr : ∀ i x (hlt : i < items.length), I i x → VC C asg ⟨inV ps items[i].1 S.L, mkB items[i].2 (filtNB (nmsL items[i].2) (T x)), N ++ nmsL items[i].2, Hf x⟩ (asgV C body (roundQ T Hf I N S.L S.K items[i].2 st items.length i Q)))
    (hq : st = false → ∀ x, I items.length x → Q .normal ⟨S.L, T x, S.K, Hf x⟩) : VC C (.rangeF g ps asg body) S Q := by
  intro E s h ids F t
  obtain ⟨X, hE, t⟩ := t
  have rg := evV_sound t g
  rw [hg] at rg
  obtain ⟨vf, vc, hvf, rf, rc⟩ : ∃ vf vc : List Value, evA s g = .func (.func f) vf.toArray vc.toArray ∧ All2 (Vr (RdF h F) ids) vf first ∧ All2 (Vr (RdF h F) ids) vc cap := by
    generalize evA s g = w at rg
    cases rg with
    | clos f h1 h2 h3 h4 => exact ⟨_, _, rfl, ⟨h1, h2⟩, ⟨h3, h4⟩⟩
  have hnx : (h.addL s ps asg body).next = h.next + 1 := AHeap.next_add false h _
  have hold : ∀ k, k < h.next → (h.addL s ps asg body).get k = h.get k := fun k hk => by show (h.add false _).get k = _; rw [AHeap.get_add, if_neg (by omega)]
  have hbs : (h.addL s ps asg body).base = h.base := AHeap.base_add false h _
  have hwf : WF (h.addL s ps asg body) := t.wf.add false _
  generalize hh1 : h.addL s ps asg body = h1 at *
  have hl1 : h1.get h.next = some (.loop .ready none s ps asg body) := by rw [← hh1]; show (h.add false _).get _ = _; rw [AHeap.get_add, if_pos rfl]
  have hF1 : ∀ k, F k → F k ∧ h1.get k = h.get k := fun k hk => ⟨hk, hold k (t.flt k hk)⟩
  let Y0 : Ctx := ⟨h1, fun k => k < h1.next, fun _ => False, F, ids, some ⟨h.next, items, true, st⟩, []⟩
  have t1 : St X ⟨S.L, T x0, S.K, Hf x0⟩ s h1 ids F := (t.weak (S' := ⟨S.L, T x0, S.K, Hf x0⟩) ⟨PT.Le.refl _, hB, rfl, hH.symm⟩).later hwf hbs (fun k hk => by have := t.next k hk; omega) (fun k hk _ => hold k (t.next k hk))
    (fun a b k hb hk => ⟨hold k (t.lt (hB.get hb) hk), (t.own a b k (hB.get hb) hk).1⟩) hF1 t.frz (fun k hk => by have := t.flt k hk; omega) (by omega)
  have k0 : Kept C E X S.L S.K s h.next st ps asg body items T Hf I Q Y0 (T x0) (Hf x0) ids .normal items :=
    ⟨rfl, fun _ h => h, hE, t1, hl1, by show h.next < h1.next; omega, fun hF => by have := t.flt _ hF; omega, fun hX => by have := t.next _ hX; omega, fun k hk => by show k < h1.next; have := t.next k hk; omega,
      fun k hk => by show k < h1.next; have := t.flt k hk; omega, fun a b k hb hk => by have := t.lt (hB.get hb) hk; exact ⟨by show k < h1.next; omega, by omega⟩, 0, x0, Nat.zero_le _, rfl, hi, rfl, rfl⟩
  let E1 : Env C := ⟨fun Y => ∃ X B Hx idc e rest, Kept C E X S.L S.K s h.next st ps asg body items T Hf I Q Y B Hx idc e rest, (fun ⟨_, _, _, _, _, _, kp⟩ => by rw [kp.t.base]; exact E.glob kp.hE), by
    intro Y Sc sc h2 ids2 F2 k rest st' vals args Bf ⟨X, B, Hx, idc, e, rest0, kp⟩ tc hYH ra hBf hn
    have he := kp.hH.symm.trans hYH
    simp only [Option.some.injEq, Hi.mk.injEq] at he
    obtain ⟨rfl, rfl, he, rfl⟩ := he
    have he : e = .normal := by cases e <;> first | rfl | cases he
    subst he
    obtain ⟨e, h5, h1', h2', Y', F5, X', B', Hx', idc', kp', t', af⟩ := kp.round hN hKN hNs hr hlen hdis hdis' hNB tc ra hBf hn
    exact ⟨goesOn e, h5, h2', h1', Y', F5, ⟨X', B', Hx', idc', e, rest, kp'⟩, t', af⟩⟩
  have tc0 : StE E1 ⟨.lf, .lf, [], some ⟨h.next, items, true, st⟩⟩ .lf h1 ids F :=
    ⟨Y0, ⟨_, _, _, _, _, _, k0⟩, hwf, rfl, fun _ hk => hk, fun _ _ _ => rfl, fun _ _ => Iff.rfl, fun k hk => by have := t.flt k hk; omega, fun a b hb => by simp at hb, fun a b k hb => by simp at hb, fun a a' b b' k hb => by simp at hb, fun p x hx => by simp at hx, fun _ _ => rfl, ⟨rfl, rfl⟩, Nat.le_refl _⟩
  have hmono : ∀ {vs xs}, All2 (Vr (RdF h F) ids) vs xs → All2 (Vr (RdF h1 F) ids) vs xs := fun r => r.mono fun v y _ r => r.mono (fun _ _ r => RdF.mono hbs hF1 r) fun _ _ => rfl
  have rall : All2 (Vr (RdF h1 F) ids) (vf ++ [Value.func (.yield h.next) #[] #[]] ++ vc) (first ++ [.yl h.next] ++ cap) := ((hmono rf).append (.cons (.yl _) .nil)).append (hmono rc)
  obtain ⟨v, h', hcall, rest, live, i', F', ⟨Y, ⟨X2, B, Hx, idc, e, rest', kp⟩, tc⟩, hdone⟩ := hit E1 _ _ _ _ _ tc0 rall
  have he := kp.hH.symm.trans tc.hist.1
  simp only [Option.some.injEq, Hi.mk.injEq, true_and, and_true] at he
  obtain ⟨rfl, rfl⟩ := he
  have hl' : h'.get h.next = some (.loop (stOf e) (pendOf e) s ps asg body) := by rw [tc.keep _ kp.ol (kp.hT _)]; exact kp.hl
  have hce : CodeE C (.rangeF g ps asg body) s h e s (h'.put false h.next (.loop .exhausted (pendOf e) s ps asg body)) :=
    CodeE.rangeF hvf (ho _) (by rw [hh1]; simpa using hcall) hl'
  have hqe : Q e ⟨S.L, B, S.K, Hx⟩ := by
    have hs := kp.stage
    cases e with
    | normal =>
      obtain ⟨i, x, h0, h1, h2, rfl, rfl⟩ := hs
      rcases hdone with h3 | ⟨h3, h4⟩
      · cases h3
      · subst h3
        have : i = items.length := by
          have := congrArg List.length h1
          simp at this; omega
        subst this
        exact hq h4 x h2
    | ret => exact hs
    | exit id => exact hs
  refine ⟨e, s, _, hce, _, idc, Y.F, hqe, X2, kp.hE, ?_⟩
  have hY : ∀ k, Y.old k → k ≠ h.next → (h'.put false h.next (.loop .exhausted (pendOf e) s ps asg body)).get k = Y.h0.get k := fun k hk hne => by rw [AHeap.get_put, if_neg hne]; exact tc.keep k hk (kp.hT k)
  exact kp.t.later (tc.wf.put false hl') ((AHeap.base_put false h' _ _).trans tc.base) (fun k hk => by rw [AHeap.next_put]; exact tc.next k (kp.old k hk)) (fun k hk _ => hY k (kp.old k hk) fun e => kp.xl (by rw [← e]; exact hk))
    (fun a b k hb hk => ⟨hY k (kp.own a b k hb hk).1 (kp.own a b k hb hk).2, (kp.t.own a b k hb hk).1⟩) (fun k hk => ⟨hk, hY k (kp.frz k hk) fun e => kp.fl (by rw [← e]; exact hk)⟩) kp.t.frz (fun k hk => by rw [AHeap.next_put]; exact tc.next k (kp.frz k hk)) (by rw [AHeap.next_put]; exact tc.nx)
end
end Go.Ab.V

/- A table that fits the program, asked at once. -/
namespace Go.Ab
def Tr.allB {α : Type} (p : Nat → α → Bool) : Tr α → (Nat → Nat) → Bool
  | .lf, _ => true
  | .nd v l r, g => (match v with
    | some x => p (g 0) x
    | none => true) && Tr.allB p l (fun m => g (2 * m + 1)) && Tr.allB p r (fun m => g (2 * m + 2))
theorem Tr.allB_spec {α : Type} {p : Nat → α → Bool} : ∀ {t : Tr α} {g : Nat → Nat}, Tr.allB p t g = true → ∀ n x, t.get n = some x → p (g n) x = true
  | .lf, g, _, n, x, h => by cases h
  | .nd v l r, g, h, n, x, hx => by
    simp only [Tr.allB, Bool.and_eq_true] at h
    rw [Tr.get_nd] at hx
    cases hb : Nat.beq n 0 with
    | true =>
      rw [hb] at hx
      have hn := Nat.eq_of_beq_eq_true hb
      subst hn
      simp only [cond_true] at hx
      rw [hx] at h
      exact h.1.1
    | false =>
      rw [hb] at hx
      have hn : n ≠ 0 := fun e => by subst e; cases hb
      simp only [cond_false] at hx
      cases hm : Nat.beq (Nat.mod n 2) 1 with
      | true =>
        rw [hm] at hx
        have hm : n % 2 = 1 := Nat.eq_of_beq_eq_true hm
        have := Tr.allB_spec h.1.2 _ x hx
        rwa [show 2 * Nat.div n 2 + 1 = n from by show 2 * (n / 2) + 1 = n; omega] at this
      | false =>
        rw [hm] at hx
        have hm : n % 2 ≠ 1 := fun e => by
          have : Nat.beq (Nat.mod n 2) 1 = true := by show Nat.beq (n % 2) 1 = true; rw [e]; rfl
          rw [this] at hm; cases hm
        have := Tr.allB_spec h.2 _ x hx
        rwa [show 2 * Nat.sub (Nat.div n 2) 1 + 2 = n from by show 2 * (n / 2 - 1) + 2 = n; omega] at this
def fitB (P : Program) (k : Nat) (fn : AFunc) : Bool := match P.funcs[k]? with
  | some F => F.name != "runtime.NumGoroutine" && funcB P F fn
  | none => false
theorem tabOK {P : Program} {C : Cfg} {t : Tr AFunc} (hC : ∀ f fn, C.fn f = some fn → t.get f = some fn) (h : Tr.allB (fitB P) t (fun n => n) = true) : TabOK P C := by
  intro f fn hf
  have := Tr.allB_spec h f fn (hC f fn hf)
  unfold fitB at this
  split at this
  · rename_i F hF
    rw [Bool.and_eq_true, bne_iff_ne] at this
    exact ⟨F, hF, this.1, this.2⟩
  · cases this
end Go.Ab

/- A closed function whose answer the kernel has found: an oracle for the others. -/
namespace Go.Ab
theorem vr_atom {J J' : Inj} {v v' : Value} (hv : atomB v = true) (rv : VR J' v v') : VR J v v' := by
  cases rv with
  | undef => simp [atomB, undef] at hv
  | skip => simp [atomB, skipV] at hv
  | bool b => exact .bool b
  | int k n => exact .int k n
  | string s => exact .string s
  | ptrN => exact .ptrN
  | ptr _ => simp [atomB] at hv
  | slN l c => exact .slN l c
  | sl _ _ _ => simp [atomB] at hv
  | mapN => exact .mapN
  | map _ => simp [atomB] at hv
  | nilFunc => exact .nilFunc
  | nilIface => exact .nilIface
  | agg _ _ => simp [atomB] at hv
  | tuple _ _ => simp [atomB] at hv
  | func _ _ _ _ _ => simp [atomB] at hv
  | yield _ => simp [atomB] at hv
theorem glob_vr {J J' : Inj} {c : List Value} (hc : ∃ r, c = rowI r) {i : Nat} {v v' : Value} (hv : c[i]? = some v) (rv : VR J v v') : VR J' v v' := by
  obtain ⟨r, rfl⟩ := hc
  obtain ⟨q, _, rfl⟩ := List.mem_map.1 (List.mem_of_getElem? hv)
  exact vr_atom rfl rv
/-- What the program's text lays. -/
def baseG : List (Nat × List (IntKind × Int)) → Nat → Option (List Value)
  | [], _ => none
  | e :: g, b => bif Nat.beq b e.1 then some (rowI e.2) else baseG g b
theorem eqInts_sound : ∀ {vs : List Value} {r : List (IntKind × Int)}, eqInts vs r = true → vs = rowI r
  | [], [], _ => rfl
  | [], _ :: _, h => by simp [eqInts] at h
  | v :: vs, [], h => by cases v <;> simp [eqInts] at h
  | v :: vs, (k', n') :: r, h => by
    cases v <;> simp only [eqInts, Bool.and_eq_true, decide_eq_true_eq, Bool.false_eq_true] at h
    obtain ⟨⟨rfl, rfl⟩, h⟩ := h
    rw [eqInts_sound h]; rfl
theorem baseG_some : ∀ {g : List (Nat × List (IntKind × Int))} {base : Nat → Option (List Value)}, globB g base = true → ∀ {b c}, baseG g b = some c → base b = some c
  | [], _, _, b, c, h => by cases h
  | e :: g, base, hg, b, c, h => by
    have h : (bif Nat.beq b e.1 then some (rowI e.2) else baseG g b) = some c := h
    simp only [globB, List.all_cons, Bool.and_eq_true] at hg
    cases hb : Nat.beq b e.1 with
    | true =>
      rw [hb] at h; cases h
      have := Nat.eq_of_beq_eq_true hb
      subst this
      have h1 := hg.1
      split at h1
      · rename_i row hr; rw [hr, eqInts_sound h1]
      · cases h1
    | false =>
      rw [hb] at h
      exact baseG_some (g := g) hg.2 h
theorem baseG_int : ∀ {g : List (Nat × List (IntKind × Int))} {b c}, baseG g b = some c → ∃ r, c = rowI r
  | [], _, _, h => by cases h
  | e :: g, b, c, h => by
    have h : (bif Nat.beq b e.1 then some (rowI e.2) else baseG g b) = some c := h
    cases hb : Nat.beq b e.1 with
    | true => rw [hb] at h; cases h; exact ⟨_, rfl⟩
    | false => rw [hb] at h; exact baseG_int (g := g) h
/-- What the kernel is asked: called where nothing lies but what the text lays, function f answers v. -/
def ClosedAns (C : Cfg) (f : Nat) (v : Value) : Prop := ∃ n e l r h', run true C n (.call f [] ⟨baseG C.glob, .lf, 0, 0⟩) = some (e, .nd v l r, h')
theorem closed_orc {P : Program} {C : Cfg} (hm : P.follows .mixedOrders = true) (ht : TabOK P C) (ho : OrcOK P C) {f : Nat} {v : Value} (hv : atomB v = true) (hc : ClosedAns C f v) :
    ∀ {J h w} {args' : Array Value}, globB C.glob h.base = true → Sim (OKC P) J h w → LR J [] args'.toList → Fresh J h →
      (∃ fn, P.funcs[f]? = some fn ∧ fn.body.isSome = true ∧ fn.name ≠ "runtime.NumGoroutine") ∧
      CallsIn Fence.wide 0 P f args' w (fun e w' => ∃ v' J', e = .returned v' ∧ VR J' v v' ∧ Next (OKC P) J h w J' h w') := by
  intro J h w args' hgl sm ra fr
  obtain ⟨n, e, l, r, h', hr⟩ := hc
  have so := run_sound (b := true) hm ht ho n
  have hget : ∀ k, (⟨baseG C.glob, .lf, 0, 0⟩ : AHeap).get k = none := fun k => by simp [AHeap.get, Tr.get_lf]
  have sm0 : Sim (OKC P) (fun _ => none) ⟨baseG C.glob, .lf, 0, 0⟩ w :=
    ⟨fun b c h => let ⟨arr, e, fz, g1, g2⟩ := sm.base b c (baseG_some hgl h); ⟨arr, e, fz, g1, fun i v hv => let ⟨v', h1, h2⟩ := g2 i v hv; ⟨v', h1, glob_vr (baseG_int h) hv h2⟩⟩, fun k o h => (by rw [hget] at h; cases h), fun k k' o o' pl pl' h => (by rw [hget] at h; cases h), fun k o pl h => (by rw [hget] at h; cases h)⟩
  have hargs : args'.toList = [] := List.eq_nil_of_length_eq_zero (by rw [← ra.1]; rfl)
  obtain ⟨h1, h2⟩ := so.call hr sm0 (by rw [hargs]; exact .nil _) (fun k _ => rfl)
  refine ⟨h1, h2.mono ?_⟩
  rintro e w' ⟨v', J', rfl, rv, nx⟩
  have hlive : ∀ b, ¬Live (fun _ => none) (⟨baseG C.glob, .lf, 0, 0⟩ : AHeap) b := fun b ⟨k, o, pl, hk, _⟩ => by rw [hget] at hk; cases hk
  have hkeep : ∀ b, b < w.heap.size → w'.heap[b]? = w.heap[b]? := fun b hb => nx.keep b hb (hlive b)
  have rv' : VR J v v' := vr_atom hv rv
  refine ⟨v', J, rfl, rv', ⟨⟨fun b c hc => ?_, fun k o hk => ?_, sm.inj, sm.apart⟩, J.le_refl, rfl, Nat.le_refl _, fun _ _ => rfl, nx.os, nx.tape, nx.output, nx.size, fun b hb _ => hkeep b hb, fun b l => .inr l⟩⟩
  · obtain ⟨arr, e, fz, g1, g2⟩ := sm.base b c hc
    exact ⟨arr, e, fz, (hkeep b (Array.getElem?_eq_some_iff.1 g1).1).trans g1, g2⟩
  · obtain ⟨g1, pl, ob, g2, g3, g4⟩ := sm.obj k o hk
    exact ⟨g1, pl, ob, g2, (hkeep _ (Array.getElem?_eq_some_iff.1 g3).1).trans g3, g4⟩
/-- The same table with one oracle. -/
def withOrc (C : Cfg) (f : Nat) (v : Value) : Cfg := { C with awk := some (f, v) }
theorem orcOK {P : Program} {C : Cfg} (hm : P.follows .mixedOrders = true) (ht : TabOK P C) (ho : OrcOK P C) {f : Nat} {v : Value} (hv : atomB v = true) (hc : ClosedAns C f v) : OrcOK P (withOrc C f v) := by
  intro g args v' h he J w args' sm ra fr
  have he : (bif Nat.beq f g && args.isEmpty && globB C.glob h.base then some v else none) = some v' := he
  cases hb : (Nat.beq f g && args.isEmpty && globB C.glob h.base) with
  | false => rw [hb] at he; cases he
  | true =>
    rw [hb] at he
    cases he
    rw [Bool.and_eq_true, Bool.and_eq_true] at hb
    have := Nat.eq_of_beq_eq_true hb.1.1
    subst this
    have hn : args = [] := by simpa using hb.1.2
    subst hn
    exact closed_orc hm ht ho hv hc hb.2 sm ra fr
theorem orc_no {C : Cfg} {g : Nat} {v : Value} (ha : C.awk = some (g, v)) {f : Nat} (h : f ≠ g) (l : List Value) (b : Nat → Option (List Value)) : C.orc f l b = none := by
  have : Nat.beq g f = false := by cases hb : Nat.beq g f with
    | false => rfl
    | true => exact absurd (Nat.eq_of_beq_eq_true hb).symm h
  unfold Cfg.orc
  rw [ha]
  show (bif Nat.beq g f && l.isEmpty && globB C.glob b then some v else none) = none
  rw [this]; rfl
end Go.Ab

/- Go's values out of Lean's; laws for the walks. -/
namespace Go.Ab.V
def pi (x : Int) : PV := .at (.int .i64 x)
/-- A slice of ints that is read alone. -/
def sl1 (a : List Int) : VV := .p (.sl 1 a.length (a.map pi))
/-- A block of ints. -/
def bl1 (a : List Int) : VB := .cells (a.map vi)
def nilV : VV := .p (.at (.slice none 0 0))
theorem max_eq (x y : Int) : (if y > x then y else x) = max x y := by rw [Int.max_def]; split <;> split <;> omega
theorem min_eq (x y : Int) : (if y < x then y else x) = min x y := by rw [Int.min_def]; split <;> split <;> omega
theorem beqT (b : Bool) : (b == true) = b := by cases b <;> rfl
theorem beqF (b : Bool) : (b == false) = !b := by cases b <;> rfl
theorem ibeq (x y : Int) : (x == y) = decide (x = y) := by
  by_cases h : x = y
  · simp [h]
  · simp [h]
theorem ibne (x y : Int) : (x != y) = decide (x ≠ y) := by
  by_cases h : x = y
  · simp [h]
  · simp [h]
/-- A slice of slices of ints that is read alone. -/
def sl1P (f : List Int) : PV := .sl 1 f.length (f.map pi)
def sl2 (fs : List (List Int)) : VV := .p (.sl 1 fs.length (fs.map sl1P))
theorem min_cast (a b : Nat) : min (a : Int) (b : Int) = ((min a b : Nat) : Int) := by omega
theorem take_map_pi (a : List Int) (n : Nat) : (a.map pi).take n = (a.take n).map pi := List.map_take.symm
theorem map_pi (a : List Int) : (a.map pi).map VV.p = a.map vi := by simp [pi, vi]
theorem nmL_append : ∀ l l' : List VV, nmL (l ++ l') = nmL l ++ nmL l'
  | [], l' => rfl
  | x :: l, l' => by simp only [List.cons_append, nmL, nmL_append l l', List.append_assoc]
theorem nmL_vi : ∀ a : List Int, nmL (a.map vi) = []
  | [] => rfl
  | x :: a => by simp only [List.map_cons, nmL, nmL_vi a]; rfl
theorem okL_vi (a : List Int) : (a.map vi).all okV = true := by
  rw [List.all_eq_true]; intro x hx
  obtain ⟨y, _, rfl⟩ := List.mem_map.1 hx
  rfl
theorem toPVs_vi : ∀ a : List Int, toPVs (a.map vi) = some (a.map pi)
  | [] => rfl
  | x :: a => by simp only [List.map_cons, toPVs, toPVs_vi a, vi, toPV, pi]
theorem putC_c0 (x y : VV) (cs ys : List VV) : putC (x :: cs) 0 (y :: ys) = y :: putC cs 0 ys := by simp [putC]
theorem putC_n0 (cs : List VV) : putC cs 0 [] = cs := by simp [putC]
theorem putC_cs (x : VV) (cs ys : List VV) (n : Nat) : putC (x :: cs) (n + 1) ys = x :: putC cs n ys := by simp [putC, Nat.add_right_comm]
theorem vev_call (g : Opd) (args : List Opd) (d : Option Pa) (S : VSt) : vev (.call g args) d S = none := rfl
theorem ble0 (m : Nat) : Nat.ble 0 m = true := by cases m <;> rfl
theorem repsV_one (x : VV) : ∀ n, repsV [x] n = List.replicate n x
  | 0 => rfl
  | n + 1 => by simp only [repsV, repsV_one x n, List.replicate_succ, List.singleton_append]
theorem putC_one (l : List VV) (i : Nat) (x : VV) (h : i < l.length) : putC l i [x] = l.set i x := by
  unfold putC
  rw [List.set_eq_take_append_cons_drop, if_pos h]; rfl
theorem set_vi (a : List Int) (i : Nat) (x : Int) : (a.map vi).set i (vi x) = (a.set i x).map vi := by
  rw [List.map_set]
theorem wrap_u64 (x : Int) : IntKind.u64.wrap x = x % 18446744073709551616 := by simp [IntKind.wrap, IntKind.bits, IntKind.signed]
theorem tmod_pos (x y : Int) (h : 0 ≤ x) : x.tmod y = x % y := Int.tmod_eq_emod_of_nonneg h
/-- Pairs in a row. -/
def flV (l : List (Int × Int)) : List VV := l.flatMap fun p => [vi p.1, vi p.2]
def flP (l : List (Int × Int)) : List PV := l.flatMap fun p => [pi p.1, pi p.2]
def slP (l : List (Int × Int)) : VV := .p (.sl 2 l.length (flP l))
theorem flV_cons (a : Int × Int) (l : List (Int × Int)) : flV (a :: l) = vi a.1 :: vi a.2 :: flV l := rfl
theorem flP_cons (a : Int × Int) (l : List (Int × Int)) : flP (a :: l) = pi a.1 :: pi a.2 :: flP l := rfl
theorem flV_append (l m : List (Int × Int)) : flV (l ++ m) = flV l ++ flV m := by simp [flV]
theorem flV_len : ∀ l : List (Int × Int), (flV l).length = l.length * 2
  | [] => rfl
  | a :: l => by rw [flV_cons]; simp only [List.length_cons, flV_len l]; omega
theorem flP_len : ∀ l : List (Int × Int), (flP l).length = l.length * 2
  | [] => rfl
  | a :: l => by rw [flP_cons]; simp only [List.length_cons, flP_len l]; omega
theorem flV_nm : ∀ l : List (Int × Int), nmL (flV l) = []
  | [] => rfl
  | a :: l => by rw [flV_cons]; simp only [nmL, flV_nm l]; rfl
theorem flV_ok (l : List (Int × Int)) : (flV l).all okV = true := by
  rw [List.all_eq_true]; intro x hx
  simp only [flV, List.mem_flatMap] at hx
  obtain ⟨a, _, h⟩ := hx
  rcases List.mem_cons.1 h with rfl | h
  · rfl
  · rw [List.mem_singleton.1 h]; rfl
theorem flP_map : ∀ l : List (Int × Int), (flP l).map VV.p = flV l
  | [] => rfl
  | a :: l => by rw [flP_cons, flV_cons, List.map_cons, List.map_cons, flP_map l]; rfl
theorem flV_pv : ∀ l : List (Int × Int), toPVs (flV l) = some (flP l)
  | [] => rfl
  | a :: l => by rw [flV_cons, flP_cons]; simp only [toPVs, flV_pv l]; rfl
theorem flV_snoc (l : List (Int × Int)) (a b : Int) : flV (l ++ [(a, b)]) = flV l ++ [vi a, vi b] := by simp [flV]
theorem drop_flP : ∀ {l : List (Int × Int)} {i : Nat} (h : i < l.length), (flP l).drop (i * 2) = pi l[i].1 :: pi l[i].2 :: flP (l.drop (i + 1))
  | [], i, h => absurd h (Nat.not_lt_zero i)
  | a :: l, 0, _ => rfl
  | a :: l, i + 1, h => by
    have h' : i < l.length := by simpa using h
    rw [show (i + 1) * 2 = i * 2 + 2 from by omega, flP_cons, List.drop_succ_cons, List.drop_succ_cons, drop_flP h']; rfl
theorem drop_flV : ∀ {l : List (Int × Int)} {i : Nat} (h : i < l.length), (flV l).drop (i * 2) = vi l[i].1 :: vi l[i].2 :: flV (l.drop (i + 1))
  | [], i, h => absurd h (Nat.not_lt_zero i)
  | a :: l, 0, _ => rfl
  | a :: l, i + 1, h => by
    have h' : i < l.length := by simpa using h
    rw [show (i + 1) * 2 = i * 2 + 2 from by omega, flV_cons, List.drop_succ_cons, List.drop_succ_cons, drop_flV h']; rfl
theorem take_flP : ∀ (l : List (Int × Int)) (i : Nat), (flP l).take (i * 2) = flP (l.take i)
  | l, 0 => by simp [flP]
  | [], i + 1 => by simp [flP]
  | a :: l, i + 1 => by rw [show (i + 1) * 2 = i * 2 + 2 from by omega, flP_cons, List.take_succ_cons, List.take_succ_cons, take_flP l i, List.take_succ_cons, flP_cons]
theorem take_flV : ∀ (l : List (Int × Int)) (i : Nat), (flV l).take (i * 2) = flV (l.take i)
  | l, 0 => by simp [flV]
  | [], i + 1 => by simp [flV]
  | a :: l, i + 1 => by rw [show (i + 1) * 2 = i * 2 + 2 from by omega, flV_cons, List.take_succ_cons, List.take_succ_cons, take_flV l i, List.take_succ_cons, flV_cons]
theorem putC_flV {l : List (Int × Int)} {i : Nat} (a b : Int) (h : i < l.length) : putC (flV l) (i * 2) [.p (.at (.int .i64 a)), .p (.at (.int .i64 b))] = flV (l.set i (a, b)) := by
  unfold putC
  rw [List.set_eq_take_append_cons_drop, if_pos h, flV_append, flV_cons, take_flV]
  congr 1
  have := drop_flV h
  have h2 : (flV l).drop (i * 2 + [VV.p (.at (.int .i64 a)), .p (.at (.int .i64 b))].length) = ((flV l).drop (i * 2)).drop 2 := by rw [List.drop_drop]; rfl
  rw [h2, this]; rfl
theorem eqV2 {a0 a1 b0 b1 : Int} : eqV (.cells [.int, .int]) (.agg [.p (.at (.int .i64 a0)), .p (.at (.int .i64 a1))]) (.agg [.p (.at (.int .i64 b0)), .p (.at (.int .i64 b1))]) = some (decide (a0 = b0 ∧ a1 = b1)) := by
  show some ((a0 == b0) && ((a1 == b1) && true)) = _
  congr 1
  rw [Bool.eq_iff_iff]
  simp
theorem eqV3 {a0 a1 a2 b0 b1 b2 : Int} : eqV (.cells [.int, .int, .int]) (.agg [.p (.at (.int .i64 a0)), .p (.at (.int .i64 a1)), .p (.at (.int .i64 a2))]) (.agg [.p (.at (.int .i64 b0)), .p (.at (.int .i64 b1)), .p (.at (.int .i64 b2))]) = some (decide (a0 = b0 ∧ a1 = b1 ∧ a2 = b2)) := by
  show some ((a0 == b0) && ((a1 == b1) && ((a2 == b2) && true))) = _
  congr 1
  rw [Bool.eq_iff_iff]
  simp
theorem bneT (b : Bool) : (b != true) = !b := by cases b <;> rfl
theorem bneF (b : Bool) : (b != false) = b := by cases b <;> rfl
theorem frzL_vi (a : Pa) (cs : List PV) : ∀ l : List Int, frzL a cs (l.map vi) = l.map vi
  | [] => rfl
  | x :: l => by simp only [List.map_cons, frzL, frzL_vi a cs l]; rfl
theorem frzL_flV (a : Pa) (cs : List PV) : ∀ l : List (Int × Int), frzL a cs (flV l) = flV l
  | [] => rfl
  | x :: l => by rw [flV_cons]; simp only [frzL, frzL_flV a cs l]; rfl
theorem dead_flV (a : Pa) : ∀ l : List (Int × Int), (flV l).map (deadV a) = flV l
  | [] => rfl
  | x :: l => by rw [flV_cons]; simp only [List.map_cons, dead_flV a l]; rfl
theorem eqV_slice (x y : VV) : eqV .slice x y = (match nilS x, nilS y with
    | some true, some b => some b
    | some false, some true => some false
    | _, _ => none) := rfl
theorem eqV_ptr (x y : VV) : eqV .ptr x y = (match nilP x, nilP y with
    | some true, some b => some b
    | some false, some true => some false
    | _, _ => none) := rfl
theorem eqV_func (x y : VV) : eqV .func x y = (match nilF x, nilF y with
    | some false, some true => some false
    | _, _ => none) := rfl
theorem get_flV0 : ∀ {l : List (Int × Int)} {i : Nat} (h : i < l.length), (flV l)[i * 2]? = some (vi l[i].1)
  | [], i, h => absurd h (Nat.not_lt_zero i)
  | a :: l, 0, _ => rfl
  | a :: l, i + 1, h => by
    have h' : i < l.length := by simpa using h
    rw [show (i + 1) * 2 = i * 2 + 1 + 1 from by omega, flV_cons, List.getElem?_cons_succ, List.getElem?_cons_succ, get_flV0 h']; rfl
theorem get_flV1 : ∀ {l : List (Int × Int)} {i : Nat} (h : i < l.length), (flV l)[i * 2 + 1]? = some (vi l[i].2)
  | [], i, h => absurd h (Nat.not_lt_zero i)
  | a :: l, 0, _ => rfl
  | a :: l, i + 1, h => by
    have h' : i < l.length := by simpa using h
    rw [show (i + 1) * 2 + 1 = i * 2 + 1 + 1 + 1 from by omega, flV_cons, List.getElem?_cons_succ, List.getElem?_cons_succ, get_flV1 h']; rfl
theorem nmL_map_p : ∀ l : List PV, nmL (l.map VV.p) = []
  | [] => rfl
  | x :: l => by simp only [List.map_cons, nmL, nmL_map_p l]; rfl
theorem frzL_map_p (a : Pa) (cs : List PV) : ∀ l : List PV, frzL a cs (l.map VV.p) = l.map VV.p
  | [] => rfl
  | x :: l => by simp only [List.map_cons, frzL, frzL_map_p a cs l]; rfl
theorem okL_p (l : List PV) : (l.map VV.p).all okV = true := by
  rw [List.all_eq_true]; intro x hx
  obtain ⟨y, _, rfl⟩ := List.mem_map.1 hx
  rfl
theorem toPVs_p : ∀ l : List PV, toPVs (l.map VV.p) = some l
  | [] => rfl
  | x :: l => by simp only [List.map_cons, toPVs, toPVs_p l]; rfl
theorem repsZ (n : Nat) : repsV [.p (.at (.int .i64 0))] n = (List.replicate n (0 : Int)).map vi := by rw [repsV_one, List.map_replicate]; rfl
theorem nmL_reps (x : PV) : ∀ n, nmL (repsV [.p x] n) = []
  | 0 => rfl
  | n + 1 => by simp only [repsV, List.singleton_append, nmL, nmL_reps x n]; rfl
theorem putC_vi (l : List Int) (i : Nat) (v : Int) (h : i < l.length) : putC (l.map vi) i [.p (.at (.int .i64 v))] = (l.set i v).map vi := by
  rw [putC_one _ _ _ (by simpa using h)]; exact set_vi l i v
/-- Maps whose values bear no names: structs, and single cells. -/
def ofAg (es : List (Value × List PV)) : List (Value × VV) := es.map fun e => (e.1, .agg (e.2.map .p))
def ofAt (es : List (Value × PV)) : List (Value × VV) := es.map fun e => (e.1, .p e.2)
theorem nmE_ag : ∀ es, nmE (ofAg es) = []
  | [] => rfl
  | e :: es => by
    have := nmE_ag es
    simp only [ofAg] at this
    simp only [ofAg, List.map_cons, nmE, nm, nmL_map_p, this]; rfl
theorem nmE_at : ∀ es, nmE (ofAt es) = []
  | [] => rfl
  | e :: es => by
    have := nmE_at es
    simp only [ofAt] at this
    simp only [ofAt, List.map_cons, nmE, nm, this]; rfl
theorem frzE_ag (a : Pa) (cs : List PV) (es : List (Value × List PV)) : ((ofAg es).map fun e => (e.1, frzV a cs e.2)) = ofAg es := by
  unfold ofAg; rw [List.map_map]
  exact List.map_congr_left fun e _ => by simp only [Function.comp, frzV, frzL_map_p]
theorem frzE_at (a : Pa) (cs : List PV) (es : List (Value × PV)) : ((ofAt es).map fun e => (e.1, frzV a cs e.2)) = ofAt es := by
  unfold ofAt; rw [List.map_map]
  exact List.map_congr_left fun e _ => rfl
theorem ofAg_len (es : List (Value × List PV)) : (ofAg es).length = es.length := by simp [ofAg]
theorem ofAt_len (es : List (Value × PV)) : (ofAt es).length = es.length := by simp [ofAt]
theorem atL_vi : ∀ l : List Int, atL (l.map vi) = some (l.map (Value.int .i64))
  | [] => rfl
  | x :: l => by simp only [List.map_cons, atL, atL_vi l]; rfl
end Go.Ab.V

/- Rules that find the states by themselves. -/
namespace Go.Ab.V
/-- What a walk's equations are decided by; with facts of one's own. -/
theorem vE {α : Sort _} {a b : α} (h : a = b := by simp (disch := omega) only [vev_call, putC_c0, putC_n0, putC_cs, ble0, List.getElem?_cons_zero, List.getElem?_cons_succ, runU, isCall, wantV, vev, evV, ofVal, ofAtom, atomB, cond_true, cond_false, PT.get, PT.set, PT.filt, PT.map, Option.getD_some, Option.getD_none, ret1V, ret1X, v_ld, v_ias, v_iad, v_fad, v_slsl, v_slarr, v_st, v_app, v_cpy, v_clr, v_len, v_look, v_mset, elsV, partV, newV, free, atV, atI, atL, toVal, cellsV, okV, VSt.put, VSt.kill, VSt.alloc, VSt.frz, VSt.adopt, noref, norefB, deadB, deadV, nos, nm, nmL, nmB, nmE, Pa.eqb, Bool.not_false, Bool.not_true, Bool.and_true, Bool.true_and, Bool.false_and, Bool.and_false, bin, intOps, intBin, cvt, un, goInt, bndsV, bndV, Option.map_some, Option.map_none, List.map_cons, List.map_nil, Int.toNat_natCast, Nat.mul_one, Nat.zero_add, beq_true, beq_false, beq_self_eq_true, List.length_map, List.length_cons, List.length_nil, List.length_append, fillV, pEvV, repsV, List.append_nil, List.nil_append, if_pos, if_neg, reduceIte, List.getElem?_map, List.getElem?_drop, Nat.add_zero, List.getElem?_eq_getElem, Go.IntWalk.i64_in, wrap_u64, tmod_pos, eq_self, true_and, and_true, and_self, List.all_cons, List.all_nil, nmL_vi, flV_len, flP_len, flV_nm, flV_ok, flV_pv, flP_map, drop_flP, drop_flV, putC_flV, eqV2, eqV3, bneT, bneF, decide_true, decide_false, frzL_vi, frzL_flV, nmE_ag, nmE_at, frzE_ag, frzE_at, ofAg_len, ofAt_len, atL_vi, nmL_map_p, frzL_map_p, okL_p, toPVs_p, repsZ, nmL_reps, putC_vi, get_flV0, get_flV1, Int.toNat_zero, Int.toNat_one, Int.reduceToNat, eqV_slice, eqV_ptr, eqV_func, nilS, nilP, nilF, nmL_append, okL_vi, toPVs_vi, toPVs, toPV, frzV, frzL, frzB, resVV, vi, vb, nilV, sl1, bl1, pi, foldV, max2, min2, max_eq, min_eq, Int.tdiv_eq_ediv_of_nonneg, Int.cast_ofNat_Int, Option.isSome_none, Option.isSome_some, Option.isNone_none, Option.isNone_some, and_false, false_and, sl2, sl1P, slP, min_cast, take_map_pi, map_pi, Nat.sub_zero, Nat.zero_mul, List.length_take, decide_eq_true, decide_eq_false, Bool.true_eq_false, Bool.false_eq_true, beqT, beqF, ibeq, ibne, List.take_zero, List.take_succ_cons, List.drop_zero, List.drop_succ_cons, List.drop_nil, List.take_nil, List.cons_append, Bool.not_true, Bool.not_false]; rfl) : a = b := h
theorem vE0 {α : Sort _} {a b : α} (h : a = b := by simp (disch := omega) only [vev_call, putC_c0, putC_n0, putC_cs, ble0, List.getElem?_cons_zero, List.getElem?_cons_succ, runU, isCall, wantV, vev, evV, ofVal, ofAtom, atomB, cond_true, cond_false, PT.get, PT.set, PT.filt, PT.map, Option.getD_some, Option.getD_none, ret1V, ret1X, v_ld, v_ias, v_iad, v_fad, v_slsl, v_slarr, v_st, v_app, v_cpy, v_clr, v_len, v_look, v_mset, elsV, partV, newV, free, atV, atI, atL, toVal, cellsV, okV, VSt.put, VSt.kill, VSt.alloc, VSt.frz, VSt.adopt, noref, norefB, deadB, deadV, nos, nm, nmL, nmB, nmE, Pa.eqb, Bool.not_false, Bool.not_true, Bool.and_true, Bool.true_and, Bool.false_and, Bool.and_false, bin, intOps, intBin, cvt, un, goInt, bndsV, bndV, Option.map_some, Option.map_none, List.map_cons, List.map_nil, Int.toNat_natCast, Nat.mul_one, Nat.zero_add, beq_true, beq_false, beq_self_eq_true, List.length_map, List.length_cons, List.length_nil, List.length_append, fillV, pEvV, repsV, List.append_nil, List.nil_append, if_pos, if_neg, reduceIte, List.getElem?_map, List.getElem?_drop, Nat.add_zero, List.getElem?_eq_getElem, Go.IntWalk.i64_in, wrap_u64, tmod_pos, eq_self, true_and, and_true, and_self, List.all_cons, List.all_nil, nmL_vi, flV_len, flP_len, flV_nm, flV_ok, flV_pv, flP_map, drop_flP, drop_flV, putC_flV, eqV2, eqV3, bneT, bneF, decide_true, decide_false, frzL_vi, frzL_flV, nmE_ag, nmE_at, frzE_ag, frzE_at, ofAg_len, ofAt_len, atL_vi, nmL_map_p, frzL_map_p, okL_p, toPVs_p, repsZ, nmL_reps, putC_vi, get_flV0, get_flV1, Int.toNat_zero, Int.toNat_one, Int.reduceToNat, eqV_slice, eqV_ptr, eqV_func, nilS, nilP, nilF, nmL_append, okL_vi, toPVs_vi, toPVs, toPV, frzV, frzL, frzB, resVV, vi, vb, nilV, sl1, bl1, pi, foldV, max2, min2, max_eq, min_eq, Int.tdiv_eq_ediv_of_nonneg, Int.cast_ofNat_Int, Option.isSome_none, Option.isSome_some, Option.isNone_none, Option.isNone_some, and_false, false_and, sl2, sl1P, slP, min_cast, take_map_pi, map_pi, Nat.sub_zero, Nat.zero_mul, List.length_take, decide_eq_true, decide_eq_false, Bool.true_eq_false, Bool.false_eq_true, beqT, beqF, ibeq, ibne, List.take_zero, List.take_succ_cons, List.drop_zero, List.drop_succ_cons, List.drop_nil, List.take_nil, List.cons_append, Bool.not_true, Bool.not_false] <;> fail) : a = b := h
theorem vE1 {α : Sort _} {a b : α} (h : a = b := by simp (disch := omega) only [vev_call, putC_c0, putC_n0, putC_cs, ble0, List.getElem?_cons_zero, List.getElem?_cons_succ, runU, isCall, wantV, vev, evV, ofVal, ofAtom, atomB, cond_true, cond_false, PT.get, PT.set, PT.filt, PT.map, Option.getD_some, Option.getD_none, ret1V, ret1X, v_ld, v_ias, v_iad, v_fad, v_slsl, v_slarr, v_st, v_app, v_cpy, v_clr, v_len, v_look, v_mset, elsV, partV, newV, free, atV, atI, atL, toVal, cellsV, okV, VSt.put, VSt.kill, VSt.alloc, VSt.frz, VSt.adopt, noref, norefB, deadB, deadV, nos, nm, nmL, nmB, nmE, Pa.eqb, Bool.not_false, Bool.not_true, Bool.and_true, Bool.true_and, Bool.false_and, Bool.and_false, bin, intOps, intBin, cvt, un, goInt, bndsV, bndV, Option.map_some, Option.map_none, List.map_cons, List.map_nil, Int.toNat_natCast, Nat.mul_one, Nat.zero_add, beq_true, beq_false, beq_self_eq_true, List.length_map, List.length_cons, List.length_nil, List.length_append, fillV, pEvV, repsV, List.append_nil, List.nil_append, if_pos, if_neg, reduceIte, List.getElem?_map, List.getElem?_drop, Nat.add_zero, List.getElem?_eq_getElem, Go.IntWalk.i64_in, wrap_u64, tmod_pos, eq_self, true_and, and_true, and_self, List.all_cons, List.all_nil, nmL_vi, flV_len, flP_len, flV_nm, flV_ok, flV_pv, flP_map, drop_flP, drop_flV, putC_flV, eqV2, eqV3, bneT, bneF, decide_true, decide_false, frzL_vi, frzL_flV, nmE_ag, nmE_at, frzE_ag, frzE_at, ofAg_len, ofAt_len, atL_vi, nmL_map_p, frzL_map_p, okL_p, toPVs_p, repsZ, nmL_reps, putC_vi, get_flV0, get_flV1, Int.toNat_zero, Int.toNat_one, Int.reduceToNat, eqV_slice, eqV_ptr, eqV_func, nilS, nilP, nilF, nmL_append, okL_vi, toPVs_vi, toPVs, toPV, frzV, frzL, frzB, resVV, vi, vb, nilV, sl1, bl1, pi, foldV, max2, min2, max_eq, min_eq, Int.tdiv_eq_ediv_of_nonneg, Int.cast_ofNat_Int, Option.isSome_none, Option.isSome_some, Option.isNone_none, Option.isNone_some, and_false, false_and, sl2, sl1P, slP, min_cast, take_map_pi, map_pi, Nat.sub_zero, Nat.zero_mul, List.length_take, decide_eq_true, decide_eq_false, Bool.true_eq_false, Bool.false_eq_true, beqT, beqF, ibeq, ibne, List.take_zero, List.take_succ_cons, List.drop_zero, List.drop_succ_cons, List.drop_nil, List.take_nil, List.cons_append, Bool.not_true, Bool.not_false] <;> rfl) : a = b := h
theorem vF {α : Sort _} {a b : α} {φ : Prop} (hφ : φ) (h : φ → a = b := by intro hh; simp (config := {decide := false, maxSteps := 1000000}) (disch := omega) only [vev_call, putC_c0, putC_n0, putC_cs, ble0, List.getElem?_cons_zero, List.getElem?_cons_succ, runU, isCall, wantV, vev, evV, ofVal, ofAtom, atomB, cond_true, cond_false, PT.get, PT.set, PT.filt, PT.map, Option.getD_some, Option.getD_none, ret1V, ret1X, v_ld, v_ias, v_iad, v_fad, v_slsl, v_slarr, v_st, v_app, v_cpy, v_clr, v_len, v_look, v_mset, elsV, partV, newV, free, atV, atI, atL, toVal, cellsV, okV, VSt.put, VSt.kill, VSt.alloc, VSt.frz, VSt.adopt, noref, norefB, deadB, deadV, nos, nm, nmL, nmB, nmE, Pa.eqb, Bool.not_false, Bool.not_true, Bool.and_true, Bool.true_and, Bool.false_and, Bool.and_false, bin, intOps, intBin, cvt, un, goInt, bndsV, bndV, Option.map_some, Option.map_none, List.map_cons, List.map_nil, Int.toNat_natCast, Nat.mul_one, Nat.zero_add, beq_true, beq_false, beq_self_eq_true, List.length_map, List.length_cons, List.length_nil, List.length_append, fillV, pEvV, repsV, List.append_nil, List.nil_append, if_pos, if_neg, reduceIte, List.getElem?_map, List.getElem?_drop, Nat.add_zero, List.getElem?_eq_getElem, Go.IntWalk.i64_in, wrap_u64, tmod_pos, eq_self, true_and, and_true, and_self, List.all_cons, List.all_nil, nmL_vi, flV_len, flP_len, flV_nm, flV_ok, flV_pv, flP_map, drop_flP, drop_flV, putC_flV, eqV2, eqV3, bneT, bneF, decide_true, decide_false, frzL_vi, frzL_flV, nmE_ag, nmE_at, frzE_ag, frzE_at, ofAg_len, ofAt_len, atL_vi, nmL_map_p, frzL_map_p, okL_p, toPVs_p, repsZ, nmL_reps, putC_vi, get_flV0, get_flV1, Int.toNat_zero, Int.toNat_one, Int.reduceToNat, eqV_slice, eqV_ptr, eqV_func, nilS, nilP, nilF, nmL_append, okL_vi, toPVs_vi, toPVs, toPV, frzV, frzL, frzB, resVV, vi, vb, nilV, sl1, bl1, pi, foldV, max2, min2, max_eq, min_eq, Int.tdiv_eq_ediv_of_nonneg, Int.cast_ofNat_Int, Option.isSome_none, Option.isSome_some, Option.isNone_none, Option.isNone_some, and_false, false_and, sl2, sl1P, slP, min_cast, take_map_pi, map_pi, Nat.sub_zero, Nat.zero_mul, List.length_take, decide_eq_true, decide_eq_false, Bool.true_eq_false, Bool.false_eq_true, beqT, beqF, ibeq, ibne, List.take_zero, List.take_succ_cons, List.drop_zero, List.drop_succ_cons, List.drop_nil, List.take_nil, List.cons_append, Bool.not_true, Bool.not_false, hh]; rfl) : a = b := h hφ
theorem vN {α : Sort _} {a b : α} (h : a = b := by simp (config := {decide := false, maxSteps := 1000000}) (disch := omega) only [vev_call, putC_c0, putC_n0, putC_cs, ble0, List.getElem?_cons_zero, List.getElem?_cons_succ, runU, isCall, wantV, vev, evV, ofVal, ofAtom, atomB, cond_true, cond_false, PT.get, PT.set, PT.filt, PT.map, Option.getD_some, Option.getD_none, ret1V, ret1X, v_ld, v_ias, v_iad, v_fad, v_slsl, v_slarr, v_st, v_app, v_cpy, v_clr, v_len, v_look, v_mset, elsV, partV, newV, free, atV, atI, atL, toVal, cellsV, okV, VSt.put, VSt.kill, VSt.alloc, VSt.frz, VSt.adopt, noref, norefB, deadB, deadV, nos, nm, nmL, nmB, nmE, Pa.eqb, Bool.not_false, Bool.not_true, Bool.and_true, Bool.true_and, Bool.false_and, Bool.and_false, bin, intOps, intBin, cvt, un, goInt, bndsV, bndV, Option.map_some, Option.map_none, List.map_cons, List.map_nil, Int.toNat_natCast, Nat.mul_one, Nat.zero_add, beq_true, beq_false, beq_self_eq_true, List.length_map, List.length_cons, List.length_nil, List.length_append, fillV, pEvV, repsV, List.append_nil, List.nil_append, if_pos, if_neg, reduceIte, List.getElem?_map, List.getElem?_drop, Nat.add_zero, List.getElem?_eq_getElem, Go.IntWalk.i64_in, wrap_u64, tmod_pos, eq_self, true_and, and_true, and_self, List.all_cons, List.all_nil, nmL_vi, flV_len, flP_len, flV_nm, flV_ok, flV_pv, flP_map, drop_flP, drop_flV, putC_flV, eqV2, eqV3, bneT, bneF, decide_true, decide_false, frzL_vi, frzL_flV, nmE_ag, nmE_at, frzE_ag, frzE_at, ofAg_len, ofAt_len, atL_vi, nmL_map_p, frzL_map_p, okL_p, toPVs_p, repsZ, nmL_reps, putC_vi, get_flV0, get_flV1, Int.toNat_zero, Int.toNat_one, Int.reduceToNat, eqV_slice, eqV_ptr, eqV_func, nilS, nilP, nilF, nmL_append, okL_vi, toPVs_vi, toPVs, toPV, frzV, frzL, frzB, resVV, vi, vb, nilV, sl1, bl1, pi, foldV, max2, min2, max_eq, min_eq, Int.tdiv_eq_ediv_of_nonneg, Int.cast_ofNat_Int, Option.isSome_none, Option.isSome_some, Option.isNone_none, Option.isNone_some, and_false, false_and, sl2, sl1P, slP, min_cast, take_map_pi, map_pi, Nat.sub_zero, Nat.zero_mul, List.length_take, decide_eq_true, decide_eq_false, Bool.true_eq_false, Bool.false_eq_true, beqT, beqF, ibeq, ibne, List.take_zero, List.take_succ_cons, List.drop_zero, List.drop_succ_cons, List.drop_nil, List.take_nil, List.cons_append, Bool.not_true, Bool.not_false]; rfl) : a = b := h
theorem gW {S S' : VSt} (h : VLe S' S := by constructor <;> simp (config := {decide := true}) only [PT.Le, inV, mkB, PT.set, VSt.kill, VSt.adopt, VSt.alloc, PT.filt, PT.map, List.map_cons, List.map_nil, noref, norefB, deadB, deadV, nos, nm, nmL, nmB, nmE, Pa.eqb, cond_true, cond_false, Bool.not_true, Bool.not_false, Bool.and_true, Bool.true_and, nmL_vi, flV_len, flP_len, flV_nm, flV_ok, flV_pv, flP_map, drop_flP, drop_flV, putC_flV, eqV2, eqV3, bneT, bneF, decide_true, decide_false, frzL_vi, frzL_flV, nmE_ag, nmE_at, frzE_ag, frzE_at, ofAg_len, ofAt_len, atL_vi, nmL_map_p, frzL_map_p, okL_p, toPVs_p, repsZ, nmL_reps, putC_vi, get_flV0, get_flV1, Int.toNat_zero, Int.toNat_one, Int.reduceToNat, eqV_slice, eqV_ptr, eqV_func, nilS, nilP, nilF, nmL_append, true_or, or_true, and_self, true_and, and_true, Option.some.injEq, reduceCtorEq, false_or, or_false, VV.p.injEq, PV.at.injEq, Value.int.injEq, sl1, vi, bl1, vb, nilV, slP, sl2, sl1P, List.take_zero, List.append_nil, List.nil_append] <;> first | rfl | omega | exact ⟨rfl, by omega⟩) : G S S' := G.weak h
theorem gF {S S' : VSt} {φ : Prop} (hφ : φ) (h : φ → VLe S' S := by intro hh; constructor <;> simp (config := {decide := true}) only [PT.Le, inV, mkB, PT.set, VSt.kill, VSt.adopt, VSt.alloc, PT.filt, PT.map, List.map_cons, List.map_nil, noref, norefB, deadB, deadV, nos, nm, nmL, nmB, nmE, Pa.eqb, cond_true, cond_false, Bool.not_true, Bool.not_false, Bool.and_true, Bool.true_and, nmL_vi, flV_len, flP_len, flV_nm, flV_ok, flV_pv, flP_map, drop_flP, drop_flV, putC_flV, eqV2, eqV3, bneT, bneF, decide_true, decide_false, frzL_vi, frzL_flV, nmE_ag, nmE_at, frzE_ag, frzE_at, ofAg_len, ofAt_len, atL_vi, nmL_map_p, frzL_map_p, okL_p, toPVs_p, repsZ, nmL_reps, putC_vi, get_flV0, get_flV1, Int.toNat_zero, Int.toNat_one, Int.reduceToNat, eqV_slice, eqV_ptr, eqV_func, nilS, nilP, nilF, nmL_append, true_or, or_true, and_self, true_and, and_true, Option.some.injEq, reduceCtorEq, false_or, or_false, VV.p.injEq, PV.at.injEq, Value.int.injEq, sl1, vi, bl1, vb, nilV, slP, sl2, sl1P, List.take_zero, List.append_nil, List.nil_append, hh] <;> first | rfl | omega | exact ⟨rfl, by omega⟩) : G S S' := G.weak (h hφ)
section
variable {S S' : VSt} {C : Cfg}
theorem VC.regA {Q : Ex → VSt → Prop} {ops : List AOper} (hq : Q .normal S') (he : runU ops S = some ([], S') := by exact vE) : VC C (.reg ops []) S Q := VC.regU he hq
theorem VC.regCA {Q : Ex → VSt → Prop} {ops rest : List AOper} (hq : VO C rest S' (Q .normal)) (he : runU ops S = some (rest, S') := by exact vE) : VC C (.reg ops []) S Q := VC.regC he hq
theorem VO.moreA {Q : VSt → Prop} {ops rest : List AOper} (hq : VO C rest S' Q) (he : runU ops S = some (rest, S') := by exact vE) : VO C ops S Q := VO.upto he hq
theorem VO.endA {Q : VSt → Prop} {ops : List AOper} (hq : Q S') (he : runU ops S = some ([], S') := by exact vE) : VO C ops S Q := VO.upto he (.nil hq)
theorem VC.condA {Q : Ex → VSt → Prop} {o : Opd} {a b : ACode} {p : Bool} (ha : p = true → VC C a S Q) (hb : p = false → VC C b S Q) (ht : evV S o = .p (.at (.bool p)) := by exact vE) : VC C (.cond o a b) S Q := VC.cond p ht ha hb
theorem VC.condT {Q : Ex → VSt → Prop} {o : Opd} {a b : ACode} (ha : VC C a S Q) (ht : evV S o = .p (.at (.bool true)) := by exact vE0) : VC C (.cond o a b) S Q := VC.cond true ht (fun _ => ha) (fun h => by cases h)
theorem VC.condF {Q : Ex → VSt → Prop} {o : Opd} {a b : ACode} (hb : VC C b S Q) (ht : evV S o = .p (.at (.bool false)) := by exact vE0) : VC C (.cond o a b) S Q := VC.cond false ht (fun h => by cases h) (fun _ => hb)
/-- A loop, from a state that says at least as much. -/
theorem VC.loopG {Q : Ex → VSt → Prop} {c : ACode} {σ : Type} (T : σ → VSt) (I : Nat → σ → Prop) {n : Nat} {x : σ} (hg : G S (T x)) (hi : I n x) (hr : ∀ n x, I n x → VC C c (T x) (fun e S' => match e with
      | .normal => ∃ m y, m < n ∧ I m y ∧ G S' (T y)
      | e => Q e S')) : VC C (.loop c) S Q := VC.ghost hg (VC.loop T I hr hi)
theorem G.adoptA {p : Pa} (u : Nat) (d : Pa) {S2 : VSt} (hq : G (S.adopt p u d) S2) (hp : emptyV ((PT.get p S.L).getD .dead) = true := by rfl) (hf : free S d = true := by rfl) : G S S2 := (G.adopt u d hp hf).trans hq
/-- A pure call by its contract. -/
theorem VO.call0A {Q : VSt → Prop} {d : Option Pa} {gd : Option (Pa × Bool)} {g : Opd} {args : List Opd} {r : List AOper} {f : Nat} {first cap L : List VV} {y : VV} (ho : ∀ l b, C.orc f l b = none) (hc : VCall C f L [] [] y [])
    (hq : VO C r (S.put d y) Q) (hg : evV S g = .clos f first cap := by exact vE) (hl : first ++ args.map (evV S) ++ cap = L := by exact vE0) (hw : wantV S gd = some true := by exact vE0) : VO C (⟨d, gd, .call g args⟩ :: r) S Q :=
  VO.call0 hw hg ho (by rw [hl]; exact hc) hq
theorem VO.knownA {Q : VSt → Prop} {d : Option Pa} {gd : Option (Pa × Bool)} {g : Opd} {r : List AOper} {f : Nat} (w : Value) (ho : C.awk = some (f, w)) (hq : VO C r (S.put d (.p (.at w))) Q) (hg : evV S g = .clos f [] [] := by exact vE1)
    (hwt : wantV S gd = some true := by exact vE0) (hw : atomB w = true := by rfl) : VO C (⟨d, gd, .call g []⟩ :: r) S Q := VO.known hwt hg ho hw hq
theorem Fin.A {rs : List ARes} {K N : List Pa} {y : VV} {ys : List VV} (hy : y = resX ys) (hys : resVV S rs = some ys := by exact vE) (hK : S.K = K := by rfl) (hH : S.H = none := by rfl) (hn : subs (nm y ++ nmsB []) (N ++ K) = true := by rfl) : Fin S rs K N y [] := Fin.of (B' := []) hys hy trivial hK hH hn
theorem Fin.frzA {rs : List ARes} {K N : List Pa} {y : VV} {B' : List (Pa × VB)} {l : List VV} {cs : List PV} (a : Pa) (f : Fin (S.frz a cs) rs K N y B') (hb : PT.get a S.B = some (.cells l) := by exact vE) (hc : toPVs l = some cs := by exact vE) (hf : free S a = true := by rfl) : Fin S rs K N y B' := Fin.ghost (G.frz hb hc hf) f
theorem VO.frzA {Q : VSt → Prop} {ops : List AOper} {l : List VV} {cs : List PV} (a : Pa) (hq : VO C ops (S.frz a cs) Q) (hb : PT.get a S.B = some (.cells l) := by exact vE) (hc : toPVs l = some cs := by exact vE) (hf : free S a = true := by rfl) : VO C ops S Q := VO.ghost (G.frz hb hc hf) hq
theorem VC.frzA {Q : Ex → VSt → Prop} {c : ACode} {l : List VV} {cs : List PV} (a : Pa) (hq : VC C c (S.frz a cs) Q) (hb : PT.get a S.B = some (.cells l) := by exact vE) (hc : toPVs l = some cs := by exact vE) (hf : free S a = true := by rfl) : VC C c S Q := VC.ghost (G.frz hb hc hf) hq
end
end Go.Ab.V

/- Macros for exploring alone: never in a claim. -/
namespace Go.Ab.V
end Go.Ab.V
namespace Go.Ab.V
theorem VO.uptoE {C : Cfg} {S S' : VSt} {Q : VSt → Prop} {ops : List AOper} (he : runU ops S = some ([], S')) (hq : Q S') : VO C ops S Q := .upto he (.nil hq)
end Go.Ab.V

/- Ranges over functions: what the tactics do of themselves. -/
namespace Go.Ab.V
section
variable {S S' : VSt} {C : Cfg}
/-- The names that slots bear. -/
def NmOk (N : List Pa) : PT VV → Prop
  | .lf => True
  | .nd none l r => NmOk N l ∧ NmOk N r
  | .nd (some x) l r => (∀ a ∈ nm x, a ∈ N) ∧ NmOk N l ∧ NmOk N r
theorem NmOk.get {N : List Pa} : ∀ {t : PT VV} {p : Pa} {x : VV}, NmOk N t → PT.get p t = some x → ∀ a ∈ nm x, a ∈ N
  | .lf, p, x, _, h => by cases p <;> simp [PT.get] at h
  | .nd v l r, p, x, hk, h => by
    have hl : NmOk N l := by cases v with
      | none => exact hk.1
      | some _ => exact hk.2.1
    have hr : NmOk N r := by cases v with
      | none => exact hk.2
      | some _ => exact hk.2.2
    cases p with
    | z =>
      have h : v = some x := h
      subst h; exact hk.1
    | l p => exact NmOk.get (t := l) hl h
    | r p => exact NmOk.get (t := r) hr h
theorem VO.yieldA {Q : VSt → Prop} {d : Option Pa} {gd : Option (Pa × Bool)} {g : Opd} {args : List Opd} {r : List AOper} {k : Nat} {rest : List Itm} {st : Bool} {ys : List VV} {Bf : List (Pa × VB)}
    (hq : ∀ b, (st = true → b = true → rest ≠ []) → VO C r (VSt.put ⟨S.L, S.B, S.K, some ⟨k, rest, b, st⟩⟩ d (.p (.at (.bool b)))) Q) (hH : S.H = some ⟨k, (ys, Bf) :: rest, true, st⟩ := by rfl)
    (hg : evV S g = .yl k := by exact vE0)
    (hy : args.map (evV S) = ys := by exact vE0)
    (hB : PT.Le (mkB Bf .lf) S.B := by trivial)
    (hn : subs (nmL ys ++ nmsB Bf) (nmsL Bf) = true := by first | rfl | exact vE0)
    (hw : wantV S gd = some true := by exact vE0) : VO C (⟨d, gd, .call g args⟩ :: r) S Q := VO.yield hw hg hH hy hB hn hq
/-- Items without blocks. -/
def pl (its : List (List VV)) : List Itm := its.map fun a => (a, [])
end
end Go.Ab.V

/- An empty slice in a box is given a name. -/
namespace Go.Ab.V
section
variable {X : Ctx} {S S1 : VSt} {s : Slots} {h : AHeap} {ids : Pa → Option Nat} {F : Nat → Prop} {C : Cfg} {v v' : Value} {x y z : VV}
def _root_.Go.Ab.VSt.adoptB (S : VSt) (p : Pa) (i : Nat) (u : Nat) (d : Pa) (cs : List VV) : VSt := ⟨(S.alloc d (.cells [])).L, PT.set p (S.alloc d (.cells [])).B (some (.cells (cs.set i (.os u d 0)))), S.K, S.H⟩
theorem G.adoptB {p : Pa} {i : Nat} (u : Nat) (d : Pa) {cs : List VV} {x : VV} (hb : PT.get p (S.alloc d (.cells [])).B = some (.cells cs)) (hi : cs[i]? = some x) (hp : emptyV x = true) (hf : free S d = true) : G S (S.adoptB p i u d cs) := by
  intro X s h ids F t
  have t2 := t.newN (free_spec hf)
  have hB : ∀ {a b}, PT.get a (S.adoptB p i u d cs).B = some b → (a = p ∧ b = .cells (cs.set i (.os u d 0))) ∨ PT.get a (S.alloc d (.cells [])).B = some b := by
    intro a b hg
    have hg : PT.get a (PT.set p (S.alloc d (.cells [])).B (some (.cells (cs.set i (.os u d 0))))) = some b := hg
    rw [PT.get_set] at hg
    split at hg
    · rename_i e; cases hg; exact .inl ⟨e, rfl⟩
    · exact .inr hg
  refine ⟨_, F, ⟨t2.wf, t2.base, t2.next, t2.keep, t2.frz, t2.flt, fun a b hg => ?_, fun a b k hg hk => ?_, fun a1 a2 b1 b2 k g1 g2 e1 e2 => ?_, t2.slots, t2.stab, t2.hist, t2.nx⟩⟩
  · rcases hB hg with ⟨rfl, rfl⟩ | hg
    · have r := t2.blk a _ hb
      revert r
      cases hk : updI ids d none a with
      | none =>
        intro r
        have r : cs = [] := r
        subst r; simp at hi
      | some k =>
        rintro ⟨c, h1, h2⟩
        refine ⟨c, h1, by rw [List.length_set]; exact h2.1, fun j w y hw hy => ?_⟩
        rw [List.getElem?_set] at hy
        split at hy
        · rename_i e
          subst e
          split at hy
          · cases hy
            refine .osN (updI_same _ _ _) ?_
            have r := h2.2 i _ _ hw hi
            unfold emptyV at hp
            split at hp
            · exact .inl (at_inv r).1
            · cases r with
              | xs e => exact e
            · cases hp
          · cases hy
        · exact h2.2 j _ _ hw hy
    · exact t2.blk a b hg
  · rcases hB hg with ⟨rfl, rfl⟩ | hg
    · exact t2.own a _ k hb hk
    · exact t2.own a b k hg hk
  · have g1' : ∃ c, PT.get a1 (S.alloc d (.cells [])).B = some c := by
      rcases hB g1 with ⟨rfl, _⟩ | g
      · exact ⟨_, hb⟩
      · exact ⟨_, g⟩
    have g2' : ∃ c, PT.get a2 (S.alloc d (.cells [])).B = some c := by
      rcases hB g2 with ⟨rfl, _⟩ | g
      · exact ⟨_, hb⟩
      · exact ⟨_, g⟩
    obtain ⟨c1, g1'⟩ := g1'
    obtain ⟨c2, g2'⟩ := g2'
    exact t2.inj a1 a2 c1 c2 k g1' g2' e1 e2
theorem G.adoptBA {p : Pa} (i : Nat) (u : Nat) (d : Pa) {cs : List VV} {x : VV} {S2 : VSt} (hq : G (S.adoptB p i u d cs) S2) (hb : PT.get p (S.alloc d (.cells [])).B = some (.cells cs) := by rfl) (hi : cs[i]? = some x := by rfl) (hp : emptyV x = true := by rfl) (hf : free S d = true := by rfl) : G S S2 := (G.adoptB u d hb hi hp hf).trans hq
/-- A slice in a box, seen as a part of its block. -/
def _root_.Go.Ab.VSt.osob (S : VSt) (p : Pa) (i : Nat) (u : Nat) (a : Pa) (n : Nat) (cs : List VV) : VSt := ⟨S.L, PT.set p S.B (some (.cells (cs.set i (.ob u a 0 n n)))), S.K, S.H⟩
theorem G.osob {p : Pa} {i : Nat} {u : Nat} {a : Pa} {n : Nat} {cs : List VV} (hb : PT.get p S.B = some (.cells cs)) (hi : cs[i]? = some (.os u a n)) (hn : n ≠ 0) : G S (S.osob p i u a n cs) := by
  intro X s h ids F t
  have hB : ∀ {a' b}, PT.get a' (S.osob p i u a n cs).B = some b → (a' = p ∧ b = .cells (cs.set i (.ob u a 0 n n))) ∨ PT.get a' S.B = some b := by
    intro a' b hg
    have hg : PT.get a' (PT.set p S.B (some (.cells (cs.set i (.ob u a 0 n n))))) = some b := hg
    rw [PT.get_set] at hg
    split at hg
    · rename_i e; cases hg; exact .inl ⟨e, rfl⟩
    · exact .inr hg
  have hB' : ∀ {a' b}, PT.get a' (S.osob p i u a n cs).B = some b → ∃ c, PT.get a' S.B = some c := fun hg => by
    rcases hB hg with ⟨rfl, _⟩ | g
    · exact ⟨_, hb⟩
    · exact ⟨_, g⟩
  refine ⟨ids, F, ⟨t.wf, t.base, t.next, t.keep, t.frz, t.flt, fun a' b hg => ?_, fun a' b k hg hk => ?_, fun a1 a2 b1 b2 k g1 g2 e1 e2 => ?_, t.slots, t.stab, t.hist, t.nx⟩⟩
  · rcases hB hg with ⟨rfl, rfl⟩ | hg
    · have r := t.blk a' _ hb
      revert r
      cases hk : ids a' with
      | none =>
        intro r
        have r : cs = [] := r
        subst r; simp at hi
      | some k =>
        rintro ⟨c, h1, h2⟩
        refine ⟨c, h1, by rw [List.length_set]; exact h2.1, fun j w y hw hy => ?_⟩
        rw [List.getElem?_set] at hy
        split at hy
        · rename_i e
          subst e
          split at hy
          · cases hy
            have r := h2.2 i _ _ hw hi
            rcases os_inv r with ⟨_, rfl, _⟩ | ⟨k', tg, hk', ht, rfl⟩
            · exact absurd rfl hn
            · exact .ob 0 hk' ht (Nat.le_refl _)
          · cases hy
        · exact h2.2 j _ _ hw hy
    · exact t.blk a' b hg
  · obtain ⟨c, hg⟩ := hB' hg
    exact t.own a' c k hg hk
  · obtain ⟨c1, g1⟩ := hB' g1
    obtain ⟨c2, g2⟩ := hB' g2
    exact t.inj a1 a2 c1 c2 k g1 g2 e1 e2
end
end Go.Ab.V

/- From the second evaluator to the model: a law's call; its arguments. -/
namespace Go.Ab.V
open Go.RowKit (Below)

def selfB : Value → Bool
  | .bool _ | .int .. | .string _ | .pointer none | .slice none _ _ | .map none | .nilFunc | .nilIface => true
  | .pointer (some a) => a.spot.isNone
  | .slice (some a) l c => a.spot.isNone && Nat.ble l c
  | _ => false
def clnS (v : Value) : Value := bif selfB v then v else undef
theorem clnS_vr (J : Inj) (v : Value) : VR J (clnS v) v := by
  unfold clnS
  cases hs : selfB v with
  | false => exact .undef v
  | true =>
    simp only [cond_true]
    unfold selfB at hs
    split at hs
    · exact .bool _
    · exact .int _ _
    · exact .string _
    · exact .ptrN
    · exact .slN _ _
    · exact .mapN
    · exact .nilFunc
    · exact .nilIface
    · rename_i a
      refine .ptr ?_
      unfold AddrR
      rw [Option.isNone_iff_eq_none.1 hs]
    · rename_i a l c
      rw [Bool.and_eq_true] at hs
      refine .sl l (Nat.le_of_ble_eq_true hs.2) ?_
      unfold SlR
      rw [Option.isNone_iff_eq_none.1 hs.1]
      exact ⟨rfl, .inr rfl⟩
    · cases hs
def cln (v : Value) : Value := match v with
  | .slice (some _) 0 0 => .slice (some ⟨0, 0, none⟩) 0 0
  | v => clnS v
theorem cln_vr (J : Inj) (v : Value) : VR J (cln v) v := by
  unfold cln
  split
  · exact .sl 0 (Nat.le_refl _) ⟨rfl, .inl rfl⟩
  · exact clnS_vr J v
/-- What lies there when a law is called: all of it is read alone. -/
def baseW (W : World) (b : Nat) : Option (List Value) := match W.heap[b]? with
  | some (.cells c _ _) => some (c.toList.map cln)
  | _ => none
def heapW (W : World) : AHeap := ⟨baseW W, .lf, 0, 0⟩
def J0 : Inj := fun _ => none
theorem heapW_get (W : World) (k : Nat) : (heapW W).get k = none := by simp [heapW, AHeap.get, Tr.get_lf]
theorem sim0 (OK : Nat → Code → ACode → Prop) (W : World) : Sim OK J0 (heapW W) W := by
  refine ⟨fun b c hc => ?_, fun k o h => (by rw [heapW_get] at h; cases h), fun k k' o o' pl pl' h => (by rw [heapW_get] at h; cases h), fun k o pl h => (by rw [heapW_get] at h; cases h)⟩
  have hc : baseW W b = some c := hc
  unfold baseW at hc
  split at hc
  · rename_i arr e fz hb
    cases hc
    refine ⟨arr, e, fz, hb, fun i v hv => ?_⟩
    rw [List.getElem?_map] at hv
    cases hi : arr.toList[i]? with
    | none => rw [hi] at hv; cases hv
    | some v' => rw [hi] at hv; cases hv; exact ⟨v', by rw [← Array.getElem?_toList]; exact hi, cln_vr _ v'⟩
  · cases hc
abbrev rd0 (W : World) : Addr → List Value → Prop := RdF (heapW W) (fun _ => False)
def ids0 : Pa → Option Nat := fun _ => none
theorem st0 (W : World) : St (cx (heapW W) ids0 (fun _ => False) []) ⟨.lf, .lf, [], none⟩ .lf (heapW W) ids0 (fun _ => False) :=
  ⟨fun k o h => (by rw [heapW_get] at h; cases h), rfl, fun _ hk => hk, fun _ _ _ => rfl, fun _ _ => Iff.rfl, fun _ h => h.elim, fun a b h => (by simp at h), fun a b k h => (by simp at h), fun a a' b b' k h => (by simp at h), fun p x h => (by simp at h), fun a h => (by simp at h), ⟨rfl, rfl⟩, Nat.le_refl _⟩
/-- A law that answers true, called in any world. -/
theorem calls_true {P : Program} {C : Cfg} (hm : P.follows .mixedOrders = true) (ht : TabOK P C) (ho : OrcOK P C) {f : Nat} {args : List VV} (hc : VCall C f args [] [] (vb true) []) {W : World} (hgl : GlobOK C (baseW W)) {vals : List Value} {vals' : Array Value}
    (ha : All2 (Vr (rd0 W) ids0) vals args) (hl : LR J0 vals vals'.toList) : Calls P f vals' W fun e W' => e = .returned (.bool true) ∧ Below W.heap.size W W' := by
  obtain ⟨v, h', ⟨n, e, l, r, hr⟩, ids', F', _, rv, _⟩ := hc (heapW W) ids0 (fun _ => False) vals hgl (st0 W) ha
  have hv : v = .bool true := (at_inv rv).1
  subst hv
  have so := run_sound (b := false) hm ht ho n
  obtain ⟨_, h2⟩ := so.call hr (sim0 _ W) hl (fun k _ => rfl)
  rw [callsIn_wide] at h2
  refine h2.mono ?_
  rintro e w' ⟨v', J', rfl, rv, nx⟩
  have : v' = .bool true := by cases rv; rfl
  subst this
  exact ⟨rfl, nx.os, nx.tape, nx.output, nx.size, fun k hk => nx.keep k hk (fun ⟨m, o, pl, h1, _⟩ => by rw [heapW_get] at h1; cases h1)⟩

/-- A row of ints in memory. -/
def IsRow (k : IntKind) (w : World) (a : Option Addr) (len cap : Nat) (zs : List Int) : Prop :=
  (a = none ∧ len = 0 ∧ cap = 0 ∧ zs = []) ∨
  ∃ x, a = some x ∧ len ≤ cap ∧ cap ≤ maxLen ∧ zs.length = cap ∧ (∀ i, i < zs.length → w.cell? (x.add i) = some (.int k (zs.getD i 0))) ∧ ∀ n ∈ zs, (Lit.int k n).wf = true
theorem cell_base {W : World} {x : Addr} {v : Value} (h : W.cell? x = some v) : x.spot = none ∧ ∃ row, baseW W x.block = some row ∧ row[x.off]? = some (cln v) := by
  unfold World.cell? at h
  split at h
  · rename_i c e fz hb
    split at h
    · cases h
    · rename_i hs
      refine ⟨by cases hx : x.spot with
        | none => rfl
        | some t => rw [hx] at hs; simp at hs, c.toList.map cln, by simp only [baseW, hb], ?_⟩
      rw [List.getElem?_map, Array.getElem?_toList, h]; rfl
  · cases h
theorem add_zero (x : Addr) : x.add 0 = x := by unfold Addr.add; rw [if_pos rfl]
theorem add_off {x : Addr} (h : x.spot = none) (i : Nat) : x.add i = { x with off := x.off + i } := by
  obtain ⟨b, o, s⟩ := x
  simp only at h
  subst h
  unfold Addr.add
  split
  · rename_i e; subst e; rfl
  · rfl
/-- An argument that is a slice of ints. -/
theorem arg_ints {W : World} {a : Option Addr} {len cap : Nat} {zs : List Int} (h : IsRow .i64 W a len cap zs) :
    ∃ av, VR J0 av (.slice a len cap) ∧ Vr (rd0 W) ids0 av (sl1 (zs.take len)) ∧ (zs.take len).length ≤ 9223372036854775807 := by
  rcases h with ⟨rfl, rfl, rfl, rfl⟩ | ⟨x, rfl, hlc, hcm, hz, hcell, _⟩
  · exact ⟨.slice none 0 0, .slN 0 0, .p .nil, by simp⟩
  · have hml : maxLen = 9223372036854775807 := rfl
    have hlen : (zs.take len).length = len := by rw [List.length_take]; omega
    refine ⟨if cap = 0 then .slice (some ⟨0, 0, none⟩) 0 0 else .slice (some x) len cap, ?_, ?_, by omega⟩
    · split
      · rename_i h0
        have : len = 0 := by omega
        subst h0; subst this
        exact .sl 0 (Nat.le_refl _) ⟨rfl, .inl rfl⟩
      · rename_i h0
        obtain ⟨hs, _⟩ := cell_base (hcell 0 (by omega))
        rw [add_zero] at hs
        refine .sl len hlc ?_
        unfold SlR
        rw [hs]
        exact ⟨rfl, .inr rfl⟩
    · split
      · rename_i h0
        have : len = 0 := by omega
        subst this
        simp only [sl1, List.take_zero, List.length_nil, List.map_nil]
        exact .p (.sl0 trivial)
      · rename_i h0
        obtain ⟨hs, row, hrow, _⟩ := cell_base (hcell 0 (by omega))
        rw [add_zero] at hs
        rw [add_zero] at hrow
        have hget : ∀ i, i < zs.length → row[x.off + i]? = some (.int .i64 (zs.getD i 0)) := by
          intro i hi
          obtain ⟨_, row', hrow', hr'⟩ := cell_base (hcell i hi)
          rw [add_off hs] at hrow' hr'
          simp only at hrow' hr'
          rw [hrow] at hrow'; cases hrow'
          exact hr'
        rw [sl1, hlen]
        refine .p (.sl (row := row) ?_ hlc ?_ ?_ ?_)
        · unfold tgOk; rw [hs]; trivial
        · show RdF _ _ _ _
          unfold RdF; rw [hs]; exact hrow
        · rw [List.length_map, hlen]
          rcases Nat.eq_zero_or_pos len with h | h
          · have := (List.getElem?_eq_some_iff.1 (hget 0 (by omega))).1; omega
          · have := (List.getElem?_eq_some_iff.1 (hget (len - 1) (by omega))).1; omega
        · intro i y z hy hzz
          rw [List.getElem?_map] at hzz
          cases hi : (zs.take len)[i]? with
          | none => rw [hi] at hzz; cases hzz
          | some q =>
            rw [hi] at hzz; cases hzz
            have hlt := (List.getElem?_eq_some_iff.1 hi).1
            rw [hlen] at hlt
            rw [hget i (by omega)] at hy
            cases hy
            rw [List.getElem?_take, if_pos hlt] at hi
            rw [List.getD_eq_getElem?_getD, hi]
            exact .at rfl
end Go.Ab.V

/- Arguments of any kinds: what lies in memory when a law is called, as pure values. -/
namespace Go.Ab.V
/-- The cells of a type, laid out. -/
inductive Lf where
  | int (k : IntKind)
  | bool
  | str
  | sl (e : List Lf)
def repL (l : List Lf) : Nat → List Lf
  | 0 => []
  | n + 1 => l ++ repL l n
mutual
inductive Leaves (P : Program) : TypeId → List Lf → Prop
  | int {t : TypeId} {k : IntKind} : P.underlying t = some (.int k) → Leaves P t [.int k]
  | bool {t : TypeId} : P.underlying t = some .bool → Leaves P t [.bool]
  | str {t : TypeId} : P.underlying t = some .string → Leaves P t [.str]
  | sl {t e : TypeId} {l : List Lf} : P.underlying t = some (.slice e) → Leaves P e l → P.cellsOf e = l.length → l ≠ [] → Leaves P t [.sl l]
  | arr {t e : TypeId} {n : Nat} {l : List Lf} : P.underlying t = some (.array n e) → Leaves P e l → P.cellsOf e = l.length → P.cellsOf t = n * l.length → Leaves P t (repL l n)
  | st {t : TypeId} {fs : Array Field} {l : List Lf} : P.underlying t = some (.struct fs) → LeavesF P fs.toList 0 l → P.cellsOf t = l.length → Leaves P t l
inductive LeavesF (P : Program) : List Field → Nat → List Lf → Prop
  | nil {o : Nat} : LeavesF P [] o []
  | cons {f : Field} {fs : List Field} {o : Nat} {l l' : List Lf} : f.offset = o → Leaves P f.type l → P.cellsOf f.type = l.length → LeavesF P fs (o + l.length) l' → LeavesF P (f :: fs) o (l ++ l')
end
/-- Data of these kinds. -/
inductive Dt where
  | int (k : IntKind) (n : Int)
  | bool (b : Bool)
  | str (s : ByteArray)
  | sl (u : Nat) (rows : List (List Dt))
mutual
def encD : Dt → PV
  | .int k n => .at (.int k n)
  | .bool b => .at (.bool b)
  | .str s => .at (.string s)
  | .sl u rows => .sl u rows.length (encR rows)
def encL : List Dt → List PV
  | [] => []
  | d :: r => encD d :: encL r
def encR : List (List Dt) → List PV
  | [] => []
  | d :: r => encL d ++ encR r
end
theorem encL_map : ∀ l : List Dt, encL l = l.map encD
  | [] => rfl
  | d :: r => by rw [encL, List.map_cons, encL_map r]
theorem encL_len (l : List Dt) : (encL l).length = l.length := by rw [encL_map, List.length_map]
inductive WT : List Lf → List Dt → Prop
  | nil : WT [] []
  | int {k : IntKind} {n : Int} {l : List Lf} {r : List Dt} : (Lit.int k n).wf = true → WT l r → WT (.int k :: l) (.int k n :: r)
  | bool {b : Bool} {l : List Lf} {r : List Dt} : WT l r → WT (.bool :: l) (.bool b :: r)
  | str {s : ByteArray} {l : List Lf} {r : List Dt} : s.size ≤ maxLen → WT l r → WT (.str :: l) (.str s :: r)
  | sl {e : List Lf} {rows : List (List Dt)} {l : List Lf} {r : List Dt} : rows.length ≤ maxLen → (∀ x ∈ rows, WT e x) → WT l r → WT (.sl e :: l) (.sl e.length rows :: r)
theorem WT.len : ∀ {l : List Lf} {r : List Dt}, WT l r → l.length = r.length
  | _, _, .nil => rfl
  | _, _, .int _ h => by simp [h.len]
  | _, _, .bool h => by simp [h.len]
  | _, _, .str _ h => by simp [h.len]
  | _, _, .sl _ _ h => by simp [h.len]
theorem WT.append : ∀ {l l' : List Lf} {r r' : List Dt}, WT l r → WT l' r' → WT (l ++ l') (r ++ r')
  | _, _, _, _, .nil, h' => h'
  | _, _, _, _, .int w h, h' => .int w (h.append h')
  | _, _, _, _, .bool h, h' => .bool (h.append h')
  | _, _, _, _, .str w h, h' => .str w (h.append h')
  | _, _, _, _, .sl a b h, h' => .sl a b (h.append h')
theorem encR_len {e : List Lf} : ∀ {rows : List (List Dt)}, (∀ x ∈ rows, WT e x) → (encR rows).length = rows.length * e.length
  | [], _ => by simp [encR]
  | d :: r, h => by
    rw [encR, List.length_append, encL_len, ← (h d (by simp)).len, encR_len (fun x hx => h x (List.mem_cons_of_mem _ hx)), List.length_cons, Nat.succ_mul, Nat.add_comm]
theorem encR_get {e : List Lf} : ∀ {rows : List (List Dt)}, (∀ x ∈ rows, WT e x) → ∀ (i k : Nat) (hi : i < rows.length), k < e.length → (encR rows)[i * e.length + k]? = (encL rows[i])[k]?
  | [], _, i, k, hi, _ => absurd hi (Nat.not_lt_zero i)
  | d :: r, h, 0, k, _, hk => by
    rw [encR, Nat.zero_mul, Nat.zero_add, List.getElem?_append_left (by rw [encL_len, ← (h d (by simp)).len]; exact hk)]; rfl
  | d :: r, h, i + 1, k, hi, hk => by
    have hd := (h d (by simp)).len
    rw [encR, List.getElem?_append_right (by rw [encL_len, ← hd, Nat.succ_mul]; omega), encL_len, ← hd, show (i + 1) * e.length + k - e.length = i * e.length + k from by rw [Nat.succ_mul]; omega,
      encR_get (fun x hx => h x (List.mem_cons_of_mem _ hx)) i k (by simpa using hi) hk]; rfl
theorem choose_rows {p : Nat → List Dt → Prop} : ∀ n, (∀ i, i < n → ∃ d, p i d) → ∃ rows : List (List Dt), rows.length = n ∧ ∀ i (h : i < rows.length), p i rows[i]
  | 0, _ => ⟨[], rfl, fun i h => absurd h (Nat.not_lt_zero i)⟩
  | n + 1, hp => by
    obtain ⟨rows, hl, hr⟩ := choose_rows n fun i h => hp i (by omega)
    obtain ⟨d, hd⟩ := hp n (by omega)
    refine ⟨rows ++ [d], by simp [hl], fun i h => ?_⟩
    by_cases hi : i < rows.length
    · rw [List.getElem_append_left hi]; exact hr i hi
    · have : i = n := by simp [hl] at h; omega
      subst this
      rw [List.getElem_append_right (by omega)]
      simpa [hl] using hd
/-- What cells hold. -/
def OpenR (W : World) (lf : List Lf) (cs : List Value) : Prop := ∃ ds, WT lf ds ∧ All2 (fun c d => Rp (rd0 W) (cln c) (encD d)) cs ds
theorem OpenR.append {W : World} {l l' : List Lf} {cs cs' : List Value} : OpenR W l cs → OpenR W l' cs' → OpenR W (l ++ l') (cs ++ cs')
  | ⟨ds, h1, h2⟩, ⟨ds', h1', h2'⟩ => ⟨ds ++ ds', h1.append h1', h2.append h2'⟩
section
variable {H : Type} {enc : TypeId × Value → H} {P : Program} {W : World} {base : Nat} {held : Bool}
theorem open_rep {l : List Lf} {cs : List Value} : ∀ (n : Nat), cs.length = n * l.length → (∀ i, i < n → OpenR W l ((cs.drop (i * l.length)).take l.length)) → OpenR W (repL l n) cs
  | 0, hl, _ => by
    have : cs = [] := List.eq_nil_of_length_eq_zero (by omega)
    subst this; exact ⟨[], .nil, .nil⟩
  | n + 1, hl, h => by
    have h0 := h 0 (by omega)
    rw [Nat.zero_mul, List.drop_zero] at h0
    have hr := open_rep (l := l) (cs := cs.drop l.length) n (by rw [List.length_drop, hl, Nat.succ_mul]; omega) (fun i hi => by
      have := h (i + 1) (by omega)
      rw [List.drop_drop, show l.length + i * l.length = (i + 1) * l.length from by rw [Nat.succ_mul]; omega]
      exact this)
    have := h0.append hr
    rw [List.take_append_drop] at this
    exact this
theorem open_sl {l : List Lf} {a : Addr} {len cap : Nat} {e : TypeId} (hn : P.cellsOf e = l.length) (hne : l ≠ []) (hlc : len ≤ cap) (hcm : cap ≤ maxLen)
    (hel : ∀ i, i < cap → ∃ ci, W.cells? base (a.add (i * P.cellsOf e)) (P.cellsOf e) = some ci ∧ OpenR W l ci) : OpenR W [.sl l] [.slice (some a) len cap] := by
  have hpos : 0 < l.length := List.length_pos_iff.2 hne
  rw [hn] at hel
  have cell : ∀ i k, i < cap → k < l.length → ∃ v, W.cell? ((a.add (i * l.length)).add k) = some v := fun i k hi hk => by
    obtain ⟨ci, h1, _⟩ := hel i hi
    obtain ⟨_, h3, h4⟩ := World.cells?_some h1
    exact ⟨ci[k]'(by omega), by rw [h4 k hk, List.getElem?_eq_getElem]⟩
  by_cases h0 : cap = 0
  · have : len = 0 := by omega
    subst h0; subst this
    refine ⟨[.sl l.length []], .sl (by simp) (fun x hx => by simp at hx) .nil, .cons ?_ .nil⟩
    rw [encD, encR, List.length_nil]
    exact .sl0 trivial
  have hs0 : (a.add (0 * l.length)).add 0 = a := by rw [Nat.zero_mul, add_zero, add_zero]
  obtain ⟨v0, hv0⟩ := cell 0 0 (by omega) hpos
  rw [hs0] at hv0
  obtain ⟨hs, row, hrow, _⟩ := cell_base hv0
  have hadd : ∀ i k, (a.add (i * l.length)).add k = { a with off := a.off + i * l.length + k } := fun i k => by
    rw [add_off hs, add_off (x := { a with off := a.off + i * l.length }) hs]
  have hcell : ∀ i, i < cap → ∀ ci, W.cells? base (a.add (i * l.length)) l.length = some ci → ∀ k, k < l.length → ∃ v, ci[k]? = some v ∧ row[a.off + i * l.length + k]? = some (cln v) := fun i hi ci hci k hk => by
    obtain ⟨_, h3, h4⟩ := World.cells?_some hci
    have hck : ci[k]? = some (ci[k]'(by omega)) := List.getElem?_eq_getElem _
    have h5 := h4 k hk
    rw [hadd, hck] at h5
    obtain ⟨_, row', hr1, hr2⟩ := cell_base h5
    have hr1 : baseW W a.block = some row' := hr1
    rw [hrow] at hr1; cases hr1
    exact ⟨_, hck, hr2⟩
  obtain ⟨rows, hrl, hrw⟩ := choose_rows (p := fun i d => WT l d ∧ ∀ k, k < l.length → ∀ y x, row[a.off + i * l.length + k]? = some y → (encL d)[k]? = some x → Rp (rd0 W) y x) len (fun i hi => by
    obtain ⟨ci, h1, ds, hw, ha⟩ := hel i (by omega)
    refine ⟨ds, hw, fun k hk y x hy hx => ?_⟩
    obtain ⟨v, hv1, hv2⟩ := hcell i (by omega) ci h1 k hk
    rw [hv2] at hy; cases hy
    rw [encL_map, List.getElem?_map] at hx
    cases hd : ds[k]? with
    | none => rw [hd] at hx; cases hx
    | some d => rw [hd] at hx; cases hx; exact ha.2 k _ _ hv1 hd)
  have hwt : ∀ x ∈ rows, WT l x := fun x hx => by
    obtain ⟨i, hi, rfl⟩ := List.mem_iff_getElem.1 hx
    exact (hrw i hi).1
  refine ⟨[.sl l.length rows], .sl (by omega) hwt .nil, .cons ?_ .nil⟩
  have hcln : cln (.slice (some a) len cap) = .slice (some a) len cap := by
    have : selfB (.slice (some a) len cap) = true := by
      show (a.spot.isNone && Nat.ble len cap) = true
      rw [hs]; simp [hlc]
    unfold cln
    split
    · rename_i h; cases h; exact absurd rfl h0
    · unfold clnS; rw [this]; rfl
  rw [hcln, encD]
  have hlenR := encR_len hwt
  rw [hrl]
  rw [hrl] at hlenR
  refine .sl (row := row) ?_ hlc ?_ ?_ ?_
  · unfold tgOk; rw [hs]; trivial
  · show RdF _ _ _ _
    unfold RdF; rw [hs]; exact hrow
  · rw [hlenR]
    obtain ⟨ci, h1, _⟩ := hel (cap - 1) (by omega)
    obtain ⟨v, _, hv2⟩ := hcell (cap - 1) (by omega) ci h1 (l.length - 1) (by omega)
    have h6 := (List.getElem?_eq_some_iff.1 hv2).1
    have h7 : len * l.length ≤ cap * l.length := Nat.mul_le_mul_right _ hlc
    have h8 : (cap - 1) * l.length + l.length = cap * l.length := by rw [← Nat.succ_mul]; congr 1; omega
    omega
  · intro idx y x hy hx
    have hlt : idx < len * l.length := by rw [← hlenR]; exact (List.getElem?_eq_some_iff.1 hx).1
    have hi : idx / l.length < len := Nat.div_lt_of_lt_mul (by rw [Nat.mul_comm]; exact hlt)
    have hk := Nat.mod_lt idx hpos
    have hidx : idx = idx / l.length * l.length + idx % l.length := by rw [Nat.mul_comm]; exact (Nat.div_add_mod idx l.length).symm
    rw [hidx] at hx hy
    rw [encR_get hwt _ _ (by omega) hk] at hx
    exact (hrw _ (by omega)).2 _ hk y x (by rw [Nat.add_assoc]; exact hy) hx
theorem trod_arr {t e : TypeId} {n fuel : Nat} {cs : List Value} {x : DataW H × List MemPlace} (ht : P.underlying t = some (.array n e)) (h : DataW.trod enc P W base (fun _ => true) held fuel t cs = some x) :
    ∃ (m : Nat) (xs : List (DataW H × List MemPlace)), cs.length = P.cellsOf t ∧ (List.range n).mapM (fun i => DataW.trod enc P W base (fun _ => true) held m e ((cs.drop (i * P.cellsOf e)).take (P.cellsOf e))) = some xs := by
  cases fuel with
  | zero => simp [DataW.trod] at h
  | succ m =>
    unfold DataW.trod at h
    rw [ht] at h
    split at h <;> simp_all
    obtain ⟨hl, xs, hp, _⟩ := h
    exact ⟨m, xs, hp⟩
theorem trod_str {t : TypeId} {fuel : Nat} {cs : List Value} {x : DataW H × List MemPlace} (ht : P.underlying t = some .string) (h : DataW.trod enc P W base (fun _ => true) held fuel t cs = some x) :
    ∃ s : ByteArray, cs = [.string s] ∧ s.size ≤ maxLen := by
  cases fuel with
  | zero => simp [DataW.trod] at h
  | succ m =>
    unfold DataW.trod at h
    rw [ht] at h
    split at h <;> simp_all
theorem trod_bool {t : TypeId} {fuel : Nat} {cs : List Value} {x : DataW H × List MemPlace} (ht : P.underlying t = some .bool) (h : DataW.trod enc P W base (fun _ => true) held fuel t cs = some x) :
    ∃ b : Bool, cs = [.bool b] := by
  cases fuel with
  | zero => simp [DataW.trod] at h
  | succ m =>
    unfold DataW.trod at h
    rw [ht] at h
    split at h <;> simp_all
theorem open_all {t : TypeId} {lf : List Lf} (L : Leaves P t lf) : ∀ {fuel : Nat} {cs : List Value} {x : DataW H × List MemPlace}, DataW.trod enc P W base (fun _ => true) held fuel t cs = some x → OpenR W lf cs := by
  induction L using Leaves.rec (motive_2 := fun fs o l _ => ∀ {n : Nat} {cs : List Value}, (∀ f ∈ fs, ∃ y : DataW H × List MemPlace, DataW.trod enc P W base (fun _ => true) held n f.type ((cs.drop f.offset).take (P.cellsOf f.type)) = some y) → cs.length = o + l.length → OpenR W l (cs.drop o)) with
  | int ht =>
    intro fuel cs x h
    obtain ⟨m, rfl, _, hw⟩ := DataW.trod_int ht h
    exact ⟨[.int _ m], .int hw .nil, .cons (.at rfl) .nil⟩
  | bool ht =>
    intro fuel cs x h
    obtain ⟨b, rfl⟩ := trod_bool ht h
    exact ⟨[.bool b], .bool .nil, .cons (.at rfl) .nil⟩
  | str ht =>
    intro fuel cs x h
    obtain ⟨b, rfl, hb⟩ := trod_str ht h
    exact ⟨[.str b], .str hb .nil, .cons (.at rfl) .nil⟩
  | sl ht _ hn hne ih =>
    intro fuel cs x h
    rename_i t e l _
    rcases DataW.trod_slice ht h with ⟨rfl, _⟩ | ⟨a, len, cap, elems, rest, n, _, rfl, _, hb, hl, hm, hlen, hel, hsp, _⟩
    · exact ⟨[.sl l.length []], .sl (by simp) (fun x hx => by simp at hx) .nil, .cons (by rw [encD, encR]; exact .nil) .nil⟩
    · obtain ⟨hrl, hr⟩ := hsp rfl
      refine open_sl (base := base) hn hne hl hm fun i hi => ?_
      have : ∃ y, (W.cells? base (a.add (i * P.cellsOf e)) (P.cellsOf e)).bind (DataW.trod enc P W base (fun _ => true) held n e) = some y := by
        by_cases hi' : i < len
        · exact ⟨elems[i]'(by omega), by rw [hel i hi', List.getElem?_eq_getElem]⟩
        · have := hr (i - len) (by omega)
          rw [show len + (i - len) = i by omega] at this
          exact ⟨rest[i - len]'(by omega), by rw [this, List.getElem?_eq_getElem]⟩
      obtain ⟨y, hy⟩ := this
      rw [Option.bind_eq_some_iff] at hy
      obtain ⟨ci, h1, h2⟩ := hy
      exact ⟨ci, h1, ih h2⟩
  | arr ht _ hn hc ih =>
    intro fuel cs x h
    rename_i t e n l _
    obtain ⟨m, xs, hl, hp⟩ := trod_arr ht h
    rw [hc] at hl
    rw [hn] at hp
    refine open_rep n hl fun i hi => ?_
    have := mapM_some_get hp i i (by simp [hi])
    exact ih (this.trans (List.getElem?_eq_getElem (by have := mapM_some_length hp; simp at this; omega)))
  | st ht _ hc ih =>
    intro fuel cs x h
    obtain ⟨xs, n, _, _, hl, hlen, hf⟩ := DataW.trod_struct ht h
    have := ih (n := n) (cs := cs) (fun f hf' => by
      obtain ⟨i, hi, he⟩ := List.mem_iff_getElem.1 hf'
      have h1 := hf i f (by rw [← Array.getElem?_toList, List.getElem?_eq_getElem hi, he])
      exact ⟨xs[i]'(by rw [hlen]; simpa using hi), by rw [h1, List.getElem?_eq_getElem]⟩) (by rw [hl, hc, Nat.zero_add])
    simpa using this
  | nil => 
    rename_i hl
    refine ⟨[], .nil, ?_⟩
    rw [List.drop_of_length_le (by simp at hl; omega)]; exact .nil
  | cons ho _ hc _ ih1 ih2 =>
    rename_i f fs o l l' _ _ n cs hf hl
    obtain ⟨y, hy⟩ := hf f (by simp)
    have h1 := ih1 hy
    have h2 := ih2 (n := n) (cs := cs) (fun g hg => hf g (List.mem_cons_of_mem _ hg)) (by rw [hl, List.length_append]; omega)
    have := h1.append h2
    rw [ho, hc, ← List.drop_drop, List.take_append_drop] at this
    exact this
end
def encV (d : Dt) : VV := .p (encD d)
theorem arg_sl {W : World} {l : List Lf} {v : Value} (h : OpenR W [.sl l] [v]) : ∃ rows : List (List Dt), (∀ x ∈ rows, WT l x) ∧ rows.length ≤ 9223372036854775807 ∧ VR J0 (cln v) v ∧ Vr (rd0 W) ids0 (cln v) (.p (.sl l.length rows.length (encR rows))) := by
  obtain ⟨ds, hw, ha⟩ := h
  cases hw with
  | sl h1 h2 h3 =>
    rename_i rows r
    refine ⟨rows, h2, h1, cln_vr _ _, ?_⟩
    have := ha.head
    rw [encD] at this
    exact .p this
theorem arg_agg {W : World} {lf : List Lf} {cs : Array Value} (h : OpenR W lf cs.toList) : ∃ ds : List Dt, WT lf ds ∧ VR J0 (.agg (cs.toList.map cln).toArray) (.agg cs) ∧ Vr (rd0 W) ids0 (.agg (cs.toList.map cln).toArray) (.agg (ds.map encV)) := by
  obtain ⟨ds, hw, ha⟩ := h
  refine ⟨ds, hw, ?_, .agg (by rw [List.length_map, List.length_map]; exact ha.1) fun i x y hx hy => ?_⟩
  · have := VR.agg (J := J0) (xs := cs.toList.map cln) (ys := cs.toList) (by simp) (fun i x y hx hy => by
      rw [List.getElem?_map, hy] at hx; cases hx; exact cln_vr _ _)
    simpa using this
  · rw [List.getElem?_map] at hx hy
    cases hc : cs.toList[i]? with
    | none => rw [hc] at hx; cases hx
    | some c =>
      cases hd : ds[i]? with
      | none => rw [hd] at hy; cases hy
      | some d => rw [hc] at hx; rw [hd] at hy; cases hx; cases hy; exact .p (ha.2 i c d hc hd)
theorem wf_i64 {n : Int} (h : (Lit.int .i64 n).wf = true) : -9223372036854775808 ≤ n ∧ n ≤ 9223372036854775807 := by
  simp [Lit.wf, IntKind.min, IntKind.max, IntKind.signed, IntKind.bits] at h
  omega
def i64P (p : Int × Int) : Prop := (-9223372036854775808 ≤ p.1 ∧ p.1 ≤ 9223372036854775807) ∧ -9223372036854775808 ≤ p.2 ∧ p.2 ≤ 9223372036854775807
def i64B (n : Int) : Prop := -9223372036854775808 ≤ n ∧ n ≤ 9223372036854775807
theorem rows_ints : ∀ {rows : List (List Dt)}, (∀ x ∈ rows, WT [.int .i64] x) → ∃ l : List Int, l.length = rows.length ∧ encR rows = l.map pi ∧ ∀ p ∈ l, i64B p
  | [], _ => ⟨[], rfl, rfl, by simp⟩
  | d :: r, h => by
    obtain ⟨l, h1, h2, h3⟩ := rows_ints fun x hx => h x (List.mem_cons_of_mem _ hx)
    have hd := h d (by simp)
    cases hd with
    | int w1 hd =>
      rename_i n r1
      cases hd with
      | nil => exact ⟨n :: l, by simp [h1], by rw [encR, h2]; rfl, by
          intro p hp
          rcases List.mem_cons.1 hp with rfl | hp
          · exact wf_i64 w1
          · exact h3 p hp⟩
theorem rows_pairs : ∀ {rows : List (List Dt)}, (∀ x ∈ rows, WT [.int .i64, .int .i64] x) → ∃ l : List (Int × Int), l.length = rows.length ∧ encR rows = flP l ∧ ∀ p ∈ l, i64P p
  | [], _ => ⟨[], rfl, rfl, by simp⟩
  | d :: r, h => by
    obtain ⟨l, h1, h2, h3⟩ := rows_pairs fun x hx => h x (List.mem_cons_of_mem _ hx)
    have hd := h d (by simp)
    cases hd with
    | int w1 hd =>
      rename_i n r1
      cases hd with
      | int w2 hd =>
        rename_i m r2
        cases hd with
        | nil => exact ⟨(n, m) :: l, by simp [h1], by rw [encR, h2]; rfl, by
            intro p hp
            rcases List.mem_cons.1 hp with rfl | hp
            · exact ⟨wf_i64 w1, wf_i64 w2⟩
            · exact h3 p hp⟩
theorem arg_slP {W : World} {v : Value} (h : OpenR W [.sl [.int .i64, .int .i64]] [v]) : ∃ l : List (Int × Int), l.length ≤ 9223372036854775807 ∧ (∀ p ∈ l, i64P p) ∧ VR J0 (cln v) v ∧ Vr (rd0 W) ids0 (cln v) (slP l) := by
  obtain ⟨rows, h1, h2, h3, h4⟩ := arg_sl h
  obtain ⟨l, g1, g2, g3⟩ := rows_pairs h1
  exact ⟨l, by omega, g3, h3, by rw [slP, g1, ← g2]; exact h4⟩
theorem wt_nil {ds : List Dt} (h : WT [] ds) : ds.map encV = [] := by cases h; rfl
theorem wt_int {r : List Lf} {ds : List Dt} (h : WT (.int .i64 :: r) ds) : ∃ (n : Int) (ds' : List Dt), ds.map encV = vi n :: ds'.map encV ∧ i64B n ∧ WT r ds' := by
  cases h with
  | int w h => exact ⟨_, _, rfl, wf_i64 w, h⟩
theorem wt_sl1 {r : List Lf} {ds : List Dt} (h : WT (.sl [.int .i64] :: r) ds) : ∃ (l : List Int) (ds' : List Dt), ds.map encV = sl1 l :: ds'.map encV ∧ l.length ≤ 9223372036854775807 ∧ (∀ p ∈ l, i64B p) ∧ WT r ds' := by
  cases h with
  | sl h1 h2 h =>
    obtain ⟨l, g1, g2, g3⟩ := rows_ints h2
    refine ⟨l, _, ?_, ?_, g3, h⟩
    · rw [List.map_cons, encV, encD, sl1, g1, ← g2]; rfl
    · have : maxLen = 9223372036854775807 := rfl
      omega
theorem okWide_arr {P : Program} {w : World} {r : Reach} {base n : Nat} {t e : TypeId} {v : Value} (ht : P.underlying t = some (.array n e)) (h : Value.okWide P w r base t v) : ∃ cs, v = .agg cs := by
  simp only [Value.okWide, ht] at h
  obtain ⟨cs, h, _⟩ := h; exact ⟨cs, h⟩
theorem okWide_st {P : Program} {w : World} {r : Reach} {base : Nat} {t : TypeId} {fs : Array Field} {v : Value} (ht : P.underlying t = some (.struct fs)) (h : Value.okWide P w r base t v) : ∃ cs, v = .agg cs := by
  simp only [Value.okWide, ht] at h
  obtain ⟨cs, h, _⟩ := h; exact ⟨cs, h⟩
end Go.Ab.V

/- Regions in which a read may come before or behind a call. -/
namespace Go.Ab.V
section
variable {C : Cfg}
theorem states_head (self : Task → Option Res) (A : List AOper) (s : Slots) (h : AHeap) : (states false C self A s h)[0]? = some (s, h) := by
  cases A <;> rfl
theorem states_get (self : Task → Option Res) : ∀ (A X : List AOper) (s s1 : Slots) (h h1 : AHeap), runOps false C self A s h = some (s1, h1) → (states false C self (A ++ X) s h)[A.length]? = some (s1, h1)
  | [], X, s, s1, h, h1, he => by cases he; exact states_head self X s h
  | o :: A, X, s, s1, h, h1, he => by
    have he : (match wantedA s o.guard with
      | none => none
      | some t => Bool.casesOn t (setO o.dst s skipV fun s => runOps false C self A s h)
        (match aev o.op false C self s h with
          | some (v, h') => frcV false v fun v => frcH false h' fun h' => setO o.dst s v fun s => runOps false C self A s h'
          | none => none)) = some (s1, h1) := he
    show ((s, h) :: (match wantedA s o.guard with
      | none => []
      | some true => match aev o.op false C self s h with
        | some (v, h') => states false C self (A ++ X) (setO o.dst s v fun s => s) h'
        | none => []
      | some false => states false C self (A ++ X) (setO o.dst s skipV fun s => s) h))[A.length + 1]? = _
    rw [List.getElem?_cons_succ]
    cases hw : wantedA s o.guard with
    | none => rw [hw] at he; cases he
    | some t =>
      rw [hw] at he
      cases t with
      | false =>
        have he : setO o.dst s skipV (fun s => runOps false C self A s h) = some (s1, h1) := he
        rw [setO_eq] at he
        exact states_get self A X _ s1 h h1 he
      | true =>
        cases hv : aev o.op false C self s h with
        | none => simp only [hv] at he; cases he
        | some r =>
          obtain ⟨v, h'⟩ := r
          simp only [hv] at he
          have he : frcV false v (fun v => frcH false h' fun h' => setO o.dst s v fun s => runOps false C self A s h') = some (s1, h1) := he
          simp only [frcV_eq, frcH_eq] at he
          rw [setO_eq] at he
          exact states_get self A X _ s1 h' h1 he
theorem runOps_append (self : Task → Option Res) : ∀ (A X : List AOper) (s s1 : Slots) (h h1 : AHeap), runOps false C self A s h = some (s1, h1) → runOps false C self (A ++ X) s h = runOps false C self X s1 h1
  | [], X, s, s1, h, h1, he => by cases he; rfl
  | o :: A, X, s, s1, h, h1, he => by
    have he : (match wantedA s o.guard with
      | none => none
      | some t => Bool.casesOn t (setO o.dst s skipV fun s => runOps false C self A s h)
        (match aev o.op false C self s h with
          | some (v, h') => frcV false v fun v => frcH false h' fun h' => setO o.dst s v fun s => runOps false C self A s h'
          | none => none)) = some (s1, h1) := he
    show (match wantedA s o.guard with
      | none => none
      | some t => Bool.casesOn t (setO o.dst s skipV fun s => runOps false C self (A ++ X) s h)
        (match aev o.op false C self s h with
          | some (v, h') => frcV false v fun v => frcH false h' fun h' => setO o.dst s v fun s => runOps false C self (A ++ X) s h'
          | none => none)) = _
    cases hw : wantedA s o.guard with
    | none => rw [hw] at he; cases he
    | some t =>
      rw [hw] at he
      cases t with
      | false =>
        have he : setO o.dst s skipV (fun s => runOps false C self A s h) = some (s1, h1) := he
        rw [setO_eq] at he
        show setO o.dst s skipV (fun s => runOps false C self (A ++ X) s h) = _
        rw [setO_eq]
        exact runOps_append self A X _ s1 h h1 he
      | true =>
        cases hv : aev o.op false C self s h with
        | none => simp only [hv] at he; cases he
        | some r =>
          obtain ⟨v, h'⟩ := r
          simp only [hv] at he
          have he : frcV false v (fun v => frcH false h' fun h' => setO o.dst s v fun s => runOps false C self A s h') = some (s1, h1) := he
          simp only [frcV_eq, frcH_eq] at he
          rw [setO_eq] at he
          show frcV false v (fun v => frcH false h' fun h' => setO o.dst s v fun s => runOps false C self (A ++ X) s h') = _
          simp only [frcV_eq, frcH_eq]
          rw [setO_eq]
          exact runOps_append self A X _ s1 h' h1 he
theorem runOps_step (self : Task → Option Res) {c : AOper} {X : List AOper} {s : Slots} {h h' : AHeap} {v : Value} (hw : wantedA s c.guard = some true) (hv : aev c.op false C self s h = some (v, h')) : runOps false C self (c :: X) s h = runOps false C self X (setO c.dst s v fun s => s) h' := by
  show (match wantedA s c.guard with
      | none => none
      | some t => Bool.casesOn t (setO c.dst s skipV fun s => runOps false C self X s h)
        (match aev c.op false C self s h with
          | some (v, h') => frcV false v fun v => frcH false h' fun h' => setO c.dst s v fun s => runOps false C self X s h'
          | none => none)) = _
  rw [hw, hv]
  show frcV false v (fun v => frcH false h' fun h' => setO c.dst s v fun s => runOps false C self X s h') = _
  simp only [frcV_eq, frcH_eq]
  rw [setO_eq]
theorem codeE_plan {ops A B R : List AOper} {c : AOper} {d : Option Pa} {n : Option Nat} {a : Opd} {j p : Nat} (hops : ops = A ++ c :: (B ++ ⟨d, none, .ld n a⟩ :: R)) (hp : p = A.length) (hj : j = A.length + 1 + B.length) {s s1 s3 s' : Slots} {h h1 h2 h' : AHeap} {v x : Value}
    (hA : OpsE C A s h s1 h1) (hw : wantedA s1 c.guard = some true) (hc : OpE C c.op s1 h1 v h2) (hB : ∀ self, runOps false C self B (setO c.dst s1 v fun s => s) h2 = some (s3, h2))
    (hx1 : ldP n (evA s3 a) h1 = some x) (hx2 : ldP n (evA s3 a) h2 = some x) (hv : veq x x = true) (hR : OpsE C R (setO d s3 x fun s => s) h2 s' h') : CodeE C (.reg ops [(j, [p])]) s h .normal s' h' := by
  obtain ⟨nA, eA⟩ := hA
  obtain ⟨nc, ec⟩ := hc
  obtain ⟨nR, eR⟩ := hR
  have lA : nA ≤ nA + nc + nR := by omega
  have lc : nc ≤ nA + nc + nR := by omega
  have lR : nR ≤ nA + nc + nR := by omega
  have eA := (runOps_mono (run_mono (b := false) (C := C) lA) A eA).1
  have ec := aev_mono (run_mono (b := false) (C := C) lc) c.op ec
  have eR := (runOps_mono (run_mono (b := false) (C := C) lR) R eR).1
  generalize nA + nc + nR = m at eA ec eR
  refine ⟨m, ?_⟩
  have eB := hB (run false C m)
  have e2 : runOps false C (run false C m) (A ++ c :: B) s h = some (s3, h2) := by rw [runOps_append _ _ _ _ _ _ _ eA, runOps_step _ hw ec, eB]
  have eo : aev (.ld n a) false C (run false C m) s3 h2 = some (x, h2) := by rw [aev_ld, hx2]; rfl
  have eo1 : aev (.ld n a) false C (run false C m) s3 h1 = some (x, h1) := by rw [aev_ld, hx1]; rfl
  have hops2 : ops = (A ++ c :: B) ++ ⟨d, none, .ld n a⟩ :: R := by rw [hops]; simp
  have e3 : runOps false C (run false C m) ops s h = some (s', h') := by
    rw [hops2, runOps_append _ _ _ _ _ _ _ e2, runOps_step (c := ⟨d, none, .ld n a⟩) _ rfl eo]; exact eR
  have gp : (states false C (run false C m) ops s h)[p]? = some (s1, h1) := by rw [hops, hp]; exact states_get _ _ _ _ _ _ _ eA
  have gj : (states false C (run false C m) ops s h)[j]? = some (s3, h2) := by
    have := states_get (C := C) (run false C m) (A ++ c :: B) (⟨d, none, .ld n a⟩ :: R) s s3 h h2 e2
    rw [← hops2] at this
    rw [hj, show A.length + 1 + B.length = (A ++ c :: B).length from by simp; omega]; exact this
  have go : ops[j]? = some ⟨d, none, .ld n a⟩ := by
    rw [hops2, hj, List.getElem?_append_right (by simp; omega), show A.length + 1 + B.length - (A ++ c :: B).length = 0 from by simp; omega]; rfl
  show (match regA false C (run false C m) ops [(j, [p])] s h with
    | some (s, h) => some (Ex.normal, s, h)
    | none => none) = _
  have hpl : planOk1 false C (run false C m) ops (states false C (run false C m) ops s h) j p = true := by
    unfold planOk1
    rw [go, gj, gp]
    simp only [wantedA, eo, eo1, hv]
  have hreg : regA false C (run false C m) ops [(j, [p])] s h = some (s', h') := by
    unfold regA
    simp only [List.all_cons, List.all_nil, Bool.and_true, hpl, if_true]
    exact e3
  rw [hreg]
def sil : AOp → Bool
  | .mov _ => true
  | .iad .. => true
  | _ => false
theorem sil_sound {X : Ctx} {S S1 : VSt} {s : Slots} {h : AHeap} {ids : Pa → Option Nat} {F : Nat → Prop} {o : AOp} {d : Option Pa} {x : VV} (t : St X S s h ids F) (hs : sil o = true) (he : vev o d S = some (x, S1)) :
    S1 = S ∧ ∃ v, (∀ self, aev o false C self s h = some (v, h)) ∧ Vr (RdF h F) ids v x := by
  cases o with
  | mov y => cases he; exact ⟨rfl, _, fun _ => rfl, evV_sound t _⟩
  | iad m n y i =>
    have he : ret1X S (v_iad m n (evV S y) (evV S i)) = some (x, S1) := he
    cases hv : v_iad m n (evV S y) (evV S i) with
    | none => rw [hv] at he; cases he
    | some z =>
      rw [hv] at he; cases he
      obtain ⟨w, h1, h2⟩ := iad_sound' (evV_sound t y) (evV_sound t i) hv
      exact ⟨rfl, w, fun self => by rw [aev_iad, h1]; rfl, h2⟩
  | _ => cases hs
/-- Operations that only look. -/
def runS : List AOper → VSt → Option VSt
  | [], S => some S
  | o :: r, S => match o.guard with
    | some _ => none
    | none => bif sil o.op then (match vev o.op o.dst S with
      | some (x, S1) => runS r (S1.put o.dst x)
      | none => none) else none
theorem runS_sound {X : Ctx} {h : AHeap} {ids : Pa → Option Nat} {F : Nat → Prop} : ∀ {B : List AOper} {S S3 : VSt} {s : Slots}, St X S s h ids F → runS B S = some S3 → ∃ s3, (∀ self, runOps false C self B s h = some (s3, h)) ∧ St X S3 s3 h ids F
  | [], S, S3, s, t, he => by cases he; exact ⟨s, fun _ => rfl, t⟩
  | ⟨d, gd, op⟩ :: B, S, S3, s, t, he => by
    simp only [runS] at he
    split at he
    · cases he
    · cases hs : sil op with
      | false => rw [hs] at he; cases he
      | true =>
        rw [hs] at he
        simp only [cond_true] at he
        split at he
        · rename_i x S1 hv
          obtain ⟨rfl, v, h1, h2⟩ := sil_sound (C := C) t hs hv
          obtain ⟨s3, h3, h4⟩ := runS_sound (t.put h2 d) he
          exact ⟨s3, fun self => by rw [runOps_step (c := ⟨d, none, op⟩) self rfl (h1 self)]; exact h3 self, h4⟩
        · cases he
def okPl1 : VV → Bool
  | .p (.sl ..) => true
  | .p (.at (.int ..)) => true
  | .p (.at (.bool _)) => true
  | .p (.at (.string _)) => true
  | .p (.fp ..) => true
  | .om _ => true
  | .os .. => true
  | .ob .. => true
  | .op .. => true
  | _ => false
def okPl : VV → Bool
  | .agg l => l.all okPl1
  | x => okPl1 x
theorem okPl1_veq {rd : Addr → List Value → Prop} {ids : Pa → Option Nat} {v : Value} {x : VV} (r : Vr rd ids v x) (hx : okPl1 x = true) : veq1 v v = true := by
  unfold okPl1 at hx
  split at hx
  · cases r with
    | p r => cases r <;> simp [veq1]
  · cases r with
    | p r => cases r; simp [veq1]
  · cases r with
    | p r => cases r; simp [veq1]
  · cases r with
    | p r => cases r; simp [veq1]
  · cases r with
    | p r => cases r; simp [veq1]
  · cases r; simp [veq1]
  · cases r with
    | osN h e => rcases e with rfl | ⟨a, rfl, _⟩ <;> simp [veq1]
    | os => simp [veq1]
  · cases r; simp [veq1]
  · cases r; simp [veq1]
  · cases hx
theorem veq_of1 {v : Value} (h : veq1 v v = true) : veq v v = true := by
  unfold veq
  split
  · cases h
  · cases h
  · exact h
theorem okPl_veq {rd : Addr → List Value → Prop} {ids : Pa → Option Nat} {v : Value} {x : VV} (r : Vr rd ids v x) (hx : okPl x = true) : veq v v = true := by
  unfold okPl at hx
  split at hx
  · rename_i l
    obtain ⟨xs, rfl, ra⟩ := agg_inv r
    rw [List.all_eq_true] at hx
    show veqL xs.toArray.toList xs.toArray.toList = true
    rw [List.toList_toArray]
    have hmem : ∀ y ∈ xs, veq1 y y = true := fun y hy => by
      obtain ⟨i, hi, rfl⟩ := List.mem_iff_getElem.1 hy
      have hi' : i < l.length := by rw [← ra.1]; exact hi
      exact okPl1_veq (ra.2 i _ _ (List.getElem?_eq_getElem hi) (List.getElem?_eq_getElem hi')) (hx _ (List.getElem_mem hi'))
    clear ra r
    induction xs with
    | nil => rfl
    | cons y ys ih =>
      show (veq1 y y && veqL ys ys) = true
      rw [hmem y (List.mem_cons_self ..), ih fun z hz => hmem z (List.mem_cons_of_mem _ hz)]; rfl
  · exact veq_of1 (okPl1_veq r hx)
/-- A region in which a read behind a pure call may come before it. -/
theorem VC.plan {Q : Ex → VSt → Prop} {S : VSt} {ops A B R : List AOper} {dc d : Option Pa} {gd : Option (Pa × Bool)} {g : Opd} {args : List Opd} {n : Option Nat} {a : Opd} {j p : Nat}
    (hops : ops = A ++ ⟨dc, gd, .call g args⟩ :: (B ++ ⟨d, none, .ld n a⟩ :: R)) (hp : p = A.length) (hj : j = A.length + 1 + B.length)
    (hA : VO C A S (fun S1 => ∃ f first cap y S3 u q off cs x, wantV S1 gd = some true ∧ evV S1 g = .clos f first cap ∧ (∀ l b, C.orc f l b = none) ∧ VCall C f (first ++ args.map (evV S1) ++ cap) [] [] y [] ∧ runS B (S1.put dc y) = some S3 ∧
      evV S3 a = .op u q off ∧ PT.get q S3.B = some (.cells cs) ∧ PT.get q S1.B = some (.cells cs) ∧ partV n cs off = some x ∧ okPl x = true ∧ VO C R (S3.put d x) (Q .normal))) : VC C (.reg ops [(j, [p])]) S Q := by
  intro E s h ids F t
  obtain ⟨s1, h1, eA, S1, ids1, F1, ⟨f, first, cap, y, S3, u, q, off, cs, x, hw, hg, ho, hc, hB, ha, hb3, hb1, hx, hpl, hR⟩, X, hE, t1⟩ := hA E s h ids F t
  have rg := evV_sound t1 g
  rw [hg] at rg
  obtain ⟨vf, vc, hvf, rf, rc⟩ : ∃ vf vc : List Value, evA s1 g = .func (.func f) vf.toArray vc.toArray ∧ All2 (Vr (RdF h1 F1) ids1) vf first ∧ All2 (Vr (RdF h1 F1) ids1) vc cap := by
    generalize evA s1 g = w at rg
    cases rg with
    | clos f h1 h2 h3 h4 => exact ⟨_, _, rfl, ⟨h1, h2⟩, ⟨h3, h4⟩⟩
  have rall := (rf.append (evV_list t1 args)).append rc
  have t0 : St (cx h1 ids1 F1 []) ⟨.lf, mkB [] .lf, nmsL [], none⟩ .lf h1 ids1 F1 :=
    ⟨t1.wf, rfl, fun _ hk => hk, fun _ _ _ => rfl, fun _ _ => Iff.rfl, t1.flt, fun a b hb => by simp [mkB] at hb, fun a b k hb => by simp [mkB] at hb, fun a a' b b' k hb => by simp [mkB] at hb, fun p x hx => by simp at hx, fun _ _ => rfl, ⟨rfl, rfl⟩, Nat.le_refl _⟩
  obtain ⟨v, h2, hcall, ids2, F2, t2, rv, hids⟩ := hc h1 ids1 F1 _ (by rw [t1.base]; exact E.glob hE) t0 rall
  have hidseq : ids2 = ids1 := funext fun a => hids a (by simp)
  subst hidseq
  have hkeep : ∀ k, k < h1.next → h2.get k = h1.get k := fun k hk => t2.keep k hk (fun ⟨a, b, hb, _⟩ => by simp [mkB] at hb)
  have hnx : h1.next ≤ h2.next := by
    rcases Nat.lt_or_ge h2.next h1.next with hc | hc
    · exact absurd (t2.next _ hc) (Nat.lt_irrefl _)
    · exact hc
  have tS : St X S1 s1 h2 ids2 F2 := t1.later t2.wf t2.base (fun k hk => Nat.lt_of_lt_of_le (t1.next k hk) hnx) (fun k hk _ => hkeep k (t1.next k hk))
    (fun a b k hb hk => ⟨hkeep k (t1.lt hb hk), fun hF => (t1.own a b k hb hk).1 ((t2.frz k (t1.lt hb hk)).1 hF)⟩) (fun k hk => ⟨(t2.frz k (t1.flt k hk)).2 hk, hkeep k (t1.flt k hk)⟩)
    (fun k hk => (t2.frz k (t1.next k hk)).trans (t1.frz k hk)) t2.flt t2.nx
  obtain ⟨s3, eB, t3⟩ := runS_sound (C := C) (tS.put rv dc) hB
  have ra := evV_sound t3 a
  rw [ha] at ra
  obtain ⟨k, tg, hk, _, hav⟩ := op_inv ra
  have hlt : k < h1.next := t1.lt hb1 hk
  have hld : v_ld S3 n (evV S3 a) = some x := by rw [ha]; simp only [v_ld, hb3]; exact hx
  obtain ⟨w, hw2, rw'⟩ := ld_sound' t3 (evV_sound t3 a) hld
  have hw1 : ldP n (evA s3 a) h1 = some w := by
    rw [← hw2, hav]
    simp only [ldP, ldA, AHeap.row, hkeep k hlt]
  obtain ⟨s', h', eR, S', ids', F', hQ, tQ⟩ := hR E _ _ _ _ ⟨X, hE, t3.put rw' d⟩
  refine ⟨.normal, s', h', codeE_plan hops hp hj eA (want_sound t1 hw) (OpE.call (by rw [hvf]) (ho _ _) ?_) eB hw1 hw2 (okPl_veq rw' hpl) eR, S', ids', F', hQ, tQ⟩
  simpa using hcall
end
end Go.Ab.V

/- Reading what the program's text lays: constant pointers. -/
namespace Go.Ab.V
def gPV (r : List (IntKind × Int)) : List PV := r.map fun q => .at (.int q.1 q.2)
section
variable {C : Cfg} {S : VSt} {Q : VSt → Prop} {d : Option Pa} {gd : Option (Pa × Bool)} {r : List AOper}
theorem glob_rp {X : Ctx} {s : Slots} {h : AHeap} {ids : Pa → Option Nat} {F : Nat → Prop} (t : St X S s h ids F) {E : Env C} (hE : E.ok X) {b : Nat} {row : List (IntKind × Int)} (hg : (b, row) ∈ C.glob) (u o : Nat) (ho : o ≤ row.length) :
    Vr (RdF h F) ids (.pointer (some ⟨b, o, none⟩)) (.p (.fp u (gPV (row.drop o)))) := by
  have hb : h.base b = some (rowI row) := by rw [t.base]; exact E.glob hE _ hg
  refine .p (.fp (row := rowI row) trivial (show RdF h F ⟨b, o, none⟩ (rowI row) from hb) (by simp [gPV, rowI]; omega) fun i y x hy hx => ?_)
  simp only [rowI, List.getElem?_map] at hy
  simp only [gPV, List.getElem?_map, List.getElem?_drop] at hx
  cases hq : row[o + i]? with
  | none => rw [hq] at hy; cases hy
  | some q => rw [hq] at hy hx; cases hy; cases hx; exact .at rfl
/-- A cell's address in an array that the text lays. -/
theorem VO.iadG {len size : Nat} {i : Opd} {b : Nat} {row : List (IntKind × Int)} {k : IntKind} {n : Nat} (hw : wantV S gd = some true) (hg : (b, row) ∈ C.glob) (hi : evV S i = .p (.at (.int k n))) (hn : n < len) (hl : n * size ≤ row.length)
    (hq : VO C r (S.put d (.p (.fp 0 (gPV (row.drop (n * size)))))) Q) : VO C (⟨d, gd, .iad len size (.c (.pointer (some ⟨b, 0, none⟩))) i⟩ :: r) S Q := by
  intro E s h ids F t
  obtain ⟨X, hE, t⟩ := t
  have ri := evV_sound t i
  rw [hi] at ri
  have ei := (at_inv ri).1
  refine WpO.step ?_
  have he : aev (.iad len size (.c (.pointer (some ⟨b, 0, none⟩))) i) false C noSelf s h = some (.pointer (some ⟨b, n * size, none⟩), h) := by
    rw [aev_iad, ei]
    show ret1 (iad len size (.pointer (some ⟨b, 0, none⟩)) (.int k n)) h = _
    simp only [iad]
    rw [if_pos ⟨by omega, by omega⟩]
    simp [ret1, plus]
  rw [want_sound t hw, he]
  exact hq E _ _ _ _ ⟨X, hE, t.put (glob_rp t hE hg 0 _ hl) d⟩
/-- What lies at a constant address. -/
theorem VO.ldG {m : Option Nat} {b : Nat} {row : List (IntKind × Int)} {y : VV} (hw : wantV S gd = some true) (hg : (b, row) ∈ C.glob) (hy : v_ld S m (.p (.fp 0 (gPV row))) = some y)
    (hq : VO C r (S.put d y) Q) : VO C (⟨d, gd, .ld m (.c (.pointer (some ⟨b, 0, none⟩)))⟩ :: r) S Q := by
  intro E s h ids F t
  obtain ⟨X, hE, t⟩ := t
  have rp := glob_rp t hE hg 0 0 (Nat.zero_le _)
  rw [List.drop_zero] at rp
  obtain ⟨w, h1, h2⟩ := ld_sound' t rp hy
  refine WpO.step ?_
  have he : aev (.ld m (.c (.pointer (some ⟨b, 0, none⟩)))) false C noSelf s h = some (w, h) := by
    rw [aev_ld]
    show ret1 (ldP m (.pointer (some ⟨b, 0, none⟩)) h) h = _
    rw [h1]; rfl
  rw [want_sound t hw, he]
  exact hq E _ _ _ _ ⟨X, hE, t.put h2 d⟩
end
/-- A call that hands back new blocks. -/
theorem VO.callN {C : Cfg} {S : VSt} {Q : VSt → Prop} {d : Option Pa} {gd : Option (Pa × Bool)} {g : Opd} {args : List Opd} {r : List AOper} {f : Nat} {first cap L : List VV} {N : List Pa} {y : VV} {B' : List (Pa × VB)} (ho : ∀ l b, C.orc f l b = none) (hc : VCall C f L [] N y B')
    (hl : first ++ args.map (evV S) ++ cap = L) (hw : wantV S gd = some true) (hg : evV S g = .clos f first cap) (hdisN : hasNo S.B (N ++ nmsL B') = true) (hNK : N.all (fun a => nos a S.K) = true) (hsub : subs (nmsL B') N = true)
    (hq : VO C r (VSt.put ⟨filtN N S.L, mkB B' (filtNB N S.B), S.K, S.H⟩ d y) Q) : VO C (⟨d, gd, .call g args⟩ :: r) S Q := by
  refine VO.call [] [] S.B hw hg ho (y := y) (N := N) (B' := B') ?_ trivial trivial (PT.Le.refl _) ?_ hdisN rfl hNK hsub rfl rfl hq
  · rw [borL_eq]
    have : (List.map (borV []) (first ++ args.map (evV S) ++ cap)) = first ++ args.map (evV S) ++ cap := by
      have h1 : borV [] = id := by funext x; rfl
      rw [h1, List.map_id]
    rw [this, hl]; exact hc
  · rfl
end Go.Ab.V

/- Bits of integers, as numbers. -/
namespace Go.Ab.V
theorem bits_i64 : IntKind.i64.bits = 64 := rfl
theorem bits_u64 : IntKind.u64.bits = 64 := rfl
theorem wrapI {x : Int} (h0 : -9223372036854775808 ≤ x) (h1 : x < 9223372036854775808) : IntKind.i64.wrap x = x := by
  simp only [IntKind.wrap, IntKind.signed, IntKind.bits]; simp; omega
theorem wrapU {x : Int} (h0 : 0 ≤ x) (h1 : x < 18446744073709551616) : IntKind.u64.wrap x = x := by
  simp only [IntKind.wrap, IntKind.signed, IntKind.bits]; simp; omega
theorem bv_nat (a : Nat) : BitVec.ofInt 64 (a : Int) = BitVec.ofNat 64 a := by
  apply BitVec.eq_of_toNat_eq
  simp [BitVec.toNat_ofInt]
theorem bv_to {a : Nat} (h : a < 18446744073709551616) : (BitVec.ofInt 64 (a : Int)).toNat = a := by
  rw [bv_nat, BitVec.toNat_ofNat]; exact Nat.mod_eq_of_lt h
def andN (a b : Nat) : Nat := a ^^^ (a &&& b)
theorem andN_bit (a b i : Nat) : (andN a b).testBit i = (a.testBit i && !b.testBit i) := by
  simp only [andN, Nat.testBit_xor, Nat.testBit_and]
  cases a.testBit i <;> cases b.testBit i <;> rfl
theorem andN_le (a b : Nat) : andN a b ≤ a := by
  apply Nat.le_of_testBit
  intro i h
  rw [andN_bit] at h
  simp at h; exact h.1
theorem or_lt62 {a b : Nat} (ha : a < 4611686018427387904) (hb : b < 4611686018427387904) : a ||| b < 4611686018427387904 := Nat.or_lt_two_pow (n := 62) ha hb
theorem and_i64 {a b : Nat} (ha : a < 4611686018427387904) (hb : b < 4611686018427387904) : IntKind.i64.wrap ((BitVec.ofInt IntKind.i64.bits (a : Int) &&& BitVec.ofInt IntKind.i64.bits (b : Int)).toNat : Int) = ((a &&& b : Nat) : Int) := by
  rw [bits_i64, BitVec.toNat_and, bv_to (by omega), bv_to (by omega)]
  have := Nat.and_le_left (n := a) (m := b)
  exact wrapI (by omega) (by omega)
theorem or_i64 {a b : Nat} (ha : a < 4611686018427387904) (hb : b < 4611686018427387904) : IntKind.i64.wrap ((BitVec.ofInt IntKind.i64.bits (a : Int) ||| BitVec.ofInt IntKind.i64.bits (b : Int)).toNat : Int) = ((a ||| b : Nat) : Int) := by
  rw [bits_i64, BitVec.toNat_or, bv_to (by omega), bv_to (by omega)]
  have := or_lt62 ha hb
  exact wrapI (by omega) (by omega)
theorem andn_i64 {a b : Nat} (ha : a < 4611686018427387904) (hb : b < 4611686018427387904) : IntKind.i64.wrap ((BitVec.ofInt IntKind.i64.bits (a : Int) &&& ~~~BitVec.ofInt IntKind.i64.bits (b : Int)).toNat : Int) = ((andN a b : Nat) : Int) := by
  have h : (BitVec.ofInt 64 (a : Int) &&& ~~~BitVec.ofInt 64 (b : Int)).toNat = andN a b := by
    apply Nat.eq_of_testBit_eq
    intro i
    rw [andN_bit, BitVec.testBit_toNat, BitVec.getLsbD_and, BitVec.getLsbD_not, ← BitVec.testBit_toNat, ← BitVec.testBit_toNat, bv_to (by omega), bv_to (by omega)]
    by_cases hi : i < 64
    · simp [hi]
    · have : a.testBit i = false := Nat.testBit_lt_two_pow (Nat.lt_of_lt_of_le ha (Nat.pow_le_pow_right (n := 2) (i := 62) (by decide) (by omega)))
      rw [this]; rfl
  rw [bits_i64, h]
  have := andN_le a b
  exact wrapI (by omega) (by omega)
theorem and_u64 {a b : Nat} (ha : a < 18446744073709551616) (hb : b < 18446744073709551616) : ((BitVec.ofInt IntKind.u64.bits (a : Int) &&& BitVec.ofInt IntKind.u64.bits (b : Int)).toNat : Int) % 18446744073709551616 = ((a &&& b : Nat) : Int) := by
  rw [bits_u64, BitVec.toNat_and, bv_to ha, bv_to hb]
  have := Nat.and_le_left (n := a) (m := b)
  omega
theorem shl_one {n : Nat} (h : n < 62) : shlA .i64 1 (n : Int) = some (.int .i64 ((2 ^ n : Nat) : Int)) := by
  have hp : 2 ^ n < 2 ^ 62 := Nat.pow_lt_pow_right (by decide) h
  unfold shlA
  rw [if_neg (by omega), bits_i64, Int.toNat_natCast, Nat.min_eq_left (by omega), Int.one_mul]
  have e : ((2 : Int) ^ n) = ((2 ^ n : Nat) : Int) := by simp
  have hp : 2 ^ n < 4611686018427387904 := hp
  rw [e]
  generalize 2 ^ n = m at *
  rw [wrapI (by omega) (by omega)]
theorem shr_nat {k : IntKind} (hk : k = .i64 ∨ k = .u64) {a n : Nat} (h : n < 64) : shrA k (a : Int) (n : Int) = some (.int k ((a >>> n : Nat) : Int)) := by
  unfold shrA
  have hb : k.bits = 64 := by rcases hk with rfl | rfl <;> rfl
  have e : ((2 : Int) ^ n) = ((2 ^ n : Nat) : Int) := by simp
  rw [if_neg (by omega), hb, Int.toNat_natCast, Nat.min_eq_left (by omega), e, Int.fdiv_eq_ediv_of_nonneg _ (Int.natCast_nonneg _), ← Int.natCast_ediv, Nat.shiftRight_eq_div_pow]
theorem shr_i64 {a n : Nat} (h : n < 64) : shrA .i64 (a : Int) (n : Int) = some (.int .i64 ((a >>> n : Nat) : Int)) := shr_nat (.inl rfl) h
theorem shr_u64 {a n : Nat} (h : n < 64) : shrA .u64 (a : Int) (n : Int) = some (.int .u64 ((a >>> n : Nat) : Int)) := shr_nat (.inr rfl) h
theorem mulU {a b z : Int} (h : a * b % 18446744073709551616 = z) : bin .mul (.int .u64 a) (.int .u64 b) = some (.int .u64 z) := by
  show some (Value.int .u64 (IntKind.u64.wrap (a * b))) = _
  rw [wrap_u64, h]
/-- One operation on integers, its answer known. -/
theorem VO.bin1 {C : Cfg} {S : VSt} {Q : VSt → Prop} {d : Option Pa} {gd : Option (Pa × Bool)} {r : List AOper} {op : BinOp} {x y : Opd} {v1 v2 v : Value} (he : bin op v1 v2 = some v) (hw : wantV S gd = some true) (hx : evV S x = .p (.at v1)) (hy : evV S y = .p (.at v2))
    (hq : VO C r (S.put d (.p (.at v))) Q) : VO C (⟨d, gd, .bin op x y⟩ :: r) S Q := by
  refine VO.runs 1 (rest := r) (S' := S.put d (.p (.at v))) ?_ hq
  simp only [runK, hw, vev, hx, hy, atV, he, ret1V]
end Go.Ab.V
