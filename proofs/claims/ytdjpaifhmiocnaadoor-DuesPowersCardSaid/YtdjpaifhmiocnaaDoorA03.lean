/- A part of the proof of a law: an evaluator of the code, proved sound against the model, and contracts of functions over it. No condition. -/
import Derived.ChangeArms
import Derived.FnData
import Derived.ChangeAnyMap
import Derived.Test.YtdjpaifhmiocnaaDoorA02
set_option linter.unusedSimpArgs false
set_option linter.unusedVariables false
/- Arguments of any kinds: what lies in memory when a law is called, as pure values. -/
namespace Go.Ab.V
/-- The cells of a type, laid out. -/
inductive Lf where
  | int (k : IntKind)
  | bool
  | str
  | sl (e : List Lf)
def repL (l : List Lf) : Nat → List Lf
  | 0 => []
  | n + 1 => l ++ repL l n
mutual
inductive Leaves (P : Program) : TypeId → List Lf → Prop
  | int {t : TypeId} {k : IntKind} : P.underlying t = some (.int k) → Leaves P t [.int k]
  | bool {t : TypeId} : P.underlying t = some .bool → Leaves P t [.bool]
  | str {t : TypeId} : P.underlying t = some .string → Leaves P t [.str]
  | sl {t e : TypeId} {l : List Lf} : P.underlying t = some (.slice e) → Leaves P e l → P.cellsOf e = l.length → l ≠ [] → Leaves P t [.sl l]
  | arr {t e : TypeId} {n : Nat} {l : List Lf} : P.underlying t = some (.array n e) → Leaves P e l → P.cellsOf e = l.length → P.cellsOf t = n * l.length → Leaves P t (repL l n)
  | st {t : TypeId} {fs : Array Field} {l : List Lf} : P.underlying t = some (.struct fs) → LeavesF P fs.toList 0 l → P.cellsOf t = l.length → Leaves P t l
inductive LeavesF (P : Program) : List Field → Nat → List Lf → Prop
  | nil {o : Nat} : LeavesF P [] o []
  | cons {f : Field} {fs : List Field} {o : Nat} {l l' : List Lf} : f.offset = o → Leaves P f.type l → P.cellsOf f.type = l.length → LeavesF P fs (o + l.length) l' → LeavesF P (f :: fs) o (l ++ l')
end
/-- Data of these kinds. -/
inductive Dt where
  | int (k : IntKind) (n : Int)
  | bool (b : Bool)
  | str (s : ByteArray)
  | sl (u : Nat) (rows : List (List Dt))
mutual
def encD : Dt → PV
  | .int k n => .at (.int k n)
  | .bool b => .at (.bool b)
  | .str s => .at (.string s)
  | .sl u rows => .sl u rows.length (encR rows)
def encL : List Dt → List PV
  | [] => []
  | d :: r => encD d :: encL r
def encR : List (List Dt) → List PV
  | [] => []
  | d :: r => encL d ++ encR r
end
theorem encL_map : ∀ l : List Dt, encL l = l.map encD
  | [] => rfl
  | d :: r => by rw [encL, List.map_cons, encL_map r]
theorem encL_len (l : List Dt) : (encL l).length = l.length := by rw [encL_map, List.length_map]
inductive WT : List Lf → List Dt → Prop
  | nil : WT [] []
  | int {k : IntKind} {n : Int} {l : List Lf} {r : List Dt} : (Lit.int k n).wf = true → WT l r → WT (.int k :: l) (.int k n :: r)
  | bool {b : Bool} {l : List Lf} {r : List Dt} : WT l r → WT (.bool :: l) (.bool b :: r)
  | str {s : ByteArray} {l : List Lf} {r : List Dt} : s.size ≤ maxLen → WT l r → WT (.str :: l) (.str s :: r)
  | sl {e : List Lf} {rows : List (List Dt)} {l : List Lf} {r : List Dt} : rows.length ≤ maxLen → (∀ x ∈ rows, WT e x) → WT l r → WT (.sl e :: l) (.sl e.length rows :: r)
theorem WT.len : ∀ {l : List Lf} {r : List Dt}, WT l r → l.length = r.length
  | _, _, .nil => rfl
  | _, _, .int _ h => by simp [h.len]
  | _, _, .bool h => by simp [h.len]
  | _, _, .str _ h => by simp [h.len]
  | _, _, .sl _ _ h => by simp [h.len]
theorem WT.append : ∀ {l l' : List Lf} {r r' : List Dt}, WT l r → WT l' r' → WT (l ++ l') (r ++ r')
  | _, _, _, _, .nil, h' => h'
  | _, _, _, _, .int w h, h' => .int w (h.append h')
  | _, _, _, _, .bool h, h' => .bool (h.append h')
  | _, _, _, _, .str w h, h' => .str w (h.append h')
  | _, _, _, _, .sl a b h, h' => .sl a b (h.append h')
theorem encR_len {e : List Lf} : ∀ {rows : List (List Dt)}, (∀ x ∈ rows, WT e x) → (encR rows).length = rows.length * e.length
  | [], _ => by simp [encR]
  | d :: r, h => by
    rw [encR, List.length_append, encL_len, ← (h d (by simp)).len, encR_len (fun x hx => h x (List.mem_cons_of_mem _ hx)), List.length_cons, Nat.succ_mul, Nat.add_comm]
theorem encR_get {e : List Lf} : ∀ {rows : List (List Dt)}, (∀ x ∈ rows, WT e x) → ∀ (i k : Nat) (hi : i < rows.length), k < e.length → (encR rows)[i * e.length + k]? = (encL rows[i])[k]?
  | [], _, i, k, hi, _ => absurd hi (Nat.not_lt_zero i)
  | d :: r, h, 0, k, _, hk => by
    rw [encR, Nat.zero_mul, Nat.zero_add, List.getElem?_append_left (by rw [encL_len, ← (h d (by simp)).len]; exact hk)]; rfl
  | d :: r, h, i + 1, k, hi, hk => by
    have hd := (h d (by simp)).len
    rw [encR, List.getElem?_append_right (by rw [encL_len, ← hd, Nat.succ_mul]; omega), encL_len, ← hd, show (i + 1) * e.length + k - e.length = i * e.length + k from by rw [Nat.succ_mul]; omega,
      encR_get (fun x hx => h x (List.mem_cons_of_mem _ hx)) i k (by simpa using hi) hk]; rfl
theorem choose_rows {p : Nat → List Dt → Prop} : ∀ n, (∀ i, i < n → ∃ d, p i d) → ∃ rows : List (List Dt), rows.length = n ∧ ∀ i (h : i < rows.length), p i rows[i]
  | 0, _ => ⟨[], rfl, fun i h => absurd h (Nat.not_lt_zero i)⟩
  | n + 1, hp => by
    obtain ⟨rows, hl, hr⟩ := choose_rows n fun i h => hp i (by omega)
    obtain ⟨d, hd⟩ := hp n (by omega)
    refine ⟨rows ++ [d], by simp [hl], fun i h => ?_⟩
    by_cases hi : i < rows.length
    · rw [List.getElem_append_left hi]; exact hr i hi
    · have : i = n := by simp [hl] at h; omega
      subst this
      rw [List.getElem_append_right (by omega)]
      simpa [hl] using hd
/-- What cells hold. -/
def OpenR (W : World) (lf : List Lf) (cs : List Value) : Prop := ∃ ds, WT lf ds ∧ All2 (fun c d => Rp (rd0 W) (cln c) (encD d)) cs ds
theorem OpenR.append {W : World} {l l' : List Lf} {cs cs' : List Value} : OpenR W l cs → OpenR W l' cs' → OpenR W (l ++ l') (cs ++ cs')
  | ⟨ds, h1, h2⟩, ⟨ds', h1', h2'⟩ => ⟨ds ++ ds', h1.append h1', h2.append h2'⟩
section
variable {H : Type} {enc : TypeId × Value → H} {P : Program} {W : World} {base : Nat} {held : Bool}
theorem open_rep {l : List Lf} {cs : List Value} : ∀ (n : Nat), cs.length = n * l.length → (∀ i, i < n → OpenR W l ((cs.drop (i * l.length)).take l.length)) → OpenR W (repL l n) cs
  | 0, hl, _ => by
    have : cs = [] := List.eq_nil_of_length_eq_zero (by omega)
    subst this; exact ⟨[], .nil, .nil⟩
  | n + 1, hl, h => by
    have h0 := h 0 (by omega)
    rw [Nat.zero_mul, List.drop_zero] at h0
    have hr := open_rep (l := l) (cs := cs.drop l.length) n (by rw [List.length_drop, hl, Nat.succ_mul]; omega) (fun i hi => by
      have := h (i + 1) (by omega)
      rw [List.drop_drop, show l.length + i * l.length = (i + 1) * l.length from by rw [Nat.succ_mul]; omega]
      exact this)
    have := h0.append hr
    rw [List.take_append_drop] at this
    exact this
theorem open_sl {l : List Lf} {a : Addr} {len cap : Nat} {e : TypeId} (hn : P.cellsOf e = l.length) (hne : l ≠ []) (hlc : len ≤ cap) (hcm : cap ≤ maxLen)
    (hel : ∀ i, i < cap → ∃ ci, W.cells? base (a.add (i * P.cellsOf e)) (P.cellsOf e) = some ci ∧ OpenR W l ci) : OpenR W [.sl l] [.slice (some a) len cap] := by
  have hpos : 0 < l.length := List.length_pos_iff.2 hne
  rw [hn] at hel
  have cell : ∀ i k, i < cap → k < l.length → ∃ v, W.cell? ((a.add (i * l.length)).add k) = some v := fun i k hi hk => by
    obtain ⟨ci, h1, _⟩ := hel i hi
    obtain ⟨_, h3, h4⟩ := World.cells?_some h1
    exact ⟨ci[k]'(by omega), by rw [h4 k hk, List.getElem?_eq_getElem]⟩
  by_cases h0 : cap = 0
  · have : len = 0 := by omega
    subst h0; subst this
    refine ⟨[.sl l.length []], .sl (by simp) (fun x hx => by simp at hx) .nil, .cons ?_ .nil⟩
    rw [encD, encR, List.length_nil]
    exact .sl0 trivial
  have hs0 : (a.add (0 * l.length)).add 0 = a := by rw [Nat.zero_mul, add_zero, add_zero]
  obtain ⟨v0, hv0⟩ := cell 0 0 (by omega) hpos
  rw [hs0] at hv0
  obtain ⟨hs, row, hrow, _⟩ := cell_base hv0
  have hadd : ∀ i k, (a.add (i * l.length)).add k = { a with off := a.off + i * l.length + k } := fun i k => by
    rw [add_off hs, add_off (x := { a with off := a.off + i * l.length }) hs]
  have hcell : ∀ i, i < cap → ∀ ci, W.cells? base (a.add (i * l.length)) l.length = some ci → ∀ k, k < l.length → ∃ v, ci[k]? = some v ∧ row[a.off + i * l.length + k]? = some (cln v) := fun i hi ci hci k hk => by
    obtain ⟨_, h3, h4⟩ := World.cells?_some hci
    have hck : ci[k]? = some (ci[k]'(by omega)) := List.getElem?_eq_getElem _
    have h5 := h4 k hk
    rw [hadd, hck] at h5
    obtain ⟨_, row', hr1, hr2⟩ := cell_base h5
    have hr1 : baseW W a.block = some row' := hr1
    rw [hrow] at hr1; cases hr1
    exact ⟨_, hck, hr2⟩
  obtain ⟨rows, hrl, hrw⟩ := choose_rows (p := fun i d => WT l d ∧ ∀ k, k < l.length → ∀ y x, row[a.off + i * l.length + k]? = some y → (encL d)[k]? = some x → Rp (rd0 W) y x) len (fun i hi => by
    obtain ⟨ci, h1, ds, hw, ha⟩ := hel i (by omega)
    refine ⟨ds, hw, fun k hk y x hy hx => ?_⟩
    obtain ⟨v, hv1, hv2⟩ := hcell i (by omega) ci h1 k hk
    rw [hv2] at hy; cases hy
    rw [encL_map, List.getElem?_map] at hx
    cases hd : ds[k]? with
    | none => rw [hd] at hx; cases hx
    | some d => rw [hd] at hx; cases hx; exact ha.2 k _ _ hv1 hd)
  have hwt : ∀ x ∈ rows, WT l x := fun x hx => by
    obtain ⟨i, hi, rfl⟩ := List.mem_iff_getElem.1 hx
    exact (hrw i hi).1
  refine ⟨[.sl l.length rows], .sl (by omega) hwt .nil, .cons ?_ .nil⟩
  have hcln : cln (.slice (some a) len cap) = .slice (some a) len cap := by
    have : selfB (.slice (some a) len cap) = true := by
      show (a.spot.isNone && Nat.ble len cap) = true
      rw [hs]; simp [hlc]
    unfold cln
    split
    · rename_i h; cases h; exact absurd rfl h0
    · unfold clnS; rw [this]; rfl
  rw [hcln, encD]
  have hlenR := encR_len hwt
  rw [hrl]
  rw [hrl] at hlenR
  refine .sl (row := row) ?_ hlc ?_ ?_ ?_
  · unfold tgOk; rw [hs]; trivial
  · show RdF _ _ _ _
    unfold RdF; rw [hs]; exact hrow
  · rw [hlenR]
    obtain ⟨ci, h1, _⟩ := hel (cap - 1) (by omega)
    obtain ⟨v, _, hv2⟩ := hcell (cap - 1) (by omega) ci h1 (l.length - 1) (by omega)
    have h6 := (List.getElem?_eq_some_iff.1 hv2).1
    have h7 : len * l.length ≤ cap * l.length := Nat.mul_le_mul_right _ hlc
    have h8 : (cap - 1) * l.length + l.length = cap * l.length := by rw [← Nat.succ_mul]; congr 1; omega
    omega
  · intro idx y x hy hx
    have hlt : idx < len * l.length := by rw [← hlenR]; exact (List.getElem?_eq_some_iff.1 hx).1
    have hi : idx / l.length < len := Nat.div_lt_of_lt_mul (by rw [Nat.mul_comm]; exact hlt)
    have hk := Nat.mod_lt idx hpos
    have hidx : idx = idx / l.length * l.length + idx % l.length := by rw [Nat.mul_comm]; exact (Nat.div_add_mod idx l.length).symm
    rw [hidx] at hx hy
    rw [encR_get hwt _ _ (by omega) hk] at hx
    exact (hrw _ (by omega)).2 _ hk y x (by rw [Nat.add_assoc]; exact hy) hx
theorem trod_arr {t e : TypeId} {n fuel : Nat} {cs : List Value} {x : DataW H × List MemPlace} (ht : P.underlying t = some (.array n e)) (h : DataW.trod enc P W base (fun _ => true) held fuel t cs = some x) :
    ∃ (m : Nat) (xs : List (DataW H × List MemPlace)), cs.length = P.cellsOf t ∧ (List.range n).mapM (fun i => DataW.trod enc P W base (fun _ => true) held m e ((cs.drop (i * P.cellsOf e)).take (P.cellsOf e))) = some xs := by
  cases fuel with
  | zero => simp [DataW.trod] at h
  | succ m =>
    unfold DataW.trod at h
    rw [ht] at h
    split at h <;> simp_all
    obtain ⟨hl, xs, hp, _⟩ := h
    exact ⟨m, xs, hp⟩
theorem trod_str {t : TypeId} {fuel : Nat} {cs : List Value} {x : DataW H × List MemPlace} (ht : P.underlying t = some .string) (h : DataW.trod enc P W base (fun _ => true) held fuel t cs = some x) :
    ∃ s : ByteArray, cs = [.string s] ∧ s.size ≤ maxLen := by
  cases fuel with
  | zero => simp [DataW.trod] at h
  | succ m =>
    unfold DataW.trod at h
    rw [ht] at h
    split at h <;> simp_all
theorem trod_bool {t : TypeId} {fuel : Nat} {cs : List Value} {x : DataW H × List MemPlace} (ht : P.underlying t = some .bool) (h : DataW.trod enc P W base (fun _ => true) held fuel t cs = some x) :
    ∃ b : Bool, cs = [.bool b] := by
  cases fuel with
  | zero => simp [DataW.trod] at h
  | succ m =>
    unfold DataW.trod at h
    rw [ht] at h
    split at h <;> simp_all
theorem open_all {t : TypeId} {lf : List Lf} (L : Leaves P t lf) : ∀ {fuel : Nat} {cs : List Value} {x : DataW H × List MemPlace}, DataW.trod enc P W base (fun _ => true) held fuel t cs = some x → OpenR W lf cs := by
  induction L using Leaves.rec (motive_2 := fun fs o l _ => ∀ {n : Nat} {cs : List Value}, (∀ f ∈ fs, ∃ y : DataW H × List MemPlace, DataW.trod enc P W base (fun _ => true) held n f.type ((cs.drop f.offset).take (P.cellsOf f.type)) = some y) → cs.length = o + l.length → OpenR W l (cs.drop o)) with
  | int ht =>
    intro fuel cs x h
    obtain ⟨m, rfl, _, hw⟩ := DataW.trod_int ht h
    exact ⟨[.int _ m], .int hw .nil, .cons (.at rfl) .nil⟩
  | bool ht =>
    intro fuel cs x h
    obtain ⟨b, rfl⟩ := trod_bool ht h
    exact ⟨[.bool b], .bool .nil, .cons (.at rfl) .nil⟩
  | str ht =>
    intro fuel cs x h
    obtain ⟨b, rfl, hb⟩ := trod_str ht h
    exact ⟨[.str b], .str hb .nil, .cons (.at rfl) .nil⟩
  | sl ht _ hn hne ih =>
    intro fuel cs x h
    rename_i t e l _
    rcases DataW.trod_slice ht h with ⟨rfl, _⟩ | ⟨a, len, cap, elems, rest, n, _, rfl, _, hb, hl, hm, hlen, hel, hsp, _⟩
    · exact ⟨[.sl l.length []], .sl (by simp) (fun x hx => by simp at hx) .nil, .cons (by rw [encD, encR]; exact .nil) .nil⟩
    · obtain ⟨hrl, hr⟩ := hsp rfl
      refine open_sl (base := base) hn hne hl hm fun i hi => ?_
      have : ∃ y, (W.cells? base (a.add (i * P.cellsOf e)) (P.cellsOf e)).bind (DataW.trod enc P W base (fun _ => true) held n e) = some y := by
        by_cases hi' : i < len
        · exact ⟨elems[i]'(by omega), by rw [hel i hi', List.getElem?_eq_getElem]⟩
        · have := hr (i - len) (by omega)
          rw [show len + (i - len) = i by omega] at this
          exact ⟨rest[i - len]'(by omega), by rw [this, List.getElem?_eq_getElem]⟩
      obtain ⟨y, hy⟩ := this
      rw [Option.bind_eq_some_iff] at hy
      obtain ⟨ci, h1, h2⟩ := hy
      exact ⟨ci, h1, ih h2⟩
  | arr ht _ hn hc ih =>
    intro fuel cs x h
    rename_i t e n l _
    obtain ⟨m, xs, hl, hp⟩ := trod_arr ht h
    rw [hc] at hl
    rw [hn] at hp
    refine open_rep n hl fun i hi => ?_
    have := mapM_some_get hp i i (by simp [hi])
    exact ih (this.trans (List.getElem?_eq_getElem (by have := mapM_some_length hp; simp at this; omega)))
  | st ht _ hc ih =>
    intro fuel cs x h
    obtain ⟨xs, n, _, _, hl, hlen, hf⟩ := DataW.trod_struct ht h
    have := ih (n := n) (cs := cs) (fun f hf' => by
      obtain ⟨i, hi, he⟩ := List.mem_iff_getElem.1 hf'
      have h1 := hf i f (by rw [← Array.getElem?_toList, List.getElem?_eq_getElem hi, he])
      exact ⟨xs[i]'(by rw [hlen]; simpa using hi), by rw [h1, List.getElem?_eq_getElem]⟩) (by rw [hl, hc, Nat.zero_add])
    simpa using this
  | nil => 
    rename_i hl
    refine ⟨[], .nil, ?_⟩
    rw [List.drop_of_length_le (by simp at hl; omega)]; exact .nil
  | cons ho _ hc _ ih1 ih2 =>
    rename_i f fs o l l' _ _ n cs hf hl
    obtain ⟨y, hy⟩ := hf f (by simp)
    have h1 := ih1 hy
    have h2 := ih2 (n := n) (cs := cs) (fun g hg => hf g (List.mem_cons_of_mem _ hg)) (by rw [hl, List.length_append]; omega)
    have := h1.append h2
    rw [ho, hc, ← List.drop_drop, List.take_append_drop] at this
    exact this
end
def encV (d : Dt) : VV := .p (encD d)
theorem arg_sl {W : World} {l : List Lf} {v : Value} (h : OpenR W [.sl l] [v]) : ∃ rows : List (List Dt), (∀ x ∈ rows, WT l x) ∧ rows.length ≤ 9223372036854775807 ∧ VR J0 (cln v) v ∧ Vr (rd0 W) ids0 (cln v) (.p (.sl l.length rows.length (encR rows))) := by
  obtain ⟨ds, hw, ha⟩ := h
  cases hw with
  | sl h1 h2 h3 =>
    rename_i rows r
    refine ⟨rows, h2, h1, cln_vr _ _, ?_⟩
    have := ha.head
    rw [encD] at this
    exact .p this
theorem arg_agg {W : World} {lf : List Lf} {cs : Array Value} (h : OpenR W lf cs.toList) : ∃ ds : List Dt, WT lf ds ∧ VR J0 (.agg (cs.toList.map cln).toArray) (.agg cs) ∧ Vr (rd0 W) ids0 (.agg (cs.toList.map cln).toArray) (.agg (ds.map encV)) := by
  obtain ⟨ds, hw, ha⟩ := h
  refine ⟨ds, hw, ?_, .agg (by rw [List.length_map, List.length_map]; exact ha.1) fun i x y hx hy => ?_⟩
  · have := VR.agg (J := J0) (xs := cs.toList.map cln) (ys := cs.toList) (by simp) (fun i x y hx hy => by
      rw [List.getElem?_map, hy] at hx; cases hx; exact cln_vr _ _)
    simpa using this
  · rw [List.getElem?_map] at hx hy
    cases hc : cs.toList[i]? with
    | none => rw [hc] at hx; cases hx
    | some c =>
      cases hd : ds[i]? with
      | none => rw [hd] at hy; cases hy
      | some d => rw [hc] at hx; rw [hd] at hy; cases hx; cases hy; exact .p (ha.2 i c d hc hd)
theorem wf_i64 {n : Int} (h : (Lit.int .i64 n).wf = true) : -9223372036854775808 ≤ n ∧ n ≤ 9223372036854775807 := by
  simp [Lit.wf, IntKind.min, IntKind.max, IntKind.signed, IntKind.bits] at h
  omega
def i64P (p : Int × Int) : Prop := (-9223372036854775808 ≤ p.1 ∧ p.1 ≤ 9223372036854775807) ∧ -9223372036854775808 ≤ p.2 ∧ p.2 ≤ 9223372036854775807
def i64B (n : Int) : Prop := -9223372036854775808 ≤ n ∧ n ≤ 9223372036854775807
theorem rows_ints : ∀ {rows : List (List Dt)}, (∀ x ∈ rows, WT [.int .i64] x) → ∃ l : List Int, l.length = rows.length ∧ encR rows = l.map pi ∧ ∀ p ∈ l, i64B p
  | [], _ => ⟨[], rfl, rfl, by simp⟩
  | d :: r, h => by
    obtain ⟨l, h1, h2, h3⟩ := rows_ints fun x hx => h x (List.mem_cons_of_mem _ hx)
    have hd := h d (by simp)
    cases hd with
    | int w1 hd =>
      rename_i n r1
      cases hd with
      | nil => exact ⟨n :: l, by simp [h1], by rw [encR, h2]; rfl, by
          intro p hp
          rcases List.mem_cons.1 hp with rfl | hp
          · exact wf_i64 w1
          · exact h3 p hp⟩
theorem rows_pairs : ∀ {rows : List (List Dt)}, (∀ x ∈ rows, WT [.int .i64, .int .i64] x) → ∃ l : List (Int × Int), l.length = rows.length ∧ encR rows = flP l ∧ ∀ p ∈ l, i64P p
  | [], _ => ⟨[], rfl, rfl, by simp⟩
  | d :: r, h => by
    obtain ⟨l, h1, h2, h3⟩ := rows_pairs fun x hx => h x (List.mem_cons_of_mem _ hx)
    have hd := h d (by simp)
    cases hd with
    | int w1 hd =>
      rename_i n r1
      cases hd with
      | int w2 hd =>
        rename_i m r2
        cases hd with
        | nil => exact ⟨(n, m) :: l, by simp [h1], by rw [encR, h2]; rfl, by
            intro p hp
            rcases List.mem_cons.1 hp with rfl | hp
            · exact ⟨wf_i64 w1, wf_i64 w2⟩
            · exact h3 p hp⟩
theorem rows_lists : ∀ {rows : List (List Dt)}, (∀ x ∈ rows, WT [.sl [.int .i64]] x) → ∃ l : List (List Int), l.length = rows.length ∧ encR rows = l.map sl1P ∧ ∀ p ∈ l, p.length ≤ 9223372036854775807 ∧ ∀ x ∈ p, i64B x
  | [], _ => ⟨[], rfl, rfl, by simp⟩
  | d :: r, h => by
    obtain ⟨l, h1, h2, h3⟩ := rows_lists fun x hx => h x (List.mem_cons_of_mem _ hx)
    have hd := h d (by simp)
    cases hd with
    | sl w1 w2 hd =>
      rename_i rr r1
      cases hd with
      | nil =>
        obtain ⟨q, q1, q2, q3⟩ := rows_ints w2
        exact ⟨q :: l, by simp [h1], by rw [encR, h2]; simp only [encL, encD, q2, ← q1]; rfl, by
            intro p hp
            rcases List.mem_cons.1 hp with rfl | hp
            · exact ⟨by have : maxLen = 9223372036854775807 := rfl; omega, q3⟩
            · exact h3 p hp⟩
/-- A slice of ints, of pairs, of lists. -/
theorem arg_sl1 {W : World} {v : Value} (h : OpenR W [.sl [.int .i64]] [v]) : ∃ l : List Int, l.length ≤ 9223372036854775807 ∧ (∀ p ∈ l, i64B p) ∧ VR J0 (cln v) v ∧ Vr (rd0 W) ids0 (cln v) (sl1 l) := by
  obtain ⟨rows, h1, h2, h3, h4⟩ := arg_sl h
  obtain ⟨l, g1, g2, g3⟩ := rows_ints h1
  exact ⟨l, by omega, g3, h3, by rw [sl1, g1, ← g2]; exact h4⟩
theorem arg_slP {W : World} {v : Value} (h : OpenR W [.sl [.int .i64, .int .i64]] [v]) : ∃ l : List (Int × Int), l.length ≤ 9223372036854775807 ∧ (∀ p ∈ l, i64P p) ∧ VR J0 (cln v) v ∧ Vr (rd0 W) ids0 (cln v) (slP l) := by
  obtain ⟨rows, h1, h2, h3, h4⟩ := arg_sl h
  obtain ⟨l, g1, g2, g3⟩ := rows_pairs h1
  exact ⟨l, by omega, g3, h3, by rw [slP, g1, ← g2]; exact h4⟩
theorem arg_sl2 {W : World} {v : Value} (h : OpenR W [.sl [.sl [.int .i64]]] [v]) : ∃ l : List (List Int), l.length ≤ 9223372036854775807 ∧ (∀ p ∈ l, p.length ≤ 9223372036854775807 ∧ ∀ x ∈ p, i64B x) ∧ VR J0 (cln v) v ∧ Vr (rd0 W) ids0 (cln v) (sl2 l) := by
  obtain ⟨rows, h1, h2, h3, h4⟩ := arg_sl h
  obtain ⟨l, g1, g2, g3⟩ := rows_lists h1
  exact ⟨l, by omega, g3, h3, by rw [sl2, g1, ← g2]; exact h4⟩
theorem wt_nil {ds : List Dt} (h : WT [] ds) : ds.map encV = [] := by cases h; rfl
theorem wt_int {r : List Lf} {ds : List Dt} (h : WT (.int .i64 :: r) ds) : ∃ (n : Int) (ds' : List Dt), ds.map encV = vi n :: ds'.map encV ∧ i64B n ∧ WT r ds' := by
  cases h with
  | int w h => exact ⟨_, _, rfl, wf_i64 w, h⟩
theorem wt_bool {r : List Lf} {ds : List Dt} (h : WT (.bool :: r) ds) : ∃ (n : Bool) (ds' : List Dt), ds.map encV = vb n :: ds'.map encV ∧ WT r ds' := by
  cases h with
  | bool h => exact ⟨_, _, rfl, h⟩
theorem wt_str {r : List Lf} {ds : List Dt} (h : WT (.str :: r) ds) : ∃ (n : ByteArray) (ds' : List Dt), ds.map encV = .p (.at (.string n)) :: ds'.map encV ∧ n.size ≤ 9223372036854775807 ∧ WT r ds' := by
  cases h with
  | str w h => exact ⟨_, _, rfl, w, h⟩
theorem wt_sl1 {r : List Lf} {ds : List Dt} (h : WT (.sl [.int .i64] :: r) ds) : ∃ (l : List Int) (ds' : List Dt), ds.map encV = sl1 l :: ds'.map encV ∧ l.length ≤ 9223372036854775807 ∧ (∀ p ∈ l, i64B p) ∧ WT r ds' := by
  cases h with
  | sl h1 h2 h =>
    obtain ⟨l, g1, g2, g3⟩ := rows_ints h2
    refine ⟨l, _, ?_, ?_, g3, h⟩
    · rw [List.map_cons, encV, encD, sl1, g1, ← g2]; rfl
    · have : maxLen = 9223372036854775807 := rfl
      omega
theorem wt_slP {r : List Lf} {ds : List Dt} (h : WT (.sl [.int .i64, .int .i64] :: r) ds) : ∃ (l : List (Int × Int)) (ds' : List Dt), ds.map encV = slP l :: ds'.map encV ∧ l.length ≤ 9223372036854775807 ∧ (∀ p ∈ l, i64P p) ∧ WT r ds' := by
  cases h with
  | sl h1 h2 h =>
    obtain ⟨l, g1, g2, g3⟩ := rows_pairs h2
    refine ⟨l, _, ?_, ?_, g3, h⟩
    · rw [List.map_cons, encV, encD, slP, g1, ← g2]; rfl
    · have : maxLen = 9223372036854775807 := rfl
      omega
theorem wt_sl2 {r : List Lf} {ds : List Dt} (h : WT (.sl [.sl [.int .i64]] :: r) ds) : ∃ (l : List (List Int)) (ds' : List Dt), ds.map encV = sl2 l :: ds'.map encV ∧ l.length ≤ 9223372036854775807 ∧ (∀ p ∈ l, p.length ≤ 9223372036854775807 ∧ ∀ x ∈ p, i64B x) ∧ WT r ds' := by
  cases h with
  | sl h1 h2 h =>
    obtain ⟨l, g1, g2, g3⟩ := rows_lists h2
    refine ⟨l, _, ?_, ?_, g3, h⟩
    · rw [List.map_cons, encV, encD, sl2, g1, ← g2]; rfl
    · have : maxLen = 9223372036854775807 := rfl
      omega
theorem okWide_arr {P : Program} {w : World} {r : Reach} {base n : Nat} {t e : TypeId} {v : Value} (ht : P.underlying t = some (.array n e)) (h : Value.okWide P w r base t v) : ∃ cs, v = .agg cs := by
  simp only [Value.okWide, ht] at h
  obtain ⟨cs, h, _⟩ := h; exact ⟨cs, h⟩
theorem okWide_st {P : Program} {w : World} {r : Reach} {base : Nat} {t : TypeId} {fs : Array Field} {v : Value} (ht : P.underlying t = some (.struct fs)) (h : Value.okWide P w r base t v) : ∃ cs, v = .agg cs := by
  simp only [Value.okWide, ht] at h
  obtain ⟨cs, h, _⟩ := h; exact ⟨cs, h⟩
end Go.Ab.V

/- Regions in which a read may come before or behind a call. -/
namespace Go.Ab.V
section
variable {C : Cfg}
theorem states_head (self : Task → Option Res) (A : List AOper) (s : Slots) (h : AHeap) : (states false C self A s h)[0]? = some (s, h) := by
  cases A <;> rfl
theorem states_get (self : Task → Option Res) : ∀ (A X : List AOper) (s s1 : Slots) (h h1 : AHeap), runOps false C self A s h = some (s1, h1) → (states false C self (A ++ X) s h)[A.length]? = some (s1, h1)
  | [], X, s, s1, h, h1, he => by cases he; exact states_head self X s h
  | o :: A, X, s, s1, h, h1, he => by
    have he : (match wantedA s o.guard with
      | none => none
      | some t => Bool.casesOn t (setO o.dst s skipV fun s => runOps false C self A s h)
        (match aev o.op false C self s h with
          | some (v, h') => frcV false v fun v => frcH false h' fun h' => setO o.dst s v fun s => runOps false C self A s h'
          | none => none)) = some (s1, h1) := he
    show ((s, h) :: (match wantedA s o.guard with
      | none => []
      | some true => match aev o.op false C self s h with
        | some (v, h') => states false C self (A ++ X) (setO o.dst s v fun s => s) h'
        | none => []
      | some false => states false C self (A ++ X) (setO o.dst s skipV fun s => s) h))[A.length + 1]? = _
    rw [List.getElem?_cons_succ]
    cases hw : wantedA s o.guard with
    | none => rw [hw] at he; cases he
    | some t =>
      rw [hw] at he
      cases t with
      | false =>
        have he : setO o.dst s skipV (fun s => runOps false C self A s h) = some (s1, h1) := he
        rw [setO_eq] at he
        exact states_get self A X _ s1 h h1 he
      | true =>
        cases hv : aev o.op false C self s h with
        | none => simp only [hv] at he; cases he
        | some r =>
          obtain ⟨v, h'⟩ := r
          simp only [hv] at he
          have he : frcV false v (fun v => frcH false h' fun h' => setO o.dst s v fun s => runOps false C self A s h') = some (s1, h1) := he
          simp only [frcV_eq, frcH_eq] at he
          rw [setO_eq] at he
          exact states_get self A X _ s1 h' h1 he
theorem runOps_append (self : Task → Option Res) : ∀ (A X : List AOper) (s s1 : Slots) (h h1 : AHeap), runOps false C self A s h = some (s1, h1) → runOps false C self (A ++ X) s h = runOps false C self X s1 h1
  | [], X, s, s1, h, h1, he => by cases he; rfl
  | o :: A, X, s, s1, h, h1, he => by
    have he : (match wantedA s o.guard with
      | none => none
      | some t => Bool.casesOn t (setO o.dst s skipV fun s => runOps false C self A s h)
        (match aev o.op false C self s h with
          | some (v, h') => frcV false v fun v => frcH false h' fun h' => setO o.dst s v fun s => runOps false C self A s h'
          | none => none)) = some (s1, h1) := he
    show (match wantedA s o.guard with
      | none => none
      | some t => Bool.casesOn t (setO o.dst s skipV fun s => runOps false C self (A ++ X) s h)
        (match aev o.op false C self s h with
          | some (v, h') => frcV false v fun v => frcH false h' fun h' => setO o.dst s v fun s => runOps false C self (A ++ X) s h'
          | none => none)) = _
    cases hw : wantedA s o.guard with
    | none => rw [hw] at he; cases he
    | some t =>
      rw [hw] at he
      cases t with
      | false =>
        have he : setO o.dst s skipV (fun s => runOps false C self A s h) = some (s1, h1) := he
        rw [setO_eq] at he
        show setO o.dst s skipV (fun s => runOps false C self (A ++ X) s h) = _
        rw [setO_eq]
        exact runOps_append self A X _ s1 h h1 he
      | true =>
        cases hv : aev o.op false C self s h with
        | none => simp only [hv] at he; cases he
        | some r =>
          obtain ⟨v, h'⟩ := r
          simp only [hv] at he
          have he : frcV false v (fun v => frcH false h' fun h' => setO o.dst s v fun s => runOps false C self A s h') = some (s1, h1) := he
          simp only [frcV_eq, frcH_eq] at he
          rw [setO_eq] at he
          show frcV false v (fun v => frcH false h' fun h' => setO o.dst s v fun s => runOps false C self (A ++ X) s h') = _
          simp only [frcV_eq, frcH_eq]
          rw [setO_eq]
          exact runOps_append self A X _ s1 h' h1 he
theorem runOps_step (self : Task → Option Res) {c : AOper} {X : List AOper} {s : Slots} {h h' : AHeap} {v : Value} (hw : wantedA s c.guard = some true) (hv : aev c.op false C self s h = some (v, h')) : runOps false C self (c :: X) s h = runOps false C self X (setO c.dst s v fun s => s) h' := by
  show (match wantedA s c.guard with
      | none => none
      | some t => Bool.casesOn t (setO c.dst s skipV fun s => runOps false C self X s h)
        (match aev c.op false C self s h with
          | some (v, h') => frcV false v fun v => frcH false h' fun h' => setO c.dst s v fun s => runOps false C self X s h'
          | none => none)) = _
  rw [hw, hv]
  show frcV false v (fun v => frcH false h' fun h' => setO c.dst s v fun s => runOps false C self X s h') = _
  simp only [frcV_eq, frcH_eq]
  rw [setO_eq]
theorem codeE_plan {ops A B R : List AOper} {c : AOper} {d : Option Pa} {n : Option Nat} {a : Opd} {j p : Nat} (hops : ops = A ++ c :: (B ++ ⟨d, none, .ld n a⟩ :: R)) (hp : p = A.length) (hj : j = A.length + 1 + B.length) {s s1 s3 s' : Slots} {h h1 h2 h' : AHeap} {v x : Value}
    (hA : OpsE C A s h s1 h1) (hw : wantedA s1 c.guard = some true) (hc : OpE C c.op s1 h1 v h2) (hB : ∀ self, runOps false C self B (setO c.dst s1 v fun s => s) h2 = some (s3, h2))
    (hx1 : ldP n (evA s3 a) h1 = some x) (hx2 : ldP n (evA s3 a) h2 = some x) (hv : veq x x = true) (hR : OpsE C R (setO d s3 x fun s => s) h2 s' h') : CodeE C (.reg ops [(j, [p])]) s h .normal s' h' := by
  obtain ⟨nA, eA⟩ := hA
  obtain ⟨nc, ec⟩ := hc
  obtain ⟨nR, eR⟩ := hR
  have lA : nA ≤ nA + nc + nR := by omega
  have lc : nc ≤ nA + nc + nR := by omega
  have lR : nR ≤ nA + nc + nR := by omega
  have eA := (runOps_mono (run_mono (b := false) (C := C) lA) A eA).1
  have ec := aev_mono (run_mono (b := false) (C := C) lc) c.op ec
  have eR := (runOps_mono (run_mono (b := false) (C := C) lR) R eR).1
  generalize nA + nc + nR = m at eA ec eR
  refine ⟨m, ?_⟩
  have eB := hB (run false C m)
  have e2 : runOps false C (run false C m) (A ++ c :: B) s h = some (s3, h2) := by rw [runOps_append _ _ _ _ _ _ _ eA, runOps_step _ hw ec, eB]
  have eo : aev (.ld n a) false C (run false C m) s3 h2 = some (x, h2) := by rw [aev_ld, hx2]; rfl
  have eo1 : aev (.ld n a) false C (run false C m) s3 h1 = some (x, h1) := by rw [aev_ld, hx1]; rfl
  have hops2 : ops = (A ++ c :: B) ++ ⟨d, none, .ld n a⟩ :: R := by rw [hops]; simp
  have e3 : runOps false C (run false C m) ops s h = some (s', h') := by
    rw [hops2, runOps_append _ _ _ _ _ _ _ e2, runOps_step (c := ⟨d, none, .ld n a⟩) _ rfl eo]; exact eR
  have gp : (states false C (run false C m) ops s h)[p]? = some (s1, h1) := by rw [hops, hp]; exact states_get _ _ _ _ _ _ _ eA
  have gj : (states false C (run false C m) ops s h)[j]? = some (s3, h2) := by
    have := states_get (C := C) (run false C m) (A ++ c :: B) (⟨d, none, .ld n a⟩ :: R) s s3 h h2 e2
    rw [← hops2] at this
    rw [hj, show A.length + 1 + B.length = (A ++ c :: B).length from by simp; omega]; exact this
  have go : ops[j]? = some ⟨d, none, .ld n a⟩ := by
    rw [hops2, hj, List.getElem?_append_right (by simp; omega), show A.length + 1 + B.length - (A ++ c :: B).length = 0 from by simp; omega]; rfl
  show (match regA false C (run false C m) ops [(j, [p])] s h with
    | some (s, h) => some (Ex.normal, s, h)
    | none => none) = _
  have hpl : planOk1 false C (run false C m) ops (states false C (run false C m) ops s h) j p = true := by
    unfold planOk1
    rw [go, gj, gp]
    simp only [wantedA, eo, eo1, hv]
  have hreg : regA false C (run false C m) ops [(j, [p])] s h = some (s', h') := by
    unfold regA
    simp only [List.all_cons, List.all_nil, Bool.and_true, hpl, if_true]
    exact e3
  rw [hreg]
def sil : AOp → Bool
  | .mov _ => true
  | .iad .. => true
  | _ => false
theorem sil_sound {X : Ctx} {S S1 : VSt} {s : Slots} {h : AHeap} {ids : Pa → Option Nat} {F : Nat → Prop} {o : AOp} {d : Option Pa} {x : VV} (t : St X S s h ids F) (hs : sil o = true) (he : vev o d S = some (x, S1)) :
    S1 = S ∧ ∃ v, (∀ self, aev o false C self s h = some (v, h)) ∧ Vr (RdF h F) ids v x := by
  cases o with
  | mov y => cases he; exact ⟨rfl, _, fun _ => rfl, evV_sound t _⟩
  | iad m n y i =>
    have he : ret1X S (v_iad m n (evV S y) (evV S i)) = some (x, S1) := he
    cases hv : v_iad m n (evV S y) (evV S i) with
    | none => rw [hv] at he; cases he
    | some z =>
      rw [hv] at he; cases he
      obtain ⟨w, h1, h2⟩ := iad_sound' (evV_sound t y) (evV_sound t i) hv
      exact ⟨rfl, w, fun self => by rw [aev_iad, h1]; rfl, h2⟩
  | _ => cases hs
/-- Operations that only look. -/
def runS : List AOper → VSt → Option VSt
  | [], S => some S
  | o :: r, S => match o.guard with
    | some _ => none
    | none => bif sil o.op then (match vev o.op o.dst S with
      | some (x, S1) => runS r (S1.put o.dst x)
      | none => none) else none
theorem runS_sound {X : Ctx} {h : AHeap} {ids : Pa → Option Nat} {F : Nat → Prop} : ∀ {B : List AOper} {S S3 : VSt} {s : Slots}, St X S s h ids F → runS B S = some S3 → ∃ s3, (∀ self, runOps false C self B s h = some (s3, h)) ∧ St X S3 s3 h ids F
  | [], S, S3, s, t, he => by cases he; exact ⟨s, fun _ => rfl, t⟩
  | ⟨d, gd, op⟩ :: B, S, S3, s, t, he => by
    simp only [runS] at he
    split at he
    · cases he
    · cases hs : sil op with
      | false => rw [hs] at he; cases he
      | true =>
        rw [hs] at he
        simp only [cond_true] at he
        split at he
        · rename_i x S1 hv
          obtain ⟨rfl, v, h1, h2⟩ := sil_sound (C := C) t hs hv
          obtain ⟨s3, h3, h4⟩ := runS_sound (t.put h2 d) he
          exact ⟨s3, fun self => by rw [runOps_step (c := ⟨d, none, op⟩) self rfl (h1 self)]; exact h3 self, h4⟩
        · cases he
def okPl1 : VV → Bool
  | .p (.sl ..) => true
  | .p (.at (.int ..)) => true
  | .p (.at (.bool _)) => true
  | .p (.at (.string _)) => true
  | .p (.fp ..) => true
  | .om _ => true
  | .os .. => true
  | .ob .. => true
  | .op .. => true
  | _ => false
def okPl : VV → Bool
  | .agg l => l.all okPl1
  | x => okPl1 x
theorem okPl1_veq {rd : Addr → List Value → Prop} {ids : Pa → Option Nat} {v : Value} {x : VV} (r : Vr rd ids v x) (hx : okPl1 x = true) : veq1 v v = true := by
  unfold okPl1 at hx
  split at hx
  · cases r with
    | p r => cases r <;> simp [veq1]
  · cases r with
    | p r => cases r; simp [veq1]
  · cases r with
    | p r => cases r; simp [veq1]
  · cases r with
    | p r => cases r; simp [veq1]
  · cases r with
    | p r => cases r; simp [veq1]
  · cases r; simp [veq1]
  · cases r with
    | osN h e => rcases e with rfl | ⟨a, rfl, _⟩ <;> simp [veq1]
    | os => simp [veq1]
  · cases r; simp [veq1]
  · cases r; simp [veq1]
  · cases hx
theorem veq_of1 {v : Value} (h : veq1 v v = true) : veq v v = true := by
  unfold veq
  split
  · cases h
  · cases h
  · exact h
theorem okPl_veq {rd : Addr → List Value → Prop} {ids : Pa → Option Nat} {v : Value} {x : VV} (r : Vr rd ids v x) (hx : okPl x = true) : veq v v = true := by
  unfold okPl at hx
  split at hx
  · rename_i l
    obtain ⟨xs, rfl, ra⟩ := agg_inv r
    rw [List.all_eq_true] at hx
    show veqL xs.toArray.toList xs.toArray.toList = true
    rw [List.toList_toArray]
    have hmem : ∀ y ∈ xs, veq1 y y = true := fun y hy => by
      obtain ⟨i, hi, rfl⟩ := List.mem_iff_getElem.1 hy
      have hi' : i < l.length := by rw [← ra.1]; exact hi
      exact okPl1_veq (ra.2 i _ _ (List.getElem?_eq_getElem hi) (List.getElem?_eq_getElem hi')) (hx _ (List.getElem_mem hi'))
    clear ra r
    induction xs with
    | nil => rfl
    | cons y ys ih =>
      show (veq1 y y && veqL ys ys) = true
      rw [hmem y (List.mem_cons_self ..), ih fun z hz => hmem z (List.mem_cons_of_mem _ hz)]; rfl
  · exact veq_of1 (okPl1_veq r hx)
/-- A region in which a read behind a pure call may come before it. -/
theorem VC.plan {Q : Ex → VSt → Prop} {S : VSt} {ops A B R : List AOper} {dc d : Option Pa} {gd : Option (Pa × Bool)} {g : Opd} {args : List Opd} {n : Option Nat} {a : Opd} {j p : Nat}
    (hops : ops = A ++ ⟨dc, gd, .call g args⟩ :: (B ++ ⟨d, none, .ld n a⟩ :: R)) (hp : p = A.length) (hj : j = A.length + 1 + B.length)
    (hA : VO C A S (fun S1 => ∃ f first cap y S3 u q off cs x, wantV S1 gd = some true ∧ evV S1 g = .clos f first cap ∧ (∀ l b, C.orc f l b = none) ∧ VCall C f (first ++ args.map (evV S1) ++ cap) [] [] y [] ∧ runS B (S1.put dc y) = some S3 ∧
      evV S3 a = .op u q off ∧ PT.get q S3.B = some (.cells cs) ∧ PT.get q S1.B = some (.cells cs) ∧ partV n cs off = some x ∧ okPl x = true ∧ VO C R (S3.put d x) (Q .normal))) : VC C (.reg ops [(j, [p])]) S Q := by
  intro E s h ids F t
  obtain ⟨s1, h1, eA, S1, ids1, F1, ⟨f, first, cap, y, S3, u, q, off, cs, x, hw, hg, ho, hc, hB, ha, hb3, hb1, hx, hpl, hR⟩, X, hE, t1⟩ := hA E s h ids F t
  have rg := evV_sound t1 g
  rw [hg] at rg
  obtain ⟨vf, vc, hvf, rf, rc⟩ : ∃ vf vc : List Value, evA s1 g = .func (.func f) vf.toArray vc.toArray ∧ All2 (Vr (RdF h1 F1) ids1) vf first ∧ All2 (Vr (RdF h1 F1) ids1) vc cap := by
    generalize evA s1 g = w at rg
    cases rg with
    | clos f h1 h2 h3 h4 => exact ⟨_, _, rfl, ⟨h1, h2⟩, ⟨h3, h4⟩⟩
  have rall := (rf.append (evV_list t1 args)).append rc
  have t0 : St (cx h1 ids1 F1 []) ⟨.lf, mkB [] .lf, nmsL [], none⟩ .lf h1 ids1 F1 :=
    ⟨t1.wf, rfl, fun _ hk => hk, fun _ _ _ => rfl, fun _ _ => Iff.rfl, t1.flt, fun a b hb => by simp [mkB] at hb, fun a b k hb => by simp [mkB] at hb, fun a a' b b' k hb => by simp [mkB] at hb, fun p x hx => by simp at hx, fun _ _ => rfl, ⟨rfl, rfl⟩, Nat.le_refl _⟩
  obtain ⟨v, h2, hcall, ids2, F2, t2, rv, hids⟩ := hc h1 ids1 F1 _ (by rw [t1.base]; exact E.glob hE) t0 rall
  have hidseq : ids2 = ids1 := funext fun a => hids a (by simp)
  subst hidseq
  have hkeep : ∀ k, k < h1.next → h2.get k = h1.get k := fun k hk => t2.keep k hk (fun ⟨a, b, hb, _⟩ => by simp [mkB] at hb)
  have hnx : h1.next ≤ h2.next := by
    rcases Nat.lt_or_ge h2.next h1.next with hc | hc
    · exact absurd (t2.next _ hc) (Nat.lt_irrefl _)
    · exact hc
  have tS : St X S1 s1 h2 ids2 F2 := t1.later t2.wf t2.base (fun k hk => Nat.lt_of_lt_of_le (t1.next k hk) hnx) (fun k hk _ => hkeep k (t1.next k hk))
    (fun a b k hb hk => ⟨hkeep k (t1.lt hb hk), fun hF => (t1.own a b k hb hk).1 ((t2.frz k (t1.lt hb hk)).1 hF)⟩) (fun k hk => ⟨(t2.frz k (t1.flt k hk)).2 hk, hkeep k (t1.flt k hk)⟩)
    (fun k hk => (t2.frz k (t1.next k hk)).trans (t1.frz k hk)) t2.flt t2.nx
  obtain ⟨s3, eB, t3⟩ := runS_sound (C := C) (tS.put rv dc) hB
  have ra := evV_sound t3 a
  rw [ha] at ra
  obtain ⟨k, tg, hk, _, hav⟩ := op_inv ra
  have hlt : k < h1.next := t1.lt hb1 hk
  have hld : v_ld S3 n (evV S3 a) = some x := by rw [ha]; simp only [v_ld, hb3]; exact hx
  obtain ⟨w, hw2, rw'⟩ := ld_sound' t3 (evV_sound t3 a) hld
  have hw1 : ldP n (evA s3 a) h1 = some w := by
    rw [← hw2, hav]
    simp only [ldP, ldA, AHeap.row, hkeep k hlt]
  obtain ⟨s', h', eR, S', ids', F', hQ, tQ⟩ := hR E _ _ _ _ ⟨X, hE, t3.put rw' d⟩
  refine ⟨.normal, s', h', codeE_plan hops hp hj eA (want_sound t1 hw) (OpE.call (by rw [hvf]) (ho _ _) ?_) eB hw1 hw2 (okPl_veq rw' hpl) eR, S', ids', F', hQ, tQ⟩
  simpa using hcall
/-- An empty slice without room, seen as a pure one. -/
theorem G.xs0 {S : VSt} {p : Pa} (u : Nat) (hp : PT.get p S.L = some .xs) : G S ⟨PT.set p S.L (some (.p (.sl u 0 []))), S.B, S.K, S.H⟩ := by
  intro X s h ids F t
  refine ⟨ids, F, ⟨t.wf, t.base, t.next, t.keep, t.frz, t.flt, t.blk, t.own, t.inj, fun q x hq => ?_, t.stab, t.hist, t.nx⟩⟩
  have hq : PT.get q (PT.set p S.L (some (.p (.sl u 0 [])))) = some x := hq
  rw [PT.get_set] at hq
  split at hq
  · rename_i e
    cases hq
    subst e
    have r := t.slots q _ hp
    generalize getS q s = w at r
    cases r with
    | xs e =>
      rcases e with rfl | ⟨a, rfl, hs⟩
      · exact .p .nil
      · refine .p (.sl0 ?_)
        unfold tgOk
        rcases hs with hs | hs
        · rw [hs]; trivial
        · rw [hs]; exact .inl rfl
  · exact t.slots q x hq
/-- Of what a pure pointer leads to, the first cells. -/
theorem G.fpT {S : VSt} {p : Pa} {u : Nat} {cs : List PV} (n : Nat) (hp : PT.get p S.L = some (.p (.fp u cs))) : G S ⟨PT.set p S.L (some (.p (.fp u (cs.take n)))), S.B, S.K, S.H⟩ := by
  intro X s h ids F t
  refine ⟨ids, F, ⟨t.wf, t.base, t.next, t.keep, t.frz, t.flt, t.blk, t.own, t.inj, fun q x hq => ?_, t.stab, t.hist, t.nx⟩⟩
  have hq : PT.get q (PT.set p S.L (some (.p (.fp u (cs.take n))))) = some x := hq
  rw [PT.get_set] at hq
  split at hq
  · rename_i e
    cases hq
    subst e
    have r := t.slots q _ hp
    generalize getS q s = w at r
    cases r with
    | p r =>
      cases r with
      | fp h0 h1 h2 h3 =>
        refine .p (.fp h0 h1 (by rw [List.length_take]; omega) fun i y x hy hx => ?_)
        rw [List.getElem?_take] at hx
        split at hx
        · exact h3 i y x hy hx
        · cases hx
  · exact t.slots q x hq
end
end Go.Ab.V

/- Reading what the program's text lays: constant pointers. -/
namespace Go.Ab.V
def gPV (r : List (IntKind × Int)) : List PV := r.map fun q => .at (.int q.1 q.2)
section
variable {C : Cfg} {S : VSt} {Q : VSt → Prop} {d : Option Pa} {gd : Option (Pa × Bool)} {r : List AOper}
theorem glob_rp {X : Ctx} {s : Slots} {h : AHeap} {ids : Pa → Option Nat} {F : Nat → Prop} (t : St X S s h ids F) {E : Env C} (hE : E.ok X) {b : Nat} {row : List (IntKind × Int)} (hg : (b, row) ∈ C.glob) (u o : Nat) (ho : o ≤ row.length) :
    Vr (RdF h F) ids (.pointer (some ⟨b, o, none⟩)) (.p (.fp u (gPV (row.drop o)))) := by
  have hb : h.base b = some (rowI row) := by rw [t.base]; exact E.glob hE _ hg
  refine .p (.fp (row := rowI row) trivial (show RdF h F ⟨b, o, none⟩ (rowI row) from hb) (by simp [gPV, rowI]; omega) fun i y x hy hx => ?_)
  simp only [rowI, List.getElem?_map] at hy
  simp only [gPV, List.getElem?_map, List.getElem?_drop] at hx
  cases hq : row[o + i]? with
  | none => rw [hq] at hy; cases hy
  | some q => rw [hq] at hy hx; cases hy; cases hx; exact .at rfl
/-- A cell's address in an array that the text lays. -/
theorem VO.iadG {len size : Nat} {i : Opd} {b : Nat} {row : List (IntKind × Int)} {k : IntKind} {n : Nat} (hw : wantV S gd = some true) (hg : (b, row) ∈ C.glob) (hi : evV S i = .p (.at (.int k n))) (hn : n < len) (hl : n * size ≤ row.length)
    (hq : VO C r (S.put d (.p (.fp 0 (gPV (row.drop (n * size)))))) Q) : VO C (⟨d, gd, .iad len size (.c (.pointer (some ⟨b, 0, none⟩))) i⟩ :: r) S Q := by
  intro E s h ids F t
  obtain ⟨X, hE, t⟩ := t
  have ri := evV_sound t i
  rw [hi] at ri
  have ei := (at_inv ri).1
  refine WpO.step ?_
  have he : aev (.iad len size (.c (.pointer (some ⟨b, 0, none⟩))) i) false C noSelf s h = some (.pointer (some ⟨b, n * size, none⟩), h) := by
    rw [aev_iad, ei]
    show ret1 (iad len size (.pointer (some ⟨b, 0, none⟩)) (.int k n)) h = _
    simp only [iad]
    rw [if_pos ⟨by omega, by omega⟩]
    simp [ret1, plus]
  rw [want_sound t hw, he]
  exact hq E _ _ _ _ ⟨X, hE, t.put (glob_rp t hE hg 0 _ hl) d⟩
/-- What lies at a constant address. -/
theorem VO.ldG {m : Option Nat} {b : Nat} {row : List (IntKind × Int)} {y : VV} (hw : wantV S gd = some true) (hg : (b, row) ∈ C.glob) (hy : v_ld S m (.p (.fp 0 (gPV row))) = some y)
    (hq : VO C r (S.put d y) Q) : VO C (⟨d, gd, .ld m (.c (.pointer (some ⟨b, 0, none⟩)))⟩ :: r) S Q := by
  intro E s h ids F t
  obtain ⟨X, hE, t⟩ := t
  have rp := glob_rp t hE hg 0 0 (Nat.zero_le _)
  rw [List.drop_zero] at rp
  obtain ⟨w, h1, h2⟩ := ld_sound' t rp hy
  refine WpO.step ?_
  have he : aev (.ld m (.c (.pointer (some ⟨b, 0, none⟩)))) false C noSelf s h = some (w, h) := by
    rw [aev_ld]
    show ret1 (ldP m (.pointer (some ⟨b, 0, none⟩)) h) h = _
    rw [h1]; rfl
  rw [want_sound t hw, he]
  exact hq E _ _ _ _ ⟨X, hE, t.put h2 d⟩
end
/-- A call that hands back new blocks. -/
theorem VO.callN {C : Cfg} {S : VSt} {Q : VSt → Prop} {d : Option Pa} {gd : Option (Pa × Bool)} {g : Opd} {args : List Opd} {r : List AOper} {f : Nat} {first cap L : List VV} {N : List Pa} {y : VV} {B' : List (Pa × VB)} (ho : ∀ l b, C.orc f l b = none) (hc : VCall C f L [] N y B')
    (hl : first ++ args.map (evV S) ++ cap = L) (hw : wantV S gd = some true) (hg : evV S g = .clos f first cap) (hdisN : hasNo S.B (N ++ nmsL B') = true) (hNK : N.all (fun a => nos a S.K) = true) (hsub : subs (nmsL B') N = true)
    (hq : VO C r (VSt.put ⟨filtN N S.L, mkB B' (filtNB N S.B), S.K, S.H⟩ d y) Q) : VO C (⟨d, gd, .call g args⟩ :: r) S Q := by
  refine VO.call [] [] S.B hw hg ho (y := y) (N := N) (B' := B') ?_ trivial trivial (PT.Le.refl _) ?_ hdisN rfl hNK hsub rfl rfl hq
  · rw [borL_eq]
    have : (List.map (borV []) (first ++ args.map (evV S) ++ cap)) = first ++ args.map (evV S) ++ cap := by
      have h1 : borV [] = id := by funext x; rfl
      rw [h1, List.map_id]
    rw [this, hl]; exact hc
  · rfl
end Go.Ab.V

/- Bits of integers, as numbers. -/
namespace Go.Ab.V
theorem bits_i64 : IntKind.i64.bits = 64 := rfl
theorem bits_u64 : IntKind.u64.bits = 64 := rfl
theorem wrapI {x : Int} (h0 : -9223372036854775808 ≤ x) (h1 : x < 9223372036854775808) : IntKind.i64.wrap x = x := by
  simp only [IntKind.wrap, IntKind.signed, IntKind.bits]; simp; omega
theorem wrapU {x : Int} (h0 : 0 ≤ x) (h1 : x < 18446744073709551616) : IntKind.u64.wrap x = x := by
  simp only [IntKind.wrap, IntKind.signed, IntKind.bits]; simp; omega
theorem bv_nat (a : Nat) : BitVec.ofInt 64 (a : Int) = BitVec.ofNat 64 a := by
  apply BitVec.eq_of_toNat_eq
  simp [BitVec.toNat_ofInt]
theorem bv_to {a : Nat} (h : a < 18446744073709551616) : (BitVec.ofInt 64 (a : Int)).toNat = a := by
  rw [bv_nat, BitVec.toNat_ofNat]; exact Nat.mod_eq_of_lt h
def andN (a b : Nat) : Nat := a ^^^ (a &&& b)
theorem andN_bit (a b i : Nat) : (andN a b).testBit i = (a.testBit i && !b.testBit i) := by
  simp only [andN, Nat.testBit_xor, Nat.testBit_and]
  cases a.testBit i <;> cases b.testBit i <;> rfl
theorem andN_le (a b : Nat) : andN a b ≤ a := by
  apply Nat.le_of_testBit
  intro i h
  rw [andN_bit] at h
  simp at h; exact h.1
theorem or_lt62 {a b : Nat} (ha : a < 4611686018427387904) (hb : b < 4611686018427387904) : a ||| b < 4611686018427387904 := Nat.or_lt_two_pow (n := 62) ha hb
theorem and_i64 {a b : Nat} (ha : a < 4611686018427387904) (hb : b < 4611686018427387904) : IntKind.i64.wrap ((BitVec.ofInt IntKind.i64.bits (a : Int) &&& BitVec.ofInt IntKind.i64.bits (b : Int)).toNat : Int) = ((a &&& b : Nat) : Int) := by
  rw [bits_i64, BitVec.toNat_and, bv_to (by omega), bv_to (by omega)]
  have := Nat.and_le_left (n := a) (m := b)
  exact wrapI (by omega) (by omega)
theorem or_i64 {a b : Nat} (ha : a < 4611686018427387904) (hb : b < 4611686018427387904) : IntKind.i64.wrap ((BitVec.ofInt IntKind.i64.bits (a : Int) ||| BitVec.ofInt IntKind.i64.bits (b : Int)).toNat : Int) = ((a ||| b : Nat) : Int) := by
  rw [bits_i64, BitVec.toNat_or, bv_to (by omega), bv_to (by omega)]
  have := or_lt62 ha hb
  exact wrapI (by omega) (by omega)
theorem andn_i64 {a b : Nat} (ha : a < 4611686018427387904) (hb : b < 4611686018427387904) : IntKind.i64.wrap ((BitVec.ofInt IntKind.i64.bits (a : Int) &&& ~~~BitVec.ofInt IntKind.i64.bits (b : Int)).toNat : Int) = ((andN a b : Nat) : Int) := by
  have h : (BitVec.ofInt 64 (a : Int) &&& ~~~BitVec.ofInt 64 (b : Int)).toNat = andN a b := by
    apply Nat.eq_of_testBit_eq
    intro i
    rw [andN_bit, BitVec.testBit_toNat, BitVec.getLsbD_and, BitVec.getLsbD_not, ← BitVec.testBit_toNat, ← BitVec.testBit_toNat, bv_to (by omega), bv_to (by omega)]
    by_cases hi : i < 64
    · simp [hi]
    · have : a.testBit i = false := Nat.testBit_lt_two_pow (Nat.lt_of_lt_of_le ha (Nat.pow_le_pow_right (n := 2) (i := 62) (by decide) (by omega)))
      rw [this]; rfl
  rw [bits_i64, h]
  have := andN_le a b
  exact wrapI (by omega) (by omega)
theorem and_u64 {a b : Nat} (ha : a < 18446744073709551616) (hb : b < 18446744073709551616) : ((BitVec.ofInt IntKind.u64.bits (a : Int) &&& BitVec.ofInt IntKind.u64.bits (b : Int)).toNat : Int) % 18446744073709551616 = ((a &&& b : Nat) : Int) := by
  rw [bits_u64, BitVec.toNat_and, bv_to ha, bv_to hb]
  have := Nat.and_le_left (n := a) (m := b)
  omega
theorem shl_one {n : Nat} (h : n < 62) : shlA .i64 1 (n : Int) = some (.int .i64 ((2 ^ n : Nat) : Int)) := by
  have hp : 2 ^ n < 2 ^ 62 := Nat.pow_lt_pow_right (by decide) h
  unfold shlA
  rw [if_neg (by omega), bits_i64, Int.toNat_natCast, Nat.min_eq_left (by omega), Int.one_mul]
  have e : ((2 : Int) ^ n) = ((2 ^ n : Nat) : Int) := by simp
  have hp : 2 ^ n < 4611686018427387904 := hp
  rw [e]
  generalize 2 ^ n = m at *
  rw [wrapI (by omega) (by omega)]
theorem shr_nat {k : IntKind} (hk : k = .i64 ∨ k = .u64) {a n : Nat} (h : n < 64) : shrA k (a : Int) (n : Int) = some (.int k ((a >>> n : Nat) : Int)) := by
  unfold shrA
  have hb : k.bits = 64 := by rcases hk with rfl | rfl <;> rfl
  have e : ((2 : Int) ^ n) = ((2 ^ n : Nat) : Int) := by simp
  rw [if_neg (by omega), hb, Int.toNat_natCast, Nat.min_eq_left (by omega), e, Int.fdiv_eq_ediv_of_nonneg _ (Int.natCast_nonneg _), ← Int.natCast_ediv, Nat.shiftRight_eq_div_pow]
theorem shr_i64 {a n : Nat} (h : n < 64) : shrA .i64 (a : Int) (n : Int) = some (.int .i64 ((a >>> n : Nat) : Int)) := shr_nat (.inl rfl) h
theorem shr_u64 {a n : Nat} (h : n < 64) : shrA .u64 (a : Int) (n : Int) = some (.int .u64 ((a >>> n : Nat) : Int)) := shr_nat (.inr rfl) h
theorem mulU {a b z : Int} (h : a * b % 18446744073709551616 = z) : bin .mul (.int .u64 a) (.int .u64 b) = some (.int .u64 z) := by
  show some (Value.int .u64 (IntKind.u64.wrap (a * b))) = _
  rw [wrap_u64, h]
/-- One operation on integers, its answer known. -/
theorem VO.bin1 {C : Cfg} {S : VSt} {Q : VSt → Prop} {d : Option Pa} {gd : Option (Pa × Bool)} {r : List AOper} {op : BinOp} {x y : Opd} {v1 v2 v : Value} (he : bin op v1 v2 = some v) (hw : wantV S gd = some true) (hx : evV S x = .p (.at v1)) (hy : evV S y = .p (.at v2))
    (hq : VO C r (S.put d (.p (.at v))) Q) : VO C (⟨d, gd, .bin op x y⟩ :: r) S Q := by
  refine VO.runs 1 (rest := r) (S' := S.put d (.p (.at v))) ?_ hq
  simp only [runK, hw, vev, hx, hy, atV, he, ret1V]
end Go.Ab.V

/- Operations that write nothing, and regions whose reads may come earlier or later. -/
namespace Go.Ab.V
def pur : AOp → Bool
  | .box _ => false
  | .zero _ => false
  | .bslice .. => false
  | .st .. => false
  | .mkmap => false
  | .mks .. => false
  | .mset .. => false
  | .app .. => false
  | .cpy .. => false
  | .clr .. => false
  | _ => true
section
variable {X : Ctx} {S S1 : VSt} {s : Slots} {h : AHeap} {ids : Pa → Option Nat} {F : Nat → Prop} {C : Cfg} {v v' : Value} {x y z : VV} {rd : Addr → List Value → Prop}
def PurS (C : Cfg) (o : AOp) (S : VSt) (x : VV) (S1 : VSt) : Prop := S1 = S ∧ ∀ X s h ids F, St X S s h ids F → ∃ v, aev o false C noSelf s h = some (v, h) ∧ Vr (RdF h F) ids v x
theorem PurS.mk {o : AOp} (hp : ∀ X s h ids F, St X S s h ids F → ∃ v, aev o false C noSelf s h = some (v, h) ∧ Vr (RdF h F) ids v x) : PurS C o S x S := ⟨rfl, hp⟩
theorem vev_pur {o : AOp} {d : Option Pa} (hp : pur o = true) (he : vev o d S = some (x, S1)) : PurS C o S x S1 := by
  cases o with
  | mov x' => cases he; exact PurS.mk fun X s h ids F t => ⟨_, rfl, evV_sound t _⟩
  | pick c a b =>
    simp only [vev] at he
    split at he
    · rename_i tb hc
      cases he
      refine PurS.mk fun X s h ids F t => ?_
      have rc := evV_sound t c
      rw [hc] at rc
      obtain ⟨e, _⟩ := at_inv rc
      refine ⟨_, by rw [aev_pick, e]; rfl, ?_⟩
      cases tb
      · exact evV_sound t b
      · exact evV_sound t a
    · cases he
  | box y => cases hp
  | zero z => cases hp
  | build z ps =>
    simp only [vev] at he
    split at he
    · rename_i cs hcs
      cases he
      refine PurS.mk fun X s h ids F t => ?_
      obtain ⟨ws, h1, h2⟩ := fill_sound (all2_map ofAtom ofAtom_sound z) (pEv_sound t ps) hcs
      exact ⟨_, by rw [aev_build, h1]; rfl, .agg h2.1 h2.2⟩
    · cases he
  | bslice len size z ps => cases hp
  | ld n a =>
    obtain ⟨he, rfl⟩ := ret1X_inv he
    refine PurS.mk fun X s h ids F t => ?_
    obtain ⟨w, h1, h2⟩ := ld_sound' t (evV_sound t a) he
    exact ⟨w, by rw [aev_ld, h1]; rfl, h2⟩
  | st n a y => cases hp
  | nilchk y =>
    simp only [vev] at he
    split at he
    · rename_i u a off hy
      cases he
      refine PurS.mk fun X s h ids F t => ?_
      have r := evV_sound t y
      rw [hy] at r
      obtain ⟨k, tg, hk, ht, e⟩ := op_inv r
      exact ⟨_, by rw [aev_nilchk, e]; rfl, .op _ hk ht⟩
    · rename_i u cs hy
      cases he
      refine PurS.mk fun X s h ids F t => ?_
      have r := evV_sound t y
      rw [hy] at r
      have r' := r
      obtain ⟨a, row, e, _⟩ := fp_inv (p_inv r)
      rw [e] at r'
      exact ⟨_, by rw [aev_nilchk, e]; rfl, r'⟩
    · cases he
  | bin op a b =>
    simp only [vev] at he
    split at he
    · rename_i a' b' ha hb
      obtain ⟨w, hw, rfl, rfl⟩ := ret1V_inv he
      refine PurS.mk fun X s h ids F t => ?_
      exact ⟨w, by rw [aev_bin, (atV_sound (evV_sound t a) ha).1, (atV_sound (evV_sound t b) hb).1, hw]; rfl, vr_at (bin_atom hw)⟩
    · cases he
  | eqs k neg a b =>
    simp only [vev] at he
    split at he
    · rename_i q hq
      cases he
      refine PurS.mk fun X s h ids F t => ?_
      exact ⟨_, by rw [aev_eqs]; simp only [eqsA, eqX_sound (evV_sound t a) (evV_sound t b) hq]; rfl, vr_at rfl⟩
    · cases he
  | un op a =>
    simp only [vev] at he
    split at he
    · rename_i a' ha
      obtain ⟨w, hw, rfl, rfl⟩ := ret1V_inv he
      exact PurS.mk fun X s h ids F t => ⟨w, by rw [aev_un, (atV_sound (evV_sound t a) ha).1, hw]; rfl, vr_at (un_atom hw)⟩
    · cases he
  | cvt k a =>
    simp only [vev] at he
    split at he
    · rename_i a' ha
      obtain ⟨w, hw, rfl, rfl⟩ := ret1V_inv he
      exact PurS.mk fun X s h ids F t => ⟨w, by rw [aev_cvt, (atV_sound (evV_sound t a) ha).1, hw]; rfl, vr_at (cvt_atom hw)⟩
    · cases he
  | str a =>
    simp only [vev] at he
    split at he
    · rename_i a' ha
      obtain ⟨w, hw, rfl, rfl⟩ := ret1V_inv he
      exact PurS.mk fun X s h ids F t => ⟨w, by rw [aev_str, (atV_sound (evV_sound t a) ha).1, hw]; rfl, vr_at (str_atom hw)⟩
    · cases he
  | clos fn a b =>
    cases fn with
    | func f =>
      cases he
      refine PurS.mk fun X s h ids F t => ?_
      have r1 := evV_list t a
      have r2 := evV_list t b
      exact ⟨_, aev_clos, .clos f r1.1 r1.2 r2.1 r2.2⟩
    | _ => cases he
  | mkmap => cases hp
  | mks size bytes z l c => cases hp
  | slstr a lo hi =>
    simp only [vev] at he
    split at he
    · rename_i sb ha
      split at he
      · rename_i l m k hb
        cases he
        refine PurS.mk fun X s h ids F t => ?_
        have e := (atV_sound (evV_sound t a) ha).1
        obtain ⟨o1, r1⟩ := opt_ev t lo
        obtain ⟨o2, r2⟩ := opt_ev t hi
        have hb' := bnds_sound (mx := none) (rd := RdF h F) (ids := ids) o1 o2 rfl r1 r2 (fun v x h => by cases h) hb
        exact ⟨_, by rw [aev_slstr, e]; simp only [slstr, hb']; rfl, vr_at rfl⟩
      · cases he
    · cases he
  | slsl size a lo hi mx =>
    obtain ⟨he, rfl⟩ := ret1X_inv he
    refine PurS.mk fun X s h ids F t => ?_
    obtain ⟨o1, r1⟩ := opt_ev t lo
    obtain ⟨o2, r2⟩ := opt_ev t hi
    obtain ⟨o3, r3⟩ := opt_ev t mx
    obtain ⟨w, h1, h2⟩ := slsl_sound' o1 o2 o3 r1 r2 r3 (evV_sound t a) he
    exact ⟨w, by rw [aev_slsl, h1]; rfl, h2⟩
  | slarr n size a lo hi mx =>
    obtain ⟨he, rfl⟩ := ret1X_inv he
    refine PurS.mk fun X s h ids F t => ?_
    obtain ⟨o1, r1⟩ := opt_ev t lo
    obtain ⟨o2, r2⟩ := opt_ev t hi
    obtain ⟨o3, r3⟩ := opt_ev t mx
    obtain ⟨w, h1, h2⟩ := slarr_sound' o1 o2 o3 r1 r2 r3 (evV_sound t a) he
    exact ⟨w, by rw [aev_slarr, h1]; rfl, h2⟩
  | fad off a =>
    obtain ⟨he, rfl⟩ := ret1X_inv he
    refine PurS.mk fun X s h ids F t => ?_
    obtain ⟨w, h1, h2⟩ := fad_sound' (evV_sound t a) he
    exact ⟨w, by rw [aev_fad, h1]; rfl, h2⟩
  | iad len size a i =>
    obtain ⟨he, rfl⟩ := ret1X_inv he
    refine PurS.mk fun X s h ids F t => ?_
    obtain ⟨w, h1, h2⟩ := iad_sound' (evV_sound t a) (evV_sound t i) he
    exact ⟨w, by rw [aev_iad, h1]; rfl, h2⟩
  | ias size a i =>
    obtain ⟨he, rfl⟩ := ret1X_inv he
    refine PurS.mk fun X s h ids F t => ?_
    obtain ⟨w, h1, h2⟩ := ias_sound' (evV_sound t a) (evV_sound t i) he
    exact ⟨w, by rw [aev_ias, h1]; rfl, h2⟩
  | fld n off a =>
    simp only [vev] at he
    split at he
    · rename_i cs ha
      obtain ⟨hq, rfl⟩ := ret1X_inv he
      refine PurS.mk fun X s h ids F t => ?_
      have r := evV_sound t a
      rw [ha] at r
      obtain ⟨xs, e, r⟩ := agg_inv r
      obtain ⟨w, h1, h2⟩ := part_sound r hq
      exact ⟨w, by rw [aev_fld, e]; simp only [fld, List.toList_toArray, h1]; rfl, h2⟩
    · cases he
  | idx len size n a i =>
    simp only [vev] at he
    split at he
    · rename_i cs i' ha hi
      split at he
      · rename_i hc
        obtain ⟨hq, rfl⟩ := ret1X_inv he
        refine PurS.mk fun X s h ids F t => ?_
        have r := evV_sound t a
        rw [ha] at r
        obtain ⟨xs, e, r⟩ := agg_inv r
        obtain ⟨k, e2⟩ := atI_sound (evV_sound t i) hi
        obtain ⟨w, h1, h2⟩ := part_sound r hq
        exact ⟨w, by rw [aev_idx, e, e2]; simp only [idxA, List.toList_toArray]; rw [if_pos hc, h1]; rfl, h2⟩
      · cases he
    · cases he
  | idxs a i =>
    simp only [vev] at he
    split at he
    · rename_i a' b' ha hb
      obtain ⟨w, hw, rfl, rfl⟩ := ret1V_inv he
      exact PurS.mk fun X s h ids F t => ⟨w, by rw [aev_idxs, (atV_sound (evV_sound t a) ha).1, (atV_sound (evV_sound t i) hb).1, hw]; rfl, vr_at (idxs_atom hw)⟩
    · cases he
  | look ok ts zv m k =>
    obtain ⟨he, rfl⟩ := ret1X_inv he
    refine PurS.mk fun X s h ids F t => ?_
    obtain ⟨w, h1, h2⟩ := look_sound' t (evV_sound t m) (evV_sound t k) he
    exact ⟨w, by rw [aev_look, h1]; rfl, h2⟩
  | mset ts m k y => cases hp
  | ext i a =>
    simp only [vev] at he
    split at he
    · rename_i vs ha
      obtain ⟨hq, rfl⟩ := ret1X_inv he
      refine PurS.mk fun X s h ids F t => ?_
      have r := evV_sound t a
      rw [ha] at r
      obtain ⟨xs, e, r⟩ := tup_inv r
      obtain ⟨w, h1, h2⟩ := r.get hq
      exact ⟨w, by rw [aev_ext, e]; simp only [extA, List.toList_toArray, h1]; rfl, h2⟩
    · cases he
  | app size a b => cases hp
  | cpy size a b => cases hp
  | clr z a => cases hp
  | len k a =>
    obtain ⟨w, hw, rfl, rfl⟩ := ret1V_inv he
    refine PurS.mk fun X s h ids F t => ?_
    obtain ⟨h1, h2⟩ := len_sound' t (evV_sound t a) hw
    exact ⟨w, by rw [aev_len, h1]; rfl, vr_at h2⟩
  | min a l =>
    simp only [vev] at he
    split at he
    · rename_i a' l' ha hl
      obtain ⟨w, hw, rfl, rfl⟩ := ret1V_inv he
      refine PurS.mk fun X s h ids F t => ?_
      obtain ⟨e1, e2⟩ := atV_sound (evV_sound t a) ha
      obtain ⟨e3, _⟩ := atL_sound (evV_list t l) hl
      exact ⟨w, by rw [aev_min, e1, e3, hw]; rfl, vr_at (fold_atom (fun h => min2_atom h) e2 hw)⟩
    · cases he
  | max a l =>
    simp only [vev] at he
    split at he
    · rename_i a' l' ha hl
      obtain ⟨w, hw, rfl, rfl⟩ := ret1V_inv he
      refine PurS.mk fun X s h ids F t => ?_
      obtain ⟨e1, e2⟩ := atV_sound (evV_sound t a) ha
      obtain ⟨e3, _⟩ := atL_sound (evV_list t l) hl
      exact ⟨w, by rw [aev_max, e1, e3, hw]; rfl, vr_at (fold_atom (fun h => max2_atom h) e2 hw)⟩
    · cases he
  | _ => cases he
end
/-! ### Before the acts of a region -/
def HK (n0 : Nat → Prop) (h h' : AHeap) : Prop := h'.base = h.base ∧ ∀ k, n0 k → h'.get k = h.get k
theorem HK.refl {n0 : Nat → Prop} {h : AHeap} : HK n0 h h := ⟨rfl, fun _ _ => rfl⟩
theorem HK.trans {n0 : Nat → Prop} {h h1 h2 : AHeap} (a : HK n0 h h1) (b : HK n0 h1 h2) : HK n0 h h2 := ⟨b.1.trans a.1, fun k hk => (b.2 k hk).trans (a.2 k hk)⟩
def Look (n0 : Nat → Prop) (o : AOper) (s : Slots) (h : AHeap) : Prop := wantedA s o.guard = some false ∨ wantedA s o.guard = some true ∧ ∃ nn a ad w, o.op = .ld nn a ∧ evA s a = .pointer (some ad) ∧ (ad.spot = none ∨ n0 ad.block) ∧ ldA nn ad h = some w ∧ veq w w = true
theorem ldA_HK {n0 : Nat → Prop} {h h1 h2 : AHeap} {nn : Option Nat} {ad : Addr} (k1 : HK n0 h h1) (k2 : HK n0 h h2) (hb : ad.spot = none ∨ n0 ad.block) : ldA nn ad h1 = ldA nn ad h2 := by
  have : h1.row ad = h2.row ad := by
    unfold AHeap.row
    cases hs : ad.spot with
    | none => simp only [k1.1, k2.1]
    | some t =>
      rcases hb with hb | hb
      · rw [hs] at hb; cases hb
      · simp only [k1.2 _ hb, k2.2 _ hb]
  unfold ldA
  rw [this]
structure PreR (C : Cfg) (n0 : Nat → Prop) (m : Nat) (pl : Nat → Bool) (i : Nat) (ops : List AOper) (s : Slots) (h : AHeap) (s' : Slots) (h' : AHeap) : Prop where
  runs : runOps false C (run false C m) ops s h = some (s', h')
  cut : ∀ (A1 A2 : List AOper), ops = A1 ++ A2 → ∃ s1 h1, runOps false C (run false C m) A1 s h = some (s1, h1) ∧ HK n0 h h1 ∧ ∀ o r, A2 = o :: r → pl (i + A1.length) = true → Look n0 o s1 h1
section
variable {C : Cfg} {n0 : Nat → Prop} {m i : Nat} {pl : Nat → Bool} {ops r : List AOper} {s s' : Slots} {h h1 h' : AHeap} {o : AOper} {v : Value}
theorem PreR.nil : PreR C n0 m pl i [] s h s h := ⟨rfl, fun A1 A2 e => by
  obtain ⟨rfl, rfl⟩ := List.append_eq_nil_iff.1 e.symm
  exact ⟨s, h, rfl, .refl, fun o r e => by cases e⟩⟩
theorem PreR.cons (hw : wantedA s o.guard = some true) (hv : aev o.op false C (Ab.run false C m) s h = some (v, h1)) (hk : HK n0 h h1) (hl : pl i = true → Look n0 o s h) (hr : PreR C n0 m pl (i + 1) r (setO o.dst s v fun s => s) h1 s' h') : PreR C n0 m pl i (o :: r) s h s' h' := by
  refine ⟨by rw [runOps_step _ hw hv]; exact hr.runs, fun A1 A2 e => ?_⟩
  cases A1 with
  | nil =>
    refine ⟨s, h, rfl, .refl, fun o' r' e' hp => ?_⟩
    rw [List.nil_append] at e
    rw [← e] at e'
    cases e'
    exact hl hp
  | cons a A1 =>
    have e0 : o :: r = a :: (A1 ++ A2) := e
    injection e0 with e1 e9
    subst e1
    obtain ⟨s1, h2, g1, g2, g3⟩ := hr.cut A1 A2 e9
    exact ⟨s1, h2, by rw [runOps_step _ hw hv]; exact g1, hk.trans g2, fun o' r' e' hp => g3 o' r' e' (by rw [show i + 1 + A1.length = i + (o :: A1).length from by simp; omega]; exact hp)⟩
theorem runOps_skip (self : Task → Option Res) {c : AOper} {X : List AOper} (hw : wantedA s c.guard = some false) : runOps false C self (c :: X) s h = runOps false C self X (setO c.dst s skipV fun s => s) h := by
  show (match wantedA s c.guard with
      | none => none
      | some t => Bool.casesOn t (setO c.dst s skipV fun s => runOps false C self X s h)
        (match aev c.op false C self s h with
          | some (v, h') => frcV false v fun v => frcH false h' fun h' => setO c.dst s v fun s => runOps false C self X s h'
          | none => none)) = _
  rw [hw]
  show setO c.dst s skipV (fun s => runOps false C self X s h) = _
  rw [setO_eq]
theorem PreR.skip (hw : wantedA s o.guard = some false) (hr : PreR C n0 m pl (i + 1) r (setO o.dst s skipV fun s => s) h s' h') : PreR C n0 m pl i (o :: r) s h s' h' := by
  refine ⟨by rw [runOps_skip _ hw]; exact hr.runs, fun A1 A2 e => ?_⟩
  cases A1 with
  | nil =>
    rw [List.nil_append] at e
    exact ⟨s, h, rfl, .refl, fun o' r' e' _ => by rw [← e] at e'; cases e'; exact .inl hw⟩
  | cons a A1 =>
    have e0 : o :: r = a :: (A1 ++ A2) := e
    injection e0 with e1 e9
    subst e1
    obtain ⟨s1, h2, g1, g2, g3⟩ := hr.cut A1 A2 e9
    exact ⟨s1, h2, by rw [runOps_skip _ hw]; exact g1, g2, fun o' r' e' hp => g3 o' r' e' (by rw [show i + 1 + A1.length = i + (o :: A1).length from by simp; omega]; exact hp)⟩
theorem PreR.mono {m' : Nat} (hm : m ≤ m') (hr : PreR C n0 m pl i ops s h s' h') : PreR C n0 m' pl i ops s h s' h' := by
  refine ⟨(runOps_mono (run_mono (b := false) (C := C) hm) ops hr.runs).1, fun A1 A2 e => ?_⟩
  obtain ⟨s1, h2, g1, g2, g3⟩ := hr.cut A1 A2 e
  exact ⟨s1, h2, (runOps_mono (run_mono (b := false) (C := C) hm) A1 g1).1, g2, g3⟩
theorem codeE_pre {A R : List AOper} {plan : List (Nat × List Nat)} (hA : PreR C n0 m pl 0 A s h s' h1) (hplan : (plan.all fun q => Nat.blt q.1 A.length && pl q.1 && q.2.all fun p => Nat.ble p A.length) = true) {s2 : Slots} (hR : OpsE C R s' h1 s2 h') : CodeE C (.reg (A ++ R) plan) s h .normal s2 h' := by
  obtain ⟨n, eR⟩ := hR
  have hA' := hA.mono (Nat.le_max_left m n)
  have eR' := (runOps_mono (run_mono (b := false) (C := C) (Nat.le_max_right m n)) R eR).1
  generalize max m n = M at hA' eR'
  refine ⟨M, ?_⟩
  have e3 : runOps false C (run false C M) (A ++ R) s h = some (s2, h') := by rw [runOps_append _ _ _ _ _ _ _ hA'.runs]; exact eR'
  show (match regA false C (run false C M) (A ++ R) plan s h with
    | some (s, h) => some (Ex.normal, s, h)
    | none => none) = _
  have hreg : regA false C (run false C M) (A ++ R) plan s h = some (s2, h') := by
    unfold regA
    cases plan with
    | nil => exact e3
    | cons q0 rest =>
      simp only
      rw [if_pos, e3]
      rw [List.all_eq_true] at hplan ⊢
      intro q hq
      have hq' := hplan q hq
      simp only [Bool.and_eq_true] at hq'
      obtain ⟨⟨b1, b2⟩, b3⟩ := hq'
      have b1 : q.1 < A.length := by simpa [Nat.blt_eq] using b1
      rw [List.all_eq_true] at b3 ⊢
      intro p hp
      have hpl : p ≤ A.length := by simpa [Nat.ble_eq] using b3 p hp
      obtain ⟨sj, hj, j1, j2, j3⟩ := hA'.cut (A.take q.1) (A.drop q.1) (List.take_append_drop _ _).symm
      obtain ⟨sp, hp', p1, p2, _⟩ := hA'.cut (A.take p) (A.drop p) (List.take_append_drop _ _).symm
      have lj : (A.take q.1).length = q.1 := by rw [List.length_take]; omega
      have lp : (A.take p).length = p := by rw [List.length_take]; omega
      have gj : (states false C (run false C M) (A ++ R) s h)[q.1]? = some (sj, hj) := by
        have := states_get (C := C) (run false C M) (A.take q.1) (A.drop q.1 ++ R) s sj h hj j1
        rwa [← List.append_assoc, List.take_append_drop, lj] at this
      have gp : (states false C (run false C M) (A ++ R) s h)[p]? = some (sp, hp') := by
        have := states_get (C := C) (run false C M) (A.take p) (A.drop p ++ R) s sp h hp' p1
        rwa [← List.append_assoc, List.take_append_drop, lp] at this
      have go : (A ++ R)[q.1]? = some A[q.1] := by rw [List.getElem?_append_left b1, List.getElem?_eq_getElem b1]
      unfold planOk1
      rw [go, gj, gp]
      rcases j3 A[q.1] _ (List.drop_eq_getElem_cons b1) (by rw [lj, Nat.zero_add]; exact b2) with hg | ⟨hg, nn, a, ad, w, ho, ha, hb, hl, hv⟩
      · simp only [hg]
      have e1 : aev A[q.1].op false C (run false C M) sj hj = some (w, hj) := by rw [ho, aev_ld, ha]; show ret1 (ldA nn ad hj) hj = _; rw [hl]; rfl
      have e2 : aev A[q.1].op false C (run false C M) sj hp' = some (w, hp') := by rw [ho, aev_ld, ha]; show ret1 (ldA nn ad hp') hp' = _; rw [ldA_HK p2 j2 hb, hl]; rfl
      simp only [hg, e1, e2, hv]
  rw [hreg]
end
/-! ### The same over states -/
def VPl (C : Cfg) (plan : List (Nat × List Nat)) (pl : Nat → Bool) (i : Nat) (N0 : List Pa) (b : Bool) (ops : List AOper) (S : VSt) (Q : VSt → Prop) : Prop :=
  ∀ (E : Env C) X s h ids F (F0 : Nat → Prop), E.ok X → St X S s h ids F → (N0.all fun a => (PT.get a S.B).isSome) = true → (b = true → ∀ k, F k → F0 k) → (∀ k, F0 k → F k) →
    ∃ m A R s' h' F' S' ids', ops = A ++ R ∧ PreR C (fun k => (∃ a ∈ N0, ids a = some k) ∨ F0 k) m pl i A s h s' h' ∧ (plan.all fun q => Nat.blt q.1 (i + A.length) && pl q.1 && q.2.all fun p => Nat.ble p (i + A.length)) = true ∧ St X S' s' h' ids' F' ∧ VO C R S' Q
section
variable {C : Cfg} {plan : List (Nat × List Nat)} {pl : Nat → Bool} {i : Nat} {N0 : List Pa} {b : Bool} {ops r : List AOper} {S : VSt} {Q : VSt → Prop}
theorem put_B (S : VSt) (d : Option Pa) (x : VV) : (S.put d x).B = S.B := by cases d <;> rfl
theorem VPl.stop (hp : (plan.all fun q => Nat.blt q.1 i && pl q.1 && q.2.all fun p => Nat.ble p i) = true) (hq : VO C ops S Q) : VPl C plan pl i N0 b ops S Q :=
  fun E X s h ids F F0 hE t hN _ _ => ⟨0, [], ops, s, h, F, S, ids, rfl, .nil, hp, t, hq⟩
theorem VPl.go {o : AOper} {x : VV} {S1 : VSt} (hw : wantV S o.guard = some true) (hu : pur o.op = true) (he : vev o.op o.dst S = some (x, S1)) (hl : pl i = true → ∃ n a, o.op = .ld n a ∧ ((∃ u q off, evV S a = .op u q off ∧ q ∈ N0) ∨ b = true ∧ ∃ u cs, evV S a = .p (.fp u cs)) ∧ okPl x = true)
    (hq : VPl C plan pl (i + 1) N0 b r (S.put o.dst x) Q) : VPl C plan pl i N0 b (o :: r) S Q := by
  intro E X s h ids F F0 hE t hN hb1 hb2
  obtain ⟨rfl, hv⟩ := vev_pur (C := C) hu he
  obtain ⟨v, h1, h2⟩ := hv X s h ids F t
  obtain ⟨m, A, R, s', h', F', S', ids9, rfl, g1, g2, g3, g4⟩ := hq E X _ h ids F F0 hE (t.put h2 o.dst) (by rw [put_B]; exact hN) hb1 hb2
  refine ⟨m, o :: A, R, s', h', F', S', ids9, rfl, PreR.cons (want_sound t hw) (aev_mono (self := noSelf) (fun t r e => by cases e) _ h1) .refl (fun hp => ?_) g1, by rw [List.length_cons, show i + (A.length + 1) = i + 1 + A.length from by omega]; exact g2, g3, g4⟩
  obtain ⟨n, a, ho, hor, hx⟩ := hl hp
  have hg := want_sound t hw
  have ra := evV_sound t a
  rw [ho, aev_ld] at h1
  have h1 : ret1 (ldP n (evA s a) h) h = some (v, h) := h1
  rcases hor with ⟨u, q, off, ha, hqN⟩ | ⟨hb, u, cs, ha⟩
  · rw [ha] at ra
    obtain ⟨k, tg, hk, _, hav⟩ := op_inv ra
    refine .inr ⟨hg, n, a, _, v, ho, hav, .inr (.inl ⟨q, hqN, hk⟩), ?_, okPl_veq h2 hx⟩
    rw [hav] at h1
    have h1 : ret1 (ldA n ⟨k, off, some tg⟩ h) h = some (v, h) := h1
    cases hc : ldA n ⟨k, off, some tg⟩ h with
    | none => rw [hc] at h1; cases h1
    | some w => rw [hc] at h1; cases h1; rfl
  · rw [ha] at ra
    obtain ⟨ad, hav, hsp⟩ : ∃ ad, evA s a = .pointer (some ad) ∧ (ad.spot = none ∨ F ad.block) := by
      generalize evA s a = w at ra
      cases ra with
      | p r =>
        cases r with
        | fp _ hrd _ _ =>
          refine ⟨_, rfl, ?_⟩
          unfold RdF at hrd
          split at hrd
          · rename_i e; exact .inl e
          · exact .inr hrd.1
    refine .inr ⟨hg, n, a, _, v, ho, hav, hsp.imp id fun hF => .inr (hb1 hb _ hF), ?_, okPl_veq h2 hx⟩
    rw [hav] at h1
    have h1 : ret1 (ldA n ad h) h = some (v, h) := h1
    cases hc : ldA n ad h with
    | none => rw [hc] at h1; cases h1
    | some w => rw [hc] at h1; cases h1; rfl
theorem VPl.pass {o : AOper} (hw : wantV S o.guard = some false) (hq : VPl C plan pl (i + 1) N0 b r (S.put o.dst .skip) Q) : VPl C plan pl i N0 b (o :: r) S Q := by
  intro E X s h ids F F0 hE t hN hb1 hb2
  obtain ⟨m, A, R, s', h', F', S', ids9, rfl, g1, g2, g3, g4⟩ := hq E X _ h ids F F0 hE (t.put .skip o.dst) (by rw [put_B]; exact hN) hb1 hb2
  exact ⟨m, o :: A, R, s', h', F', S', ids9, rfl, PreR.skip (want_sound t hw) g1, by rw [List.length_cons, show i + (A.length + 1) = i + 1 + A.length from by omega]; exact g2, g3, g4⟩
theorem VPl.call {d : Option Pa} {gd : Option (Pa × Bool)} {g : Opd} {args : List Opd} {f : Nat} {first cap L : List VV} {y : VV} (ho : ∀ l b, C.orc f l b = none) (hc : VCall C f L [] [] y []) (hL : first ++ args.map (evV S) ++ cap = L) (hw : wantV S gd = some true) (hg : evV S g = .clos f first cap) (hl : pl i = false)
    (hq : VPl C plan pl (i + 1) N0 false r (S.put d y) Q) : VPl C plan pl i N0 b (⟨d, gd, .call g args⟩ :: r) S Q := by
  subst hL
  intro E X s h1 ids1 F1 F0 hE t1 hN _ hb2
  have rg := evV_sound t1 g
  rw [hg] at rg
  obtain ⟨vf, vc, hvf, rf, rc⟩ : ∃ vf vc : List Value, evA s g = .func (.func f) vf.toArray vc.toArray ∧ All2 (Vr (RdF h1 F1) ids1) vf first ∧ All2 (Vr (RdF h1 F1) ids1) vc cap := by
    generalize evA s g = w at rg
    cases rg with
    | clos f h1 h2 h3 h4 => exact ⟨_, _, rfl, ⟨h1, h2⟩, ⟨h3, h4⟩⟩
  have rall := (rf.append (evV_list t1 args)).append rc
  have t0 : St (cx h1 ids1 F1 []) ⟨.lf, mkB [] .lf, nmsL [], none⟩ .lf h1 ids1 F1 :=
    ⟨t1.wf, rfl, fun _ hk => hk, fun _ _ _ => rfl, fun _ _ => Iff.rfl, t1.flt, fun a b hb => by simp [mkB] at hb, fun a b k hb => by simp [mkB] at hb, fun a a' b b' k hb => by simp [mkB] at hb, fun p x hx => by simp at hx, fun _ _ => rfl, ⟨rfl, rfl⟩, Nat.le_refl _⟩
  obtain ⟨v, h2, hcall, ids2, F2, t2, rv, hids⟩ := hc h1 ids1 F1 _ (by rw [t1.base]; exact E.glob hE) t0 rall
  have hidseq : ids2 = ids1 := funext fun a => hids a (by simp)
  subst hidseq
  have hkeep : ∀ k, k < h1.next → h2.get k = h1.get k := fun k hk => t2.keep k hk (fun ⟨a, b, hb, _⟩ => by simp [mkB] at hb)
  have hnx : h1.next ≤ h2.next := by
    rcases Nat.lt_or_ge h2.next h1.next with hc | hc
    · exact absurd (t2.next _ hc) (Nat.lt_irrefl _)
    · exact hc
  have tS : St X S s h2 ids2 F2 := t1.later t2.wf t2.base (fun k hk => Nat.lt_of_lt_of_le (t1.next k hk) hnx) (fun k hk _ => hkeep k (t1.next k hk))
    (fun a b k hb hk => ⟨hkeep k (t1.lt hb hk), fun hF => (t1.own a b k hb hk).1 ((t2.frz k (t1.lt hb hk)).1 hF)⟩) (fun k hk => ⟨(t2.frz k (t1.flt k hk)).2 hk, hkeep k (t1.flt k hk)⟩)
    (fun k hk => (t2.frz k (t1.next k hk)).trans (t1.frz k hk)) t2.flt t2.nx
  have oc : OpE C (.call g args) s h1 v h2 := OpE.call (by rw [hvf]) (ho _ _) (by simpa using hcall)
  obtain ⟨n, en⟩ := oc
  obtain ⟨m, A, R, s', h', F', S', ids9, rfl, g1, g2, g3, g4⟩ := hq E X _ h2 ids2 F2 F0 hE (tS.put rv d) (by rw [put_B]; exact hN) (fun e => by cases e) (fun k hk => (t2.frz k (t1.flt k (hb2 k hk))).2 (hb2 k hk))
  refine ⟨max n m, ⟨d, gd, .call g args⟩ :: A, R, s', h', F', S', ids9, rfl, PreR.cons (want_sound t1 hw) (aev_mono (run_mono (b := false) (C := C) (Nat.le_max_left n m)) _ en) ⟨t2.base, fun k hP => hkeep k (by
      rcases hP with ⟨a, ha, hk⟩ | hk
      · rw [List.all_eq_true] at hN
        have := hN a ha
        cases hb : PT.get a S.B with
        | none => rw [hb] at this; cases this
        | some b => exact t1.lt hb hk
      · exact t1.flt k (hb2 k hk))⟩ (fun hp => by rw [hl] at hp; cases hp) (g1.mono (Nat.le_max_right n m)),
    by rw [List.length_cons, show i + (A.length + 1) = i + 1 + A.length from by omega]; exact g2, g3, g4⟩
theorem VPl.callB {d : Option Pa} {gd : Option (Pa × Bool)} {g : Opd} {args : List Opd} {f : Nat} {first cap L : List VV} {y : VV} (Bf : List (Pa × VB)) (Br : PT VB) {B' : List (Pa × VB)} (ho : ∀ l b, C.orc f l b = none) (hc : VCall C f L Bf [] y B') (hL : first ++ args.map (evV S) ++ cap = L)
    (hBf : PT.Le (mkB Bf .lf) S.B) (hBr : PT.Le Br S.B) (hw : wantV S gd = some true) (hg : evV S g = .clos f first cap) (hl : pl i = false) (hdis : hasNo Br (nmsL Bf) = true) (hdisN : hasNo Br (nmsL B') = true) (hsub : subs (nmsL B') (nmsL Bf) = true)
    (hNB : (N0.all fun a => (PT.get a Br).isSome && (PT.get a (mkB B' Br)).isSome) = true)
    (hq : VPl C plan pl (i + 1) N0 false r (VSt.put ⟨S.L, mkB B' Br, S.K, S.H⟩ d y) Q) : VPl C plan pl i N0 b (⟨d, gd, .call g args⟩ :: r) S Q := by
  subst hL
  intro E X s h ids F F0 hE t hN _ hb2
  rw [List.all_eq_true] at hNB
  obtain ⟨vf, vc, hvf, v, h', hcall, ids', F2, t2, ry, hids, hkeep, hbase, hfrz⟩ := call_core (N := []) (args := args) [] Bf Br hg (by
      rw [borL_eq]
      have : (List.map (borV []) (first ++ args.map (evV S) ++ cap)) = first ++ args.map (evV S) ++ cap := by
        have h1 : borV [] = id := by funext x; rfl
        rw [h1, List.map_id]
      rw [this]; exact hc) trivial hBf hBr hdis hdisN rfl rfl (by rw [List.append_nil]; exact hsub) (by rw [List.all_eq_true]; intro a _; rfl) rfl t (by rw [t.base]; exact E.glob hE)
  have hidseq : ids' = ids := funext fun a => hids a (by simp)
  subst hidseq
  have oc : OpE C (.call g args) s h v h' := OpE.call hvf (ho _ _) hcall
  obtain ⟨n, en⟩ := oc
  obtain ⟨m, A, R, s', h2, F', S', ids9, rfl, g1, g2, g3, g4⟩ := hq E X _ h' ids' F2 F0 hE (t2.put ry d) (by
    rw [put_B, List.all_eq_true]
    intro a ha
    have := hNB a ha
    rw [Bool.and_eq_true] at this; exact this.2) (fun e => by cases e) (fun k hk => hfrz k (hb2 k hk))
  refine ⟨max n m, ⟨d, gd, .call g args⟩ :: A, R, s', h2, F', S', ids9, rfl, PreR.cons (want_sound t hw) (aev_mono (run_mono (b := false) (C := C) (Nat.le_max_left n m)) _ en) ⟨hbase, fun k hP => ?_⟩ (fun hp => by rw [hl] at hp; cases hp) (g1.mono (Nat.le_max_right n m)),
    by rw [List.length_cons, show i + (A.length + 1) = i + 1 + A.length from by omega]; exact g2, g3, g4⟩
  rcases hP with ⟨a, ha, hk⟩ | hk
  rotate_left
  · exact hkeep k (t.flt k (hb2 k hk)) fun a0 b0 h0 e => (t.own a0 b0 k (hBf.get h0) e).1 (hb2 k hk)
  have h1 := hNB a ha
  rw [Bool.and_eq_true] at h1
  cases hb : PT.get a Br with
  | none => rw [hb] at h1; cases h1.1
  | some b =>
    have hbS := hBr.get hb
    refine hkeep k (t.lt hbS hk) fun a0 b0 h0 e => ?_
    have := t.inj a0 a b0 b k (hBf.get h0) hbS e hk
    subst this
    rcases mkB_get h0 with ⟨e0, he0, rfl, _⟩ | ⟨h9, _⟩
    · have := hasNo_spec hdis _ (mem_nms he0)
      rw [hb] at this; cases this
    · simp at h9
end
def lookB (N0 : List Pa) (b : Bool) (o : AOper) (S : VSt) (x : VV) : Bool := match o.op with
  | .ld _ a => (match evV S a with
    | .op _ q _ => !nos q N0
    | .p (.fp _ _) => b
    | _ => false) && okPl x
  | _ => false
/-- As far as the next call or act. -/
def runP (pl : Nat → Bool) (N0 : List Pa) (b : Bool) : Nat → List AOper → VSt → Option (List AOper × Nat × VSt)
  | i, [], S => some ([], i, S)
  | i, o :: r, S => match wantV S o.guard with
    | some true => bif isCall o.op || !pur o.op then some (o :: r, i, S) else match vev o.op o.dst S with
      | some (x, _) => bif !pl i || lookB N0 b o S x then runP pl N0 b (i + 1) r (S.put o.dst x) else none
      | none => none
    | some false => runP pl N0 b (i + 1) r (S.put o.dst .skip)
    | none => none
theorem VPl.run {C : Cfg} {plan : List (Nat × List Nat)} {pl : Nat → Bool} {N0 : List Pa} {b : Bool} {Q : VSt → Prop} : ∀ {ops rest : List AOper} {i j : Nat} {S S' : VSt}, runP pl N0 b i ops S = some (rest, j, S') → VPl C plan pl j N0 b rest S' Q → VPl C plan pl i N0 b ops S Q
  | [], rest, i, j, S, S', he, hq => by cases he; exact hq
  | o :: r, rest, i, j, S, S', he, hq => by
    simp only [runP] at he
    split at he
    · rename_i hw
      cases hc : (isCall o.op || !pur o.op) with
      | true => rw [hc] at he; cases he; exact hq
      | false =>
        rw [hc] at he
        simp only [cond_false] at he
        simp only [Bool.or_eq_false_iff, Bool.not_eq_false'] at hc
        split at he
        · rename_i x S1 hv
          cases hl : (!pl i || lookB N0 b o S x) with
          | false => rw [hl] at he; cases he
          | true =>
            rw [hl] at he
            simp only [cond_true] at he
            refine VPl.go hw hc.2 hv (fun hp => ?_) (VPl.run he hq)
            rw [hp] at hl
            have hl : lookB N0 b o S x = true := by simpa using hl
            unfold lookB at hl
            split at hl
            · rename_i n a ho
              rw [Bool.and_eq_true] at hl
              obtain ⟨h1, h2⟩ := hl
              split at h1
              · rename_i u q off ha
                exact ⟨n, a, ho, .inl ⟨u, q, off, ha, nos_not (by simpa using h1)⟩, h2⟩
              · rename_i u cs ha
                exact ⟨n, a, ho, .inr ⟨h1, u, cs, ha⟩, h2⟩
              · cases h1
            · cases hl
        · cases he
    · rename_i hw
      exact VPl.pass hw (VPl.run he hq)
    · cases he
/-- A region with a plan. -/
theorem VC.planP {C : Cfg} {plan : List (Nat × List Nat)} {ops : List AOper} {S : VSt} {Q : Ex → VSt → Prop} (N0 : List Pa) (hN : (N0.all fun a => (PT.get a S.B).isSome) = true)
    (hq : VPl C plan (fun j => plan.any fun q => q.1 == j) 0 N0 true ops S (Q .normal)) : VC C (.reg ops plan) S Q := by
  intro E s h ids F t
  obtain ⟨X, hE, t⟩ := t
  obtain ⟨m, A, R, s', h1, F', S', ids9, rfl, g1, g2, g3, g4⟩ := hq E X s h ids F F hE t hN (fun _ _ h => h) (fun _ h => h)
  obtain ⟨s2, h', eR, S2, ids', F2, hQ, tQ⟩ := g4 E _ _ _ _ ⟨X, hE, g3⟩
  exact ⟨.normal, s2, h', codeE_pre g1 (by simpa using g2) eR, S2, ids', F2, hQ, tQ⟩
end Go.Ab.V

/- What the program's text lays, read out of a row's condition. -/
namespace Go.Ab.V
section
variable {H : Type} {enc : TypeId × Value → H} {P : Program} {W : World} {base : Nat} {sp : Nat → Bool} {held : Bool}
theorem laid_int {fuel : Nat} {t : TypeId} {k : IntKind} {cs : List Value} {n : Int} {p : List MemPlace} (ht : P.underlying t = some (.int k)) (hl : cs.length = 1) (h : DataW.trod enc P W base sp held fuel t cs = some (.lit (.int k n), p)) : cs = [.int k n] := by
  cases fuel with
  | zero => simp [DataW.trod] at h
  | succ fuel =>
    match cs, hl with
    | [c], _ =>
      cases c <;> simp [DataW.trod, ht] at h
      rename_i k' n'
      obtain ⟨⟨rfl, _⟩, h, _⟩ := h
      rw [h]
/-- An array of integers. -/
theorem laid_arr {fuel : Nat} {t e : TypeId} {n : Nat} {k : IntKind} {cs : List Value} {zs : List Int} {p : List MemPlace} (ht : P.underlying t = some (.array n e)) (he : P.underlying e = some (.int k)) (hc : P.cellsOf e = 1) (hn : P.cellsOf t = n)
    (h : DataW.trod enc P W base sp held fuel t cs = some (.agg (zs.map fun z => .lit (.int k z)), p)) : cs = zs.map fun z => .int k z := by
  cases fuel with
  | zero => simp [DataW.trod] at h
  | succ fuel =>
    simp only [DataW.trod, ht, hc, hn] at h
    split at h
    · rename_i hl
      cases hm : (List.range n).mapM (fun i => DataW.trod enc P W base sp held fuel e ((cs.drop (i * 1)).take 1)) with
      | none => rw [hm] at h; cases h
      | some xs =>
        rw [hm] at h
        simp only [Option.map_some, Option.some.injEq, Prod.mk.injEq, DataW.agg.injEq] at h
        obtain ⟨hx, _⟩ := h
        have hlen := mapM_some_length hm
        rw [List.length_range] at hlen
        have hzl : zs.length = n := by have := congrArg List.length hx; simp at this; omega
        refine List.ext_getElem (by simp [hzl, hl]) fun i h1 h2 => ?_
        have hi : i < n := by omega
        have hg := mapM_some_get hm i i (by simp [hi])
        rw [List.getElem?_eq_getElem (by omega)] at hg
        have hxi : xs[i].1 = .lit (.int k (zs[i]'(by omega))) := by
          have := congrArg (fun l => l[i]?) hx
          simp only [List.getElem?_map, List.getElem?_eq_getElem (show i < xs.length by omega), List.getElem?_eq_getElem (show i < zs.length by omega), Option.map_some, Option.some.injEq] at this
          exact this
        have hd : (cs.drop (i * 1)).take 1 = [cs[i]] := by
          rw [Nat.mul_one, List.drop_eq_getElem_cons h1]; rfl
        rw [hd] at hg
        have := laid_int he rfl (n := zs[i]'(by omega)) (p := xs[i].2) (by rw [hg]; congr 1; exact Prod.ext hxi rfl)
        rw [List.getElem_map]
        injection this
    · cases h
/-- Two integers side by side. -/
theorem laid_st2 {fuel : Nat} {t : TypeId} {f g : Field} {k : IntKind} {cs : List Value} {x y : Int} {p : List MemPlace} (ht : P.underlying t = some (.struct #[f, g])) (hf : P.underlying f.type = some (.int k)) (hg : P.underlying g.type = some (.int k)) (cf : P.cellsOf f.type = 1) (cg : P.cellsOf g.type = 1) (of : f.offset = 0) (og : g.offset = 1) (hn : P.cellsOf t = 2)
    (h : DataW.trod enc P W base sp held fuel t cs = some (.agg [.lit (.int k x), .lit (.int k y)], p)) : cs = [.int k x, .int k y] := by
  cases fuel with
  | zero => simp [DataW.trod] at h
  | succ fuel =>
    simp only [DataW.trod, ht, hn] at h
    split at h
    · rename_i hl
      match cs, hl with
      | [a, b], _ =>
        simp only [List.mapM_cons, List.mapM_nil, cf, cg, of, og] at h
        cases h1 : DataW.trod enc P W base sp held fuel f.type [a] with
        | none => simp [h1] at h
        | some u =>
          cases h2 : DataW.trod enc P W base sp held fuel g.type [b] with
          | none => simp [h1, h2] at h
          | some v =>
            simp [h1, h2] at h
            have e1 := laid_int hf rfl (n := x) (p := u.2) (by rw [h1]; congr 1; exact Prod.ext h.1.1 rfl)
            have e2 := laid_int hg rfl (n := y) (p := v.2) (by rw [h2]; congr 1; exact Prod.ext h.1.2 rfl)
            injection e1 with e1; injection e2 with e2
            rw [e1, e2]
    · cases h
theorem laid_base {n : String} {d : DataW Unit} {r : List (String × DataW Unit)} {ps : List MemPlace} (h : DataW.LaidVars P W ((n, d) :: r) ps) {g : Nat} {t : TypeId} (hg : P.globalNamed n = some g) (ht : (P.globals[g]?).map (·.type) = some t) {row : List (IntKind × Int)}
    (hr : ∀ fuel cs p, DataW.trod (fun _ => ()) P W 0 (fun _ => true) false fuel t cs = some (d, p) → cs = rowI row) : baseW W g = some (rowI row) ∧ ∃ q, DataW.LaidVars P W r q := by
  obtain ⟨g', t', cs, fuel, p, q, h1, h2, h3, h4, h5, _⟩ := h
  rw [hg] at h1; cases h1
  rw [ht] at h2; cases h2
  have hcs := hr _ _ _ h4
  refine ⟨?_, q, h5⟩
  unfold World.var? at h3
  rw [hg] at h3
  simp only [Option.bind_some] at h3
  unfold baseW
  split at h3
  · rename_i arr u fz hb
    cases h3
    rw [hb]
    simp only [hcs, Option.some.injEq]
    refine List.ext_getElem (by simp) fun i h1 h2 => ?_
    simp [rowI, cln, clnS, selfB]
  · cases h3
end
end Go.Ab.V

/- Acts ahead of the last read of a drawn region. -/
namespace Go.Ab.V
def remB : List Pa → PT VB → PT VB
  | [], t => t
  | a :: r, t => remB r (PT.set a t none)
def addB : List Pa → PT VB → PT VB → PT VB
  | [], _, t => t
  | a :: r, B0, t => addB r B0 (PT.set a t (PT.get a B0))
theorem get_remB : ∀ {N : List Pa} {t : PT VB} {q : Pa} {b : VB}, PT.get q (remB N t) = some b → q ∉ N ∧ PT.get q t = some b
  | [], t, q, b, h => ⟨by simp, h⟩
  | a :: r, t, q, b, h => by
    obtain ⟨h1, h2⟩ := get_remB (N := r) h
    rw [PT.get_set] at h2
    split at h2
    · cases h2
    · rename_i e
      exact ⟨by simp only [List.mem_cons, not_or]; exact ⟨e, h1⟩, h2⟩
theorem get_addB : ∀ {N : List Pa} {B0 t : PT VB} {q : Pa}, (q ∈ N → PT.get q (addB N B0 t) = PT.get q B0) ∧ (q ∉ N → PT.get q (addB N B0 t) = PT.get q t)
  | [], B0, t, q => ⟨fun h => by simp at h, fun _ => rfl⟩
  | a :: r, B0, t, q => by
    obtain ⟨i1, i2⟩ := get_addB (N := r) (B0 := B0) (t := PT.set a t (PT.get a B0)) (q := q)
    constructor
    · intro h
      by_cases hr : q ∈ r
      · exact i1 hr
      · have e : q = a := by simpa [hr] using h
        show PT.get q (addB r B0 _) = _
        rw [i2 hr, PT.get_set, if_pos e, e]
    · intro h
      simp only [List.mem_cons, not_or] at h
      show PT.get q (addB r B0 _) = _
      rw [i2 h.2, PT.get_set, if_neg h.1]
def namesIn (N0 : List Pa) (B : PT VB) : Bool := N0.all fun a => match PT.get a B with
  | some b => (nmB b).all fun c => !nos c N0
  | none => false
section
variable {C : Cfg} {plan : List (Nat × List Nat)} {pl : Nat → Bool} {i : Nat} {N0 : List Pa} {b : Bool} {r : List AOper} {S S1 : VSt} {Q : VSt → Prop}
theorem VPl.act {o : AOper} {x : VV} (hv : vev o.op o.dst ⟨S.L, remB N0 S.B, N0 ++ S.K, S.H⟩ = some (x, S1)) (hw : wantV S o.guard = some true) (hl : pl i = false) (hnm : namesIn N0 S.B = true) (hK : S1.K = N0 ++ S.K)
    (hq : VPl C plan pl (i + 1) N0 b r (VSt.put ⟨S1.L, addB N0 S.B S1.B, S.K, S1.H⟩ o.dst x) Q) : VPl C plan pl i N0 b (o :: r) S Q := by
  intro E X s h ids F F0 hE t hN hb1 hb2
  have hN' : ∀ a ∈ N0, ∃ bb, PT.get a S.B = some bb := fun a ha => by
    rw [List.all_eq_true] at hN
    have := hN a ha
    cases hb : PT.get a S.B with
    | none => rw [hb] at this; cases this
    | some bb => exact ⟨bb, rfl⟩
  let P : Nat → Prop := fun k => ∃ a ∈ N0, ids a = some k
  have hPlt : ∀ k, P k → k < h.next := fun k ⟨a, ha, hk⟩ => let ⟨bb, hb⟩ := hN' a ha; t.lt hb hk
  let X' : Ctx := ⟨h, fun k => P k ∨ X.old k ∨ F k, fun k => X.T k ∧ ¬P k ∧ ¬F k, F, ids, X.H, N0 ++ S.K⟩
  have hnP : ∀ a bb k, a ∉ N0 → PT.get a S.B = some bb → ids a = some k → ¬P k := fun a bb k ha hb hk ⟨a', ha', hk'⟩ => by
    obtain ⟨b', hb'⟩ := hN' a' ha'
    have := t.inj a a' bb b' k hb hb' hk hk'
    subst this; exact ha ha'
  have t' : St X' ⟨S.L, remB N0 S.B, N0 ++ S.K, S.H⟩ s h ids F := by
    refine ⟨t.wf, rfl, fun k hk => ?_, fun _ _ _ => rfl, fun _ _ => Iff.rfl, t.flt, fun a bb hb => t.blk a bb (get_remB hb).2, fun a bb k hb hk => ?_, fun a a' b1 b2 k g1 g2 => t.inj a a' b1 b2 k (get_remB g1).2 (get_remB g2).2, t.slots, fun _ _ => rfl, ⟨t.hist.1, rfl⟩, Nat.le_refl _⟩
    · rcases hk with hk | hk | hk
      · exact hPlt k hk
      · exact t.next k hk
      · exact t.flt k hk
    · obtain ⟨h1, h2⟩ := get_remB hb
      obtain ⟨o1, o2⟩ := t.own a bb k h2 hk
      have hp := hnP a bb k h1 h2 hk
      refine ⟨o1, ?_⟩
      rcases o2 with o2 | ⟨o2, o3⟩
      · exact .inl fun hh => hh.elim hp fun hh => hh.elim o2 o1
      · exact .inr ⟨⟨o2, hp, o1⟩, List.mem_append_right _ o3⟩
  obtain ⟨v, h', ids', hev, t1, rv⟩ := vev_sound (C := C) hv X' s h ids F t'
  have hstab : ∀ a ∈ N0 ++ S.K, ids' a = ids a := fun a ha => t1.stab a (by rw [hK]; exact ha)
  have hkeep : ∀ k, P k ∨ F k → h'.get k = h.get k := fun k hk => t1.keep k (hk.elim .inl fun h => .inr (.inr h)) fun hT => hk.elim hT.2.1 hT.2.2
  have hbase : h'.base = h.base := t1.base
  rw [namesIn, List.all_eq_true] at hnm
  have t2 : St X ⟨S1.L, addB N0 S.B S1.B, S.K, S1.H⟩ s h' ids' F := by
    have hB : ∀ {a bb}, PT.get a (addB N0 S.B S1.B) = some bb → (a ∈ N0 ∧ PT.get a S.B = some bb) ∨ (a ∉ N0 ∧ PT.get a S1.B = some bb) := by
      intro a bb hb
      by_cases ha : a ∈ N0
      · exact .inl ⟨ha, by rw [← get_addB.1 ha]; exact hb⟩
      · exact .inr ⟨ha, by rw [← get_addB.2 ha]; exact hb⟩
    refine ⟨t1.wf, hbase.trans t.base, fun k hk => t1.next k (.inr (.inl hk)), fun k hk hn => (t1.keep k (.inr (.inl hk)) fun hT => hn hT.1).trans (t.keep k hk hn), t.frz, t1.flt, fun a bb hb => ?_, fun a bb k hb hk => ?_, fun a1 a2 b1 b2 k g1 g2 e1 e2 => ?_, t1.slots, fun a ha => (hstab a (List.mem_append_right _ ha)).trans (t.stab a ha), ⟨t1.hist.1, t.hist.2⟩, Nat.le_trans t.nx t1.nx⟩
    · rcases hB hb with ⟨ha, h0⟩ | ⟨ha, h0⟩
      · rw [hstab a (List.mem_append_left _ ha)]
        refine (t.blk a bb h0).mono (fun _ _ r => RdF.mono hbase (fun k hk => ⟨hk, hkeep k (.inr hk)⟩) r) (fun c hc => ?_) (fun k hk => hkeep k (.inl ⟨a, ha, hk⟩))
        have := hnm a ha
        rw [h0] at this
        simp only [List.all_eq_true, Bool.not_eq_true'] at this
        exact hstab c (List.mem_append_left _ (nos_not (this c hc)))
      · exact t1.blk a bb h0
    · rcases hB hb with ⟨ha, h0⟩ | ⟨ha, h0⟩
      · rw [hstab a (List.mem_append_left _ ha)] at hk
        exact t.own a bb k h0 hk
      · obtain ⟨o1, o2⟩ := t1.own a bb k h0 hk
        refine ⟨o1, ?_⟩
        rcases o2 with o2 | ⟨o2, o3⟩
        · exact .inl fun hh => o2 (.inr (.inl hh))
        · rw [hK] at o3
          exact .inr ⟨o2.1, (List.mem_append.1 o3).resolve_left ha⟩
    · have cross : ∀ {a1 a2 : Pa} {b2 : VB}, a1 ∈ N0 → ids' a1 = some k → PT.get a2 S1.B = some b2 → ids' a2 = some k → False := by
        intro a1 a2 b2 ha1 h1 h2 h3
        rw [hstab a1 (List.mem_append_left _ ha1)] at h1
        rcases (t1.own a2 b2 k h2 h3).2 with o | o
        · exact o (.inl ⟨a1, ha1, h1⟩)
        · exact o.1.2.1 ⟨a1, ha1, h1⟩
      rcases hB g1 with ⟨p1, p2⟩ | ⟨p1, p2⟩
      · rcases hB g2 with ⟨q1, q2⟩ | ⟨q1, q2⟩
        · rw [hstab a1 (List.mem_append_left _ p1)] at e1
          rw [hstab a2 (List.mem_append_left _ q1)] at e2
          exact t.inj a1 a2 b1 b2 k p2 q2 e1 e2
        · exact (cross p1 e1 q2 e2).elim
      · rcases hB g2 with ⟨q1, q2⟩ | ⟨q1, q2⟩
        · exact (cross q1 e2 p2 e1).elim
        · exact t1.inj a1 a2 b1 b2 k p2 q2 e1 e2
  obtain ⟨m, A, R, s', h2, F', S', ids9, rfl, g1, g2, g3, g4⟩ := hq E X _ h' ids' F F0 hE (t2.put rv o.dst) (by
    rw [put_B, List.all_eq_true]
    intro a ha
    obtain ⟨bb, hb⟩ := hN' a ha
    rw [get_addB.1 ha, hb]; rfl) hb1 hb2
  have hPe : (fun k => (∃ a ∈ N0, ids' a = some k) ∨ F0 k) = fun k => (∃ a ∈ N0, ids a = some k) ∨ F0 k := by
    funext k
    apply propext
    constructor
    · rintro (⟨a, ha, hk⟩ | hk)
      · exact .inl ⟨a, ha, by rw [← hstab a (List.mem_append_left _ ha)]; exact hk⟩
      · exact .inr hk
    · rintro (⟨a, ha, hk⟩ | hk)
      · exact .inl ⟨a, ha, by rw [hstab a (List.mem_append_left _ ha)]; exact hk⟩
      · exact .inr hk
  rw [hPe] at g1
  exact ⟨m, o :: A, R, s', h2, F', S', ids9, rfl, PreR.cons (want_sound t hw) (aev_mono (self := noSelf) (fun t r e => by cases e) _ hev) ⟨hbase, fun k hP => hkeep k (hP.imp id fun hk => hb2 k hk)⟩ (fun hp => by rw [hl] at hp; cases hp) g1,
    by rw [List.length_cons, show i + (A.length + 1) = i + 1 + A.length from by omega]; exact g2, g3, g4⟩
end
/-- A nil slice, seen as a pure one. -/
theorem G.nilp {S : VSt} {p : Pa} (u : Nat) {S2 : VSt} (hq : G ⟨PT.set p S.L (some (.p (.sl u 0 []))), S.B, S.K, S.H⟩ S2) (hp : PT.get p S.L = some (.p (.at (.slice none 0 0))) := by rfl) : G S S2 := by
  refine G.trans (S2 := ⟨PT.set p S.L (some (.p (.sl u 0 []))), S.B, S.K, S.H⟩) ?_ hq
  intro X s h ids F t
  refine ⟨ids, F, ⟨t.wf, t.base, t.next, t.keep, t.frz, t.flt, t.blk, t.own, t.inj, fun q x hq => ?_, t.stab, t.hist, t.nx⟩⟩
  have hq : PT.get q (PT.set p S.L (some (.p (.sl u 0 [])))) = some x := hq
  rw [PT.get_set] at hq
  split at hq
  · rename_i e
    cases hq
    subst e
    have r := t.slots q _ hp
    have := (at_inv r).1
    rw [this]; exact .p .nil
  · exact t.slots q x hq
end Go.Ab.V

/- Other names for what a call hands back; such calls in drawn regions. -/
namespace Go.Ab.V
theorem VCall.ren {C : Cfg} {f : Nat} {args : List VV} {b : Pa} {u n : Nat} {l : List VV} (hl : nmL l = []) (hc : VCall C f args [] [b] (.os u b n) [(b, .cells l)]) (a : Pa) : VCall C f args [] [a] (.os u a n) [(a, .cells l)] := by
  intro h ids F vals hg t r
  refine (hc h ids F vals hg t r).mono fun v h' ⟨ids', F', t', rv, hids⟩ => ?_
  refine ⟨fun x => if x = a then ids' b else ids x, F', ?_, ?_, fun x hx => if_neg (by simpa using hx)⟩
  · have hb0 : PT.get b (mkB [(b, VB.cells l)] .lf) = some (VB.cells l) := by
      show PT.get b (PT.set b .lf (some (VB.cells l))) = _
      rw [PT.get_set, if_pos rfl]
    have ha0 : ∀ {x bb}, PT.get x (mkB [(a, VB.cells l)] .lf) = some bb → x = a ∧ bb = VB.cells l := fun {x bb} hx => by
      have hx : PT.get x (PT.set a .lf (some (VB.cells l))) = some bb := hx
      rw [PT.get_set] at hx
      split at hx
      · rename_i e; cases hx; exact ⟨e, rfl⟩
      · simp at hx
    refine ⟨t'.wf, t'.base, t'.next, t'.keep, t'.frz, t'.flt, fun x bb hx => ?_, fun x bb k hx hk => ?_, fun x y b1 b2 k h1 h2 _ _ => ?_, fun p x hx => by simp at hx, fun x hx => by simp [nmsL] at hx, t'.hist, t'.nx⟩
    · obtain ⟨rfl, rfl⟩ := ha0 hx
      rw [if_pos rfl]
      exact (t'.blk b _ hb0).mono (fun _ _ r => r) (fun c hc => by simp only [nmB, hl] at hc; simp at hc) (fun _ _ => rfl)
    · obtain ⟨rfl, rfl⟩ := ha0 hx
      rw [if_pos rfl] at hk
      obtain ⟨o1, o2⟩ := t'.own b _ k hb0 hk
      exact ⟨o1, o2.imp id fun h => by simp [nmsL] at h⟩
    · rw [(ha0 h1).1, (ha0 h2).1]
  · cases rv with
    | osN e h0 => exact .osN (by rw [if_pos rfl]; exact e) h0
    | os n e t => exact .os n (by rw [if_pos rfl]; exact e) t
section
variable {C : Cfg} {plan : List (Nat × List Nat)} {pl : Nat → Bool} {i : Nat} {N0 : List Pa} {b : Bool} {ops r : List AOper} {S : VSt} {Q : VSt → Prop}
theorem VPl.callN {d : Option Pa} {gd : Option (Pa × Bool)} {g : Opd} {args : List Opd} {f : Nat} {first cap L : List VV} {N : List Pa} {y : VV} {B' : List (Pa × VB)} (ho : ∀ l b, C.orc f l b = none) (hc : VCall C f L [] N y B') (hL : first ++ args.map (evV S) ++ cap = L)
    (hw : wantV S gd = some true) (hg : evV S g = .clos f first cap) (hl : pl i = false) (hdisN : hasNo S.B (N ++ nmsL B') = true) (hNK : N.all (fun a => nos a S.K) = true) (hN0 : N.all (fun a => nos a N0) = true) (hsub : subs (nmsL B') N = true)
    (hNB : (N0.all fun a => (PT.get a (mkB B' (filtNB N S.B))).isSome) = true)
    (hq : VPl C plan pl (i + 1) N0 false r (VSt.put ⟨filtN N S.L, mkB B' (filtNB N S.B), S.K, S.H⟩ d y) Q) : VPl C plan pl i N0 b (⟨d, gd, .call g args⟩ :: r) S Q := by
  subst hL
  intro E X s h ids F F0 hE t hN _ hb2
  obtain ⟨vf, vc, hvf, v, h', hcall, ids', F2, t2, ry, hids, hkeep, hbase, hfrz⟩ := call_core (N := N) (args := args) [] [] S.B hg (by
      rw [borL_eq]
      have : (List.map (borV []) (first ++ args.map (evV S) ++ cap)) = first ++ args.map (evV S) ++ cap := by
        have h1 : borV [] = id := by funext x; rfl
        rw [h1, List.map_id]
      rw [this]; exact hc) trivial trivial (PT.Le.refl _) rfl hdisN rfl hNK hsub rfl rfl t (by rw [t.base]; exact E.glob hE)
  have oc : OpE C (.call g args) s h v h' := OpE.call hvf (ho _ _) hcall
  obtain ⟨n, en⟩ := oc
  obtain ⟨m, A, R, s', h2, F', S', ids9, rfl, g1, g2, g3, g4⟩ := hq E X _ h' ids' F2 F0 hE (t2.put ry d) (by rw [put_B]; exact hNB) (fun e => by cases e) (fun k hk => hfrz k (hb2 k hk))
  have hst : ∀ a ∈ N0, ids' a = ids a := fun a ha => hids a fun hn => by
    rw [List.all_eq_true] at hN0
    exact nos_spec (hN0 a hn) ha
  have hPe : (fun k => (∃ a ∈ N0, ids' a = some k) ∨ F0 k) = fun k => (∃ a ∈ N0, ids a = some k) ∨ F0 k := by
    funext k
    apply propext
    constructor
    · rintro (⟨a, ha, hk⟩ | hk)
      · exact .inl ⟨a, ha, by rw [← hst a ha]; exact hk⟩
      · exact .inr hk
    · rintro (⟨a, ha, hk⟩ | hk)
      · exact .inl ⟨a, ha, by rw [hst a ha]; exact hk⟩
      · exact .inr hk
  rw [hPe] at g1
  refine ⟨max n m, ⟨d, gd, .call g args⟩ :: A, R, s', h2, F', S', ids9, rfl, PreR.cons (want_sound t hw) (aev_mono (run_mono (b := false) (C := C) (Nat.le_max_left n m)) _ en) ⟨hbase, fun k hP => hkeep k ?_ fun a b hb => by simp [mkB] at hb⟩ (fun hp => by rw [hl] at hp; cases hp) (g1.mono (Nat.le_max_right n m)),
    by rw [List.length_cons, show i + (A.length + 1) = i + 1 + A.length from by omega]; exact g2, g3, g4⟩
  rcases hP with ⟨a, ha, hk⟩ | hk
  · rw [List.all_eq_true] at hN
    have := hN a ha
    cases hb : PT.get a S.B with
    | none => rw [hb] at this; cases this
    | some b => exact t.lt hb hk
  · exact t.flt k (hb2 k hk)
end
end Go.Ab.V

/- Calls of functions that hand items on themselves. -/
namespace Go.Ab.V
section
variable {X : Ctx} {S S1 : VSt} {s : Slots} {h : AHeap} {ids : Pa → Option Nat} {F : Nat → Prop} {C : Cfg} {v v' : Value} {x y z : VV}
/-- A function that hands on the items 'its', or the first of them, till it is stopped. Bf: blocks that are handed over, Bg: blocks that are given away; R: what is left, by its answer. -/
def VYCall (C : Cfg) (f : Nat) (k : Nat) (args : List VV) (Bf Bg : List (Pa × VB)) (st : Bool) (H : List Itm) (R : VV → List (Pa × VB) → List Itm → Bool → Prop) : Prop :=
  ∀ (E : Env C) h ids F vals, StE E ⟨.lf, mkB (Bf ++ Bg) .lf, nmsL Bf, some ⟨k, H, true, st⟩⟩ .lf h ids F → All2 (Vr (RdF h F) ids) vals args →
    WpF C f vals (fun v h' => ∃ y B' rest live ids' F', R y B' rest live ∧ nm y = [] ∧ StE E ⟨.lf, mkB B' .lf, nmsL Bf, some ⟨k, rest, live, st⟩⟩ .lf h' ids' F' ∧ Vr (RdF h' F') ids' v y) h
def FinY (S : VSt) (rs : List ARes) (K : List Pa) (k : Nat) (st : Bool) (R : VV → List (Pa × VB) → List Itm → Bool → Prop) : Prop :=
  ∃ S' ys B' rest live, G S S' ∧ resVV S' rs = some ys ∧ nm (resX ys) = [] ∧ R (resX ys) B' rest live ∧ PT.Le (mkB B' .lf) S'.B ∧ S'.K = K ∧ S'.H = some ⟨k, rest, live, st⟩
theorem VYCall.mk {f k : Nat} {fn : AFunc} {args : List VV} {Bf Bg : List (Pa × VB)} {st : Bool} {H : List Itm} {R : VV → List (Pa × VB) → List Itm → Bool → Prop} (hf : C.fn f = some fn) (hl : args.length = fn.params.length)
    (hc : VC C fn.body ⟨inV fn.params args .lf, mkB (Bf ++ Bg) .lf, nmsL Bf, some ⟨k, H, true, st⟩⟩ (fun e S => match e with
      | .exit _ => False
      | _ => FinY S fn.results (nmsL Bf) k st R)) : VYCall C f k args Bf Bg st H R := by
  intro E h ids F vals t r
  obtain ⟨X, hE, t⟩ := t
  refine WpF.mk hf (r.1.trans hl) ?_
  have t0 : St X ⟨inV fn.params args .lf, mkB (Bf ++ Bg) .lf, nmsL Bf, some ⟨k, H, true, st⟩⟩ (putL fn.params vals fn.init fun s => s) h ids F :=
    ⟨t.wf, t.base, t.next, t.keep, t.frz, t.flt, t.blk, t.own, t.inj, inV_sound fn.params r (fun p x hx => by simp at hx), t.stab, t.hist, t.nx⟩
  refine (hc E _ _ _ _ ⟨X, hE, t0⟩).mono fun e s' h' ⟨S', i, f', q, Y, hY, t'⟩ => ?_
  have key : FinY S' fn.results (nmsL Bf) k st R → ∃ vs, resOf s' h' fn.results = some vs ∧ ∃ y B' rest live ids' F', R y B' rest live ∧ nm y = [] ∧ StE E ⟨.lf, mkB B' .lf, nmsL Bf, some ⟨k, rest, live, st⟩⟩ .lf h' ids' F' ∧ Vr (RdF h' F') ids' (resV vs) y := by
    rintro ⟨S2, ys, B', rest, live, g, hys, hn, hR, hB, hK, hH⟩
    obtain ⟨i2, f2, t2⟩ := g _ _ _ _ _ t'
    obtain ⟨vs, h1, h2⟩ := res_sound t2 hys
    have t3 := t2.weak (S' := ⟨.lf, mkB B' .lf, nmsL Bf, some ⟨k, rest, live, st⟩⟩) ⟨trivial, hB, hK.symm, hH.symm⟩
    exact ⟨vs, h1, _, B', rest, live, i2, f2, hR, hn, ⟨Y, hY, t3.wf, t3.base, t3.next, t3.keep, t3.frz, t3.flt, t3.blk, t3.own, t3.inj, fun p x hx => by simp at hx, t3.stab, t3.hist, t3.nx⟩, resX_sound h2⟩
  cases e with
  | exit id => exact q.elim
  | normal => obtain ⟨vs, h1, h2⟩ := key q; simp only [h1]; exact h2
  | ret => obtain ⟨vs, h1, h2⟩ := key q; simp only [h1]; exact h2
/-- A part in a box, that is the whole block. -/
def _root_.Go.Ab.VSt.obos (S : VSt) (p : Pa) (i : Nat) (u : Nat) (a : Pa) (n : Nat) (cs : List VV) : VSt := ⟨S.L, PT.set p S.B (some (.cells (cs.set i (.os u a n)))), S.K, S.H⟩
theorem G.obos {p : Pa} {i : Nat} {u : Nat} {a : Pa} {n : Nat} {cs : List VV} (hb : PT.get p S.B = some (.cells cs)) (hi : cs[i]? = some (.ob u a 0 n n)) : G S (S.obos p i u a n cs) := by
  intro X s h ids F t
  have hB : ∀ {a' b}, PT.get a' (S.obos p i u a n cs).B = some b → (a' = p ∧ b = .cells (cs.set i (.os u a n))) ∨ PT.get a' S.B = some b := by
    intro a' b hg
    have hg : PT.get a' (PT.set p S.B (some (.cells (cs.set i (.os u a n))))) = some b := hg
    rw [PT.get_set] at hg
    split at hg
    · rename_i e; cases hg; exact .inl ⟨e, rfl⟩
    · exact .inr hg
  have hB' : ∀ {a' b}, PT.get a' (S.obos p i u a n cs).B = some b → ∃ c, PT.get a' S.B = some c := fun hg => by
    rcases hB hg with ⟨rfl, _⟩ | g
    · exact ⟨_, hb⟩
    · exact ⟨_, g⟩
  refine ⟨ids, F, ⟨t.wf, t.base, t.next, t.keep, t.frz, t.flt, fun a' b hg => ?_, fun a' b k hg hk => ?_, fun a1 a2 b1 b2 k g1 g2 e1 e2 => ?_, t.slots, t.stab, t.hist, t.nx⟩⟩
  · rcases hB hg with ⟨rfl, rfl⟩ | hg
    · have r := t.blk a' _ hb
      revert r
      cases hk : ids a' with
      | none =>
        intro r
        have r : cs = [] := r
        subst r; simp at hi
      | some k =>
        rintro ⟨c, h1, h2⟩
        refine ⟨c, h1, by rw [List.length_set]; exact h2.1, fun j w y hw hy => ?_⟩
        rw [List.getElem?_set] at hy
        split at hy
        · rename_i e
          subst e
          split at hy
          · cases hy
            have r := h2.2 i _ _ hw hi
            obtain ⟨k', tg, hk', ht, _, rfl⟩ := ob_inv r
            exact .os n hk' ht
          · cases hy
        · exact h2.2 j _ _ hw hy
    · exact t.blk a' b hg
  · obtain ⟨c, hg⟩ := hB' hg
    exact t.own a' c k hg hk
  · obtain ⟨c1, g1⟩ := hB' g1
    obtain ⟨c2, g2⟩ := hB' g2
    exact t.inj a1 a2 c1 c2 k g1 g2 e1 e2
/-- A call of a function that hands on itself. L: the slots that are kept. -/
theorem VO.ycall {Q : VSt → Prop} {d : Option Pa} {gd : Option (Pa × Bool)} {g : Opd} {args : List Opd} {r : List AOper} {f k : Nat} {first cap : List VV} {st : Bool} {H : List Itm} {R : VV → List (Pa × VB) → List Itm → Bool → Prop} (Bf Bg : List (Pa × VB)) (L : PT VV)
    (hw : wantV S gd = some true) (hg : evV S g = .clos f first cap) (ho : ∀ l b, C.orc f l b = none) (hc : VYCall C f k (first ++ args.map (evV S) ++ cap) Bf Bg st H R) (hH : S.H = some ⟨k, H, true, st⟩) (hBf : PT.Le (mkB (Bf ++ Bg) .lf) S.B)
    (hL : PT.Le L S.L) (hN : NmOk (nmsL Bf) L) (hK : subs S.K (nmsL Bf) = true) (hg2 : (nmsL Bg).all (fun a => nos a (nmsL Bf) && nos a S.K) = true)
    (hq : ∀ y B' rest live, R y B' rest live → VO C r (VSt.put ⟨L, mkB B' .lf, S.K, some ⟨k, rest, live, st⟩⟩ d y) Q) : VO C (⟨d, gd, .call g args⟩ :: r) S Q := by
  intro E s h ids F t
  obtain ⟨X, hE, t⟩ := t
  have rg := evV_sound t g
  rw [hg] at rg
  obtain ⟨vf, vc, hvf, rf, rc⟩ : ∃ vf vc : List Value, evA s g = .func (.func f) vf.toArray vc.toArray ∧ All2 (Vr (RdF h F) ids) vf first ∧ All2 (Vr (RdF h F) ids) vc cap := by
    generalize evA s g = w at rg
    cases rg with
    | clos f h1 h2 h3 h4 => exact ⟨_, _, rfl, ⟨h1, h2⟩, ⟨h3, h4⟩⟩
  have rall := (rf.append (evV_list t args)).append rc
  have hK := subs_spec hK
  rw [List.all_eq_true] at hg2
  let KZ := nmsL Bf
  let Tk : Nat → Prop := fun m => ∃ a ∈ KZ, ids a = some m
  let RB : Nat → Prop := fun m => ∃ a ∈ nmsL Bg, ids a = some m
  let old2 : Nat → Prop := fun m => m < h.next ∧ ¬RB m
  let Xa : Ctx := ⟨h, old2, Tk, F, ids, S.H, KZ⟩
  have happ : ∀ {l l' : List (Pa × VB)} {a : Pa}, a ∈ nmsL (l ++ l') ↔ a ∈ nmsL l ∨ a ∈ nmsL l' := by
    intro l l' a
    induction l with
    | nil => simp [nmsL]
    | cons e l ih => simp only [List.cons_append, nmsL, List.mem_cons, ih, or_assoc]
  have hBn0 : ∀ a ∈ nmsL (Bf ++ Bg), ∃ b, PT.get a S.B = some b := fun a ha => by
    obtain ⟨b, hb⟩ := mkB_some (t := .lf) ha
    exact ⟨b, hBf.get hb⟩
  have hBn : ∀ a ∈ KZ, ∃ b, PT.get a S.B = some b := fun a ha => hBn0 a (happ.2 (.inl ha))
  have hGf : ∀ a ∈ nmsL Bg, a ∉ KZ ∧ a ∉ S.K := fun a ha => by
    have := hg2 a ha
    rw [Bool.and_eq_true] at this
    exact ⟨nos_spec this.1, nos_spec this.2⟩
  have hRB : ∀ m, RB m → ¬F m ∧ ¬X.old m := fun m ⟨a, ha, hm⟩ => by
    obtain ⟨b, hb⟩ := hBn0 a (happ.2 (.inr ha))
    obtain ⟨o1, o2⟩ := t.own a b m hb hm
    exact ⟨o1, o2.elim id fun h => ((hGf a ha).2 h.2).elim⟩
  have hTk : ∀ m, Tk m → ¬F m ∧ m < h.next ∧ (X.old m → X.T m) ∧ ¬RB m := fun m ⟨a, ha, hm⟩ => by
    obtain ⟨b, hb⟩ := hBn a ha
    obtain ⟨o1, o2⟩ := t.own a b m hb hm
    refine ⟨o1, t.lt hb hm, fun hx => o2.elim (fun h => (h hx).elim) fun h => h.1, fun ⟨a', ha', hm'⟩ => ?_⟩
    obtain ⟨b', hb'⟩ := hBn0 a' (happ.2 (.inr ha'))
    have := t.inj a a' b b' m hb hb' hm hm'
    subst this; exact (hGf a ha').1 ha
  have hnm : ∀ a ∈ KZ, ∀ m, ids a = some m → Tk m → (X.old m → a ∈ S.K) := fun a ha m hm _ hx => by
    obtain ⟨b, hb⟩ := hBn a ha
    exact (t.own a b m hb hm).2.elim (fun h => (h hx).elim) fun h => h.2
  have zi0 : Inr X X L S.K s ids ids h F old2 RB Tk KZ X Xa :=
    ⟨t.weak (S' := ⟨L, .lf, S.K, S.H⟩) ⟨hL, trivial, rfl, rfl⟩, rfl, rfl, rfl, fun m hm => ⟨t.next m hm, fun h => (hRB m h).2 hm⟩, fun m hm => ⟨⟨(hTk m hm).2.1, (hTk m hm).2.2.2⟩, (hTk m hm).1, id, (hTk m hm).2.2.1⟩, fun m _ h1 _ _ => ⟨rfl, fun h => ⟨h, h1⟩⟩,
      fun m hm => ⟨hm, rfl⟩, fun _ h => h, rfl, Nat.le_refl _, fun m hm => ⟨t.flt m hm, fun h => (hRB m h).1 hm⟩, fun _ h => h, rfl, rfl, rfl⟩
  let Ea : Env C := ⟨fun Z => ∃ X', E.ok X' ∧ Inr X X L S.K s ids ids h F old2 RB Tk KZ X' Z, (fun ⟨_, hE, zi⟩ => by rw [zi.z1.base]; exact E.glob hE), by
    intro Z S3 s3 h3 ids3 F3 k rest st vals args Bf ⟨X', hE, zi⟩ t hH ra hB hn
    exact inr_law hK (fun _ _ => rfl) hnm (fun k h1 h2 => ⟨h1, h2⟩) hE zi t hH ra hB hn⟩
  have ta : StE Ea ⟨.lf, mkB (Bf ++ Bg) .lf, nmsL Bf, some ⟨k, H, true, st⟩⟩ .lf h ids F := by
    refine ⟨Xa, ⟨X, hE, zi0⟩, t.wf, rfl, fun m hm => hm.1, fun _ _ _ => rfl, fun _ _ => Iff.rfl, t.flt, fun a b hb => t.blk a b (hBf.get hb), fun a b m hb hm => ?_, fun a a' b b' m g1 g2 => t.inj a a' b b' m (hBf.get g1) (hBf.get g2), fun p x hx => by simp at hx, fun _ _ => rfl, ⟨hH, rfl⟩, Nat.le_refl _⟩
    refine ⟨(t.own a b m (hBf.get hb) hm).1, ?_⟩
    rcases happ.1 (mkB_nms hb).1 with ha | ha
    · exact .inr ⟨⟨a, ha, hm⟩, ha⟩
    · exact .inl fun ho => ho.2 ⟨a, ha, hm⟩
  refine WpO.callG (want_sound t hw) hvf (ho _ _) ?_
  simp only [List.toList_toArray]
  refine (hc Ea _ _ _ _ ta rall).mono fun v h' ⟨y, B', rest, live, ids', F', hR, hny, ⟨Z, ⟨X', hE', zi⟩, tz⟩, rv⟩ => ?_
  have tf := zi.frame tz
  have hids : ∀ a ∈ KZ, ids' a = ids a := fun a ha => (tz.stab a ha).trans (congrFun zi.zid a)
  have tt : St X' ⟨L, mkB B' .lf, S.K, some ⟨k, rest, live, st⟩⟩ s h' ids' F' := by
   refine ⟨tf.wf, tf.base, tf.next, tf.keep, tf.frz, tf.flt, tz.blk, fun a b m hb hm => ?_, tz.inj, fun p x hx => ?_, fun a ha => ?_, ⟨tf.hist.1.trans tz.hist.1, tf.hist.2⟩, tf.nx⟩
   · obtain ⟨o1, o2⟩ := tz.own a b m hb hm
     refine ⟨o1, ?_⟩
     rcases o2 with o2 | ⟨o2, o3⟩
     · exact .inl fun hx => o2 (zi.zo m hx)
     · have hT : Tk m := by rw [← zi.zT]; exact o2
       by_cases hx : X'.old m
       · obtain ⟨_, _, g3, g4⟩ := zi.zt m hT
         have ha : ids a = some m := by rw [← hids a o3]; exact hm
         exact .inr ⟨by rw [zi.zXT]; exact g4 (g3 hx), hnm a o3 m ha hT (g3 hx)⟩
       · exact .inl hx
   · exact (tf.slots p x hx).mono (fun _ _ r => r) fun a ha => hids a (hN.get hx a ha)
   · rw [hids a (hK a ha)]; exact tf.stab a ha
  exact hq y B' rest live hR E _ _ _ _ ⟨X', hE', tt.put rv d⟩
end
end Go.Ab.V
