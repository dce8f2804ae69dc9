import JvmDerived
import JvmDerived.Pilot.@@N@@Statement
import JvmDerived.Pilot.@@N@@Code
set_option linter.unusedVariables false
set_option linter.unusedSimpArgs false
namespace Jvm.Own
open Jvm Jvm.ClassFile Sem Op Lib Jvm.Free Jvm.Stand Jvm.LawKit Jvm.RoadKit Bundle
/-! ## values, cells, heaps of the small view -/
theorem leb {a b : Nat} (h : Nat.ble a b = true) : a ≤ b := Nat.le_of_ble_eq_true h
abbrev dc (b : ByteArray) (pc : Nat) (i : Instr) (n : Nat) : Prop := decode b pc = .ok (i, n)
abbrev OwnC : Type := Sum (List Value) (Sum (List Int32) (Sum (List Int64) (List Int32)))
abbrev cO (vs : List Value) : OwnC := .inl vs
abbrev cI (xs : List Int32) : OwnC := .inr (.inl xs)
abbrev cJ (xs : List Int64) : OwnC := .inr (.inr (.inl xs))
abbrev cZ (xs : List Int32) : OwnC := .inr (.inr (.inr xs))
def rf (ad : Nat → Addr) : Value → Value
  | .ref i => .ref (ad i)
  | .int x => .int x
  | .long x => .long x
  | .float x => .float x
  | .double x => .double x
  | .null => .null
  | .retAddr x => .retAddr x
theorem rf_cat (ad : Nat → Addr) (v : Value) : (rf ad v).category = v.category := by cases v <;> rfl
theorem rf_isRef (ad : Nat → Addr) (v : Value) : (rf ad v).isRef = v.isRef := by cases v <;> rfl
theorem rf_cats (ad : Nat → Addr) (S : List Value) : ((S.map (rf ad)).map fun v => v.category) = S.map fun v => v.category := by
  simp [List.map_map, Function.comp_def, rf_cat]
def CelOk (Z : State) (C : String) (lay : List (String × String)) (ad : Nat → Addr) (h : Heap) (a : Addr) : OwnC → Prop
  | .inl vs => Exa Z h a C ∧ ∀ (i : Nat) (f : String × String) (v : Value), lay[i]? = some f → vs[i]? = some v → Fld Z h a C f.1 f.2 (rf ad v)
  | .inr (.inl xs) => ∃ cl : Cell, Arr Z h a cl .int ∧ cl.slots.toList = xs.map Value.int
  | .inr (.inr (.inl xs)) => ∃ cl : Cell, Arr Z h a cl .long ∧ cl.slots.toList = xs.map Value.long
  | .inr (.inr (.inr xs)) => ∃ cl : Cell, Arr Z h a cl .boolean ∧ cl.slots.toList = xs.map Value.int
def HR (Z : State) (C : String) (lay : List (String × String)) (n0 ro : Nat) (ad : Nat → Addr) (H : List OwnC) (h : Heap) : Prop :=
  (∀ i c, H[i]? = some c → CelOk Z C lay ad h (ad i) c) ∧ (∀ i j, i < H.length → j < H.length → ad i = ad j → i = j) ∧ (∀ t, ad (H.length + t) = h.size + t) ∧ (∀ i, i < H.length → ro ≤ i → n0 ≤ ad i) ∧ n0 ≤ h.size
def Kp (ad : Nat → Addr) (N : Nat) (h h' : Heap) : Prop := h.size ≤ h'.size ∧ ∀ (a : Addr) (c : Cell), h[a]? = some c → (∀ i, i < N → ad i ≠ a) → h'[a]? = some c
theorem CelOk.keep {Z : State} {C : String} {lay : List (String × String)} {ad : Nat → Addr} {h h' : Heap} {a : Addr} {c : OwnC} (q : ∀ cz : Cell, h[a]? = some cz → h'[a]? = some cz) (F : CelOk Z C lay ad h a c) : CelOk Z C lay ad h' a c := by
  rcases c with vs | xs | xs | xs
  · obtain ⟨⟨cell, k, h1, r⟩, F2⟩ := F
    refine ⟨⟨cell, k, q _ h1, r⟩, fun i f v hf hv => ?_⟩
    obtain ⟨cell, cf, k, i, f, h1, r⟩ := F2 i f v hf hv
    exact ⟨cell, cf, k, i, f, q _ h1, r⟩
  all_goals
    obtain ⟨cl, ⟨h1, r⟩, h2⟩ := F
    exact ⟨cl, ⟨q _ h1, r⟩, h2⟩
theorem CelOk.lt {Z : State} {C : String} {lay : List (String × String)} {ad : Nat → Addr} {h : Heap} {a : Addr} {c : OwnC} (F : CelOk Z C lay ad h a c) : a < h.size := by
  rcases c with vs | xs | xs | xs
  · exact F.1.lt
  all_goals
    obtain ⟨cl, A, h2⟩ := F
    exact A.lt
theorem Kp.refl (ad : Nat → Addr) (N : Nat) (h : Heap) : Kp ad N h h := ⟨Nat.le_refl _, fun _ _ q _ => q⟩
theorem get_lt {α : Type} {L : List α} {i : Nat} {c : α} (h : L[i]? = some c) : i < L.length := (List.getElem?_eq_some_iff.mp h).1
section HRs
variable {Z : State} {C : String} {lay : List (String × String)} {n0 ro : Nat} {ad : Nat → Addr} {H H' : List OwnC} {h h' h'' : Heap}
/-- the addresses at or above H.length lie at or above the heap's size -/
theorem HR.new (R : HR Z C lay n0 ro ad H h) {i : Nat} (hi : H.length ≤ i) : h.size ≤ ad i := by
  obtain ⟨t, rfl⟩ := Nat.exists_eq_add_of_le hi
  rw [R.2.2.1 t]; exact Nat.le_add_right _ _
theorem Kp.trans (R : HR Z C lay n0 ro ad H h) (K : Kp ad H.length h h') {N : Nat} (K' : Kp ad N h' h'') : Kp ad H.length h h'' := by
  refine ⟨Nat.le_trans K.1 K'.1, fun a c hc hn => K'.2 a c (K.2 a c hc hn) fun i hi q => ?_⟩
  by_cases hl : i < H.length
  · exact hn i hl q
  · have h1 := R.new (Nat.le_of_not_lt hl)
    rw [q] at h1
    exact absurd (Array.getElem?_eq_some_iff.mp hc).1 (Nat.not_lt.mpr h1)
/-- one cell of the small heap is written anew, at its own address -/
theorem HR.put (R : HR Z C lay n0 ro ad H h) {i : Nat} {c : OwnC} (hi : i < H.length) (hs : h'.size = h.size) (ho : ∀ a cz, a ≠ ad i → h[a]? = some cz → h'[a]? = some cz) (hc : CelOk Z C lay ad h' (ad i) c) :
    HR Z C lay n0 ro ad (H.set i c) h' ∧ Kp ad H.length h h' := by
  refine ⟨⟨fun j c' hj => ?_, fun i' j' hi' hj' => ?_, fun t => ?_, fun i' hi' => ?_, by rw [hs]; exact R.2.2.2.2⟩, by rw [hs]; exact Nat.le_refl _, fun a cz hz hn => ho a cz (fun q => hn i hi q.symm) hz⟩
  · rw [List.getElem?_set] at hj
    by_cases e : i = j
    · subst e
      simp [hi] at hj
      subst hj; exact hc
    · rw [if_neg e] at hj
      exact (R.1 j c' hj).keep fun cz q => ho _ cz (fun q' => e (R.2.1 _ _ hi (get_lt hj) q'.symm)) q
  · simp only [List.length_set] at hi' hj'; exact R.2.1 _ _ hi' hj'
  · rw [List.length_set, hs]; exact R.2.2.1 t
  · simp only [List.length_set] at hi'; exact R.2.2.2.1 _ hi'
/-- a new cell behind all others -/
theorem HR.push (R : HR Z C lay n0 ro ad H h) {c : OwnC} (hs : h'.size = h.size + 1) (hE : Ext h h') (hc : CelOk Z C lay ad h' h.size c) :
    HR Z C lay n0 ro ad (H ++ [c]) h' ∧ Kp ad H.length h h' ∧ ad H.length = h.size := by
  have e0 : ad H.length = h.size := R.2.2.1 0
  refine ⟨⟨fun j c' hj => ?_, fun i j hi hj q => ?_, fun t => ?_, fun i hi hr => ?_, by rw [hs]; exact Nat.le_succ_of_le R.2.2.2.2⟩, ⟨hE.1, fun a cz hz _ => hE.2 _ _ hz⟩, e0⟩
  · by_cases hl : j < H.length
    · rw [List.getElem?_append_left hl] at hj
      exact (R.1 j c' hj).keep fun cz q => hE.2 _ _ q
    · have hl' := get_lt hj
      simp only [List.length_append, List.length_singleton] at hl'
      obtain rfl : j = H.length := by omega
      simp at hj
      subst hj; rw [e0]; exact hc
  · simp only [List.length_append, List.length_singleton] at hi hj
    by_cases h1 : i < H.length
    · by_cases h2 : j < H.length
      · exact R.2.1 _ _ h1 h2 q
      · have a1 := (R.1 i _ (List.getElem?_eq_getElem h1)).lt
        have a2 := R.new (Nat.le_of_not_lt h2)
        rw [q] at a1
        exact absurd a1 (Nat.not_lt.mpr a2)
    · by_cases h2 : j < H.length
      · have a1 := (R.1 j _ (List.getElem?_eq_getElem h2)).lt
        have a2 := R.new (Nat.le_of_not_lt h1)
        rw [q] at a2
        exact absurd a1 (Nat.not_lt.mpr a2)
      · omega
  · rw [hs]
    have := R.2.2.1 (1 + t)
    simp only [List.length_append, List.length_singleton]
    rw [Nat.add_assoc, this]; exact (Nat.add_assoc _ _ _).symm
  · simp only [List.length_append, List.length_singleton] at hi
    by_cases h1 : i < H.length
    · exact R.2.2.2.1 _ h1 hr
    · exact Nat.le_trans R.2.2.2.2 (R.new (Nat.le_of_not_lt h1))
end HRs
/-! ## local variables: 'unset' in the small view says nothing -/
def WFs (f : Nat → Option Slot) : Prop := (∀ i, f i = some .second → ∃ j v, i = j + 1 ∧ f j = some (.val v) ∧ v.category = 2) ∧ ∀ i v, f i = some (.val v) → v.category = 2 → f (i + 1) = some .second
def LR (ad : Nat → Addr) (L : List Slot) (Ls : Array Slot) : Prop :=
  L.length = Ls.size ∧ (∀ (i : Nat) (v : Value), L[i]? = some (.val v) → Ls[i]? = some (.val (rf ad v))) ∧ (∀ i : Nat, L[i]? = some .second → Ls[i]? = some .second) ∧ WFs fun i => Ls[i]?
def kill2 : Slot → Slot
  | .val (.long _) => .unset
  | .val (.double _) => .unset
  | s => s
def killS : Slot → Slot
  | .second => .unset
  | s => s
def hd1 (f : Slot → Slot) : List Slot → List Slot
  | [] => []
  | y :: t => f y :: t
def st1 : List Slot → Nat → Value → List Slot
  | [], _, _ => []
  | _ :: t, 0, v => .val v :: hd1 killS t
  | y :: t, n + 1, v => match n with
    | 0 => kill2 y :: st1 t 0 v
    | k + 1 => y :: st1 t (k + 1) v
def st2 : List Slot → Nat → Value → List Slot
  | [], _, _ => []
  | _ :: t, 0, v => .val v :: (match t with | [] => [] | _ :: t' => .second :: hd1 killS t')
  | y :: t, n + 1, v => match n with
    | 0 => kill2 y :: st2 t 0 v
    | k + 1 => y :: st2 t (k + 1) v
theorem st1_len (v : Value) : ∀ (L : List Slot) (i : Nat), (st1 L i v).length = L.length
  | [], _ => rfl
  | y :: [], 0 => rfl
  | y :: z :: t, 0 => rfl
  | y :: t, 1 => congrArg Nat.succ (st1_len v t 0)
  | y :: t, k + 2 => congrArg Nat.succ (st1_len v t (k + 1))
theorem st2_len (v : Value) : ∀ (L : List Slot) (i : Nat), (st2 L i v).length = L.length
  | [], _ => rfl
  | y :: [], 0 => rfl
  | y :: z :: [], 0 => rfl
  | y :: z :: w :: t, 0 => rfl
  | y :: t, 1 => congrArg Nat.succ (st2_len v t 0)
  | y :: t, k + 2 => congrArg Nat.succ (st2_len v t (k + 1))
theorem kill2_e {y s : Slot} (h : kill2 y = s) (hs : s ≠ .unset) : y = s ∧ ∀ w, s = .val w → w.category = 1 := by
  subst h
  rcases y with _ | _ | w
  · exact absurd rfl hs
  · exact ⟨rfl, fun w h => by cases h⟩
  · cases w <;> first | exact absurd rfl hs | exact ⟨rfl, fun w h => by cases h; rfl⟩
theorem killS_e {y s : Slot} (h : killS y = s) (hs : s ≠ .unset) : y = s ∧ s ≠ .second := by
  subst h
  rcases y with _ | _ | w
  · exact absurd rfl hs
  · exact absurd rfl hs
  · exact ⟨rfl, fun h => by cases h⟩
theorem hd1_e {t : List Slot} {j : Nat} {s : Slot} (h : (hd1 killS t)[j]? = some s) (hs : s ≠ .unset) : t[j]? = some s ∧ (j = 0 → s ≠ .second) := by
  cases t with
  | nil => simp [hd1] at h
  | cons y t =>
    cases j with
    | zero =>
      have h' : killS y = s := by simpa [hd1] using h
      obtain ⟨e1, e2⟩ := killS_e h' hs
      exact ⟨by simp [e1], fun _ => e2⟩
    | succ j => exact ⟨by simpa [hd1] using h, fun q => by cases q⟩
theorem st1_at (v : Value) : ∀ (L : List Slot) (i : Nat), i < L.length → (st1 L i v)[i]? = some (.val v)
  | [], _, h => absurd h (by simp)
  | y :: t, 0, _ => rfl
  | y :: t, 1, h => by simpa [st1] using st1_at v t 0 (by simp at h; omega)
  | y :: t, k + 2, h => by simpa [st1] using st1_at v t (k + 1) (by simp at h; omega)
theorem st1_else (v : Value) : ∀ (L : List Slot) (i j : Nat) (s : Slot), j ≠ i → (st1 L i v)[j]? = some s → s ≠ .unset → L[j]? = some s ∧ (j + 1 = i → ∀ w, s = .val w → w.category = 1) ∧ (j = i + 1 → s ≠ .second)
  | [], _, j, s, _, h, _ => by simp [st1] at h
  | y :: t, 0, 0, s, hj, _, _ => absurd rfl hj
  | y :: t, 0, j + 1, s, hj, h, hs => by
    obtain ⟨e1, e2⟩ := hd1_e (t := t) (j := j) (by simpa [st1] using h) hs
    exact ⟨by simpa using e1, fun q => by omega, fun q => e2 (by omega)⟩
  | y :: t, 1, 0, s, hj, h, hs => by
    obtain ⟨e1, e2⟩ := kill2_e (y := y) (by simpa [st1] using h) hs
    exact ⟨by simp [e1], fun _ => e2, fun q => by omega⟩
  | y :: t, 1, j + 1, s, hj, h, hs => by
    obtain ⟨e1, e2, e3⟩ := st1_else v t 0 j s (by omega) (by simpa [st1] using h) hs
    exact ⟨by simpa using e1, fun q => by omega, fun q => e3 (by omega)⟩
  | y :: t, k + 2, 0, s, hj, h, hs => ⟨by simpa [st1] using h, fun q => by omega, fun q => by omega⟩
  | y :: t, k + 2, j + 1, s, hj, h, hs => by
    obtain ⟨e1, e2, e3⟩ := st1_else v t (k + 1) j s (by omega) (by simpa [st1] using h) hs
    exact ⟨by simpa using e1, fun q => e2 (by omega), fun q => e3 (by omega)⟩
theorem st2_at (v : Value) : ∀ (L : List Slot) (i : Nat), i + 1 < L.length → (st2 L i v)[i]? = some (.val v) ∧ (st2 L i v)[i + 1]? = some .second
  | [], _, h => absurd h (by simp)
  | y :: [], 0, h => absurd h (by simp)
  | y :: z :: t, 0, _ => ⟨rfl, rfl⟩
  | y :: t, 1, h => by simpa [st2] using st2_at v t 0 (by simp at h; omega)
  | y :: t, k + 2, h => by simpa [st2] using st2_at v t (k + 1) (by simp at h; omega)
theorem st2_else (v : Value) : ∀ (L : List Slot) (i j : Nat) (s : Slot), j ≠ i → j ≠ i + 1 → (st2 L i v)[j]? = some s → s ≠ .unset → L[j]? = some s ∧ (j + 1 = i → ∀ w, s = .val w → w.category = 1) ∧ (j = i + 2 → s ≠ .second)
  | [], _, j, s, _, _, h, _ => by simp [st2] at h
  | y :: t, 0, 0, s, hj, _, _, _ => absurd rfl hj
  | y :: t, 0, 1, s, _, hj, _, _ => absurd rfl hj
  | y :: [], 0, j + 2, s, _, _, h, _ => by simp [st2] at h
  | y :: z :: t, 0, j + 2, s, hj, _, h, hs => by
    obtain ⟨e1, e2⟩ := hd1_e (t := t) (j := j) (by simpa [st2] using h) hs
    exact ⟨by simpa using e1, fun q => by omega, fun q => e2 (by omega)⟩
  | y :: t, 1, 0, s, hj, _, h, hs => by
    obtain ⟨e1, e2⟩ := kill2_e (y := y) (by simpa [st2] using h) hs
    exact ⟨by simp [e1], fun _ => e2, fun q => by omega⟩
  | y :: t, 1, j + 1, s, hj, hj', h, hs => by
    obtain ⟨e1, e2, e3⟩ := st2_else v t 0 j s (by omega) (by omega) (by simpa [st2] using h) hs
    exact ⟨by simpa using e1, fun q => by omega, fun q => e3 (by omega)⟩
  | y :: t, k + 2, 0, s, hj, _, h, hs => ⟨by simpa [st2] using h, fun q => by omega, fun q => by omega⟩
  | y :: t, k + 2, j + 1, s, hj, hj', h, hs => by
    obtain ⟨e1, e2, e3⟩ := st2_else v t (k + 1) j s (by omega) (by omega) (by simpa [st2] using h) hs
    exact ⟨by simpa using e1, fun q => e2 (by omega), fun q => e3 (by omega)⟩
theorem setAt_ok {l : Array Slot} {i : Nat} (h : i < l.size) (x : Slot) : setAt l i x = some (l.setIfInBounds i x) := if_pos h
/-- which neighbours a store at i wipes -/
def Bad (Ls : Array Slot) (i j : Nat) : Prop := (j + 1 = i ∧ Ls[i]? = some .second) ∨ (j = i + 1 ∧ ∃ o, Ls[i]? = some (.val o) ∧ o.category = 2)
def Pre1 (Ls Ls1 : Array Slot) (i : Nat) : Prop := Ls1.size = Ls.size ∧ ∀ j, j ≠ i → (¬ Bad Ls i j ∧ Ls1[j]? = Ls[j]?) ∨ (Bad Ls i j ∧ Ls1[j]? = some .unset)
theorem storeLocals_pre {Ls : Array Slot} (wf : WFs fun i => Ls[i]?) {i : Nat} (hi : i < Ls.size) (w : Value) : ∃ Ls1, Pre1 Ls Ls1 i ∧ storeLocals Ls i w = storeSelf Ls1 i w := by
  have hg : Ls[i]? = some Ls[i] := Array.getElem?_eq_getElem hi
  rcases hs : Ls[i] with _ | _ | old
  · rw [hs] at hg
    refine ⟨Ls, ⟨rfl, fun j hj => Or.inl ⟨?_, rfl⟩⟩, ?_⟩
    · rintro (⟨-, q⟩ | ⟨-, o, q, -⟩) <;> (rw [hg] at q; cases q)
    · show (Ls[i]?).bind _ = _; rw [hg]; rfl
  · rw [hs] at hg
    obtain ⟨j0, v, rfl, hv, hc⟩ := wf.1 i hg
    have h0 : j0 < Ls.size := by omega
    refine ⟨Ls.setIfInBounds j0 .unset, ⟨by simp, fun j hj => ?_⟩, ?_⟩
    · by_cases e : j = j0
      · subst e; right; exact ⟨Or.inl ⟨rfl, hg⟩, by simp [h0]⟩
      · left
        refine ⟨?_, by rw [Array.getElem?_setIfInBounds_ne (Ne.symm e)]⟩
        rintro (⟨q', q⟩ | ⟨-, o, q, -⟩)
        · exact e (by omega)
        · rw [hg] at q; cases q
    · show (Ls[j0 + 1]?).bind _ = _; rw [hg]
      show (setAt Ls (j0 + 1 - 1) .unset).bind _ = _
      rw [Nat.add_sub_cancel, setAt_ok h0]; rfl
  · rw [hs] at hg
    by_cases hc : old.category = 2
    · have h1 := wf.2 i old hg hc
      have h1' : i + 1 < Ls.size := (Array.getElem?_eq_some_iff.mp h1).1
      refine ⟨Ls.setIfInBounds (i + 1) .unset, ⟨by simp, fun j hj => ?_⟩, ?_⟩
      · by_cases e : j = i + 1
        · subst e; right; exact ⟨Or.inr ⟨rfl, old, hg, hc⟩, by simp [h1']⟩
        · left
          refine ⟨?_, by rw [Array.getElem?_setIfInBounds_ne (Ne.symm e)]⟩
          rintro (⟨-, q⟩ | ⟨q, -⟩)
          · rw [hg] at q; cases q
          · exact e q
      · show (Ls[i]?).bind _ = _; rw [hg]
        show (if old.category = 2 then _ else _) = _
        rw [if_pos hc]
        show (setAt Ls (i + 1) .unset).bind _ = _
        rw [setAt_ok h1']; rfl
    · refine ⟨Ls, ⟨rfl, fun j hj => Or.inl ⟨?_, rfl⟩⟩, ?_⟩
      · rintro (⟨-, q⟩ | ⟨-, o, q, q'⟩) <;> (rw [hg] at q; cases q)
        exact hc q'
      · show (Ls[i]?).bind _ = _; rw [hg]
        show (if old.category = 2 then _ else _) = _
        rw [if_neg hc]
section St
variable {Ls : Array Slot} {i j : Nat}
/-- a value of one word is not wiped -/
theorem not_bad_val (wf : WFs fun i => Ls[i]?) {w : Value} (hj : Ls[j]? = some (.val w)) (hw : j + 1 = i → w.category = 1) : ¬ Bad Ls i j := by
  rintro (⟨rfl, q⟩ | ⟨rfl, o, q, q'⟩)
  · obtain ⟨j0, v, e, h1, h2⟩ := wf.1 _ q
    obtain rfl : j0 = j := by omega
    cases h1.symm.trans hj
    rw [hw rfl] at h2; cases h2
  · have := wf.2 _ _ q q'
    cases this.symm.trans hj
theorem not_bad_second (wf : WFs fun i => Ls[i]?) (hj : Ls[j]? = some .second) (hne : j ≠ i + 1) : ¬ Bad Ls i j := by
  rintro (⟨rfl, q⟩ | ⟨q, -⟩)
  · obtain ⟨j0, v, e, h1, h2⟩ := wf.1 _ q
    obtain rfl : j0 = j := by omega
    cases h1.symm.trans hj
  · exact hne q
end St
theorem LR.store1 {ad : Nat → Addr} {L : List Slot} {Ls : Array Slot} (hL : LR ad L Ls) {i : Nat} (hi : i < L.length) {v : Value} (hv : v.category = 1) : ∃ Ls', storeLocals Ls i (rf ad v) = some Ls' ∧ LR ad (st1 L i v) Ls' ∧ Ls'.size = Ls.size := by
  obtain ⟨l1, l2, l3, wf⟩ := hL
  have hi' : i < Ls.size := l1 ▸ hi
  have hv' : (rf ad v).category = 1 := by rw [rf_cat]; exact hv
  obtain ⟨Ls1, ⟨p1, p2⟩, e⟩ := storeLocals_pre wf hi' (rf ad v)
  have hi1 : i < Ls1.size := by rw [p1]; exact hi'
  have e2 : storeSelf Ls1 i (rf ad v) = some (Ls1.setIfInBounds i (.val (rf ad v))) := by
    show (setAt Ls1 i _).bind _ = _
    rw [setAt_ok hi1]
    show (if (rf ad v).category = 2 then _ else _) = _
    rw [if_neg (by rw [hv']; decide)]
  have at_i : (Ls1.setIfInBounds i (.val (rf ad v)))[i]? = some (.val (rf ad v)) := by simp [hi1]
  have at_j : ∀ j, j ≠ i → (Ls1.setIfInBounds i (.val (rf ad v)))[j]? = Ls1[j]? := fun j hj => Array.getElem?_setIfInBounds_ne (Ne.symm hj)
  have good : ∀ j, j ≠ i → ¬ Bad Ls i j → (Ls1.setIfInBounds i (.val (rf ad v)))[j]? = Ls[j]? := fun j hj hb => by
    rw [at_j j hj]
    rcases p2 j hj with ⟨-, q⟩ | ⟨q, -⟩
    · exact q
    · exact absurd q hb
  have back : ∀ j s, j ≠ i → s ≠ .unset → (Ls1.setIfInBounds i (.val (rf ad v)))[j]? = some s → ¬ Bad Ls i j ∧ Ls[j]? = some s := fun j s hj hs h => by
    rw [at_j j hj] at h
    rcases p2 j hj with ⟨q, q'⟩ | ⟨-, q⟩
    · exact ⟨q, by rw [← q']; exact h⟩
    · rw [q] at h; cases h; exact absurd rfl hs
  refine ⟨_, e.trans e2, ⟨by rw [st1_len, l1]; simp [p1], fun j w hj => ?_, fun j hj => ?_, fun j hj => ?_, fun j w hj hc => ?_⟩, by simp [p1]⟩
  · by_cases q : j = i
    · subst q
      rw [st1_at v L j hi] at hj
      cases hj; exact at_i
    · obtain ⟨a1, a2, -⟩ := st1_else v L i j _ q hj (by simp)
      have b1 := l2 j w a1
      rw [good j q (not_bad_val wf b1 fun z => by rw [rf_cat]; exact a2 z w rfl)]; exact b1
  · by_cases q : j = i
    · subst q
      rw [st1_at v L j hi] at hj
      cases hj
    · obtain ⟨a1, -, a3⟩ := st1_else v L i j _ q hj (by simp)
      have b1 := l3 j a1
      rw [good j q (not_bad_second wf b1 fun z => a3 z rfl)]; exact b1
  · dsimp only at hj ⊢
    have q : j ≠ i := fun q => by subst q; rw [at_i] at hj; cases hj
    obtain ⟨b1, b2⟩ := back j _ q (by simp) hj
    obtain ⟨j0, v', rfl, h1, h2⟩ := wf.1 j b2
    refine ⟨j0, v', rfl, ?_, h2⟩
    have q0 : j0 ≠ i := fun z => b1 (Or.inr ⟨by omega, v', z ▸ h1, h2⟩)
    rw [good j0 q0 ?_]; exact h1
    rintro (⟨z, -⟩ | ⟨z, o, z1, z2⟩)
    · exact q z
    · have := wf.2 _ _ z1 z2
      rw [← z] at this
      cases this.symm.trans h1
  · dsimp only at hj ⊢
    have q : j ≠ i := fun q => by subst q; rw [at_i] at hj; cases hj; rw [hv'] at hc; cases hc
    obtain ⟨b1, b2⟩ := back j _ q (by simp) hj
    have h1 := wf.2 j w b2 hc
    dsimp only at h1
    have q0 : j + 1 ≠ i := fun z => b1 (Or.inl ⟨z, z ▸ h1⟩)
    rw [good (j + 1) q0 ?_]; exact h1
    rintro (⟨z, z1⟩ | ⟨z, -⟩)
    · obtain ⟨j1, v1, e1, e2, -⟩ := wf.1 _ z1
      obtain rfl : j1 = j + 1 := by omega
      cases h1.symm.trans e2
    · omega
theorem LR.store2 {ad : Nat → Addr} {L : List Slot} {Ls : Array Slot} (hL : LR ad L Ls) {i : Nat} (hi : i + 1 < L.length) {v : Value} (hv : v.category = 2) : ∃ Ls', storeLocals Ls i (rf ad v) = some Ls' ∧ LR ad (st2 L i v) Ls' ∧ Ls'.size = Ls.size := by
  obtain ⟨l1, l2, l3, wf⟩ := hL
  have hi' : i + 1 < Ls.size := l1 ▸ hi
  have hv' : (rf ad v).category = 2 := by rw [rf_cat]; exact hv
  obtain ⟨Ls1, ⟨p1, p2⟩, e⟩ := storeLocals_pre wf (by omega : i < Ls.size) (rf ad v)
  have hi1 : i < Ls1.size := by rw [p1]; omega
  have hi2 : i + 1 < Ls1.size := by rw [p1]; omega
  -- what the second half leaves: two slots, and the one behind wiped where a long began at i + 1
  have key : ∃ Ls', storeSelf Ls1 i (rf ad v) = some Ls' ∧ Ls'.size = Ls1.size ∧ Ls'[i]? = some (.val (rf ad v)) ∧ Ls'[i + 1]? = some .second ∧ ∀ j, j ≠ i → j ≠ i + 1 → (Ls'[j]? = Ls1[j]? ∧ ¬ (j = i + 2 ∧ ∃ o, Ls1[i + 1]? = some (.val o) ∧ o.category = 2)) ∨ (Ls'[j]? = some .unset ∧ j = i + 2 ∧ ∃ o, Ls1[i + 1]? = some (.val o) ∧ o.category = 2) := by
    have n1 : (Ls1.setIfInBounds i (.val (rf ad v)))[i + 1]? = Ls1[i + 1]? := Array.getElem?_setIfInBounds_ne (by omega)
    have g1 : Ls1[i + 1]? = some Ls1[i + 1] := Array.getElem?_eq_getElem hi2
    have open1 : storeSelf Ls1 i (rf ad v) = ((Ls1.setIfInBounds i (.val (rf ad v)))[i + 1]?).bind fun x => match x with
      | .val old => if old.category = 2 then (setAt (Ls1.setIfInBounds i (.val (rf ad v))) (i + 2) .unset).bind fun z => setAt z (i + 1) .second else setAt (Ls1.setIfInBounds i (.val (rf ad v))) (i + 1) .second
      | _ => setAt (Ls1.setIfInBounds i (.val (rf ad v))) (i + 1) .second := by
      show (setAt Ls1 i _).bind _ = _
      rw [setAt_ok hi1]
      show (if (rf ad v).category = 2 then _ else _) = _
      rw [if_pos hv']; rfl
    have plain : (∀ o, Ls1[i + 1]? = some (.val o) → o.category ≠ 2) → storeSelf Ls1 i (rf ad v) = setAt (Ls1.setIfInBounds i (.val (rf ad v))) (i + 1) .second := fun hno => by
      rw [open1, n1, g1]
      rcases hs : Ls1[i + 1] with _ | _ | old
      · rfl
      · rfl
      · show (if old.category = 2 then _ else _) = _
        rw [if_neg (hno old (by rw [g1, hs]))]
    have szz : i + 1 < (Ls1.setIfInBounds i (.val (rf ad v))).size := by simpa using hi2
    by_cases hb : ∃ o, Ls1[i + 1]? = some (.val o) ∧ o.category = 2
    · obtain ⟨o, ho, ho2⟩ := hb
      have b1 : Ls[i + 1]? = some (.val o) := by
        rcases p2 (i + 1) (by omega) with ⟨-, q⟩ | ⟨-, q⟩
        · rw [← q]; exact ho
        · rw [q] at ho; cases ho
      have h3 : i + 2 < Ls1.size := by rw [p1]; exact (Array.getElem?_eq_some_iff.mp (wf.2 _ _ b1 ho2)).1
      refine ⟨((Ls1.setIfInBounds i (.val (rf ad v))).setIfInBounds (i + 2) .unset).setIfInBounds (i + 1) .second, ?_, by simp, ?_, ?_, fun j hj hj' => ?_⟩
      · rw [open1, n1, ho]
        show (if o.category = 2 then _ else _) = _
        rw [if_pos ho2, setAt_ok (by simpa using h3)]
        show setAt _ (i + 1) .second = _
        rw [setAt_ok (by simpa using hi2)]
      · rw [Array.getElem?_setIfInBounds_ne (by omega), Array.getElem?_setIfInBounds_ne (by omega)]; simp [hi1]
      · simp [hi2]
      · rw [Array.getElem?_setIfInBounds_ne (by omega)]
        by_cases z : j = i + 2
        · subst z; right; exact ⟨by simp [h3], rfl, o, ho, ho2⟩
        · left; exact ⟨by rw [Array.getElem?_setIfInBounds_ne (by omega), Array.getElem?_setIfInBounds_ne (by omega)], fun q => z q.1⟩
    · refine ⟨(Ls1.setIfInBounds i (.val (rf ad v))).setIfInBounds (i + 1) .second, ?_, by simp, ?_, ?_, fun j hj hj' => Or.inl ⟨?_, fun q => hb q.2⟩⟩
      · rw [plain fun o ho q => hb ⟨o, ho, q⟩, setAt_ok szz]
      · rw [Array.getElem?_setIfInBounds_ne (by omega)]; simp [hi1]
      · simp [hi2]
      · rw [Array.getElem?_setIfInBounds_ne (by omega), Array.getElem?_setIfInBounds_ne (by omega)]
  obtain ⟨Ls', e2, sz, at_i, at_i1, at_j⟩ := key
  -- i + 1 seen from Ls
  have up : ∀ o, Ls1[i + 1]? = some (.val o) → Ls[i + 1]? = some (.val o) := fun o ho => by
    rcases p2 (i + 1) (by omega) with ⟨-, q⟩ | ⟨-, q⟩
    · rw [← q]; exact ho
    · rw [q] at ho; cases ho
  have good : ∀ j, j ≠ i → j ≠ i + 1 → ¬ Bad Ls i j → ¬ (j = i + 2 ∧ ∃ o, Ls[i + 1]? = some (.val o) ∧ o.category = 2) → Ls'[j]? = Ls[j]? := fun j hj hj' hb hb' => by
    rcases at_j j hj hj' with ⟨q, -⟩ | ⟨-, q1, o, q2, q3⟩
    · rw [q]
      rcases p2 j hj with ⟨-, q⟩ | ⟨q, -⟩
      · exact q
      · exact absurd q hb
    · exact absurd ⟨q1, o, up o q2, q3⟩ hb'
  have back : ∀ j s, j ≠ i → j ≠ i + 1 → s ≠ .unset → Ls'[j]? = some s → ¬ Bad Ls i j ∧ Ls[j]? = some s ∧ ¬ (j = i + 2 ∧ ∃ o, Ls1[i + 1]? = some (.val o) ∧ o.category = 2) := fun j s hj hj' hs h => by
    rcases at_j j hj hj' with ⟨q, q0⟩ | ⟨q, -⟩
    · rw [q] at h
      rcases p2 j hj with ⟨q1, q'⟩ | ⟨-, q'⟩
      · exact ⟨q1, by rw [← q']; exact h, q0⟩
      · rw [q'] at h; cases h; exact absurd rfl hs
    · rw [q] at h; cases h; exact absurd rfl hs
  have s2 := st2_at v L i hi
  refine ⟨_, e.trans e2, ⟨by rw [st2_len, l1, sz, p1], fun j w hj => ?_, fun j hj => ?_, fun j hj => ?_, fun j w hj hc => ?_⟩, by rw [sz, p1]⟩
  · by_cases q : j = i
    · subst q
      rw [s2.1] at hj
      cases hj; exact at_i
    · by_cases q1 : j = i + 1
      · subst q1; rw [s2.2] at hj; cases hj
      · obtain ⟨a1, a2, -⟩ := st2_else v L i j _ q q1 hj (by simp)
        have b1 := l2 j w a1
        rw [good j q q1 (not_bad_val wf b1 fun z => by rw [rf_cat]; exact a2 z w rfl) ?_]; exact b1
        rintro ⟨rfl, o, z1, z2⟩
        have := wf.2 _ _ z1 z2
        cases this.symm.trans b1
  · by_cases q : j = i
    · subst q
      rw [s2.1] at hj
      cases hj
    · by_cases q1 : j = i + 1
      · subst q1; exact at_i1
      · obtain ⟨a1, -, a3⟩ := st2_else v L i j _ q q1 hj (by simp)
        have b1 := l3 j a1
        rw [good j q q1 (not_bad_second wf b1 q1) fun z => a3 z.1 rfl]; exact b1
  · dsimp only at hj ⊢
    by_cases q1 : j = i + 1
    · subst q1; exact ⟨i, _, rfl, at_i, hv'⟩
    have q : j ≠ i := fun q => by subst q; rw [at_i] at hj; cases hj
    obtain ⟨b1, b2, b3⟩ := back j _ q q1 (by simp) hj
    obtain ⟨j0, v', rfl, h1, h2⟩ := wf.1 j b2
    dsimp only at h1
    have q0 : j0 ≠ i := fun z => b1 (Or.inr ⟨by omega, v', z ▸ h1, h2⟩)
    -- j0 = i + 1: then j = i + 2 was wiped
    have q0' : j0 ≠ i + 1 := fun z => by
      subst z
      rcases p2 (i + 1) (by omega) with ⟨-, w1⟩ | ⟨w1, -⟩
      · exact b3 ⟨rfl, v', by rw [w1]; exact h1, h2⟩
      · rcases w1 with ⟨w1, -⟩ | ⟨-, o, w1, w2⟩
        · omega
        · have := wf.2 _ _ w1 w2
          cases this.symm.trans h1
    refine ⟨j0, v', rfl, ?_, h2⟩
    rw [good j0 q0 q0' ?_ ?_]; exact h1
    · rintro (⟨z, -⟩ | ⟨z, -⟩)
      · exact q z
      · exact q0' z
    · rintro ⟨rfl, o, z1, z2⟩
      have := wf.2 _ _ z1 z2
      cases this.symm.trans h1
  · dsimp only at hj ⊢
    by_cases q1 : j = i
    · subst q1; exact at_i1
    have q : j ≠ i + 1 := fun q => by subst q; rw [at_i1] at hj; cases hj
    obtain ⟨b1, b2, -⟩ := back j _ q1 q (by simp) hj
    have h1 := wf.2 j w b2 hc
    dsimp only at h1
    have q0 : j + 1 ≠ i := fun z => b1 (Or.inl ⟨z, z ▸ h1⟩)
    rw [good (j + 1) q0 (by omega) ?_ ?_]; exact h1
    · rintro (⟨z, z1⟩ | ⟨z, -⟩)
      · obtain ⟨j1, v1, e1, e2, -⟩ := wf.1 _ z1
        obtain rfl : j1 = j + 1 := by omega
        cases h1.symm.trans e2
      · omega
    · rintro ⟨z, -⟩; omega
/-! what is known less of -/
def leL : List Slot → List Slot → Prop
  | [], [] => True
  | .unset :: a, _ :: b => leL a b
  | x :: a, y :: b => x = y ∧ leL a b
  | _, _ => False
theorem leL_len : ∀ {A B : List Slot}, leL A B → A.length = B.length
  | [], [], _ => rfl
  | .unset :: a, _ :: b, h => congrArg Nat.succ (leL_len (A := a) (B := b) h)
  | .second :: a, _ :: b, h => congrArg Nat.succ (leL_len (A := a) (B := b) h.2)
  | .val _ :: a, _ :: b, h => congrArg Nat.succ (leL_len (A := a) (B := b) h.2)
theorem leL_get : ∀ {A B : List Slot}, leL A B → ∀ {i : Nat} {s : Slot}, A[i]? = some s → s ≠ .unset → B[i]? = some s
  | [], [], _, i, s, h, _ => by simp at h
  | .unset :: a, _ :: b, _, 0, s, h, hs => by simp at h; exact absurd h.symm hs
  | .unset :: a, _ :: b, hl, i + 1, s, h, hs => by simpa using leL_get (A := a) (B := b) hl (by simpa using h) hs
  | .second :: a, _ :: b, hl, 0, s, h, hs => by simp at h; subst h; simp [← hl.1]
  | .second :: a, _ :: b, hl, i + 1, s, h, hs => by simpa using leL_get (A := a) (B := b) hl.2 (by simpa using h) hs
  | .val _ :: a, _ :: b, hl, 0, s, h, hs => by simp at h; subst h; simp [← hl.1]
  | .val _ :: a, _ :: b, hl, i + 1, s, h, hs => by simpa using leL_get (A := a) (B := b) hl.2 (by simpa using h) hs
theorem LR.weak {ad : Nat → Addr} {A B : List Slot} {Ls : Array Slot} (h : leL A B) (hL : LR ad B Ls) : LR ad A Ls :=
  ⟨(leL_len h).trans hL.1, fun i v q => hL.2.1 i v (leL_get h q (by simp)), fun i q => hL.2.2.1 i (leL_get h q (by simp)), hL.2.2.2⟩
theorem wf_cons {x : Slot} {M : List Slot} (hx : x = .unset ∨ ∃ v, x = .val v ∧ v.category = 1) (h : WFs fun i => M[i]?) : WFs fun i => (x :: M)[i]? := by
  refine ⟨fun i hi => ?_, fun i v hi hc => ?_⟩
  · cases i with
    | zero => rcases hx with rfl | ⟨v, rfl, -⟩ <;> (simp at hi)
    | succ i =>
      obtain ⟨j, v, rfl, h1, h2⟩ := h.1 i (by simpa using hi)
      exact ⟨j + 1, v, rfl, by simpa using h1, h2⟩
  · cases i with
    | zero =>
      rcases hx with rfl | ⟨w, rfl, hw⟩
      · simp at hi
      · simp at hi; subst hi; rw [hw] at hc; cases hc
    | succ i => simpa using h.2 i v (by simpa using hi) hc
theorem wf_cons2 {w : Value} {M : List Slot} (hw : w.category = 2) (h : WFs fun i => M[i]?) : WFs fun i => (.val w :: .second :: M)[i]? := by
  refine ⟨fun i hi => ?_, fun i v hi hc => ?_⟩
  · match i, hi with
    | 0, hi => simp at hi
    | 1, _ => exact ⟨0, w, rfl, rfl, hw⟩
    | i + 2, hi =>
      obtain ⟨j, v, rfl, h1, h2⟩ := h.1 i (by simpa using hi)
      exact ⟨j + 2, v, rfl, by simpa using h1, h2⟩
  · match i, hi with
    | 0, _ => rfl
    | 1, hi => simp at hi
    | i + 2, hi => simpa using h.2 i v (by simpa using hi) hc
/-- the local variables at the entry -/
def laid : List Value → List Slot
  | [] => []
  | v :: vs => if v.category = 2 then .val v :: .second :: laid vs else .val v :: laid vs
def entL (as : List Value) (n : Nat) : List Slot := laid as ++ List.replicate (n - (laid as).length) Slot.unset
theorem laid_rel (ad : Nat → Addr) (k : Nat) : ∀ as : List Value, (laid as ++ List.replicate k Slot.unset).length = (laid (as.map (rf ad)) ++ List.replicate k Slot.unset).length ∧ (∀ (i : Nat) (v : Value), (laid as ++ List.replicate k Slot.unset)[i]? = some (.val v) → (laid (as.map (rf ad)) ++ List.replicate k Slot.unset)[i]? = some (.val (rf ad v))) ∧
    (∀ i : Nat, (laid as ++ List.replicate k Slot.unset)[i]? = some .second → (laid (as.map (rf ad)) ++ List.replicate k Slot.unset)[i]? = some .second) ∧ WFs fun i => (laid (as.map (rf ad)) ++ List.replicate k Slot.unset)[i]?
  | [] => by
    refine ⟨rfl, fun i v h => ?_, fun i h => h, fun i h => ?_, fun i v h => ?_⟩
    · simp [laid, List.getElem?_replicate] at h
    · simp [laid, List.getElem?_replicate] at h
    · simp [laid, List.getElem?_replicate] at h
  | v :: vs => by
    obtain ⟨a1, a2, a3, a4⟩ := laid_rel ad k vs
    have hc : (rf ad v).category = v.category := rf_cat ad v
    by_cases h : v.category = 2
    · have e1 : laid (v :: vs) = .val v :: .second :: laid vs := if_pos h
      have e2 : laid ((v :: vs).map (rf ad)) = .val (rf ad v) :: .second :: laid (vs.map (rf ad)) := if_pos (hc.trans h)
      rw [e1, e2]
      refine ⟨by simpa using a1, fun i w hi => ?_, fun i hi => ?_, wf_cons2 (hc.trans h) a4⟩
      · match i, hi with
        | 0, hi => simp at hi; subst hi; rfl
        | 1, hi => simp at hi
        | i + 2, hi => simpa using a2 i w (by simpa using hi)
      · match i, hi with
        | 0, hi => simp at hi
        | 1, hi => rfl
        | i + 2, hi => simpa using a3 i (by simpa using hi)
    · have e1 : laid (v :: vs) = .val v :: laid vs := if_neg h
      have e2 : laid ((v :: vs).map (rf ad)) = .val (rf ad v) :: laid (vs.map (rf ad)) := if_neg (by rw [hc]; exact h)
      have h1 : (rf ad v).category = 1 := by
        rw [hc]; cases v <;> first | rfl | exact absurd rfl h
      rw [e1, e2]
      refine ⟨by simpa using a1, fun i w hi => ?_, fun i hi => ?_, wf_cons (Or.inr ⟨_, rfl, h1⟩) a4⟩
      · match i, hi with
        | 0, hi => simp at hi; subst hi; rfl
        | i + 1, hi => simpa using a2 i w (by simpa using hi)
      · match i, hi with
        | 0, hi => simp at hi
        | i + 1, hi => simpa using a3 i (by simpa using hi)
theorem laid_foldl : ∀ (as : List Value) (acc : Array Slot), (as.foldl (fun acc v => if v.category = 2 then (acc.push (.val v)).push .second else acc.push (.val v)) acc).toList = acc.toList ++ laid as
  | [], acc => by simp [laid]
  | v :: vs, acc => by
    show (List.foldl _ (if v.category = 2 then (acc.push (.val v)).push .second else acc.push (.val v)) vs : Array Slot).toList = _
    rw [laid_foldl vs]
    by_cases h : v.category = 2
    · rw [if_pos h, show laid (v :: vs) = .val v :: .second :: laid vs from if_pos h]; simp
    · rw [if_neg h, show laid (v :: vs) = .val v :: laid vs from if_neg h]; simp
theorem laid_map_len (ad : Nat → Addr) (as : List Value) : (laid (as.map (rf ad))).length = (laid as).length := by
  have := (laid_rel ad 0 as).1
  simpa using this.symm
theorem entry_LR (ad : Nat → Addr) (as : List Value) (n : Nat) (hn : (laid as).length ≤ n) : LR ad (entL as n) (argsToLocals (as.map (rf ad)).toArray n) ∧ (argsToLocals (as.map (rf ad)).toArray n).size = n := by
  have e : (argsToLocals (as.map (rf ad)).toArray n).toList = laid (as.map (rf ad)) ++ List.replicate (n - (laid as).length) Slot.unset := by
    have e1 := laid_foldl (as.map (rf ad)) #[]
    have e2 : ((as.map (rf ad)).toArray.foldl (fun acc v => if v.category = 2 then (acc.push (.val v)).push .second else acc.push (.val v)) #[] : Array Slot).toList = laid (as.map (rf ad)) := by
      rw [List.foldl_toArray']
      · rw [e1]; rfl
      · rfl
    have e3 : ((as.map (rf ad)).toArray.foldl (fun acc v => if v.category = 2 then (acc.push (.val v)).push .second else acc.push (.val v)) #[] : Array Slot).size = (laid as).length := by
      rw [← Array.length_toList, e2, laid_map_len]
    show (_ ++ Array.replicate (n - _) Slot.unset).toList = _
    rw [Array.toList_append, e2, Array.toList_replicate, e3]
  obtain ⟨a1, a2, a3, a4⟩ := laid_rel ad (n - (laid as).length) as
  have g : ∀ i : Nat, (argsToLocals (as.map (rf ad)).toArray n)[i]? = (laid (as.map (rf ad)) ++ List.replicate (n - (laid as).length) Slot.unset)[i]? := fun i => by rw [← e, Array.getElem?_toList]
  have sz : (argsToLocals (as.map (rf ad)).toArray n).size = (laid (as.map (rf ad)) ++ List.replicate (n - (laid as).length) Slot.unset).length := by rw [← e, Array.length_toList]
  refine ⟨⟨by rw [sz]; exact a1, fun i v h => by rw [g]; exact a2 i v h, fun i h => by rw [g]; exact a3 i h, ?_⟩, by rw [sz, ← a1]; simp; omega⟩
  have : (fun i => (argsToLocals (as.map (rf ad)).toArray n)[i]?) = fun i => (laid (as.map (rf ad)) ++ List.replicate (n - (laid as).length) Slot.unset)[i]? := funext g
  rw [this]; exact a4
/-! ## reading and writing a list as Java does an array -/
def rd {α : Type} (xs : List α) (i : Int32) : Option α := if i < 0 then none else xs[i.toNatClampNeg]?
def wr {α : Type} (xs : List α) (i : Int32) (x : α) : Option (List α) := if i < 0 then none else if i.toNatClampNeg < xs.length then some (xs.set i.toNatClampNeg x) else none
theorem rd_slots {α : Type} {f : α → Value} {sl : Array Value} {xs : List α} (h : sl.toList = xs.map f) {j : Int32} {x : α} (hx : rd xs j = some x) : ¬ (j < 0 ∨ sl.size ≤ j.toNatClampNeg) ∧ sl[j.toNatClampNeg]? = some (f x) := by
  unfold rd at hx
  by_cases hj : j < 0
  · rw [if_pos hj] at hx; cases hx
  · rw [if_neg hj] at hx
    have h1 : sl[j.toNatClampNeg]? = some (f x) := by rw [← Array.getElem?_toList, h, List.getElem?_map, hx]; rfl
    exact ⟨fun q => q.elim hj fun q => absurd (Array.getElem?_eq_some_iff.mp h1).1 (Nat.not_lt.mpr q), h1⟩
theorem wr_slots {α : Type} {f : α → Value} {cl : Cell} {xs xs' : List α} (h : cl.slots.toList = xs.map f) {j : Int32} {x : α} (hx : wr xs j x = some xs') : ¬ (j < 0 ∨ cl.slots.size ≤ j.toNatClampNeg) ∧ (cl.setSlot j.toNatClampNeg (f x)).slots.toList = xs'.map f := by
  unfold wr at hx
  by_cases hj : j < 0
  · rw [if_pos hj] at hx; cases hx
  · rw [if_neg hj] at hx
    by_cases hl : j.toNatClampNeg < xs.length
    · rw [if_pos hl] at hx; cases hx
      have sz : cl.slots.size = xs.length := by rw [← Array.length_toList, h, List.length_map]
      refine ⟨fun q => q.elim hj fun q => by omega, ?_⟩
      show (cl.slots.setIfInBounds _ _).toList = _
      rw [Array.toList_setIfInBounds, h, List.map_set]
    · rw [if_neg hl] at hx; cases hx
/-! ## the walk's promise, said of the small view -/
def Am (Z : State) (own mn : String) (bytes : ByteArray) (maxL : Nat) (ret : Option FieldType) (p : Program) (s : State) (m : MethodId) (meth : Method) (c : Code) : Prop :=
  p.tables.exec = Jvm.exec ∧ Z.Warmed39 s.vm ∧ c.code = bytes ∧ c.maxLocals = maxL ∧ meth.sig.returnType = ret ∧ meth.locks = false ∧ s.vm.findClass own = some m.cls ∧ meth.name = mn
def WP (l : Launch) (Z : State) (C : String) (lay : List (String × String)) (own mn : String) (bytes : ByteArray) (maxL : Nat) (ret : Option FieldType) (R : Room) (n0 ro : Nat) (Q : Option Value → List OwnC → Prop) (k n pc : Nat) (L : List Slot) (S : List Value) (H : List OwnC) : Prop :=
  ∀ (p : Program) (e : Env) (s : State) (m : MethodId) (args : Array Value) (below : List Frame) (meth : Method) (c : Code) (T : State) (locs : List Loc) (ad : Nat → Addr) (Ls : Array Slot),
    Stand p l e R s m args below meth c T locs k n → Am Z own mn bytes maxL ret p s m meth c → HR Z C lay n0 ro ad H T.heap → Fr n0 locs → LR ad L Ls → Ls.size = maxL →
    ∃ (s₂ : State) (v : Option Value) (H' : List OwnC) (locs' : List Loc),
      Steps p.tables e below (T.setTop (mkF m pc Ls (S.map (rf ad)))) s₂ ∧ s₂.status = .running ∧ Ended s₂ below (.returned (v.map (rf ad))) ∧ Q v H' ∧ HR Z C lay n0 ro ad H' s₂.heap ∧ Kp ad H.length T.heap s₂.heap ∧ Fr n0 locs' ∧ FrameEnd s (.returned (v.map (rf ad))) s₂ locs' R.cells R.slots
section Rules
variable {l : Launch} {Z : State} {a0 : Array Value} {C : String} {lay : List (String × String)} {own mn : String} {bytes : ByteArray} {maxL : Nat} {ret : Option FieldType} {R : Room} {n0 ro : Nat} {Q : Option Value → List OwnC → Prop} {k n pc pc' : Nat} {L L' : List Slot} {S S' : List Value} {H H' : List OwnC}
theorem WP.weak (h : leL L' L) (nx : WP l Z C lay own mn bytes maxL ret R n0 ro Q k n pc L' S H) : WP l Z C lay own mn bytes maxL ret R n0 ro Q k n pc L S H :=
  fun p e s m args below meth c T locs ad Ls X A hr N hL hz => nx p e s m args below meth c T locs ad Ls X A hr N (LR.weak h hL) hz
theorem WP.of (hs : ∀ (p : Program) (e : Env) (s : State) (m : MethodId) (args : Array Value) (below : List Frame) (meth : Method) (c : Code) (T : State) (locs : List Loc) (ad : Nat → Addr) (Ls : Array Slot), Stand p l e R s m args below meth c T locs k n → Am Z own mn bytes maxL ret p s m meth c → LR ad L Ls → Ls.size = maxL →
      ∃ Ls', LR ad L' Ls' ∧ Ls'.size = maxL ∧ ∀ t, Steps p.tables e below (T.setTop (mkF m pc' Ls' (S'.map (rf ad)))) t → Steps p.tables e below (T.setTop (mkF m pc Ls (S.map (rf ad)))) t)
    (nx : WP l Z C lay own mn bytes maxL ret R n0 ro Q k n pc' L' S' H) : WP l Z C lay own mn bytes maxL ret R n0 ro Q k n pc L S H := by
  intro p e s m args below meth c T locs ad Ls X A hr N hL hz
  obtain ⟨Ls', hL', hz', st⟩ := hs p e s m args below meth c T locs ad Ls X A hL hz
  obtain ⟨s₂, v, H', locs', h1, h2⟩ := nx p e s m args below meth c T locs ad Ls' X A hr N hL' hz'
  exact ⟨s₂, v, H', locs', st _ h1, h2⟩
theorem WP.iload {j : Nat} {x : Int32} (hd : decode bytes pc = .ok (.iload j, 2)) (hl : L[j]? = some (.val (.int x))) (nx : WP l Z C lay own mn bytes maxL ret R n0 ro Q k n (pc + 2) L (.int x :: S) H) : WP l Z C lay own mn bytes maxL ret R n0 ro Q k n pc L (S) H :=
  WP.of (fun p e s m args below meth c T locs ad Ls X A hL hz => ⟨Ls, hL, hz, fun t ht => XS.iload X.here A.1 rfl (hb A.2.2.1 hd) (hL.2.1 _ _ hl) ht⟩) nx
theorem WP.iloadN {j : Fin 4} {x : Int32} (hd : decode bytes pc = .ok (.iload_n j, 1)) (hl : L[j.val]? = some (.val (.int x))) (nx : WP l Z C lay own mn bytes maxL ret R n0 ro Q k n (pc + 1) L (.int x :: S) H) : WP l Z C lay own mn bytes maxL ret R n0 ro Q k n pc L (S) H :=
  WP.of (fun p e s m args below meth c T locs ad Ls X A hL hz => ⟨Ls, hL, hz, fun t ht => XS.iloadN X.here A.1 rfl (hb A.2.2.1 hd) (hL.2.1 _ _ hl) ht⟩) nx
theorem WP.lload {j : Nat} {x : Int64} (hd : decode bytes pc = .ok (.lload j, 2)) (hl : L[j]? = some (.val (.long x))) (nx : WP l Z C lay own mn bytes maxL ret R n0 ro Q k n (pc + 2) L (.long x :: S) H) : WP l Z C lay own mn bytes maxL ret R n0 ro Q k n pc L (S) H :=
  WP.of (fun p e s m args below meth c T locs ad Ls X A hL hz => ⟨Ls, hL, hz, fun t ht => XT.lload X.here A.1 rfl (hb A.2.2.1 hd) (hL.2.1 _ _ hl) ht⟩) nx
theorem WP.lloadN {j : Fin 4} {x : Int64} (hd : decode bytes pc = .ok (.lload_n j, 1)) (hl : L[j.val]? = some (.val (.long x))) (nx : WP l Z C lay own mn bytes maxL ret R n0 ro Q k n (pc + 1) L (.long x :: S) H) : WP l Z C lay own mn bytes maxL ret R n0 ro Q k n pc L (S) H :=
  WP.of (fun p e s m args below meth c T locs ad Ls X A hL hz => ⟨Ls, hL, hz, fun t ht => XT.lloadN X.here A.1 rfl (hb A.2.2.1 hd) (hL.2.1 _ _ hl) ht⟩) nx
theorem WP.aload {j : Nat} {i : Nat} (hd : decode bytes pc = .ok (.aload j, 2)) (hl : L[j]? = some (.val (.ref i))) (nx : WP l Z C lay own mn bytes maxL ret R n0 ro Q k n (pc + 2) L (.ref i :: S) H) : WP l Z C lay own mn bytes maxL ret R n0 ro Q k n pc L (S) H :=
  WP.of (fun p e s m args below meth c T locs ad Ls X A hL hz => ⟨Ls, hL, hz, fun t ht => XS.aload X.here A.1 rfl (hb A.2.2.1 hd) (hL.2.1 _ _ hl) rfl ht⟩) nx
theorem WP.aloadN {j : Fin 4} {i : Nat} (hd : decode bytes pc = .ok (.aload_n j, 1)) (hl : L[j.val]? = some (.val (.ref i))) (nx : WP l Z C lay own mn bytes maxL ret R n0 ro Q k n (pc + 1) L (.ref i :: S) H) : WP l Z C lay own mn bytes maxL ret R n0 ro Q k n pc L (S) H :=
  WP.of (fun p e s m args below meth c T locs ad Ls X A hL hz => ⟨Ls, hL, hz, fun t ht => XS.aloadN X.here A.1 rfl (hb A.2.2.1 hd) (hL.2.1 _ _ hl) rfl ht⟩) nx
theorem WP.iconst {i : Int} (v : Int32) (hd : decode bytes pc = .ok (.iconst i, 1)) (hv : Int32.ofInt i = v) (nx : WP l Z C lay own mn bytes maxL ret R n0 ro Q k n (pc + 1) L (.int v :: S) H) : WP l Z C lay own mn bytes maxL ret R n0 ro Q k n pc L (S) H :=
  WP.of (fun p e s m args below meth c T locs ad Ls X A hL hz => ⟨Ls, hL, hz, fun t ht => XS.iconst X.here A.1 rfl (hb A.2.2.1 hd) (by rw [hv]; exact ht)⟩) nx
theorem WP.bipush {i : Int} (v : Int32) (hd : decode bytes pc = .ok (.bipush i, 2)) (hv : (Int8.ofInt i).toInt32 = v) (nx : WP l Z C lay own mn bytes maxL ret R n0 ro Q k n (pc + 2) L (.int v :: S) H) : WP l Z C lay own mn bytes maxL ret R n0 ro Q k n pc L (S) H :=
  WP.of (fun p e s m args below meth c T locs ad Ls X A hL hz => ⟨Ls, hL, hz, fun t ht => XS.bipush X.here A.1 rfl (hb A.2.2.1 hd) (by rw [hv]; exact ht)⟩) nx
theorem WP.sipush {i : Int} (v : Int32) (hd : decode bytes pc = .ok (.sipush i, 3)) (hv : (Int16.ofInt i).toInt32 = v) (nx : WP l Z C lay own mn bytes maxL ret R n0 ro Q k n (pc + 3) L (.int v :: S) H) : WP l Z C lay own mn bytes maxL ret R n0 ro Q k n pc L (S) H :=
  WP.of (fun p e s m args below meth c T locs ad Ls X A hL hz => ⟨Ls, hL, hz, fun t ht => XS.sipush X.here A.1 rfl (hb A.2.2.1 hd) (by rw [hv]; exact ht)⟩) nx
theorem WP.lconst {j : Fin 2} (v : Int64) (hd : decode bytes pc = .ok (.lconst j, 1)) (hv : Int64.ofNat j = v) (nx : WP l Z C lay own mn bytes maxL ret R n0 ro Q k n (pc + 1) L (.long v :: S) H) : WP l Z C lay own mn bytes maxL ret R n0 ro Q k n pc L (S) H :=
  WP.of (fun p e s m args below meth c T locs ad Ls X A hL hz => ⟨Ls, hL, hz, fun t ht => XT.lconst X.here A.1 rfl (hb A.2.2.1 hd) (by rw [hv]; exact ht)⟩) nx
theorem WP.ldc {idx : Nat} {v : Int32} (hd : decode bytes pc = .ok (.ldc idx, 2)) (hw : (Cond.constant own idx v).before a0 Z = true) (nx : WP l Z C lay own mn bytes maxL ret R n0 ro Q k n (pc + 2) L (.int v :: S) H) : WP l Z C lay own mn bytes maxL ret R n0 ro Q k n pc L (S) H :=
  WP.of (fun p e s m args below meth c T locs ad Ls X A hL hz => ⟨Ls, hL, hz, fun t ht => X.ldcInt A.1 A.2.2.2.2.2.2.1 (mvT A.2.1 hw) (g := mkF m pc Ls (S.map (rf ad))) rfl (hb A.2.2.1 hd) t ht⟩) nx
theorem WP.ldcw {idx : Nat} {v : Int32} (hd : decode bytes pc = .ok (.ldc_w idx, 3)) (hw : (Cond.constant own idx v).before a0 Z = true) (nx : WP l Z C lay own mn bytes maxL ret R n0 ro Q k n (pc + 3) L (.int v :: S) H) : WP l Z C lay own mn bytes maxL ret R n0 ro Q k n pc L (S) H :=
  WP.of (fun p e s m args below meth c T locs ad Ls X A hL hz => ⟨Ls, hL, hz, fun t ht => X.ldcwInt A.1 A.2.2.2.2.2.2.1 (mvT A.2.1 hw) (g := mkF m pc Ls (S.map (rf ad))) rfl (hb A.2.2.1 hd) t ht⟩) nx
theorem WP.ldc2 {idx : Nat} {v : Int64} (hd : decode bytes pc = .ok (.ldc2_w idx, 3)) (hw : (Cond.constantLong own idx v).before a0 Z = true) (nx : WP l Z C lay own mn bytes maxL ret R n0 ro Q k n (pc + 3) L (.long v :: S) H) : WP l Z C lay own mn bytes maxL ret R n0 ro Q k n pc L (S) H :=
  WP.of (fun p e s m args below meth c T locs ad Ls X A hL hz => ⟨Ls, hL, hz, fun t ht => X.ldc2Long A.1 A.2.2.2.2.2.2.1 (mvT A.2.1 hw) (g := mkF m pc Ls (S.map (rf ad))) rfl (hb A.2.2.1 hd) t ht⟩) nx
theorem WP.iadd {x y : Int32} (hd : decode bytes pc = .ok (.iadd, 1)) (nx : WP l Z C lay own mn bytes maxL ret R n0 ro Q k n (pc + 1) L (.int (x + y) :: S) H) : WP l Z C lay own mn bytes maxL ret R n0 ro Q k n pc L (.int y :: .int x :: S) H :=
  WP.of (fun p e s m args below meth c T locs ad Ls X A hL hz => ⟨Ls, hL, hz, fun t ht => XS.iadd X.here A.1 rfl (hb A.2.2.1 hd) rfl ht⟩) nx
theorem WP.ladd {x y : Int64} (hd : decode bytes pc = .ok (.ladd, 1)) (nx : WP l Z C lay own mn bytes maxL ret R n0 ro Q k n (pc + 1) L (.long (x + y) :: S) H) : WP l Z C lay own mn bytes maxL ret R n0 ro Q k n pc L (.long y :: .long x :: S) H :=
  WP.of (fun p e s m args below meth c T locs ad Ls X A hL hz => ⟨Ls, hL, hz, fun t ht => XT.ladd X.here A.1 rfl (hb A.2.2.1 hd) rfl ht⟩) nx
theorem WP.isub {x y : Int32} (hd : decode bytes pc = .ok (.isub, 1)) (nx : WP l Z C lay own mn bytes maxL ret R n0 ro Q k n (pc + 1) L (.int (x - y) :: S) H) : WP l Z C lay own mn bytes maxL ret R n0 ro Q k n pc L (.int y :: .int x :: S) H :=
  WP.of (fun p e s m args below meth c T locs ad Ls X A hL hz => ⟨Ls, hL, hz, fun t ht => XS.isub X.here A.1 rfl (hb A.2.2.1 hd) rfl ht⟩) nx
theorem WP.lsub {x y : Int64} (hd : decode bytes pc = .ok (.lsub, 1)) (nx : WP l Z C lay own mn bytes maxL ret R n0 ro Q k n (pc + 1) L (.long (x - y) :: S) H) : WP l Z C lay own mn bytes maxL ret R n0 ro Q k n pc L (.long y :: .long x :: S) H :=
  WP.of (fun p e s m args below meth c T locs ad Ls X A hL hz => ⟨Ls, hL, hz, fun t ht => XT.lsub X.here A.1 rfl (hb A.2.2.1 hd) rfl ht⟩) nx
theorem WP.imul {x y : Int32} (hd : decode bytes pc = .ok (.imul, 1)) (nx : WP l Z C lay own mn bytes maxL ret R n0 ro Q k n (pc + 1) L (.int (x * y) :: S) H) : WP l Z C lay own mn bytes maxL ret R n0 ro Q k n pc L (.int y :: .int x :: S) H :=
  WP.of (fun p e s m args below meth c T locs ad Ls X A hL hz => ⟨Ls, hL, hz, fun t ht => XS.imul X.here A.1 rfl (hb A.2.2.1 hd) rfl ht⟩) nx
theorem WP.lmul {x y : Int64} (hd : decode bytes pc = .ok (.lmul, 1)) (nx : WP l Z C lay own mn bytes maxL ret R n0 ro Q k n (pc + 1) L (.long (x * y) :: S) H) : WP l Z C lay own mn bytes maxL ret R n0 ro Q k n pc L (.long y :: .long x :: S) H :=
  WP.of (fun p e s m args below meth c T locs ad Ls X A hL hz => ⟨Ls, hL, hz, fun t ht => XT.lmul X.here A.1 rfl (hb A.2.2.1 hd) rfl ht⟩) nx
theorem WP.iand {x y : Int32} (hd : decode bytes pc = .ok (.iand, 1)) (nx : WP l Z C lay own mn bytes maxL ret R n0 ro Q k n (pc + 1) L (.int (x &&& y) :: S) H) : WP l Z C lay own mn bytes maxL ret R n0 ro Q k n pc L (.int y :: .int x :: S) H :=
  WP.of (fun p e s m args below meth c T locs ad Ls X A hL hz => ⟨Ls, hL, hz, fun t ht => XS.iand X.here A.1 rfl (hb A.2.2.1 hd) rfl ht⟩) nx
theorem WP.land {x y : Int64} (hd : decode bytes pc = .ok (.land, 1)) (nx : WP l Z C lay own mn bytes maxL ret R n0 ro Q k n (pc + 1) L (.long (x &&& y) :: S) H) : WP l Z C lay own mn bytes maxL ret R n0 ro Q k n pc L (.long y :: .long x :: S) H :=
  WP.of (fun p e s m args below meth c T locs ad Ls X A hL hz => ⟨Ls, hL, hz, fun t ht => XT.land X.here A.1 rfl (hb A.2.2.1 hd) rfl ht⟩) nx
theorem WP.ior {x y : Int32} (hd : decode bytes pc = .ok (.ior, 1)) (nx : WP l Z C lay own mn bytes maxL ret R n0 ro Q k n (pc + 1) L (.int (x ||| y) :: S) H) : WP l Z C lay own mn bytes maxL ret R n0 ro Q k n pc L (.int y :: .int x :: S) H :=
  WP.of (fun p e s m args below meth c T locs ad Ls X A hL hz => ⟨Ls, hL, hz, fun t ht => XT.ior X.here A.1 rfl (hb A.2.2.1 hd) rfl ht⟩) nx
theorem WP.lor {x y : Int64} (hd : decode bytes pc = .ok (.lor, 1)) (nx : WP l Z C lay own mn bytes maxL ret R n0 ro Q k n (pc + 1) L (.long (x ||| y) :: S) H) : WP l Z C lay own mn bytes maxL ret R n0 ro Q k n pc L (.long y :: .long x :: S) H :=
  WP.of (fun p e s m args below meth c T locs ad Ls X A hL hz => ⟨Ls, hL, hz, fun t ht => XT.lor X.here A.1 rfl (hb A.2.2.1 hd) rfl ht⟩) nx
theorem WP.ixor {x y : Int32} (hd : decode bytes pc = .ok (.ixor, 1)) (nx : WP l Z C lay own mn bytes maxL ret R n0 ro Q k n (pc + 1) L (.int (x ^^^ y) :: S) H) : WP l Z C lay own mn bytes maxL ret R n0 ro Q k n pc L (.int y :: .int x :: S) H :=
  WP.of (fun p e s m args below meth c T locs ad Ls X A hL hz => ⟨Ls, hL, hz, fun t ht => XT.ixor X.here A.1 rfl (hb A.2.2.1 hd) rfl ht⟩) nx
theorem WP.lxor {x y : Int64} (hd : decode bytes pc = .ok (.lxor, 1)) (nx : WP l Z C lay own mn bytes maxL ret R n0 ro Q k n (pc + 1) L (.long (x ^^^ y) :: S) H) : WP l Z C lay own mn bytes maxL ret R n0 ro Q k n pc L (.long y :: .long x :: S) H :=
  WP.of (fun p e s m args below meth c T locs ad Ls X A hL hz => ⟨Ls, hL, hz, fun t ht => XT.lxor X.here A.1 rfl (hb A.2.2.1 hd) rfl ht⟩) nx
theorem WP.idiv {x y : Int32} (hd : decode bytes pc = .ok (.idiv, 1)) (hy : ¬ y = 0) (nx : WP l Z C lay own mn bytes maxL ret R n0 ro Q k n (pc + 1) L (.int (x / y) :: S) H) : WP l Z C lay own mn bytes maxL ret R n0 ro Q k n pc L (.int y :: .int x :: S) H :=
  WP.of (fun p e s m args below meth c T locs ad Ls X A hL hz => ⟨Ls, hL, hz, fun t ht => XS.idiv X.here A.1 rfl (hb A.2.2.1 hd) rfl hy ht⟩) nx
theorem WP.irem {x y : Int32} (hd : decode bytes pc = .ok (.irem, 1)) (hy : ¬ y = 0) (nx : WP l Z C lay own mn bytes maxL ret R n0 ro Q k n (pc + 1) L (.int (x % y) :: S) H) : WP l Z C lay own mn bytes maxL ret R n0 ro Q k n pc L (.int y :: .int x :: S) H :=
  WP.of (fun p e s m args below meth c T locs ad Ls X A hL hz => ⟨Ls, hL, hz, fun t ht => iremM X A.1 rfl (hb A.2.2.1 hd) rfl hy ht⟩) nx
theorem WP.ldiv {x y : Int64} (hd : decode bytes pc = .ok (.ldiv, 1)) (hy : ¬ y = 0) (nx : WP l Z C lay own mn bytes maxL ret R n0 ro Q k n (pc + 1) L (.long (x / y) :: S) H) : WP l Z C lay own mn bytes maxL ret R n0 ro Q k n pc L (.long y :: .long x :: S) H :=
  WP.of (fun p e s m args below meth c T locs ad Ls X A hL hz => ⟨Ls, hL, hz, fun t ht => XT.ldiv X.here A.1 rfl (hb A.2.2.1 hd) rfl hy ht⟩) nx
theorem lrem_mod (x y : Int64) : x - (x / y) * y = x % y := by
  apply Int64.toInt_inj.mp
  have h1 := Int64.le_toInt (x % y)
  have h2 := Int64.toInt_lt (x % y)
  rw [Int64.toInt_sub, Int64.toInt_mul, Int64.toInt_div, Int.bmod_mul_bmod, Int.sub_bmod_bmod, Int.mul_comm (x.toInt.tdiv y.toInt), ← Int.tmod_def, ← Int64.toInt_mod]
  exact Int.bmod_eq_of_le_mul_two (by omega) (by omega)
theorem WP.lrem {x y : Int64} (hd : decode bytes pc = .ok (.lrem, 1)) (hy : ¬ y = 0) (nx : WP l Z C lay own mn bytes maxL ret R n0 ro Q k n (pc + 1) L (.long (x % y) :: S) H) : WP l Z C lay own mn bytes maxL ret R n0 ro Q k n pc L (.long y :: .long x :: S) H :=
  WP.of (fun p e s m args below meth c T locs ad Ls X A hL hz => ⟨Ls, hL, hz, fun t ht => XT.lrem X.here A.1 rfl (hb A.2.2.1 hd) rfl hy (by rw [lrem_mod]; exact ht)⟩) nx
theorem WP.ishl {x y : Int32} (hd : decode bytes pc = .ok (.ishl, 1)) (nx : WP l Z C lay own mn bytes maxL ret R n0 ro Q k n (pc + 1) L (.int (x <<< (y &&& 31)) :: S) H) : WP l Z C lay own mn bytes maxL ret R n0 ro Q k n pc L (.int y :: .int x :: S) H :=
  WP.of (fun p e s m args below meth c T locs ad Ls X A hL hz => ⟨Ls, hL, hz, fun t ht => XT.ishl X.here A.1 rfl (hb A.2.2.1 hd) rfl ht⟩) nx
theorem WP.ishr {x y : Int32} (hd : decode bytes pc = .ok (.ishr, 1)) (nx : WP l Z C lay own mn bytes maxL ret R n0 ro Q k n (pc + 1) L (.int (x >>> (y &&& 31)) :: S) H) : WP l Z C lay own mn bytes maxL ret R n0 ro Q k n pc L (.int y :: .int x :: S) H :=
  WP.of (fun p e s m args below meth c T locs ad Ls X A hL hz => ⟨Ls, hL, hz, fun t ht => XT.ishr X.here A.1 rfl (hb A.2.2.1 hd) rfl ht⟩) nx
theorem WP.iushr {x y : Int32} (hd : decode bytes pc = .ok (.iushr, 1)) (nx : WP l Z C lay own mn bytes maxL ret R n0 ro Q k n (pc + 1) L (.int (XT.ushr x y) :: S) H) : WP l Z C lay own mn bytes maxL ret R n0 ro Q k n pc L (.int y :: .int x :: S) H :=
  WP.of (fun p e s m args below meth c T locs ad Ls X A hL hz => ⟨Ls, hL, hz, fun t ht => XT.iushr X.here A.1 rfl (hb A.2.2.1 hd) rfl ht⟩) nx
theorem WP.lshl {x : Int64} {y : Int32} (hd : decode bytes pc = .ok (.lshl, 1)) (nx : WP l Z C lay own mn bytes maxL ret R n0 ro Q k n (pc + 1) L (.long (x <<< (y.toInt64 &&& 63)) :: S) H) : WP l Z C lay own mn bytes maxL ret R n0 ro Q k n pc L (.int y :: .long x :: S) H :=
  WP.of (fun p e s m args below meth c T locs ad Ls X A hL hz => ⟨Ls, hL, hz, fun t ht => XT.lshl X.here A.1 rfl (hb A.2.2.1 hd) rfl ht⟩) nx
theorem WP.lshr {x : Int64} {y : Int32} (hd : decode bytes pc = .ok (.lshr, 1)) (nx : WP l Z C lay own mn bytes maxL ret R n0 ro Q k n (pc + 1) L (.long (x >>> (y.toInt64 &&& 63)) :: S) H) : WP l Z C lay own mn bytes maxL ret R n0 ro Q k n pc L (.int y :: .long x :: S) H :=
  WP.of (fun p e s m args below meth c T locs ad Ls X A hL hz => ⟨Ls, hL, hz, fun t ht => XT.lshr X.here A.1 rfl (hb A.2.2.1 hd) rfl ht⟩) nx
theorem WP.lushr {x : Int64} {y : Int32} (hd : decode bytes pc = .ok (.lushr, 1)) (nx : WP l Z C lay own mn bytes maxL ret R n0 ro Q k n (pc + 1) L (.long (XT.ushrL x y) :: S) H) : WP l Z C lay own mn bytes maxL ret R n0 ro Q k n pc L (.int y :: .long x :: S) H :=
  WP.of (fun p e s m args below meth c T locs ad Ls X A hL hz => ⟨Ls, hL, hz, fun t ht => XT.lushr X.here A.1 rfl (hb A.2.2.1 hd) rfl ht⟩) nx
theorem WP.ineg {x : Int32} (hd : decode bytes pc = .ok (.ineg, 1)) (nx : WP l Z C lay own mn bytes maxL ret R n0 ro Q k n (pc + 1) L (.int (-x) :: S) H) : WP l Z C lay own mn bytes maxL ret R n0 ro Q k n pc L (.int x :: S) H :=
  WP.of (fun p e s m args below meth c T locs ad Ls X A hL hz => ⟨Ls, hL, hz, fun t ht => XS.ineg X.here A.1 rfl (hb A.2.2.1 hd) rfl ht⟩) nx
theorem WP.lneg {x : Int64} (hd : decode bytes pc = .ok (.lneg, 1)) (nx : WP l Z C lay own mn bytes maxL ret R n0 ro Q k n (pc + 1) L (.long (-x) :: S) H) : WP l Z C lay own mn bytes maxL ret R n0 ro Q k n pc L (.long x :: S) H :=
  WP.of (fun p e s m args below meth c T locs ad Ls X A hL hz => ⟨Ls, hL, hz, fun t ht => XT.lneg X.here A.1 rfl (hb A.2.2.1 hd) rfl ht⟩) nx
theorem WP.i2l {x : Int32} (hd : decode bytes pc = .ok (.i2l, 1)) (nx : WP l Z C lay own mn bytes maxL ret R n0 ro Q k n (pc + 1) L (.long x.toInt64 :: S) H) : WP l Z C lay own mn bytes maxL ret R n0 ro Q k n pc L (.int x :: S) H :=
  WP.of (fun p e s m args below meth c T locs ad Ls X A hL hz => ⟨Ls, hL, hz, fun t ht => XT.i2l X.here A.1 rfl (hb A.2.2.1 hd) rfl ht⟩) nx
theorem WP.l2i {x : Int64} (hd : decode bytes pc = .ok (.l2i, 1)) (nx : WP l Z C lay own mn bytes maxL ret R n0 ro Q k n (pc + 1) L (.int x.toInt32 :: S) H) : WP l Z C lay own mn bytes maxL ret R n0 ro Q k n pc L (.long x :: S) H :=
  WP.of (fun p e s m args below meth c T locs ad Ls X A hL hz => ⟨Ls, hL, hz, fun t ht => XT.l2i X.here A.1 rfl (hb A.2.2.1 hd) rfl ht⟩) nx
theorem WP.lcmp {x y : Int64} (hd : decode bytes pc = .ok (.lcmp, 1)) (nx : WP l Z C lay own mn bytes maxL ret R n0 ro Q k n (pc + 1) L (.int (XT.cmpL x y) :: S) H) : WP l Z C lay own mn bytes maxL ret R n0 ro Q k n pc L (.long y :: .long x :: S) H :=
  WP.of (fun p e s m args below meth c T locs ad Ls X A hL hz => ⟨Ls, hL, hz, fun t ht => XT.lcmp X.here A.1 rfl (hb A.2.2.1 hd) rfl ht⟩) nx
theorem WP.dup {v : Value} (hd : decode bytes pc = .ok (.dup, 1)) (hc : v.category = 1) (nx : WP l Z C lay own mn bytes maxL ret R n0 ro Q k n (pc + 1) L (v :: v :: S) H) : WP l Z C lay own mn bytes maxL ret R n0 ro Q k n pc L (v :: S) H :=
  WP.of (fun p e s m args below meth c T locs ad Ls X A hL hz => ⟨Ls, hL, hz, fun t ht => XS.dup X.here A.1 rfl (hb A.2.2.1 hd) rfl (by rw [rf_cat]; exact hc) ht⟩) nx
theorem WP.dup2 {v w : Value} (hd : decode bytes pc = .ok (.dup2, 1)) (hc : v.category = 1) (hc' : w.category = 1) (nx : WP l Z C lay own mn bytes maxL ret R n0 ro Q k n (pc + 1) L (v :: w :: v :: w :: S) H) : WP l Z C lay own mn bytes maxL ret R n0 ro Q k n pc L (v :: w :: S) H :=
  WP.of (fun p e s m args below meth c T locs ad Ls X A hL hz => ⟨Ls, hL, hz, fun t ht => XT.dup2 X.here A.1 rfl (hb A.2.2.1 hd) rfl (by rw [rf_cat]; exact hc) (by rw [rf_cat]; exact hc') ht⟩) nx
theorem WP.dup2L {x : Int64} (hd : decode bytes pc = .ok (.dup2, 1)) (nx : WP l Z C lay own mn bytes maxL ret R n0 ro Q k n (pc + 1) L (.long x :: .long x :: S) H) : WP l Z C lay own mn bytes maxL ret R n0 ro Q k n pc L (.long x :: S) H :=
  WP.of (fun p e s m args below meth c T locs ad Ls X A hL hz => ⟨Ls, hL, hz, fun t ht => XT.dup2L X.here A.1 rfl (hb A.2.2.1 hd) rfl ht⟩) nx
theorem WP.pop {v : Value} (hd : decode bytes pc = .ok (.pop, 1)) (hc : v.category = 1) (nx : WP l Z C lay own mn bytes maxL ret R n0 ro Q k n (pc + 1) L (S) H) : WP l Z C lay own mn bytes maxL ret R n0 ro Q k n pc L (v :: S) H :=
  WP.of (fun p e s m args below meth c T locs ad Ls X A hL hz => ⟨Ls, hL, hz, fun t ht => XT.pop X.here A.1 rfl (hb A.2.2.1 hd) rfl (by rw [rf_cat]; exact hc) ht⟩) nx
theorem WP.istore {j : Nat} {x : Int32} (hd : decode bytes pc = .ok (.istore j, 2)) (hi : j < L.length) (hL' : st1 L j (.int x) = L') (nx : WP l Z C lay own mn bytes maxL ret R n0 ro Q k n (pc + 2) L' S H) : WP l Z C lay own mn bytes maxL ret R n0 ro Q k n pc L (.int x :: S) H :=
  WP.of (fun p e s m args below meth c T locs ad Ls X A hL hz => by
    obtain ⟨Ls', e1, e2, e3⟩ := hL.store1 hi (v := .int x) rfl
    exact ⟨Ls', hL' ▸ e2, e3.trans hz, fun t ht => XS.istore X.here A.1 rfl (hb A.2.2.1 hd) rfl e1 ht⟩) nx
theorem WP.istoreN {j : Fin 4} {x : Int32} (hd : decode bytes pc = .ok (.istore_n j, 1)) (hi : j.val < L.length) (hL' : st1 L j.val (.int x) = L') (nx : WP l Z C lay own mn bytes maxL ret R n0 ro Q k n (pc + 1) L' S H) : WP l Z C lay own mn bytes maxL ret R n0 ro Q k n pc L (.int x :: S) H :=
  WP.of (fun p e s m args below meth c T locs ad Ls X A hL hz => by
    obtain ⟨Ls', e1, e2, e3⟩ := hL.store1 hi (v := .int x) rfl
    exact ⟨Ls', hL' ▸ e2, e3.trans hz, fun t ht => XS.istoreN X.here A.1 rfl (hb A.2.2.1 hd) rfl e1 ht⟩) nx
theorem WP.astore {j : Nat} {i : Nat} (hd : decode bytes pc = .ok (.astore j, 2)) (hi : j < L.length) (hL' : st1 L j (.ref i) = L') (nx : WP l Z C lay own mn bytes maxL ret R n0 ro Q k n (pc + 2) L' S H) : WP l Z C lay own mn bytes maxL ret R n0 ro Q k n pc L (.ref i :: S) H :=
  WP.of (fun p e s m args below meth c T locs ad Ls X A hL hz => by
    obtain ⟨Ls', e1, e2, e3⟩ := hL.store1 hi (v := .ref i) rfl
    exact ⟨Ls', hL' ▸ e2, e3.trans hz, fun t ht => XS.astore X.here A.1 rfl (hb A.2.2.1 hd) rfl rfl e1 ht⟩) nx
theorem WP.astoreN {j : Fin 4} {i : Nat} (hd : decode bytes pc = .ok (.astore_n j, 1)) (hi : j.val < L.length) (hL' : st1 L j.val (.ref i) = L') (nx : WP l Z C lay own mn bytes maxL ret R n0 ro Q k n (pc + 1) L' S H) : WP l Z C lay own mn bytes maxL ret R n0 ro Q k n pc L (.ref i :: S) H :=
  WP.of (fun p e s m args below meth c T locs ad Ls X A hL hz => by
    obtain ⟨Ls', e1, e2, e3⟩ := hL.store1 hi (v := .ref i) rfl
    exact ⟨Ls', hL' ▸ e2, e3.trans hz, fun t ht => XS.astoreN X.here A.1 rfl (hb A.2.2.1 hd) rfl rfl e1 ht⟩) nx
theorem WP.lstore {j : Nat} {x : Int64} (hd : decode bytes pc = .ok (.lstore j, 2)) (hi : j + 1 < L.length) (hL' : st2 L j (.long x) = L') (nx : WP l Z C lay own mn bytes maxL ret R n0 ro Q k n (pc + 2) L' S H) : WP l Z C lay own mn bytes maxL ret R n0 ro Q k n pc L (.long x :: S) H :=
  WP.of (fun p e s m args below meth c T locs ad Ls X A hL hz => by
    obtain ⟨Ls', e1, e2, e3⟩ := hL.store2 hi (v := .long x) rfl
    exact ⟨Ls', hL' ▸ e2, e3.trans hz, fun t ht => XT.lstore X.here A.1 rfl (hb A.2.2.1 hd) rfl e1 ht⟩) nx
theorem WP.lstoreN {j : Fin 4} {x : Int64} (hd : decode bytes pc = .ok (.lstore_n j, 1)) (hi : j.val + 1 < L.length) (hL' : st2 L j.val (.long x) = L') (nx : WP l Z C lay own mn bytes maxL ret R n0 ro Q k n (pc + 1) L' S H) : WP l Z C lay own mn bytes maxL ret R n0 ro Q k n pc L (.long x :: S) H :=
  WP.of (fun p e s m args below meth c T locs ad Ls X A hL hz => by
    obtain ⟨Ls', e1, e2, e3⟩ := hL.store2 hi (v := .long x) rfl
    exact ⟨Ls', hL' ▸ e2, e3.trans hz, fun t ht => XT.lstoreN X.here A.1 rfl (hb A.2.2.1 hd) rfl e1 ht⟩) nx
theorem WP.iinc {j : Nat} {cst : Int} {x : Int32} (v : Int32) (hd : decode bytes pc = .ok (.iinc j cst, 3)) (hv : Int32.ofInt cst = v) (hl : L[j]? = some (.val (.int x))) (hL' : st1 L j (.int (x + v)) = L') (nx : WP l Z C lay own mn bytes maxL ret R n0 ro Q k n (pc + 3) L' S H) : WP l Z C lay own mn bytes maxL ret R n0 ro Q k n pc L S H :=
  WP.of (fun p e s m args below meth c T locs ad Ls X A hL hz => by
    subst hv
    obtain ⟨Ls', e1, e2, e3⟩ := hL.store1 (get_lt hl) (v := .int (x + Int32.ofInt cst)) rfl
    exact ⟨Ls', hL' ▸ e2, e3.trans hz, fun t ht => XS.iinc X.here A.1 rfl (hb A.2.2.1 hd) (hL.2.1 _ _ hl) e1 ht⟩) nx
theorem iincW {tb : Tables} [Ours tb] {e : Env} {below : List Frame} {T target : State} {m : MethodId} {c : Code} {g : JFrame} (h : At T m c below) (hx : tb.exec = Jvm.exec) (hg : g.method = m) {k : Nat} {cst : Int} {x : Int32} {l' : Array Slot} (hd : decode c.code g.pc = .ok (.iinc k cst, 6)) (hl : g.locals[k]? = some (.val (.int x))) (hl' : storeLocals g.locals k (.int (x + Int32.ofInt cst)) = some l')
    (hr : Steps tb e below (T.setTop { g with pc := g.pc + 6, locals := l' }) target) : Steps tb e below (T.setTop g) target := by
  subst hg
  jvm_step h [h.top, hx, hd, hl, hl']
  exact hr
theorem WP.iincW {j : Nat} {cst : Int} {x : Int32} (v : Int32) (hd : decode bytes pc = .ok (.iinc j cst, 6)) (hv : Int32.ofInt cst = v) (hl : L[j]? = some (.val (.int x))) (hL' : st1 L j (.int (x + v)) = L') (nx : WP l Z C lay own mn bytes maxL ret R n0 ro Q k n (pc + 6) L' S H) : WP l Z C lay own mn bytes maxL ret R n0 ro Q k n pc L S H :=
  WP.of (fun p e s m args below meth c T locs ad Ls X A hL hz => by
    subst hv
    obtain ⟨Ls', e1, e2, e3⟩ := hL.store1 (get_lt hl) (v := .int (x + Int32.ofInt cst)) rfl
    exact ⟨Ls', hL' ▸ e2, e3.trans hz, fun t ht => Own.iincW X.here A.1 rfl (hb A.2.2.1 hd) (hL.2.1 _ _ hl) e1 ht⟩) nx
theorem WP.goto {o : Int} (hd : decode bytes pc = .ok (.goto o, 3)) (ho : 0 ≤ (pc : Int) + o) (hp : ((pc : Int) + o).toNat = pc') (nx : WP l Z C lay own mn bytes maxL ret R n0 ro Q k n pc' L S H) : WP l Z C lay own mn bytes maxL ret R n0 ro Q k n pc L S H :=
  WP.of (fun p e s m args below meth c T locs ad Ls X A hL hz => ⟨Ls, hL, hz, fun t ht => XS.goto X.here A.1 rfl rfl (hb A.2.2.1 hd) ho hp ht⟩) nx
theorem WP.ifY {cd : ClassFile.Cond} {x : Int32} {o : Int} (hd : decode bytes pc = .ok (.ifCond cd o, 3)) (hc : ifCond.holds cd x = true) (ho : 0 ≤ (pc : Int) + o) (hp : ((pc : Int) + o).toNat = pc') (nx : WP l Z C lay own mn bytes maxL ret R n0 ro Q k n pc' L S H) : WP l Z C lay own mn bytes maxL ret R n0 ro Q k n pc L (.int x :: S) H :=
  WP.of (fun p e s m args below meth c T locs ad Ls X A hL hz => ⟨Ls, hL, hz, fun t ht => XS.ifYes X.here A.1 rfl rfl (hb A.2.2.1 hd) rfl hc ho hp ht⟩) nx
theorem WP.ifN {cd : ClassFile.Cond} {x : Int32} {o : Int} (hd : decode bytes pc = .ok (.ifCond cd o, 3)) (hc : ifCond.holds cd x = false) (nx : WP l Z C lay own mn bytes maxL ret R n0 ro Q k n (pc + 3) L S H) : WP l Z C lay own mn bytes maxL ret R n0 ro Q k n pc L (.int x :: S) H :=
  WP.of (fun p e s m args below meth c T locs ad Ls X A hL hz => ⟨Ls, hL, hz, fun t ht => XS.ifNo X.here A.1 rfl (hb A.2.2.1 hd) rfl hc ht⟩) nx
theorem WP.icmpY {cd : ClassFile.Cond} {x y : Int32} {o : Int} (hd : decode bytes pc = .ok (.if_icmp cd o, 3)) (hc : if_icmp.holds cd x y = true) (ho : 0 ≤ (pc : Int) + o) (hp : ((pc : Int) + o).toNat = pc') (nx : WP l Z C lay own mn bytes maxL ret R n0 ro Q k n pc' L S H) : WP l Z C lay own mn bytes maxL ret R n0 ro Q k n pc L (.int y :: .int x :: S) H :=
  WP.of (fun p e s m args below meth c T locs ad Ls X A hL hz => ⟨Ls, hL, hz, fun t ht => XS.icmpYes X.here A.1 rfl rfl (hb A.2.2.1 hd) rfl hc ho hp ht⟩) nx
theorem WP.icmpN {cd : ClassFile.Cond} {x y : Int32} {o : Int} (hd : decode bytes pc = .ok (.if_icmp cd o, 3)) (hc : if_icmp.holds cd x y = false) (nx : WP l Z C lay own mn bytes maxL ret R n0 ro Q k n (pc + 3) L S H) : WP l Z C lay own mn bytes maxL ret R n0 ro Q k n pc L (.int y :: .int x :: S) H :=
  WP.of (fun p e s m args below meth c T locs ad Ls X A hL hz => ⟨Ls, hL, hz, fun t ht => XS.icmpNo X.here A.1 rfl (hb A.2.2.1 hd) rfl hc ht⟩) nx
theorem WP.nonnull {i : Nat} {o : Int} (hd : decode bytes pc = .ok (.ifnonnull o, 3)) (ho : 0 ≤ (pc : Int) + o) (hp : ((pc : Int) + o).toNat = pc') (nx : WP l Z C lay own mn bytes maxL ret R n0 ro Q k n pc' L S H) : WP l Z C lay own mn bytes maxL ret R n0 ro Q k n pc L (.ref i :: S) H :=
  WP.of (fun p e s m args below meth c T locs ad Ls X A hL hz => ⟨Ls, hL, hz, fun t ht => XT.ifnonnullYes X.here A.1 rfl rfl (hb A.2.2.1 hd) rfl ho hp ht⟩) nx
theorem WP.tswIn {dflt low high o : Int} {offs : Array Int} {len : Nat} {i : Int32} (hd : decode bytes pc = .ok (.tableswitch dflt low high offs, len)) (hin : ¬ (i.toInt < low ∨ i.toInt > high)) (hoff : offs[(i.toInt - low).toNat]? = some o) (ho : 0 ≤ (pc : Int) + o) (hp : ((pc : Int) + o).toNat = pc') (nx : WP l Z C lay own mn bytes maxL ret R n0 ro Q k n pc' L S H) : WP l Z C lay own mn bytes maxL ret R n0 ro Q k n pc L (.int i :: S) H :=
  WP.of (fun p e s m args below meth c T locs ad Ls X A hL hz => ⟨Ls, hL, hz, fun t ht => XS.tswIn X.here A.1 rfl rfl (hb A.2.2.1 hd) rfl hin hoff ho hp ht⟩) nx
theorem WP.tswOut {dflt low high : Int} {offs : Array Int} {len : Nat} {i : Int32} (hd : decode bytes pc = .ok (.tableswitch dflt low high offs, len)) (hout : i.toInt < low ∨ i.toInt > high) (ho : 0 ≤ (pc : Int) + dflt) (hp : ((pc : Int) + dflt).toNat = pc') (nx : WP l Z C lay own mn bytes maxL ret R n0 ro Q k n pc' L S H) : WP l Z C lay own mn bytes maxL ret R n0 ro Q k n pc L (.int i :: S) H :=
  WP.of (fun p e s m args below meth c T locs ad Ls X A hL hz => ⟨Ls, hL, hz, fun t ht => XS.tswOut X.here A.1 rfl rfl (hb A.2.2.1 hd) rfl hout ho hp ht⟩) nx
theorem tsw_miss {i : Int32} {low high : Int} (h : ∀ z : Int, low ≤ z → z ≤ high → ¬ i = Int32.ofInt z) : i.toInt < low ∨ i.toInt > high := by
  by_cases a : i.toInt < low
  · exact Or.inl a
  · by_cases b : i.toInt > high
    · exact Or.inr b
    · exact absurd (by rw [Int32.ofInt_toInt]) (h i.toInt (by omega) (by omega))
theorem WP.moved (hs : ∀ (p : Program) (e : Env) (s : State) (m : MethodId) (args : Array Value) (below : List Frame) (meth : Method) (c : Code) (T : State) (locs : List Loc) (ad : Nat → Addr) (Ls : Array Slot), Stand p l e R s m args below meth c T locs k n → Am Z own mn bytes maxL ret p s m meth c → HR Z C lay n0 ro ad H T.heap → Fr n0 locs → LR ad L Ls → Ls.size = maxL →
      ∃ T' locs', Stand p l e R s m args below meth c T' locs' k' n' ∧ HR Z C lay n0 ro ad H' T'.heap ∧ Kp ad H.length T.heap T'.heap ∧ Fr n0 locs' ∧ ∀ t, Steps p.tables e below (T'.setTop (mkF m pc' Ls (S'.map (rf ad)))) t → Steps p.tables e below (T.setTop (mkF m pc Ls (S.map (rf ad)))) t)
    (nx : WP l Z C lay own mn bytes maxL ret R n0 ro Q k' n' pc' L S' H') : WP l Z C lay own mn bytes maxL ret R n0 ro Q k n pc L S H := by
  intro p e s m args below meth c T locs ad Ls X A hr N hL hz
  obtain ⟨T', locs', X', hr', K, N', st⟩ := hs p e s m args below meth c T locs ad Ls X A hr N hL hz
  obtain ⟨s₂, v, H2, locs2, h1, h2, h3, h4, h5, h6, h7⟩ := nx p e s m args below meth c T' locs' ad Ls X' A hr' N' hL hz
  exact ⟨s₂, v, H2, locs2, st _ h1, h2, h3, h4, h5, Kp.trans hr K h6, h7⟩
theorem WP.getfield {idx i j : Nat} {f d : String} {vs : List Value} {v : Value} (hd : decode bytes pc = .ok (.getfield idx, 3)) (hw : (Cond.fieldLink own idx C f d).before a0 Z = true) (hj : lay[j]? = some (f, d)) (hH : H[i]? = some (.inl vs)) (hv : vs[j]? = some v) (nx : WP l Z C lay own mn bytes maxL ret R n0 ro Q k n (pc + 3) L (v :: S) H) : WP l Z C lay own mn bytes maxL ret R n0 ro Q k n pc L (.ref i :: S) H :=
  WP.moved (fun p e s m args below meth c T locs ad Ls X A hr N hL hz => by
    have F := (hr.1 i _ hH).2 j _ v hj hv
    obtain ⟨T', X', e', st⟩ := getF X A.1 A.2.1 A.2.2.2.2.2.2.1 (host := "") (Or.inl hw) Via.refl rfl F (g := mkF m pc Ls (.ref (ad i) :: S.map (rf ad))) rfl rfl (hb A.2.2.1 hd)
    exact ⟨T', locs, X', by rw [e']; exact hr, by rw [e']; exact Kp.refl _ _ _, N, fun t ht => st t ht⟩) nx
theorem WP.iaload {i : Nat} {xs : List Int32} {j x : Int32} (hd : decode bytes pc = .ok (.iaload, 1)) (hH : H[i]? = some (cI xs)) (hx : rd xs j = some x) (nx : WP l Z C lay own mn bytes maxL ret R n0 ro Q k n (pc + 1) L (.int x :: S) H) : WP l Z C lay own mn bytes maxL ret R n0 ro Q k n pc L (.int j :: .ref i :: S) H :=
  WP.moved (fun p e s m args below meth c T locs ad Ls X A hr N hL hz => by
    obtain ⟨cl, Ar, hsl⟩ := hr.1 i _ hH
    obtain ⟨q1, q2⟩ := rd_slots hsl hx
    exact ⟨T, locs, X, hr, Kp.refl _ _ _, N, fun t ht => X.iaload A.1 (j := j) Ar.1 (State.isArrayOf_alike A.2.1.alike Ar.2.1) Ar.2.2 q1 q2 (g := mkF m pc Ls (.int j :: .ref (ad i) :: S.map (rf ad))) rfl rfl (hb A.2.2.1 hd) _ ht⟩) nx
theorem WP.laload {i : Nat} {xs : List Int64} {j : Int32} {x : Int64} (hd : decode bytes pc = .ok (.laload, 1)) (hH : H[i]? = some (cJ xs)) (hx : rd xs j = some x) (nx : WP l Z C lay own mn bytes maxL ret R n0 ro Q k n (pc + 1) L (.long x :: S) H) : WP l Z C lay own mn bytes maxL ret R n0 ro Q k n pc L (.int j :: .ref i :: S) H :=
  WP.moved (fun p e s m args below meth c T locs ad Ls X A hr N hL hz => by
    obtain ⟨cl, Ar, hsl⟩ := hr.1 i _ hH
    obtain ⟨q1, q2⟩ := rd_slots hsl hx
    exact ⟨T, locs, X, hr, Kp.refl _ _ _, N, fun t ht => X.laload A.1 (j := j) Ar.1 (State.isArrayOf_alike A.2.1.alike Ar.2.1) Ar.2.2 q1 q2 (g := mkF m pc Ls (.int j :: .ref (ad i) :: S.map (rf ad))) rfl rfl (hb A.2.2.1 hd) _ ht⟩) nx
theorem baloadZ {p : Program} {e : Env} {s : State} {m : MethodId} {args : Array Value} {below : List Frame} {meth : Method} {c : Code} {T : State} {locs : List Loc} {cells slots : Nat} (X : Stand p l e R s m args below meth c T locs cells slots) (hexec : p.tables.exec = Jvm.exec) {a : Addr} {cell : Cell} {j : Int32} {v : Value} (hcell : T.heap[a]? = some cell) (harr : s.isArrayOf cell .boolean) (hknown : cell.vm ≠ .unknown)
    (hin : ¬ (j < 0 ∨ cell.slots.size ≤ j.toNatClampNeg)) (hv : cell.slots[j.toNatClampNeg]? = some v) {g : JFrame} (hg : g.method = m) {rest : List Value} (hstack : g.stack = .int j :: .ref a :: rest) (hdg : decode c.code g.pc = .ok (.baload, 1)) (target : State)
    (hrest : Steps p.tables e below (T.setTop { g with pc := g.pc + 1, stack := v :: rest }) target) : Steps p.tables e below (T.setTop g) target := by
  have hT := State.isArrayOf_alike X.warmed.alike harr
  subst hg
  jvm_step X.here [hexec, hdg, baload.wp_booleans (e := e) (s := T) (f := g) X.here.top hstack hcell hT hin hknown hv]
  exact hrest
theorem WP.baload {i : Nat} {xs : List Int32} {j x : Int32} (hd : decode bytes pc = .ok (.baload, 1)) (hH : H[i]? = some (cZ xs)) (hx : rd xs j = some x) (nx : WP l Z C lay own mn bytes maxL ret R n0 ro Q k n (pc + 1) L (.int x :: S) H) : WP l Z C lay own mn bytes maxL ret R n0 ro Q k n pc L (.int j :: .ref i :: S) H :=
  WP.moved (fun p e s m args below meth c T locs ad Ls X A hr N hL hz => by
    obtain ⟨cl, Ar, hsl⟩ := hr.1 i _ hH
    obtain ⟨q1, q2⟩ := rd_slots hsl hx
    exact ⟨T, locs, X, hr, Kp.refl _ _ _, N, fun t ht => baloadZ X A.1 (j := j) Ar.1 (State.isArrayOf_alike A.2.1.alike Ar.2.1) Ar.2.2 q1 q2 (g := mkF m pc Ls (.int j :: .ref (ad i) :: S.map (rf ad))) rfl rfl (hb A.2.2.1 hd) _ ht⟩) nx
theorem WP.arraylength {i : Nat} {xs : List Int32} (hd : decode bytes pc = .ok (.arraylength, 1)) (hH : H[i]? = some (cI xs)) (nx : WP l Z C lay own mn bytes maxL ret R n0 ro Q k n (pc + 1) L (.int xs.length.toInt32 :: S) H) : WP l Z C lay own mn bytes maxL ret R n0 ro Q k n pc L (.ref i :: S) H :=
  WP.moved (fun p e s m args below meth c T locs ad Ls X A hr N hL hz => by
    obtain ⟨cl, Ar, hsl⟩ := hr.1 i _ hH
    have e1 : cl.slots.size = xs.length := by rw [← Array.length_toList, hsl, List.length_map]
    refine ⟨T, locs, X, hr, Kp.refl _ _ _, N, fun t ht => X.arraylength A.1 Ar.1 (State.isArrayOf_alike A.2.1.alike Ar.2.1) (g := mkF m pc Ls (.ref (ad i) :: S.map (rf ad))) rfl rfl (hb A.2.2.1 hd) _ ?_⟩
    rw [e1]; exact ht) nx
theorem WP.iastore {i : Nat} {xs xs' : List Int32} {j : Int32} {x : Int32} (hd : decode bytes pc = .ok (.iastore, 1)) (hH : H[i]? = some (cI xs)) (hi : ro ≤ i) (hx : wr xs j x = some xs') (hH' : H.set i (cI xs') = H') (nx : WP l Z C lay own mn bytes maxL ret R n0 ro Q k n (pc + 1) L S H') : WP l Z C lay own mn bytes maxL ret R n0 ro Q k n pc L (.int x :: .int j :: .ref i :: S) H :=
  WP.moved (fun p e s m args below meth c T locs ad Ls X A hr N hL hz => by
    obtain ⟨cl, Ar, hsl⟩ := hr.1 i _ hH
    obtain ⟨q1, q2⟩ := wr_slots hsl hx
    obtain ⟨T', h', X', e', w, st⟩ := stI X A.1 A.2.1 rfl Ar (j := j) (x := x) q1 (g := mkF m pc Ls (.int x :: .int j :: .ref (ad i) :: S.map (rf ad))) rfl rfl (hb A.2.2.1 hd)
    subst e'
    have hi' := get_lt hH
    have P := hr.put (h' := T'.heap) (c := cI xs') hi' w.size (fun a cz hne q => by
      obtain ⟨c', g1, -, -, -, g5, -⟩ := wr_at w q
      rw [g5 hne] at g1; exact g1) ⟨_, Ar.same w, q2⟩
    exact ⟨T', _, X', hH' ▸ P.1, P.2, Fr.snoc X' N (hr.2.2.2.1 i hi' hi), fun t ht => st t ht⟩) nx
theorem WP.lastore {i : Nat} {xs xs' : List Int64} {j : Int32} {x : Int64} (hd : decode bytes pc = .ok (.lastore, 1)) (hH : H[i]? = some (cJ xs)) (hi : ro ≤ i) (hx : wr xs j x = some xs') (hH' : H.set i (cJ xs') = H') (nx : WP l Z C lay own mn bytes maxL ret R n0 ro Q k n (pc + 1) L S H') : WP l Z C lay own mn bytes maxL ret R n0 ro Q k n pc L (.long x :: .int j :: .ref i :: S) H :=
  WP.moved (fun p e s m args below meth c T locs ad Ls X A hr N hL hz => by
    obtain ⟨cl, Ar, hsl⟩ := hr.1 i _ hH
    obtain ⟨q1, q2⟩ := wr_slots hsl hx
    obtain ⟨T', h', X', e', w, st⟩ := stJ X A.1 A.2.1 rfl Ar (j := j) (x := x) q1 (g := mkF m pc Ls (.long x :: .int j :: .ref (ad i) :: S.map (rf ad))) rfl rfl (hb A.2.2.1 hd)
    subst e'
    have hi' := get_lt hH
    have P := hr.put (h' := T'.heap) (c := cJ xs') hi' w.size (fun a cz hne q => by
      obtain ⟨c', g1, -, -, -, g5, -⟩ := wr_at w q
      rw [g5 hne] at g1; exact g1) ⟨_, Ar.same w, q2⟩
    exact ⟨T', _, X', hH' ▸ P.1, P.2, Fr.snoc X' N (hr.2.2.2.1 i hi' hi), fun t ht => st t ht⟩) nx
theorem WP.bastore {i : Nat} {xs xs' : List Int32} {j : Int32} {x : Int32} (hd : decode bytes pc = .ok (.bastore, 1)) (hH : H[i]? = some (cZ xs)) (hi : ro ≤ i) (hx : wr xs j (x &&& 1) = some xs') (hH' : H.set i (cZ xs') = H') (nx : WP l Z C lay own mn bytes maxL ret R n0 ro Q k n (pc + 1) L S H') : WP l Z C lay own mn bytes maxL ret R n0 ro Q k n pc L (.int x :: .int j :: .ref i :: S) H :=
  WP.moved (fun p e s m args below meth c T locs ad Ls X A hr N hL hz => by
    obtain ⟨cl, Ar, hsl⟩ := hr.1 i _ hH
    obtain ⟨q1, q2⟩ := wr_slots hsl hx
    obtain ⟨T', h', X', e', w, st⟩ := stZ X A.1 A.2.1 rfl Ar (j := j) (x := x) q1 (g := mkF m pc Ls (.int x :: .int j :: .ref (ad i) :: S.map (rf ad))) rfl rfl (hb A.2.2.1 hd)
    subst e'
    have hi' := get_lt hH
    have P := hr.put (h' := T'.heap) (c := cZ xs') hi' w.size (fun a cz hne q => by
      obtain ⟨c', g1, -, -, -, g5, -⟩ := wr_at w q
      rw [g5 hne] at g1; exact g1) ⟨_, Ar.same w, q2⟩
    exact ⟨T', _, X', hH' ▸ P.1, P.2, Fr.snoc X' N (hr.2.2.2.1 i hi' hi), fun t ht => st t ht⟩) nx
/-- a field of the one class is written -/
theorem WP.put {idx i j kk : Nat} {f d : String} {vs : List Value} {v v' old : Value} {ty : FieldType} (hd : decode bytes pc = .ok (.putfield idx, 3)) (hw : (Cond.fieldLink own idx C f d).before a0 Z = true) (hl : (Cond.lays C C f d).before a0 Z = true ∨ ((Cond.laysFinal C C f d).before a0 Z = true ∧ own = C ∧ mn = "<init>")) (wi : (Cond.instantiable C kk).before a0 Z = true)
    (hlay : ∀ (a b : Nat) (f g : String × String), lay[a]? = some f → lay[b]? = some g → a ≠ b → RoadKit.slotOf Z C f.1 f.2 ≠ RoadKit.slotOf Z C g.1 g.2) (hty : parseFieldDescriptor d = some ty) (hn : ∀ ad, narrow ty (rf ad v) = rf ad v') (hf : ∀ ad, fits ty (rf ad v') = true)
    (hj : lay[j]? = some (f, d)) (hH : H[i]? = some (.inl vs)) (hv : vs[j]? = some old) (hi : ro ≤ i) (hH' : H.set i (.inl (vs.set j v')) = H') (nx : WP l Z C lay own mn bytes maxL ret R n0 ro Q k n (pc + 3) L S H') : WP l Z C lay own mn bytes maxL ret R n0 ro Q k n pc L (v :: .ref i :: S) H :=
  WP.moved (fun p e s m args below meth c T locs ad Ls X A hr N hL hz => by
    obtain ⟨E, F⟩ := hr.1 i _ hH
    obtain ⟨T', h', X', e', w, st⟩ := putFN X A.1 A.2.1 A.2.2.2.2.2.2.1 hw Via.refl rfl (F j _ old hj hv) E (hl.imp id fun q => ⟨q.1, q.2.1, A.2.2.2.2.2.2.2.trans q.2.2⟩) wi hty (hn ad) (hf ad) (g := mkF m pc Ls (rf ad v :: .ref (ad i) :: S.map (rf ad))) rfl rfl (hb A.2.2.1 hd)
    subst e'
    have hi' := get_lt hH
    have P := hr.put (h' := T'.heap) (c := .inl (vs.set j v')) hi' w.size (fun a cz hne q => by
      obtain ⟨c', g1, -, -, -, g5, -⟩ := wr_at w q
      rw [g5 hne] at g1; exact g1) ⟨E.wr w, fun a g u hg hu => by
        rw [List.getElem?_set] at hu
        by_cases e : j = a
        · subst e
          cases hj.symm.trans hg
          rw [if_pos rfl, if_pos (get_lt hv)] at hu
          cases hu
          exact (F j _ old hj hv).same w
        · rw [if_neg e] at hu
          exact (F a g u hg hu).other w (Or.inr (hlay a j g (f, d) hg hj (Ne.symm e)))⟩
    exact ⟨T', _, X', hH' ▸ P.1, P.2, Fr.snoc X' N (hr.2.2.2.1 i hi' hi), fun t ht => st t ht⟩) nx
/-- newarray -/
theorem WP.newarray {aty : ArrayType} {c0 : OwnC} {cnt : Int32} (hd : decode bytes pc = .ok (.newarray aty, 2)) (hw : (Cond.arrayClass (newarray.typeOf aty)).before a0 Z = true) (hn : ¬ cnt < 0) (hb8 : cnt.toNatClampNeg * 8 ≤ 536870912) (hc : k + 1 ≤ R.cells) (hl : n + cnt.toNatClampNeg ≤ R.slots)
    (h0 : (aty = .int ∧ c0 = cI (List.replicate cnt.toNatClampNeg 0)) ∨ (aty = .long ∧ c0 = cJ (List.replicate cnt.toNatClampNeg 0)) ∨ (aty = .boolean ∧ c0 = cZ (List.replicate cnt.toNatClampNeg 0)))
    (nx : WP l Z C lay own mn bytes maxL ret R n0 ro Q (k + 1) (n + cnt.toNatClampNeg) (pc + 2) L (.ref H.length :: S) (H ++ [c0])) : WP l Z C lay own mn bytes maxL ret R n0 ro Q k n pc L (.int cnt :: S) H :=
  WP.moved (fun p e s m args below meth c T locs ad Ls X A hr N hL hz => by
    have hcb : componentBytes (newarray.typeOf aty) ≤ 8 := by cases aty <;> decide
    obtain ⟨cA, kA, comp, h1, h2, h3, X', st⟩ := X.newarrayPrim A.1 (mvA A.2.1 hw) (g := mkF m pc Ls (.int cnt :: S.map (rf ad))) rfl (hb A.2.2.1 hd) rfl hn (Nat.le_trans (Nat.mul_le_mul (Nat.le_refl _) hcb) hb8) hc hl
    rw [A.2.1.alike.findClass] at h1
    obtain ⟨kZ, z1, -⟩ := Vm.findClass_spec h1
    obtain ⟨k', z2, z3⟩ := A.2.1.alike.2.2 _ _ z1
    cases h2.symm.trans z2
    have hE : Ext T.heap (T.heap.push { cls := cA, slots := Array.replicate cnt.toNatClampNeg (defaultValue (newarray.typeOf aty)), vm := .none }) := ⟨by simp, fun a c h => by
      rw [Array.getElem?_push_lt (Array.getElem?_eq_some_iff.mp h).1]; exact (Array.getElem?_eq_getElem _).symm.trans h⟩
    have Ar : Arr Z (T.heap.push { cls := cA, slots := Array.replicate cnt.toNatClampNeg (defaultValue (newarray.typeOf aty)), vm := .none }) T.heap.size { cls := cA, slots := Array.replicate cnt.toNatClampNeg (defaultValue (newarray.typeOf aty)), vm := .none } (newarray.typeOf aty) :=
      ⟨by simp, ⟨by simp, kZ, z1, comp, by rw [← h3, z3]⟩, by simp⟩
    have hc0 : CelOk Z C lay ad (T.heap.push { cls := cA, slots := Array.replicate cnt.toNatClampNeg (defaultValue (newarray.typeOf aty)), vm := .none }) T.heap.size c0 := by
      rcases h0 with ⟨rfl, rfl⟩ | ⟨rfl, rfl⟩ | ⟨rfl, rfl⟩
      all_goals exact ⟨_, Ar, by simp [defaultValue, newarray.typeOf]⟩
    have P := hr.push (h' := T.heap.push _) (by simp) hE hc0
    refine ⟨_, locs, X', P.1, P.2.1, N, fun t ht => st t ?_⟩
    have e0 : (List.map (rf ad) (.ref H.length :: S)) = .ref T.heap.size :: S.map (rf ad) := by show (Value.ref (ad H.length) :: _) = _; rw [P.2.2]
    rw [e0] at ht; exact ht) nx
theorem rf_default (ad : Nat → Addr) (ty : FieldType) : rf ad (defaultValue ty) = defaultValue ty := by cases ty <;> rfl
/-- new -/
theorem WP.new {idx kk : Nat} {vs : List Value} (hd : decode bytes pc = .ok (.new idx, 3)) (hw : (Cond.classLink own idx C).before a0 Z = true) (wi : (Cond.instantiable C kk).before a0 Z = true) (wz : (Cond.initialized C).before a0 Z = true) (hc : k + 1 ≤ R.cells) (hl : n + kk ≤ R.slots)
    (h0 : ∀ (i : Nat) (f : String × String) (v : Value), lay[i]? = some f → vs[i]? = some v → Laid Z a0 C C f.1 f.2 ∧ ∃ ty, parseFieldDescriptor f.2 = some ty ∧ v = defaultValue ty)
    (nx : WP l Z C lay own mn bytes maxL ret R n0 ro Q (k + 1) (n + kk) (pc + 3) L (.ref H.length :: S) (H ++ [.inl vs])) : WP l Z C lay own mn bytes maxL ret R n0 ro Q k n pc L S H :=
  WP.moved (fun p e s m args below meth c T locs ad Ls X A hr N hL hz => by
    obtain ⟨vm', cC, kC, h1, h2, h3, h4, X', st⟩ := X.newCold A.1 A.2.2.2.2.2.2.1 (mv A.2.1 hw) (mv A.2.1 wi) (mv A.2.1 wz) (g := mkF m pc Ls (S.map (rf ad))) rfl (hb A.2.2.1 hd) hc hl
    rw [A.2.1.alike.findClass] at h1
    obtain ⟨kZ, z1, -⟩ := Vm.findClass_spec h1
    obtain ⟨k', z2, z3⟩ := A.2.1.alike.2.2 _ _ z1
    cases h2.symm.trans z2
    have ei : kC.instanceTypes = kZ.instanceTypes := by rw [z3]
    have hN : (T.heap.push { cls := cC, slots := kC.instanceTypes.map defaultValue, vm := .none })[T.heap.size]? = some { cls := cC, slots := kC.instanceTypes.map defaultValue, vm := .none } := by simp
    have hE : Ext T.heap (T.heap.push { cls := cC, slots := kC.instanceTypes.map defaultValue, vm := .none }) := ⟨by simp, fun a c h => by
      rw [Array.getElem?_push_lt (Array.getElem?_eq_some_iff.mp h).1]; exact (Array.getElem?_eq_getElem _).symm.trans h⟩
    have hc0 : CelOk Z C lay ad (T.heap.push { cls := cC, slots := kC.instanceTypes.map defaultValue, vm := .none }) T.heap.size (.inl vs) := by
      refine ⟨⟨_, kZ, hN, h1, z1, rfl, fun _ => by simp [ei]⟩, fun i f v hf hv => ?_⟩
      obtain ⟨La, ty, ht, rfl⟩ := h0 i f v hf hv
      obtain ⟨c1, k1, cf, kf, i1, f1, a1, a2, a3, a4, a5, a6, -⟩ := La.spec
      cases h1.symm.trans a1
      cases z1.symm.trans a2
      rw [rf_default]
      exact ⟨_, cf, kf, i1, f1, hN, a3, a4, by simp, rfl, a5, by simp [ei, a6, (State.fieldFound?_type a3 ht).2]⟩
    have P := hr.push (h' := T.heap.push _) (by simp) hE hc0
    refine ⟨_, locs, X', P.1, P.2.1, N, fun t ht => st t ?_⟩
    have e0 : (List.map (rf ad) (.ref H.length :: S)) = .ref T.heap.size :: S.map (rf ad) := by show (Value.ref (ad H.length) :: _) = _; rw [P.2.2]
    rw [e0] at ht; exact ht) nx
/-- Object.<init> -/
theorem WP.initO {idx i : Nat} (hd : decode bytes pc = .ok (.invokespecial idx, 3)) (w1 : (Cond.methodLink own idx Lib.objectInit).before a0 Z = true) (w2 : (Cond.instanceMethod Lib.objectInit).before a0 Z = true) (w3 : (Cond.code Lib.objectInit ⟨#[0xb1]⟩ 1 none).before a0 Z = true) (hf : 1 ≤ R.frames) (hl : (S.map fun v => v.category).sum + 12 ≤ R.locals)
    (nx : WP l Z C lay own mn bytes maxL ret R n0 ro Q k n (pc + 3) L S H) : WP l Z C lay own mn bytes maxL ret R n0 ro Q k n pc L (.ref i :: S) H :=
  WP.moved (fun p e s m args below meth c T locs ad Ls X A hr N hL hz => by
    obtain ⟨T', X', e', st⟩ := RoadKit.initO X A.1 A.2.1 A.2.2.2.2.2.2.1 w1 w2 w3 rfl (g := mkF m pc Ls (.ref (ad i) :: S.map (rf ad))) rfl (hz.trans A.2.2.2.1.symm) rfl (hb A.2.2.1 hd) hf (W := (S.map fun v => v.category).sum) (by show 2 * 0 + _ ≤ _; rw [rf_cats]; omega) hl
    exact ⟨T', locs, X', by rw [e']; exact hr, by rw [e']; exact Kp.refl _ _ _, N, fun t ht => st t ht⟩) nx
theorem WP.leave {v : Option Value} (hk : k ≤ R.cells) (hn : n ≤ R.slots) (hv : ret = none → v = none) (hq : Q v H)
    (hs : ∀ (p : Program) (e : Env) (s : State) (m : MethodId) (args : Array Value) (below : List Frame) (meth : Method) (c : Code) (T : State) (locs : List Loc) (ad : Nat → Addr) (Ls : Array Slot) (fs : List Frame), Stand p l e R s m args below meth c T locs k n → Am Z own mn bytes maxL ret p s m meth c →
      (∀ (f : JFrame) (acts : List Action), f.method = m → f.locked = none → f.entered = [] → (doReturn e (T.setTop f) acts (v.map (rf ad))).1 = T.setFrames fs) → Steps p.tables e below (T.setTop (mkF m pc Ls (S.map (rf ad)))) (T.setFrames fs)) : WP l Z C lay own mn bytes maxL ret R n0 ro Q k n pc L S H := by
  intro p e s m args below meth c T locs ad Ls X A hr N hL hz
  obtain ⟨fs, hr', hrun, hended, hW, hsame⟩ := X.leave (v := v.map (rf ad)) (fun q => by rw [hv (A.2.2.2.2.1.symm.trans q)]; rfl) A.2.2.2.2.2.1
  exact ⟨_, v, H, locs, hs p e s m args below meth c T locs ad Ls fs X A hr', hrun, hended, hq, hr, Kp.refl _ _ _, N, ⟨_, rfl⟩, hW, hsame.mono hk hn⟩
theorem retI' {p : Program} {e : Env} {s : State} {m : MethodId} {args : Array Value} {below : List Frame} {meth : Method} {c : Code} {T : State} {locs : List Loc} {cells slots : Nat} (X : Stand p l e R s m args below meth c T locs cells slots) (hx : p.tables.exec = Jvm.exec) {pc : Nat} {Ls : Array Slot} {z : Int32} {rest : List Value} (hret : meth.sig.returnType = some .int) (hd : decode c.code pc = .ok (.ireturn, 1)) {fs : List Frame}
    (hl : ∀ (f : JFrame) (acts : List Action), f.method = m → f.locked = none → f.entered = [] → (doReturn e (T.setTop f) acts (some (.int z))).1 = T.setFrames fs) : Steps p.tables e below (T.setTop (mkF m pc Ls (.int z :: rest))) (T.setFrames fs) := by
  have hm' : T.vm.method? m = some meth := X.method'
  have hn : narrow .int (.int z) = .int z := rfl
  show Steps p.tables e below (T.setTop { method := m, pc := pc, locals := Ls, stack := _ :: rest, locked := none }) _
  jvm_step X.here [X.here.top, hx, hd, hm', hret, hn]
  first | (intro acts; rw [hl _ acts rfl rfl rfl]) | rw [hl _ _ rfl rfl rfl]
  exact Steps.refl _
theorem WP.ireturn {x : Int32} (hd : decode bytes pc = .ok (.ireturn, 1)) (hret : ret = some .int) (hk : k ≤ R.cells) (hn : n ≤ R.slots) (hq : Q (some (.int x)) H) : WP l Z C lay own mn bytes maxL ret R n0 ro Q k n pc L (.int x :: S) H :=
  WP.leave (v := some (.int x)) hk hn (fun q => by rw [hret] at q; cases q) hq fun p e s m args below meth c T locs ad Ls fs X A hr' => retI' X A.1 (A.2.2.2.2.1.trans hret) (hb A.2.2.1 hd) hr'
theorem WP.zreturn {x : Int32} (hd : decode bytes pc = .ok (.ireturn, 1)) (hret : ret = some .boolean) (hk : k ≤ R.cells) (hn : n ≤ R.slots) (hq : Q (some (.int (x &&& 1))) H) : WP l Z C lay own mn bytes maxL ret R n0 ro Q k n pc L (.int x :: S) H :=
  WP.leave (v := some (.int (x &&& 1))) hk hn (fun q => by rw [hret] at q; cases q) hq fun p e s m args below meth c T locs ad Ls fs X A hr' => retN X A.1 (t := .boolean) (A.2.2.2.2.1.trans hret) (Or.inl rfl) (hb A.2.2.1 hd) hr'
theorem WP.lreturn {x : Int64} (hd : decode bytes pc = .ok (.lreturn, 1)) (hret : ret = some .long) (hk : k ≤ R.cells) (hn : n ≤ R.slots) (hq : Q (some (.long x)) H) : WP l Z C lay own mn bytes maxL ret R n0 ro Q k n pc L [.long x] H :=
  WP.leave (v := some (.long x)) hk hn (fun q => by rw [hret] at q; cases q) hq fun p e s m args below meth c T locs ad Ls fs X A hr' => X.lreturnOut A.1 (A.2.2.2.2.1.trans hret) (hb A.2.2.1 hd) hr'
theorem WP.vreturn (hd : decode bytes pc = .ok (.return_, 1)) (hret : ret = none) (hk : k ≤ R.cells) (hn : n ≤ R.slots) (hq : Q none H) : WP l Z C lay own mn bytes maxL ret R n0 ro Q k n pc L [] H :=
  WP.leave (v := none) hk hn (fun _ => rfl) hq fun p e s m args below meth c T locs ad Ls fs X A hr' => X.returnOut A.1 (A.2.2.2.2.1.trans hret) (hb A.2.2.1 hd) hr'
end Rules
/-! ## a callee's promise, said of the small view -/
def QQ (Z : State) (C : String) (lay : List (String × String)) (n0 ro : Nat) (ad : Nat → Addr) (N : Nat) (h : Heap) (Q : Option Value → List OwnC → Prop) (v : Option Value) (h' : Heap) (L : List Loc) : Prop :=
  ∃ w H', v = w.map (rf ad) ∧ Q w H' ∧ HR Z C lay n0 ro ad H' h' ∧ Kp ad N h h' ∧ Fr n0 L
def CS (l : Launch) (Z : State) (C : String) (lay : List (String × String)) (y : MethodName) (bytes : ByteArray) (maxL : Nat) (ret : Option FieldType) (R : Room) (ro : Nat) (as : List Value) (H : List OwnC) (Q : Option Value → List OwnC → Prop) : Prop :=
  ∀ (ws : List Cond) (n0 : Nat) (ad : Nat → Addr) (h : Heap), HR Z C lay n0 ro ad H h →
    MetFree l y (head1 (Cond.code y bytes maxL ret :: ws) R) (fun a U => a = (as.map (rf ad)).toArray ∧ Z.Warmed39 U.vm ∧ U.heap = h) (fun _ _ _ _ _ => True)
      (fun _ U o U' => ∃ v L, o = .returned v ∧ QQ Z C lay n0 ro ad H.length h Q v U'.heap L ∧ FrameEnd U o U' L R.cells R.slots)
section Calls
variable {l : Launch} {Z : State} {a0 : Array Value} {C : String} {lay : List (String × String)} {own mn : String} {bytes cb : ByteArray} {maxL cm : Nat} {ret cr : Option FieldType} {R Rc : Room} {n0 ro : Nat} {Q Qc : Option Value → List OwnC → Prop} {k n pc pc' : Nat} {L L' : List Slot} {S S0 as : List Value} {H H' : List OwnC} {y : MethodName}
theorem CS.of_wp (hx : plainName y.cls = true) (hn : (laid as).length ≤ maxL) (w : ∀ n0, WP l Z C lay y.cls y.name bytes maxL ret R n0 ro Q 0 0 0 (entL as maxL) [] H) : CS l Z C lay y bytes maxL ret R ro as H Q := by
  intro ws n0 ad h hr
  refine MetFree.of_bodySF (plainFor_of_name hx) hisR ?_
  intro p e s m args below meth c s₁ Bd hml0 hP hK
  obtain ⟨rfl, hZ, hh⟩ := hP
  have e0 : s₁.heap = h := by rw [← hh, Bd.state]; rfl
  obtain ⟨E1, E2⟩ := entry_LR ad as maxL hn
  obtain ⟨s₂, v, H', locs', h1, h2, h3, h4, h5, h6, h7, h8⟩ := w n0 p e s m _ below meth c s₁ [] ad _ (Stand.of_body Bd) ⟨Bd.exec, hZ, Bd.bytes, hml0, Bd.returns, Bd.notSynchronized, findClass_of_methodNamed Bd.named, (name_of_methodNamed Bd.named Bd.method).1⟩ (by rw [e0]; exact hr) (Fr.nil n0) E1 E2
  rw [e0] at h6
  exact ⟨s₂, _, h1, h2, h3, _, locs', rfl, ⟨v, H', rfl, h4, h5, h6, h7⟩, h8⟩
theorem CS.mono (cs : CS l Z C lay y bytes maxL ret R ro as H Q) (h : ∀ v H', Q v H' → Qc v H') : CS l Z C lay y bytes maxL ret R ro as H Qc := by
  intro ws n0 ad hh hr p e ha hc hk s m args below hf happ hP hK
  obtain ⟨N, o, h1, h2, h3, v, L, h4, ⟨w, H', g1, g2, g3⟩, h5⟩ := cs ws n0 ad hh hr p e ha hc hk s m args below hf happ hP hK
  exact ⟨N, o, h1, h2, h3, v, L, h4, ⟨w, H', g1, h _ _ g2, g3⟩, h5⟩
/-- what every call leaves: the walk goes on behind it -/
theorem go_on {p : Program} {e : Env} {s : State} {m : MethodId} {args : Array Value} {below : List Frame} {meth : Method} {c : Code} {T : State} {locs : List Loc} {ad : Nat → Addr} {Ls : Array Slot} {B : Pt} {v : Option Value} {Lc : List Loc} {s₀ : State}
    (nx : ∀ v H', Qc v H' → WP l Z C lay own mn bytes maxL ret R n0 ro Q (k + Rc.cells) (n + Rc.slots) (pc + 3) L (v.toList ++ S) H') (X : Stand p l e R s m args below meth c B.U B.locs B.cells B.slots) (A : Am Z own mn bytes maxL ret p s m meth c) (hr : HR Z C lay n0 ro ad H T.heap) (N : Fr n0 locs) (hL : LR ad L Ls) (hz : Ls.size = maxL)
    (hQ : QQ Z C lay n0 ro ad H.length T.heap Qc v B.U.heap Lc) (e1 : B.locs = locs ++ Lc) (e2 : B.cells = k + Rc.cells) (e3 : B.slots = n + Rc.slots) (st : Steps p.tables e below s₀ (B.U.setTop (mkF m (pc + 3) Ls (v.toList ++ S.map (rf ad))))) :
    ∃ (s₂ : State) (v : Option Value) (H' : List OwnC) (locs' : List Loc), Steps p.tables e below s₀ s₂ ∧ s₂.status = .running ∧ Ended s₂ below (.returned (v.map (rf ad))) ∧ Q v H' ∧ HR Z C lay n0 ro ad H' s₂.heap ∧ Kp ad H.length T.heap s₂.heap ∧ Fr n0 locs' ∧ FrameEnd s (.returned (v.map (rf ad))) s₂ locs' R.cells R.slots := by
  obtain ⟨w, H1, rfl, g2, g3, g4, g5⟩ := hQ
  rw [e1, e2, e3] at X
  obtain ⟨s₂, v, H2, locs2, h1, h2, h3, h4, h5, h6, h7⟩ := nx w H1 g2 p e s m args below meth c B.U _ ad Ls X A g3 (N.app g5) hL hz
  refine ⟨s₂, v, H2, locs2, st.trans ?_, h2, h3, h4, h5, Kp.trans hr g4 h6, h7⟩
  have e0 : (w.toList ++ S).map (rf ad) = (w.map (rf ad)).toList ++ S.map (rf ad) := by cases w <;> rfl
  rw [← e0]; exact h1
theorem stack_of (ad : Nat → Addr) (h : S0 = as.reverse ++ S) : S0.map (rf ad) = (as.map (rf ad)).reverse ++ S.map (rf ad) := by rw [h, List.map_append, List.map_reverse]
theorem stack_of1 {i : Nat} (ad : Nat → Addr) (h : S0 = as.reverse ++ .ref i :: S) : S0.map (rf ad) = (as.map (rf ad)).reverse ++ .ref (ad i) :: S.map (rf ad) := by rw [h, List.map_append, List.map_reverse]; rfl
theorem WP.callS {idx : Nat} (hd : decode bytes pc = .ok (.invokestatic idx, 3)) (w1 : (Cond.methodLink own idx y).before a0 Z = true) (w2 : (Cond.static y).before a0 Z = true) (w3 : (Cond.initialized y.cls).before a0 Z = true) (w4 : (Cond.code y cb cm cr).before a0 Z = true) (hy : y.cls ≠ "java/lang/invoke/MethodHandle" ∧ y.cls ≠ "java/lang/invoke/VarHandle")
    (cs : CS l Z C lay y cb cm cr Rc ro as H Qc) (hS : S0 = as.reverse ++ S) (hlen : ∀ sig, parseMethodDescriptor y.desc = some sig → as.length = sig.parameters.length) (hf : Rc.frames + 1 ≤ R.frames) (hl : (S.map fun v => v.category).sum + (cm + 11) + Rc.locals ≤ R.locals) (hc : k + Rc.cells ≤ R.cells) (hs : n + Rc.slots ≤ R.slots)
    (nx : ∀ v H', Qc v H' → WP l Z C lay own mn bytes maxL ret R n0 ro Q (k + Rc.cells) (n + Rc.slots) (pc + 3) L (v.toList ++ S) H') : WP l Z C lay own mn bytes maxL ret R n0 ro Q k n pc L S0 H := by
  intro p e s m args below meth c T locs ad Ls X A hr N hL hz
  obtain ⟨v, vm₁, B, hW₁, X', ⟨Lc, hQ, e1, e2, e3⟩, st⟩ := Jvm.LawKit.callS X A.1 (y := y) A.2.2.2.2.2.2.1 (mvT A.2.1 w1) (mvT A.2.1 w2) (mvT A.2.1 w3) (mvT A.2.1 w4) hy
    (backOf (W := (S.map fun v => v.category).sum) (cs [] n0 ad T.heap hr) A.2.1 w4 w3 hf hl) (g := mkF m pc Ls (S0.map (rf ad))) rfl (hz.trans A.2.2.2.1.symm) (argsL := as.map (rf ad)) (rest := S.map (rf ad)) (fun sig q => by rw [List.length_map]; exact hlen sig q) (stack_of ad hS) (by show 2 * 0 + _ ≤ _; rw [rf_cats]; omega) (hb A.2.2.1 hd) (fun _ _ => ⟨rfl, rfl, hc, hs⟩)
  exact go_on (T := T) nx X' A hr N hL hz hQ e1 e2 e3 (st _ (Steps.refl _))
theorem WP.callV {idx i : Nat} {vs : List Value} (hd : decode bytes pc = .ok (.invokevirtual idx, 3)) (w1 : (Cond.methodLink own idx y).before a0 Z = true) (w2 : (Cond.declares y).before a0 Z = true) (w3 : (Cond.selects C y y).before a0 Z = true) (w4 : (Cond.instanceMethod y).before a0 Z = true) (w5 : (Cond.code y cb cm cr).before a0 Z = true) (w6 : (Cond.initialized y.cls).before a0 Z = true) (hy : y.cls ≠ "java/lang/invoke/MethodHandle" ∧ y.cls ≠ "java/lang/invoke/VarHandle")
    (hH : H[i]? = some (.inl vs)) (cs : CS l Z C lay y cb cm cr Rc ro (.ref i :: as) H Qc) (hS : S0 = as.reverse ++ .ref i :: S) (hlen : ∀ sig, parseMethodDescriptor y.desc = some sig → as.length = sig.parameters.length) (hf : Rc.frames + 1 ≤ R.frames) (hl : (S.map fun v => v.category).sum + (cm + 11) + Rc.locals ≤ R.locals) (hc : k + Rc.cells ≤ R.cells) (hs : n + Rc.slots ≤ R.slots)
    (nx : ∀ v H', Qc v H' → WP l Z C lay own mn bytes maxL ret R n0 ro Q (k + Rc.cells) (n + Rc.slots) (pc + 3) L (v.toList ++ S) H') : WP l Z C lay own mn bytes maxL ret R n0 ro Q k n pc L S0 H := by
  intro p e s m args below meth c T locs ad Ls X A hr N hL hz
  obtain ⟨cq, kq, qa, qb, qc⟩ := isOf A.2.1 rfl (hr.1 i _ hH).1
  obtain ⟨v, vm₁, B, hW₁, X', ⟨Lc, hQ, e1, e2, e3⟩, st⟩ := X.virtualBack A.1 (y := y) (z := y) A.2.2.2.2.2.2.1 (mvT A.2.1 w1) (mvT A.2.1 w2) (notFace_of_selects (args := #[]) (mvT A.2.1 w3)) (mvT A.2.1 w3) (mvT A.2.1 w4) hy
    (backOf (W := (S.map fun v => v.category).sum) (cs [] n0 ad T.heap hr) A.2.1 w5 w6 hf hl) qa qc (g := mkF m pc Ls (S0.map (rf ad))) rfl (hz.trans A.2.2.2.1.symm) (Steps.refl _) (argsL := as.map (rf ad)) (rest := S.map (rf ad)) (fun sig q => by rw [List.length_map]; exact hlen sig q) (stack_of1 ad hS) (by show 2 * 0 + _ ≤ _; rw [rf_cats]; omega) (hb A.2.2.1 hd) (fun _ _ => ⟨rfl, rfl, hc, hs⟩)
  exact go_on (T := T) nx X' A hr N hL hz hQ e1 e2 e3 st
theorem WP.callP {idx i kk : Nat} {vs : List Value} (hd : decode bytes pc = .ok (.invokevirtual idx, 3)) (w1 : (Cond.methodLink own idx y).before a0 Z = true) (w2 : (Cond.privateMethod y).before a0 Z = true) (wi : (Cond.instantiable y.cls kk).before a0 Z = true) (w4 : (Cond.instanceMethod y).before a0 Z = true) (w5 : (Cond.code y cb cm cr).before a0 Z = true) (w6 : (Cond.initialized y.cls).before a0 Z = true) (hy : y.cls ≠ "java/lang/invoke/MethodHandle" ∧ y.cls ≠ "java/lang/invoke/VarHandle")
    (hH : H[i]? = some (.inl vs)) (cs : CS l Z C lay y cb cm cr Rc ro (.ref i :: as) H Qc) (hS : S0 = as.reverse ++ .ref i :: S) (hlen : ∀ sig, parseMethodDescriptor y.desc = some sig → as.length = sig.parameters.length) (hf : Rc.frames + 1 ≤ R.frames) (hl : (S.map fun v => v.category).sum + (cm + 11) + Rc.locals ≤ R.locals) (hc : k + Rc.cells ≤ R.cells) (hs : n + Rc.slots ≤ R.slots)
    (nx : ∀ v H', Qc v H' → WP l Z C lay own mn bytes maxL ret R n0 ro Q (k + Rc.cells) (n + Rc.slots) (pc + 3) L (v.toList ++ S) H') : WP l Z C lay own mn bytes maxL ret R n0 ro Q k n pc L S0 H := by
  intro p e s m args below meth c T locs ad Ls X A hr N hL hz
  obtain ⟨cq, q, q'⟩ := (hr.1 i _ hH).1.cell
  have hpr : s.PrivateAt y := Cond.privateMethod_at (mvP A.2.1 w2 (args := #[]))
  have hin : (Cond.instanceMethod y).before args s = true := mvT A.2.1 w4
  have hsel : (Cond.selects y.cls y y).before args s = true := by
    have wi' : (Cond.instantiable y.cls kk).before args s = true := mvT A.2.1 wi
    obtain ⟨c1, k1, g1, g2, g3, g4, -⟩ := Cond.instantiable_spec wi'
    have g5 : k1.isInterface = false := by
      cases hq : k1.isInterface
      · rfl
      · rw [hq] at g4; cases g4
    exact selects_self_of_private g1 g2 g5 hpr hin hy
  obtain ⟨v, vm₁, B, hW₁, X', ⟨Lc, hQ, e1, e2, e3⟩, st⟩ := X.privateBack A.1 (y := y) A.2.2.2.2.2.2.1 (mvT A.2.1 w1) hin hsel hpr (mvT A.2.1 w5) hy
    (backOf (W := (S.map fun v => v.category).sum) (cs [] n0 ad T.heap hr) A.2.1 w5 w6 hf hl) (g := mkF m pc Ls (S0.map (rf ad))) rfl (hz.trans A.2.2.2.1.symm) (Steps.refl _) q q' (argsL := as.map (rf ad)) (rest := S.map (rf ad)) (fun sig q => by rw [List.length_map]; exact hlen sig q) (stack_of1 ad hS) (by show 2 * 0 + _ ≤ _; rw [rf_cats]; omega) (hb A.2.2.1 hd) (fun _ _ => ⟨rfl, rfl, hc, hs⟩)
  exact go_on (T := T) nx X' A hr N hL hz hQ e1 e2 e3 st
theorem WP.callI {idx i : Nat} (hd : decode bytes pc = .ok (.invokespecial idx, 3)) (hn1 : y.name = "<init>") (w1 : (Cond.methodLink own idx y).before a0 Z = true) (w4 : (Cond.instanceMethod y).before a0 Z = true) (w5 : (Cond.code y cb cm none).before a0 Z = true) (w6 : (Cond.initialized y.cls).before a0 Z = true) (hy : y.cls ≠ "java/lang/invoke/MethodHandle" ∧ y.cls ≠ "java/lang/invoke/VarHandle")
    (cs : CS l Z C lay y cb cm none Rc ro (.ref i :: as) H Qc) (hS : S0 = as.reverse ++ .ref i :: S) (hlen : ∀ sig, parseMethodDescriptor y.desc = some sig → as.length = sig.parameters.length) (hf : Rc.frames + 1 ≤ R.frames) (hl : (S.map fun v => v.category).sum + (cm + 11) + Rc.locals ≤ R.locals) (hc : k + Rc.cells ≤ R.cells) (hs : n + Rc.slots ≤ R.slots)
    (nx : ∀ v H', Qc v H' → WP l Z C lay own mn bytes maxL ret R n0 ro Q (k + Rc.cells) (n + Rc.slots) (pc + 3) L (v.toList ++ S) H') : WP l Z C lay own mn bytes maxL ret R n0 ro Q k n pc L S0 H := by
  intro p e s m args below meth c T locs ad Ls X A hr N hL hz
  obtain ⟨v, vm₁, B, hW₁, X', ⟨Lc, hQ, e1, e2, e3⟩, st⟩ := X.specialBack A.1 (y := y) hn1 A.2.2.2.2.2.2.1 (mvT A.2.1 w1) (mvT A.2.1 w4) (mvT A.2.1 w5) hy
    (backOf (W := (S.map fun v => v.category).sum) (cs [] n0 ad T.heap hr) A.2.1 w5 w6 hf hl) (g := mkF m pc Ls (S0.map (rf ad))) rfl (hz.trans A.2.2.2.1.symm) (Steps.refl _) (a := ad i) (argsL := as.map (rf ad)) (rest := S.map (rf ad)) (fun sig q => by rw [List.length_map]; exact hlen sig q) (stack_of1 ad hS) (by show 2 * 0 + _ ≤ _; rw [rf_cats]; omega) (hb A.2.2.1 hd) (fun _ _ => ⟨rfl, rfl, hc, hs⟩)
  exact go_on (T := T) nx X' A hr N hL hz hQ e1 e2 e3 st
end Calls
/-! ## a callee that sees a part of the heap -/
def rn (ρ : Nat → Nat) : Value → Value
  | .ref i => .ref (ρ i)
  | .int x => .int x
  | .long x => .long x
  | .float x => .float x
  | .double x => .double x
  | .null => .null
  | .retAddr x => .retAddr x
theorem rf_rn (ad : Nat → Addr) (ρ : Nat → Nat) (v : Value) : rf ad (rn ρ v) = rf (fun j => ad (ρ j)) v := by cases v <;> rfl
def rnC (ρ : Nat → Nat) : OwnC → OwnC
  | .inl vs => .inl (vs.map (rn ρ))
  | .inr x => .inr x
theorem CelOk_rn {Z : State} {C : String} {lay : List (String × String)} {ad : Nat → Addr} {ρ : Nat → Nat} {h : Heap} {a : Addr} {c : OwnC} : CelOk Z C lay ad h a (rnC ρ c) ↔ CelOk Z C lay (fun j => ad (ρ j)) h a c := by
  rcases c with vs | xs | xs | xs
  · constructor
    · rintro ⟨E, F⟩
      refine ⟨E, fun i f v hf hv => ?_⟩
      have := F i f (rn ρ v) hf (by rw [List.getElem?_map, hv]; rfl)
      rwa [rf_rn] at this
    · rintro ⟨E, F⟩
      refine ⟨E, fun i f v hf hv => ?_⟩
      rw [List.getElem?_map] at hv
      obtain ⟨w, hw, rfl⟩ := Option.map_eq_some_iff.mp hv
      rw [rf_rn]; exact F i f w hf hw
  all_goals exact Iff.rfl
def patch (ρ : Nat → Nat) : List Nat → List OwnC → List OwnC → List OwnC
  | [], D, H => H ++ D.map (rnC ρ)
  | i :: is, c :: D, H => patch ρ is D (H.set i (rnC ρ c))
  | _ :: _, [], H => H
theorem patch_seg (ρ : Nat → Nat) : ∀ (D B A C : List OwnC), B.length = D.length → patch ρ (List.range' A.length D.length) D (A ++ (B ++ C)) = A ++ (D.map (rnC ρ) ++ C)
  | [], B, A, C, h => by
    obtain rfl : B = [] := List.eq_nil_of_length_eq_zero h
    simp [patch]
  | d :: D, [], A, C, h => by simp at h
  | d :: D, b :: B, A, C, h => by
    have h' : B.length = D.length := by simpa using h
    have ih := patch_seg ρ D B (A ++ [rnC ρ d]) C h'
    rw [List.length_append] at ih
    show patch ρ (List.range' (A.length + 1) D.length) D ((A ++ (b :: B ++ C)).set A.length (rnC ρ d)) = _
    rw [List.set_append_right _ _ (Nat.le_refl _), Nat.sub_self]
    simpa using ih
theorem patch_len (ρ : Nat → Nat) : ∀ (foot : List Nat) (D H : List OwnC), foot.length ≤ D.length → (patch ρ foot D H).length = H.length + (D.length - foot.length)
  | [], D, H, _ => by simp [patch]
  | i :: is, [], H, h => by simp at h
  | i :: is, c :: D, H, h => by
    show (patch ρ is D (H.set i (rnC ρ c))).length = _
    rw [patch_len ρ is D _ (by simpa using h)]; simp
theorem patch_out (ρ : Nat → Nat) : ∀ (foot : List Nat) (D H : List OwnC) (i : Nat), i < H.length → i ∉ foot → (patch ρ foot D H)[i]? = H[i]?
  | [], D, H, i, hi, _ => by simp [patch, List.getElem?_append_left hi]
  | j :: is, [], H, i, _, _ => rfl
  | j :: is, c :: D, H, i, hi, hn => by
    show (patch ρ is D (H.set j (rnC ρ c)))[i]? = _
    rw [patch_out ρ is D _ i (by simpa using hi) (fun q => hn (List.mem_cons_of_mem _ q)), List.getElem?_set_ne (fun q => hn (by rw [q]; exact List.mem_cons_self ..))]
theorem patch_new (ρ : Nat → Nat) : ∀ (foot : List Nat) (D H : List OwnC) (t : Nat), foot.length ≤ D.length → (patch ρ foot D H)[H.length + t]? = (D[foot.length + t]?).map (rnC ρ)
  | [], D, H, t, _ => by simp [patch, List.getElem?_append_right (Nat.le_add_right _ _)]
  | i :: is, [], H, _, h => by simp at h
  | i :: is, c :: D, H, t, h => by
    show (patch ρ is D (H.set i (rnC ρ c)))[H.length + t]? = _
    have := patch_new ρ is D (H.set i (rnC ρ c)) t (by simpa using h)
    rw [List.length_set] at this
    rw [this]; simp [Nat.add_right_comm _ 1 t]
theorem patch_in (ρ : Nat → Nat) : ∀ (foot : List Nat) (D H : List OwnC) (j i : Nat), foot.Nodup → (∀ x ∈ foot, x < H.length) → foot[j]? = some i → foot.length ≤ D.length → (patch ρ foot D H)[i]? = (D[j]?).map (rnC ρ)
  | [], D, H, j, i, _, _, h, _ => by simp at h
  | x :: is, [], H, j, i, _, _, _, h => by simp at h
  | x :: is, c :: D, H, 0, i, nd, hl, h, _ => by
    obtain rfl : x = i := by simpa using h
    show (patch ρ is D (H.set x (rnC ρ c)))[x]? = _
    rw [patch_out ρ is D _ x (by simpa using hl x (List.mem_cons_self ..)) (List.nodup_cons.mp nd).1]
    simp [hl x (List.mem_cons_self ..)]
  | x :: is, c :: D, H, j + 1, i, nd, hl, h, hd => by
    show (patch ρ is D (H.set x (rnC ρ c)))[i]? = _
    rw [patch_in ρ is D _ j i (List.nodup_cons.mp nd).2 (fun y hy => by simpa using hl y (List.mem_cons_of_mem _ hy)) (by simpa using h) (by simpa using hd)]
    simp
def ro1 (foot : List Nat) (N : Nat) (j : Nat) : Nat := if j < foot.length then foot.getD j 0 else N + (j - foot.length)
theorem ro1_in {foot : List Nat} {N j i : Nat} (h : foot[j]? = some i) : ro1 foot N j = i := by
  have hj := get_lt h
  unfold ro1
  rw [if_pos hj, List.getD_eq_getElem?_getD, h]; rfl
theorem ro1_new (foot : List Nat) (N t : Nat) : ro1 foot N (foot.length + t) = N + t := by
  unfold ro1
  rw [if_neg (by omega)]; omega
theorem CS.frame {l : Launch} {Z : State} {C : String} {lay : List (String × String)} {y : MethodName} {bytes : ByteArray} {maxL : Nat} {ret : Option FieldType} {R : Room} {ro roc : Nat} {as asc : List Value} {H Hc : List OwnC} {Qc : Option Value → List OwnC → Prop} (foot : List Nat)
    (cs : CS l Z C lay y bytes maxL ret R roc asc Hc Qc) (hlen : Hc.length = foot.length) (hnd : foot.Nodup) (hlt : ∀ x ∈ foot, x < H.length) (hcell : foot.map (fun i => H[i]?) = Hc.map (fun c => some (rnC (ro1 foot H.length) c))) (hro : ∀ x ∈ foot.drop roc, ro ≤ x) (has : asc.map (rn (ro1 foot H.length)) = as) :
    CS l Z C lay y bytes maxL ret R ro as H (fun v H' => ∃ vc D, Qc vc D ∧ v = vc.map (rn (ro1 foot H.length)) ∧ H' = patch (ro1 foot H.length) foot D H) := by
  intro ws n0 ad h hr
  obtain ⟨r1, r2, r3, r4, r5⟩ := hr
  have cellAt : ∀ (j i : Nat), foot[j]? = some i → ∃ c, Hc[j]? = some c ∧ H[i]? = some (rnC (ro1 foot H.length) c) := fun j i hj => by
    have h1 : (foot.map (fun i => H[i]?))[j]? = some H[i]? := by rw [List.getElem?_map, hj]; rfl
    rw [hcell, List.getElem?_map] at h1
    obtain ⟨c, e1, e2⟩ := Option.map_eq_some_iff.mp h1
    exact ⟨c, e1, e2.symm⟩
  have idx : ∀ j : Nat, j < foot.length → ∃ i, foot[j]? = some i ∧ i < H.length := fun j hj => ⟨_, List.getElem?_eq_getElem hj, hlt _ (List.getElem_mem hj)⟩
  have hrc : HR Z C lay n0 roc (fun j => ad (ro1 foot H.length j)) Hc h := by
    refine ⟨fun j c hj => ?_, fun i j hi hj q => ?_, fun t => ?_, fun j hj hr => ?_, r5⟩
    · obtain ⟨i, e1, e2⟩ := idx j (hlen ▸ get_lt hj)
      obtain ⟨c', g1, g2⟩ := cellAt j i e1
      cases g1.symm.trans hj
      show CelOk Z C lay (fun j => ad (ro1 foot H.length j)) h (ad (ro1 foot H.length j)) c
      rw [ro1_in e1]
      exact CelOk_rn.mp (r1 i _ g2)
    · rw [hlen] at hi hj
      obtain ⟨i', e1, e2⟩ := idx i hi
      obtain ⟨j', g1, g2⟩ := idx j hj
      dsimp only at q
      rw [ro1_in e1, ro1_in g1] at q
      have q' := r2 _ _ e2 g2 q
      subst q'
      exact (List.getElem?_inj hi hnd).mp (e1.trans g1.symm)
    · dsimp only
      rw [hlen, ro1_new]; exact r3 t
    · rw [hlen] at hj
      obtain ⟨i', e1, e2⟩ := idx j hj
      dsimp only
      rw [ro1_in e1]; refine r4 _ e2 (hro i' (List.mem_of_getElem? (i := j - roc) ?_)); rw [List.getElem?_drop, Nat.add_sub_cancel' hr]; exact e1
  intro p e ha hc hk s m args below hf happ hP hK
  have eas : (asc.map (rf fun j => ad (ro1 foot H.length j))) = as.map (rf ad) := by
    rw [← has, List.map_map]; congr 1; funext v; exact (rf_rn ad _ v).symm
  obtain ⟨N, o, h1, h2, h3, v, L, h4, ⟨w, D, rfl, g2, g3, g4, g5⟩, h5⟩ := cs ws n0 _ h hrc p e ha hc hk s m args below hf happ (by rw [eas]; exact hP) hK
  refine ⟨N, o, h1, h2, h3, _, L, h4, ⟨w.map (rn (ro1 foot H.length)), patch (ro1 foot H.length) foot D H, ?_, ⟨w, D, g2, rfl, rfl⟩, ?_, ?_, g5⟩, h5⟩
  · cases w with
    | none => rfl
    | some w => exact congrArg some (rf_rn ad _ w).symm
  · generalize hU : (stepsAlone p.tables e N s).heap = h' at g3 g4
    obtain ⟨d1, d2, d3, d4, d5⟩ := g3
    have hD : foot.length ≤ D.length := by
      by_cases q : foot.length ≤ D.length
      · exact q
      · exfalso
        obtain ⟨i, e1, e2⟩ := idx D.length (by omega)
        have z := d3 0
        simp only [Nat.add_zero] at z
        rw [ro1_in e1] at z
        obtain ⟨c', -, g2'⟩ := cellAt _ i e1
        have a1 := (r1 i _ g2').lt
        rw [z] at a1
        exact absurd a1 (Nat.not_lt.mpr g4.1)
    have hPl := patch_len (ro1 foot H.length) foot D H hD
    have old : ∀ i, i < H.length → ad i < h.size := fun i hi => (r1 i _ (List.getElem?_eq_getElem hi)).lt
    have new : ∀ i, H.length ≤ i → h.size ≤ ad i := fun i hi => by
      obtain ⟨t, rfl⟩ := Nat.exists_eq_add_of_le hi
      rw [r3 t]; exact Nat.le_add_right _ _
    refine ⟨fun i c hi => ?_, fun i j hi hj q => ?_, fun t => ?_, fun i hi hr => ?_, Nat.le_trans r5 g4.1⟩
    · by_cases hl : i < H.length
      · by_cases hm : i ∈ foot
        · obtain ⟨j, hj⟩ := List.getElem?_of_mem hm
          rw [patch_in _ foot D H j i hnd hlt hj hD] at hi
          obtain ⟨c', e1, rfl⟩ := Option.map_eq_some_iff.mp hi
          have := d1 j c' e1
          dsimp only at this
          rw [ro1_in hj] at this
          exact CelOk_rn.mpr this
        · rw [patch_out _ foot D H i hl hm] at hi
          refine (r1 i c hi).keep fun cz q => g4.2 _ cz q fun j hj q' => ?_
          rw [hlen] at hj
          obtain ⟨i', e1, e2⟩ := idx j hj
          dsimp only at q'
          rw [ro1_in e1] at q'
          have := r2 _ _ e2 hl q'
          subst this
          exact hm (List.mem_of_getElem? e1)
      · obtain ⟨t, rfl⟩ := Nat.exists_eq_add_of_le (Nat.le_of_not_lt hl)
        rw [patch_new _ foot D H t hD] at hi
        obtain ⟨c', e1, rfl⟩ := Option.map_eq_some_iff.mp hi
        have := d1 _ c' e1
        dsimp only at this
        rw [ro1_new] at this
        exact CelOk_rn.mpr this
    · by_cases a1 : i < H.length
      · by_cases a2 : j < H.length
        · exact r2 _ _ a1 a2 q
        · have b1 := old i a1
          rw [q] at b1
          exact absurd b1 (Nat.not_lt.mpr (new j (Nat.le_of_not_lt a2)))
      · by_cases a2 : j < H.length
        · have b1 := new i (Nat.le_of_not_lt a1)
          rw [q] at b1
          exact absurd (old j a2) (Nat.not_lt.mpr b1)
        · obtain ⟨t, rfl⟩ := Nat.exists_eq_add_of_le (Nat.le_of_not_lt a1)
          obtain ⟨t', rfl⟩ := Nat.exists_eq_add_of_le (Nat.le_of_not_lt a2)
          rw [r3, r3] at q; exact congrArg (H.length + ·) (Nat.add_left_cancel q)
    · have z := d3 t
      dsimp only at z
      have e1 : D.length + t = foot.length + (D.length - foot.length + t) := by omega
      rw [e1, ro1_new] at z
      rw [hPl, Nat.add_assoc]; exact z
    · by_cases a1 : i < H.length
      · exact r4 i a1 hr
      · exact Nat.le_trans r5 (new i (Nat.le_of_not_lt a1))
  · refine ⟨g4.1, fun a cz hz hn => g4.2 a cz hz fun j hj q => ?_⟩
    rw [hlen] at hj
    obtain ⟨i', e1, e2⟩ := idx j hj
    dsimp only at q
    rw [ro1_in e1] at q
    exact hn i' e2 q
/-! ## an object's state: ints (and booleans), longs, int[] (and boolean[]), long[], each by a number -/
abbrev St : Type := (Nat → Int32) × (Nat → Int64) × (Nat → List Int32) × (Nat → List Int64)
def upd {α : Type} (f : Nat → α) (i : Nat) (v : α) : Nat → α := fun j => if j = i then v else f j
def gI (s : St) (i : Nat) : Int32 := s.1 i
def gJ (s : St) (i : Nat) : Int64 := s.2.1 i
def gA (s : St) (i : Nat) : List Int32 := s.2.2.1 i
def gB (s : St) (i : Nat) : List Int64 := s.2.2.2 i
def sI (s : St) (i : Nat) (v : Int32) : St := (upd s.1 i v, s.2.1, s.2.2.1, s.2.2.2)
def sJ (s : St) (i : Nat) (v : Int64) : St := (s.1, upd s.2.1 i v, s.2.2.1, s.2.2.2)
def sA (s : St) (i : Nat) (v : List Int32) : St := (s.1, s.2.1, upd s.2.2.1 i v, s.2.2.2)
def sB (s : St) (i : Nat) (v : List Int64) : St := (s.1, s.2.1, s.2.2.1, upd s.2.2.2 i v)
theorem gI_sI (s : St) (i j : Nat) (v : Int32) : gI (sI s i v) j = if j = i then v else gI s j := rfl
theorem gI_sJ (s : St) (i j : Nat) (v : Int64) : gI (sJ s i v) j = gI s j := rfl
theorem gI_sA (s : St) (i j : Nat) (v : List Int32) : gI (sA s i v) j = gI s j := rfl
theorem gI_sB (s : St) (i j : Nat) (v : List Int64) : gI (sB s i v) j = gI s j := rfl
theorem gJ_sI (s : St) (i j : Nat) (v : Int32) : gJ (sI s i v) j = gJ s j := rfl
theorem gJ_sJ (s : St) (i j : Nat) (v : Int64) : gJ (sJ s i v) j = if j = i then v else gJ s j := rfl
theorem gJ_sA (s : St) (i j : Nat) (v : List Int32) : gJ (sA s i v) j = gJ s j := rfl
theorem gJ_sB (s : St) (i j : Nat) (v : List Int64) : gJ (sB s i v) j = gJ s j := rfl
theorem gA_sI (s : St) (i j : Nat) (v : Int32) : gA (sI s i v) j = gA s j := rfl
theorem gA_sJ (s : St) (i j : Nat) (v : Int64) : gA (sJ s i v) j = gA s j := rfl
theorem gA_sA (s : St) (i j : Nat) (v : List Int32) : gA (sA s i v) j = if j = i then v else gA s j := rfl
theorem gA_sB (s : St) (i j : Nat) (v : List Int64) : gA (sB s i v) j = gA s j := rfl
theorem gB_sI (s : St) (i j : Nat) (v : Int32) : gB (sI s i v) j = gB s j := rfl
theorem gB_sJ (s : St) (i j : Nat) (v : Int64) : gB (sJ s i v) j = gB s j := rfl
theorem gB_sA (s : St) (i j : Nat) (v : List Int32) : gB (sA s i v) j = gB s j := rfl
theorem gB_sB (s : St) (i j : Nat) (v : List Int64) : gB (sB s i v) j = if j = i then v else gB s j := rfl
def wrA (s : St) (i : Nat) (j x : Int32) : Option St := (wr (gA s i) j x).map (sA s i)
def wrB (s : St) (i : Nat) (j : Int32) (x : Int64) : Option St := (wr (gB s i) j x).map (sB s i)
theorem wrA_e {s s' : St} {i : Nat} {j x : Int32} (h : wrA s i j x = some s') : ∃ ys, wr (gA s i) j x = some ys ∧ s' = sA s i ys := by
  obtain ⟨ys, h1, h2⟩ := Option.map_eq_some_iff.mp h
  exact ⟨ys, h1, h2.symm⟩
theorem wrB_e {s s' : St} {i : Nat} {j : Int32} {x : Int64} (h : wrB s i j x = some s') : ∃ ys, wr (gB s i) j x = some ys ∧ s' = sB s i ys := by
  obtain ⟨ys, h1, h2⟩ := Option.map_eq_some_iff.mp h
  exact ⟨ys, h1, h2.symm⟩
def lt {α β : Type} (x : α) (f : α → β) : β := f x
theorem lt_e {α β : Type} {x : α} {f : α → β} {r : β} (h : lt x f = r) : ∃ y, y = x ∧ f y = r := ⟨x, rfl, h⟩
theorem ite_e {α : Type} {c : Prop} [Decidable c] {a b r : α} (h : (if c then a else b) = r) : (c ∧ a = r) ∨ (¬ c ∧ b = r) := by
  by_cases hc : c
  · rw [if_pos hc] at h; exact Or.inl ⟨hc, h⟩
  · rw [if_neg hc] at h; exact Or.inr ⟨hc, h⟩
theorem nz_e {α : Type} {c : Prop} [Decidable c] {b : Option α} {r : α} (h : (if c then none else b) = some r) : ¬ c ∧ b = some r := by
  by_cases hc : c
  · rw [if_pos hc] at h; cases h
  · rw [if_neg hc] at h; exact ⟨hc, h⟩
/-! the class's fields -/
def LaidAll (Z : State) (a0 : Array Value) (C : String) : List (String × String) → List Value → Prop
  | f :: fs, v :: vs => (Laid Z a0 C C f.1 f.2 ∧ ∃ ty, parseFieldDescriptor f.2 = some ty ∧ v = defaultValue ty) ∧ LaidAll Z a0 C fs vs
  | [], [] => True
  | _, _ => False
theorem LaidAll.new {Z : State} {a0 : Array Value} {C : String} : ∀ {lay : List (String × String)} {vs : List Value}, LaidAll Z a0 C lay vs → ∀ (i : Nat) (f : String × String) (v : Value), lay[i]? = some f → vs[i]? = some v → Laid Z a0 C C f.1 f.2 ∧ ∃ ty, parseFieldDescriptor f.2 = some ty ∧ v = defaultValue ty
  | [], [], _, i, f, v, h, _ => by simp at h
  | g :: fs, w :: vs, h, 0, f, v, h1, h2 => by
    obtain rfl : g = f := by simpa using h1
    obtain rfl : w = v := by simpa using h2
    exact h.1
  | g :: fs, w :: vs, h, i + 1, f, v, h1, h2 => LaidAll.new h.2 i f v (by simpa using h1) (by simpa using h2)
theorem LaidAll.len {Z : State} {a0 : Array Value} {C : String} : ∀ {lay : List (String × String)} {vs : List Value}, LaidAll Z a0 C lay vs → lay.length = vs.length
  | [], [], _ => rfl
  | g :: fs, w :: vs, h => congrArg Nat.succ (LaidAll.len h.2)
theorem LaidAll.ne {Z : State} {a0 : Array Value} {C : String} {lay : List (String × String)} {vs : List Value} (h : LaidAll Z a0 C lay vs) (nd : (lay.map Prod.fst).Nodup) : ∀ (a b : Nat) (f g : String × String), lay[a]? = some f → lay[b]? = some g → a ≠ b → RoadKit.slotOf Z C f.1 f.2 ≠ RoadKit.slotOf Z C g.1 g.2 := by
  intro a b f g ha hb' hne
  have la := get_lt ha
  have lb := get_lt hb'
  obtain ⟨L1, t1, e1, -⟩ := h.new a f _ ha (List.getElem?_eq_getElem (h.len ▸ la))
  obtain ⟨L2, t2, e2, -⟩ := h.new b g _ hb' (List.getElem?_eq_getElem (h.len ▸ lb))
  refine slot_ne L1 L2 (fun q => hne ?_) e1 e2
  have h1 : (lay.map Prod.fst)[a]? = some f.1 := by rw [List.getElem?_map, ha]; rfl
  have h2 : (lay.map Prod.fst)[b]? = some g.1 := by rw [List.getElem?_map, hb']; rfl
  exact (List.getElem?_inj (by simpa using la) nd).mp (h1.trans (by rw [q]; exact h2.symm))
section Puts
variable {l : Launch} {Z : State} {a0 : Array Value} {C : String} {lay : List (String × String)} {own mn : String} {bytes : ByteArray} {maxL : Nat} {ret : Option FieldType} {R : Room} {n0 ro : Nat} {Q : Option Value → List OwnC → Prop} {k n pc pc' : Nat} {L L' : List Slot} {S S' : List Value} {H H' : List OwnC}
theorem WP.putI {idx i j kk : Nat} {f : String} {vs : List Value} {x : Int32} {old : Value} (hd : decode bytes pc = .ok (.putfield idx, 3)) (hw : (Cond.fieldLink own idx C f "I").before a0 Z = true) (hl : (Cond.lays C C f "I").before a0 Z = true ∨ ((Cond.laysFinal C C f "I").before a0 Z = true ∧ own = C ∧ mn = "<init>")) (wi : (Cond.instantiable C kk).before a0 Z = true)
    (hlay : ∀ (a b : Nat) (f g : String × String), lay[a]? = some f → lay[b]? = some g → a ≠ b → RoadKit.slotOf Z C f.1 f.2 ≠ RoadKit.slotOf Z C g.1 g.2) (hj : lay[j]? = some (f, "I")) (hH : H[i]? = some (.inl vs)) (hv : vs[j]? = some old) (hi : ro ≤ i) (hH' : H.set i (.inl (vs.set j (.int x))) = H') (nx : WP l Z C lay own mn bytes maxL ret R n0 ro Q k n (pc + 3) L S H') : WP l Z C lay own mn bytes maxL ret R n0 ro Q k n pc L (.int x :: .ref i :: S) H :=
  WP.put hd hw hl wi hlay (ty := .int) (by decide) (fun _ => rfl) (fun _ => rfl) hj hH hv hi hH' nx
theorem WP.putJ {idx i j kk : Nat} {f : String} {vs : List Value} {x : Int64} {old : Value} (hd : decode bytes pc = .ok (.putfield idx, 3)) (hw : (Cond.fieldLink own idx C f "J").before a0 Z = true) (hl : (Cond.lays C C f "J").before a0 Z = true ∨ ((Cond.laysFinal C C f "J").before a0 Z = true ∧ own = C ∧ mn = "<init>")) (wi : (Cond.instantiable C kk).before a0 Z = true)
    (hlay : ∀ (a b : Nat) (f g : String × String), lay[a]? = some f → lay[b]? = some g → a ≠ b → RoadKit.slotOf Z C f.1 f.2 ≠ RoadKit.slotOf Z C g.1 g.2) (hj : lay[j]? = some (f, "J")) (hH : H[i]? = some (.inl vs)) (hv : vs[j]? = some old) (hi : ro ≤ i) (hH' : H.set i (.inl (vs.set j (.long x))) = H') (nx : WP l Z C lay own mn bytes maxL ret R n0 ro Q k n (pc + 3) L S H') : WP l Z C lay own mn bytes maxL ret R n0 ro Q k n pc L (.long x :: .ref i :: S) H :=
  WP.put hd hw hl wi hlay (ty := .long) (by decide) (fun _ => rfl) (fun _ => rfl) hj hH hv hi hH' nx
theorem WP.putZ {idx i j kk : Nat} {f : String} {vs : List Value} {x : Int32} {old : Value} (hd : decode bytes pc = .ok (.putfield idx, 3)) (hw : (Cond.fieldLink own idx C f "Z").before a0 Z = true) (hl : (Cond.lays C C f "Z").before a0 Z = true ∨ ((Cond.laysFinal C C f "Z").before a0 Z = true ∧ own = C ∧ mn = "<init>")) (wi : (Cond.instantiable C kk).before a0 Z = true)
    (hlay : ∀ (a b : Nat) (f g : String × String), lay[a]? = some f → lay[b]? = some g → a ≠ b → RoadKit.slotOf Z C f.1 f.2 ≠ RoadKit.slotOf Z C g.1 g.2) (hj : lay[j]? = some (f, "Z")) (hH : H[i]? = some (.inl vs)) (hv : vs[j]? = some old) (hi : ro ≤ i) (hH' : H.set i (.inl (vs.set j (.int (x &&& 1)))) = H') (nx : WP l Z C lay own mn bytes maxL ret R n0 ro Q k n (pc + 3) L S H') : WP l Z C lay own mn bytes maxL ret R n0 ro Q k n pc L (.int x :: .ref i :: S) H :=
  WP.put (v' := .int (x &&& 1)) hd hw hl wi hlay (ty := .boolean) (by decide) (fun _ => rfl) (fun _ => fits_nar_bool x) hj hH hv hi hH' nx
theorem WP.putR {idx i j kk i2 : Nat} {f d : String} {vs : List Value} {old : Value} {ty : FieldType} (hd : decode bytes pc = .ok (.putfield idx, 3)) (hw : (Cond.fieldLink own idx C f d).before a0 Z = true) (hl : (Cond.lays C C f d).before a0 Z = true ∨ ((Cond.laysFinal C C f d).before a0 Z = true ∧ own = C ∧ mn = "<init>")) (wi : (Cond.instantiable C kk).before a0 Z = true)
    (hlay : ∀ (a b : Nat) (f g : String × String), lay[a]? = some f → lay[b]? = some g → a ≠ b → RoadKit.slotOf Z C f.1 f.2 ≠ RoadKit.slotOf Z C g.1 g.2) (hty : parseFieldDescriptor d = some ty) (hn : ∀ a, narrow ty (.ref a) = .ref a) (hf : ∀ a, fits ty (.ref a) = true) (hj : lay[j]? = some (f, d)) (hH : H[i]? = some (.inl vs)) (hv : vs[j]? = some old) (hi : ro ≤ i) (hH' : H.set i (.inl (vs.set j (.ref i2))) = H') (nx : WP l Z C lay own mn bytes maxL ret R n0 ro Q k n (pc + 3) L S H') : WP l Z C lay own mn bytes maxL ret R n0 ro Q k n pc L (.ref i2 :: .ref i :: S) H :=
  WP.put (v' := .ref i2) hd hw hl wi hlay hty (fun ad => hn (ad i2)) (fun ad => hf (ad i2)) hj hH hv hi hH' nx
end Puts
/-! ## the start of a law -/
theorem HR.start0 (s : State) (C : String) (lay : List (String × String)) : HR s C lay s.heap.size 0 (fun t => s.heap.size + t) [] s.heap :=
  ⟨fun i c h => by simp at h, fun i j h => by simp at h, fun t => by simp, fun i h => by simp at h, Nat.le_refl _⟩
theorem script_ints {s : State} {a : Addr} {c : Cell} (hf : Fit s) (A : Arr s s.heap a c .int) : ∃ xs : List Int32, c.slots.toList = xs.map Value.int := by
  have h : ∀ v ∈ c.slots.toList, ∃ x : Int32, v = Value.int x := fun v hv => by
    obtain ⟨i, hi, e⟩ := List.mem_iff_getElem.mp hv
    have hi' : i < c.slots.size := by simpa using hi
    have q := hf A.1 hi'
    obtain ⟨hs, k, hk, comp, hkind⟩ := A.2.1
    have e2 : s.slotType? c.cls c.vm i = some .int := by
      cases hq : c.vm <;> first | exact absurd hq (hs _) | simp [State.slotType?, hk, hkind]
    have e3 : c.slots[i] = v := by rw [← e]; simp
    have q2 : fits .int v = true := by rw [← e3]; simpa [State.fitsSlot, e2] using q
    exact fit_I q2 (by simp)
  generalize c.slots.toList = L at h
  induction L with
  | nil => exact ⟨[], rfl⟩
  | cons v L ih =>
    obtain ⟨x, rfl⟩ := h v (List.mem_cons_self ..)
    obtain ⟨xs, rfl⟩ := ih fun w hw => h w (List.mem_cons_of_mem _ hw)
    exact ⟨x :: xs, rfl⟩
def ad1 (a N : Nat) : Nat → Addr
  | 0 => a
  | t + 1 => N + t
theorem HR.start1 {s : State} (C : String) (lay : List (String × String)) {a : Addr} {c : Cell} {xs : List Int32} (A : Arr s s.heap a c .int) (hx : c.slots.toList = xs.map Value.int) : HR s C lay s.heap.size 1 (ad1 a s.heap.size) [cI xs] s.heap := by
  refine ⟨fun i cc h => ?_, fun i j hi hj _ => ?_, fun t => ?_, fun i hi hr => ?_, Nat.le_refl _⟩
  · have hi := get_lt h
    simp at hi; subst hi
    simp at h; subst h
    exact ⟨c, A, hx⟩
  · simp at hi hj; omega
  · show ad1 a s.heap.size (1 + t) = _; rw [Nat.add_comm 1 t]; rfl
  · simp at hi; omega
theorem script_len {s : State} {a : Addr} {c : Cell} {n : Nat} {args : Array Value} {t : Term} (ev : t.eval args s none [] s = some (.ref a)) (A : Arr s s.heap a c .int) (e1 : c.slots.size = n) (h : (Cond.le (Term.length t) (Term.int (260 : Int32))).value args s none s [] = some true) : n ≤ 260 := by
  have hat := A.fin (Vm.Alike.refl _)
  have hl : (Term.length t).eval args s none [] s = if n < 2 ^ 31 then some (.int n.toInt32) else none := by
    simp only [Term.eval, ev, hat, Option.bind_eq_bind, Option.bind_some, e1]; rfl
  by_cases hn : n < 2 ^ 31
  · rw [if_pos hn] at hl
    have h1 := gotT (Cond.le_ints hl (Term.int_eval (260 : Int32))) h
    have h2 : n.toInt32.toInt = n := by
      show (Int32.ofNat n).toInt = n
      exact Int32.toInt_ofNat_of_lt hn
    have h3 := Int32.le_iff_toInt_le.mp h1
    rw [h2] at h3
    have : (260 : Int32).toInt = 260 := by decide
    omega
  · rw [if_neg hn] at hl
    simp [Cond.value, hl] at h
/-! ## plain laws -/
/-- with fuel enough it answers r -/
def Ev {α : Type} (f : Nat → Option α) (r : α) : Prop := ∃ N, ∀ n, N ≤ n → f n = some r
theorem Ev.const {α : Type} {x : Option α} {r : α} (h : x = some r) : Ev (fun _ => x) r := ⟨0, fun _ _ => h⟩
theorem Ev.get {α : Type} {f : Nat → Option α} {r : α} (h : Ev f r) : ∃ n, f n = some r := by obtain ⟨N, h⟩ := h; exact ⟨N, h N (Nat.le_refl _)⟩
theorem Ev.step {α : Type} {f g : Nat → Option α} {r : α} (e : ∀ n, f (n + 1) = g n) (h : Ev g r) : Ev f r := by
  obtain ⟨N, h⟩ := h
  refine ⟨N + 1, fun n hn => ?_⟩
  cases n with
  | zero => omega
  | succ n => rw [e n]; exact h n (by omega)
theorem Ev.congr {α : Type} {f g : Nat → Option α} {r : α} (e : ∀ n, f n = g n) (h : Ev g r) : Ev f r := by
  obtain ⟨N, h⟩ := h
  exact ⟨N, fun n hn => (e n).trans (h n hn)⟩
theorem Ev.bind {α β : Type} {f : Nat → Option β} {g : Nat → β → Option α} {c : β} {r : α} (h1 : Ev f c) (h2 : Ev (fun n => g n c) r) : Ev (fun n => (f n).bind (g n)) r := by
  obtain ⟨N, h1⟩ := h1
  obtain ⟨M, h2⟩ := h2
  refine ⟨N + M, fun n hn => ?_⟩
  show (f n).bind (g n) = some r
  rw [h1 n (by omega)]; exact h2 n (by omega)
theorem Ev.uniq {α : Type} {f : Nat → Option α} {r r' : α} (h : Ev f r) (h' : Ev f r') : r = r' := by
  obtain ⟨N, h⟩ := h
  obtain ⟨M, h'⟩ := h'
  exact Option.some.inj ((h (N + M) (by omega)).symm.trans (h' (N + M) (by omega)))
/-! Int32 as Int -/
theorem x32_lt {x y : Int32} : x < y ↔ x.toInt < y.toInt := Int32.lt_iff_toInt_lt
theorem x32_eq {x y : Int32} : x = y ↔ x.toInt = y.toInt := Int32.toInt_inj.symm
theorem x32_add {x y : Int32} (h1 : -2147483648 ≤ x.toInt + y.toInt) (h2 : x.toInt + y.toInt < 2147483648) : (x + y).toInt = x.toInt + y.toInt := by
  rw [Int32.toInt_add]; exact Int.bmod_eq_of_le (by omega) (by omega)
theorem x32_sub {x y : Int32} (h1 : -2147483648 ≤ x.toInt - y.toInt) (h2 : x.toInt - y.toInt < 2147483648) : (x - y).toInt = x.toInt - y.toInt := by
  rw [Int32.toInt_sub]; exact Int.bmod_eq_of_le (by omega) (by omega)
theorem x32_mul {x y : Int32} (h1 : -2147483648 ≤ x.toInt * y.toInt) (h2 : x.toInt * y.toInt < 2147483648) : (x * y).toInt = x.toInt * y.toInt := by
  rw [Int32.toInt_mul]; exact Int.bmod_eq_of_le (by omega) (by omega)
theorem clamp_nat (x : Int32) : x.toNatClampNeg = x.toInt.toNat := rfl
/-! reading and writing -/
theorem rd_of {α : Type} {xs : List α} {i : Int32} {k : Nat} {x : α} (hi : i.toInt = k) (h : xs[k]? = some x) : rd xs i = some x := by
  have h0 : ¬ i < 0 := by rw [x32_lt, hi]; show ¬ (k : Int) < 0; omega
  unfold rd
  rw [if_neg h0, clamp_nat, hi]; exact h
theorem wr_of {α : Type} {xs : List α} {i : Int32} {k : Nat} (x : α) (hi : i.toInt = k) (h : k < xs.length) : wr xs i x = some (xs.set k x) := by
  have h0 : ¬ i < 0 := by rw [x32_lt, hi]; show ¬ (k : Int) < 0; omega
  unfold wr
  rw [if_neg h0, clamp_nat, hi]; exact if_pos h
theorem wrA_of {s : St} {f : Nat} {i : Int32} {k : Nat} (x : Int32) (hi : i.toInt = k) (h : k < (gA s f).length) : wrA s f i x = some (sA s f ((gA s f).set k x)) := by
  unfold wrA; rw [wr_of x hi h]; rfl
theorem wrB_of {s : St} {f : Nat} {i : Int32} {k : Nat} (x : Int64) (hi : i.toInt = k) (h : k < (gB s f).length) : wrB s f i x = some (sB s f ((gB s f).set k x)) := by
  unfold wrB; rw [wr_of x hi h]; rfl
theorem nn_of {i : Int32} (h : ¬ i < 0) : ∃ k : Nat, i.toInt = k := ⟨i.toInt.toNat, by
  rw [x32_lt] at h
  have : (0 : Int32).toInt = 0 := by decide
  omega⟩
theorem Ev.all {α : Type} {f : Nat → Option α} {r : α} (h : ∀ n, f n = some r) : Ev f r := ⟨0, fun n _ => h n⟩
theorem ofN_int {k : Nat} (h : k < 2147483648) : (Int32.ofNat k).toInt = k := Int32.toInt_ofNat_of_lt (by omega)
theorem ofN_lt {i m : Nat} (hi : i < 2147483648) (hm : m < 2147483648) : Int32.ofNat i < Int32.ofNat m ↔ i < m := by
  rw [x32_lt, ofN_int hi, ofN_int hm]; omega
theorem ofN_succ (k : Nat) : Int32.ofNat k + 1 = Int32.ofNat (k + 1) := (Int32.ofNat_add k 1).symm
theorem ofN_eq {i m : Nat} (hi : i < 2147483648) (hm : m < 2147483648) : Int32.ofNat i = Int32.ofNat m ↔ i = m := by
  rw [x32_eq, ofN_int hi, ofN_int hm]; omega
theorem ofN_of {x : Int32} {k : Nat} (h : x.toInt = k) : x = Int32.ofNat k := by
  have h2 := Int32.toInt_lt x
  rw [x32_eq, ofN_int (by omega)]; exact h
/-- a loop that counts up to N -/
theorem loop_up {α σ : Type} {F : Nat → Int32 → σ → Option α} {E : Nat → σ → Option α} {N : Nat} (Inv : Nat → σ → Prop)
    (hstep : ∀ (i : Nat) (s : σ), i < N → Inv i s → ∃ s', Inv (i + 1) s' ∧ ∀ n, F (n + 1) (Int32.ofNat i) s = F n (Int32.ofNat (i + 1)) s')
    (hend : ∀ s, Inv N s → ∀ n, F (n + 1) (Int32.ofNat N) s = E n s) : ∀ (k i : Nat) (s : σ), i + k = N → Inv i s → ∃ s', Inv N s' ∧ ∀ r, Ev (fun n => E n s') r → Ev (fun n => F n (Int32.ofNat i) s) r := by
  intro k
  induction k with
  | zero =>
    intro i s hi h
    obtain rfl : i = N := by omega
    exact ⟨s, h, fun r hr => Ev.step (hend s h) hr⟩
  | succ k ih =>
    intro i s hi h
    obtain ⟨s', h1, h2⟩ := hstep i s (by omega) h
    obtain ⟨s2, h3, h4⟩ := ih (i + 1) s' (by omega) h1
    exact ⟨s2, h3, fun r hr => Ev.step h2 (h4 r hr)⟩
theorem set_len {α : Type} (xs : List α) (k : Nat) (x : α) : (xs.set k x).length = xs.length := List.length_set
theorem ofN_ltL {i m : Nat} (hi : i < 2147483648) (hm : m < 2147483648) : Int32.ofNat i < (OfNat.ofNat m : Int32) ↔ i < m := ofN_lt hi hm
theorem ofN_gtL {i m : Nat} (hi : i < 2147483648) (hm : m < 2147483648) : (OfNat.ofNat m : Int32) < Int32.ofNat i ↔ m < i := ofN_lt hm hi
theorem ofN_eqL {i m : Nat} (hi : i < 2147483648) (hm : m < 2147483648) : Int32.ofNat i = (OfNat.ofNat m : Int32) ↔ i = m := ofN_eq hi hm
theorem ofN_nn {i : Nat} (hi : i < 2147483648) : ¬ Int32.ofNat i < 0 := fun h => Nat.not_lt_zero _ ((ofN_ltL hi (by decide)).mp h)
theorem lit_int {m : Nat} (hm : m < 2147483648) : (OfNat.ofNat m : Int32).toInt = m := ofN_int hm
theorem upd_upd {α : Type} (f : Nat → α) (i : Nat) (x y : α) : upd (upd f i x) i y = upd f i y := by
  funext j; unfold upd; by_cases h : j = i <;> simp [h]
theorem upd_self {α : Type} (f : Nat → α) (i : Nat) : upd f i (f i) = f := by
  funext j; unfold upd; by_cases h : j = i <;> simp [h]
theorem sA_sA (s : St) (i : Nat) (x y : List Int32) : sA (sA s i x) i y = sA s i y := by unfold sA; dsimp only; rw [upd_upd]
theorem sB_sB (s : St) (i : Nat) (x y : List Int64) : sB (sB s i x) i y = sB s i y := by unfold sB; dsimp only; rw [upd_upd]
theorem sI_sI (s : St) (i : Nat) (x y : Int32) : sI (sI s i x) i y = sI s i y := by unfold sI; dsimp only; rw [upd_upd]
theorem sA_self {s : St} {i : Nat} {x : List Int32} (h : gA s i = x) : sA s i x = s := by
  subst h; unfold sA gA; rw [upd_self]
theorem sB_self {s : St} {i : Nat} {x : List Int64} (h : gB s i = x) : sB s i x = s := by
  subst h; unfold sB gB; rw [upd_self]
theorem sI_self {s : St} {i : Nat} {x : Int32} (h : gI s i = x) : sI s i x = s := by
  subst h; unfold sI gI; rw [upd_self]
theorem fill_set {α : Type} (a b : α) (n i : Nat) (h : i < n) : (List.replicate i a ++ List.replicate (n - i) b).set i a = List.replicate (i + 1) a ++ List.replicate (n - (i + 1)) b := by
  rw [List.set_append_right _ _ (by simp), List.length_replicate, Nat.sub_self]
  obtain ⟨m, hm⟩ : ∃ m, n - i = m + 1 := ⟨n - i - 1, by omega⟩
  have hm2 : n - (i + 1) = m := by omega
  rw [hm, hm2, List.replicate_succ, List.set_cons_zero, List.replicate_succ', List.append_assoc]; rfl
theorem and_nat (x : Int32) (m : Nat) (hm : m < 2147483648) : ∃ k, k ≤ m ∧ (x &&& Int32.ofNat m) = Int32.ofNat k := by
  refine ⟨(x.toBitVec &&& BitVec.ofNat 32 m).toNat, ?_, ?_⟩
  · rw [BitVec.toNat_and, BitVec.toNat_ofNat, Nat.mod_eq_of_lt (by omega)]
    exact Nat.and_le_right
  · apply Int32.toBitVec_inj.mp
    show x.toBitVec &&& BitVec.ofNat 32 m = BitVec.ofNat 32 _
    rw [BitVec.ofNat_toNat, BitVec.setWidth_eq]
theorem and_natL (x : Int32) (m : Nat) (hm : m < 2147483648) : ∃ k, k ≤ m ∧ (x &&& (OfNat.ofNat m : Int32)) = Int32.ofNat k := and_nat x m hm
theorem nat_lt {i : Int32} {m : Nat} (h : ¬ i < 0) (h2 : i < (OfNat.ofNat m : Int32)) (hm : m < 2147483648) : ∃ k : Nat, k < m ∧ i = Int32.ofNat k := by
  obtain ⟨k, hk⟩ := nn_of h
  rw [x32_lt, lit_int hm, hk] at h2
  exact ⟨k, by omega, ofN_of hk⟩
theorem nat_le {i : Int32} {m : Nat} (h : ¬ i < 0) (h2 : ¬ (OfNat.ofNat m : Int32) < i) (hm : m < 2147483648) : ∃ k : Nat, k ≤ m ∧ i = Int32.ofNat k := by
  obtain ⟨k, hk⟩ := nn_of h
  rw [x32_lt, lit_int hm, hk] at h2
  exact ⟨k, by omega, ofN_of hk⟩
theorem rd_at {α : Type} {xs : List α} {k : Nat} {x : α} (hk : k < 2147483648) (h : xs[k]? = some x) : rd xs (Int32.ofNat k) = some x := rd_of (ofN_int hk) h
theorem wr_at' {α : Type} {xs : List α} {k : Nat} (x : α) (hk : k < 2147483648) (h : k < xs.length) : wr xs (Int32.ofNat k) x = some (xs.set k x) := wr_of x (ofN_int hk) h
theorem rep_get {α : Type} {n k : Nat} (a : α) (h : k < n) : (List.replicate n a)[k]? = some a := by rw [List.getElem?_replicate, if_pos h]
theorem get_set_self {α : Type} {xs : List α} {k : Nat} (x : α) (h : k < xs.length) : (xs.set k x)[k]? = some x := by rw [List.getElem?_set_self h]
theorem get_set_ne {α : Type} {xs : List α} {k j : Nat} (x : α) (h : k ≠ j) : (xs.set k x)[j]? = xs[j]? := List.getElem?_set_ne h
theorem upd_comm {α : Type} (f : Nat → α) {i j : Nat} (h : i ≠ j) (x y : α) : upd (upd f i x) j y = upd (upd f j y) i x := by
  funext m; unfold upd
  by_cases h1 : m = j
  · subst h1; rw [if_pos rfl, if_neg (Ne.symm h), if_pos rfl]
  · rw [if_neg h1]; by_cases h2 : m = i
    · rw [if_pos h2, if_pos h2]
    · rw [if_neg h2, if_neg h2, if_neg h1]
theorem sA_comm {s : St} {i j : Nat} (h : i ≠ j) {x y : List Int32} : sA (sA s i x) j y = sA (sA s j y) i x := by unfold sA; dsimp only; rw [upd_comm _ h]
theorem sB_comm {s : St} {i j : Nat} (h : i ≠ j) {x y : List Int64} : sB (sB s i x) j y = sB (sB s j y) i x := by unfold sB; dsimp only; rw [upd_comm _ h]
theorem sI_comm {s : St} {i j : Nat} (h : i ≠ j) {x y : Int32} : sI (sI s i x) j y = sI (sI s j y) i x := by unfold sI; dsimp only; rw [upd_comm _ h]
theorem sJ_self {s : St} {i : Nat} {x : Int64} (h : gJ s i = x) : sJ s i x = s := by
  subst h; unfold sJ gJ; rw [upd_self]
theorem wrA_nop {s : St} {f N k : Nat} {v : Int32} (h : gA s f = List.replicate N v) (hk : k < N) (hN : N ≤ 2147483647) : wrA s f (Int32.ofNat k) v = some s := by
  rw [wrA_of (k := k) v (ofN_int (by omega)) (by rw [h, List.length_replicate]; exact hk), sA_self (by rw [h, List.set_replicate_self])]
theorem wrB_nop {s : St} {f N k : Nat} {v : Int64} (h : gB s f = List.replicate N v) (hk : k < N) (hN : N ≤ 2147483647) : wrB s f (Int32.ofNat k) v = some s := by
  rw [wrB_of (k := k) v (ofN_int (by omega)) (by rw [h, List.length_replicate]; exact hk), sB_self (by rw [h, List.set_replicate_self])]
/-- a loop that fills -/
theorem wrA_fill {s : St} {f N k : Nat} {u v : Int32} (hk : k < N) (hN : N ≤ 2147483647) : wrA (sA s f (List.replicate k v ++ List.replicate (N - k) u)) f (Int32.ofNat k) v = some (sA s f (List.replicate (k + 1) v ++ List.replicate (N - (k + 1)) u)) := by
  rw [wrA_of (k := k) v (ofN_int (by omega)) (by rw [gA_sA, if_pos rfl]; simp; omega), gA_sA, if_pos rfl, fill_set _ _ _ _ hk, sA_sA]
theorem fill_start {s : St} {f N : Nat} {u v : Int32} (h : gA s f = List.replicate N u) : s = sA s f (List.replicate 0 v ++ List.replicate (N - 0) u) := (sA_self (by rw [h]; rfl)).symm
theorem fill_end {s : St} {f N : Nat} {u v : Int32} : sA s f (List.replicate N v ++ List.replicate (N - N) u) = sA s f (List.replicate N v) := by rw [Nat.sub_self]; simp
theorem x32_neg {x : Int32} (h : -2147483648 < x.toInt) : (-x).toInt = -x.toInt := by
  have := Int32.toInt_lt x
  rw [Int32.toInt_neg]; exact Int.bmod_eq_of_le (by omega) (by omega)
theorem x64_neg {x : Int64} (h : -9223372036854775808 < x.toInt) : (-x).toInt = -x.toInt := by
  have := Int64.toInt_lt x
  rw [Int64.toInt_neg]; exact Int.bmod_eq_of_le (by omega) (by omega)
theorem x64_lt {x y : Int64} : x < y ↔ x.toInt < y.toInt := Int64.lt_iff_toInt_lt
theorem x64_eq {x y : Int64} : x = y ↔ x.toInt = y.toInt := Int64.toInt_inj.symm
theorem x64_add {x y : Int64} (h1 : -9223372036854775808 ≤ x.toInt + y.toInt) (h2 : x.toInt + y.toInt < 9223372036854775808) : (x + y).toInt = x.toInt + y.toInt := by
  rw [Int64.toInt_add]; exact Int.bmod_eq_of_le (by omega) (by omega)
theorem x64_sub {x y : Int64} (h1 : -9223372036854775808 ≤ x.toInt - y.toInt) (h2 : x.toInt - y.toInt < 9223372036854775808) : (x - y).toInt = x.toInt - y.toInt := by
  rw [Int64.toInt_sub]; exact Int.bmod_eq_of_le (by omega) (by omega)
theorem x64_mul {x y : Int64} (h1 : -9223372036854775808 ≤ x.toInt * y.toInt) (h2 : x.toInt * y.toInt < 9223372036854775808) : (x * y).toInt = x.toInt * y.toInt := by
  rw [Int64.toInt_mul]; exact Int.bmod_eq_of_le (by omega) (by omega)
end Jvm.Own
namespace Jvm.Pilot.@@N@@
open Jvm Jvm.ClassFile Sem Op Lib Jvm.Free Jvm.Stand Jvm.LawKit Jvm.RoadKit Bundle Jvm.Pilot.@@N@@.Jvm.D Jvm.Own
abbrev HW (a0 : Array Value) (Z : State) : Prop := ∀ d ∈ tables_1, d.before a0 Z = true
abbrev CN : String := "DemandGate"
def lay : List (String × String) := [("cap", "I"), ("limit", "I"), ("admC", "[I"), ("admD", "[I"), ("admT", "[I"), ("admN", "I"), ("candC", "[I"), ("candD", "[I"), ("candT", "[I"), ("candN", "I"), ("candHeld", "Z"), ("candH", "I"), ("lastOverload", "I"), ("lastHyper", "I"), ("missDeadline", "I"), ("missTask", "I"), ("idleUnits", "I"), ("wC", "[I"), ("wD", "[I"), ("wT", "[I"), ("wN", "I"), ("nextDl", "[I"), ("rem", "[I"), ("absDl", "[I")]
abbrev vs0 : List Value := [.int 0, .int 0, .null, .null, .null, .int 0, .null, .null, .null, .int 0, .int 0, .int 0, .int 0, .int 0, .int 0, .int 0, .int 0, .null, .null, .null, .int 0, .null, .null, .null]
abbrev Hb (b : Nat) (s : St) : List OwnC := [cO [.int (gI s 0), .int (gI s 1), .ref (b + 1), .ref (b + 2), .ref (b + 3), .int (gI s 2), .ref (b + 4), .ref (b + 5), .ref (b + 6), .int (gI s 3), .int (gI s 4), .int (gI s 5), .int (gI s 6), .int (gI s 7), .int (gI s 8), .int (gI s 9), .int (gI s 10), .ref (b + 7), .ref (b + 8), .ref (b + 9), .int (gI s 11), .ref (b + 10), .ref (b + 11), .ref (b + 12)], cI (gA s 0), cI (gA s 1), cI (gA s 2), cI (gA s 3), cI (gA s 4), cI (gA s 5), cI (gA s 6), cI (gA s 7), cI (gA s 8), cI (gA s 9), cI (gA s 10), cI (gA s 11)]
def st0 : St := (fun _ => 0, fun _ => 0, fun i => ([List.replicate 12 0, List.replicate 12 0, List.replicate 12 0, List.replicate 12 0, List.replicate 12 0, List.replicate 12 0, List.replicate 12 0, List.replicate 12 0, List.replicate 12 0, List.replicate 12 0, List.replicate 12 0, List.replicate 12 0] : List (List Int32)).getD i [], fun i => ([] : List (List Int64)).getD i [])
theorem m_0 : (Jvm.Cond.methodLink "DemandGateOwnLaw" (14 : Nat) ({ cls := "DemandGateOwnLaw", name := "cell", desc := "([II)I" } : Jvm.MethodName)) ∈ tables_1 := List.mem_of_getElem? (i := 0) rfl
theorem m_1 : (Jvm.Cond.static ({ cls := "DemandGateOwnLaw", name := "cell", desc := "([II)I" } : Jvm.MethodName)) ∈ tables_1 := List.mem_of_getElem? (i := 1) rfl
theorem m_2 : (Jvm.Cond.initialized "DemandGateOwnLaw") ∈ tables_1 := List.mem_of_getElem? (i := 2) rfl
theorem m_3 : (Jvm.Cond.code ({ cls := "DemandGateOwnLaw", name := "cell", desc := "([II)I" } : Jvm.MethodName) method_2_code (2 : Nat) (Option.some Jvm.ClassFile.FieldType.int)) ∈ tables_1 := List.mem_of_getElem? (i := 3) rfl
theorem m_4 : (Jvm.Cond.methodLink "DemandGateOwnLaw" (8 : Nat) ({ cls := "DemandGateOwnLaw", name := "nz", desc := "(I)I" } : Jvm.MethodName)) ∈ tables_1 := List.mem_of_getElem? (i := 4) rfl
theorem m_5 : (Jvm.Cond.static ({ cls := "DemandGateOwnLaw", name := "nz", desc := "(I)I" } : Jvm.MethodName)) ∈ tables_1 := List.mem_of_getElem? (i := 5) rfl
theorem m_6 : (Jvm.Cond.code ({ cls := "DemandGateOwnLaw", name := "nz", desc := "(I)I" } : Jvm.MethodName) method_3_code (1 : Nat) (Option.some Jvm.ClassFile.FieldType.int)) ∈ tables_1 := List.mem_of_getElem? (i := 6) rfl
theorem m_7 : (Jvm.Cond.constant "DemandGateOwnLaw" (7 : Nat) (2147483647 : Int32)) ∈ tables_1 := List.mem_of_getElem? (i := 7) rfl
theorem m_8 : (Jvm.Cond.methodLink "DemandGateOwnLaw" (18 : Nat) ({ cls := "DemandGateOwnLaw", name := "hyperChoice", desc := "(I)I" } : Jvm.MethodName)) ∈ tables_1 := List.mem_of_getElem? (i := 8) rfl
theorem m_9 : (Jvm.Cond.static ({ cls := "DemandGateOwnLaw", name := "hyperChoice", desc := "(I)I" } : Jvm.MethodName)) ∈ tables_1 := List.mem_of_getElem? (i := 9) rfl
theorem m_10 : (Jvm.Cond.code ({ cls := "DemandGateOwnLaw", name := "hyperChoice", desc := "(I)I" } : Jvm.MethodName) method_5_code (2 : Nat) (Option.some Jvm.ClassFile.FieldType.int)) ∈ tables_1 := List.mem_of_getElem? (i := 10) rfl
theorem m_11 : (Jvm.Cond.classLink "DemandGateOwnLaw" (21 : Nat) "DemandGate") ∈ tables_1 := List.mem_of_getElem? (i := 11) rfl
theorem m_12 : (Jvm.Cond.instantiable "DemandGate" (24 : Nat)) ∈ tables_1 := List.mem_of_getElem? (i := 12) rfl
theorem m_13 : (Jvm.Cond.initialized "DemandGate") ∈ tables_1 := List.mem_of_getElem? (i := 13) rfl
theorem m_14 : (Jvm.Cond.methodLink "DemandGateOwnLaw" (23 : Nat) ({ cls := "DemandGate", name := "<init>", desc := "(II)V" } : Jvm.MethodName)) ∈ tables_1 := List.mem_of_getElem? (i := 14) rfl
theorem m_15 : (Jvm.Cond.instanceMethod ({ cls := "DemandGate", name := "<init>", desc := "(II)V" } : Jvm.MethodName)) ∈ tables_1 := List.mem_of_getElem? (i := 15) rfl
theorem m_16 : (Jvm.Cond.code ({ cls := "DemandGate", name := "<init>", desc := "(II)V" } : Jvm.MethodName) prog_1_method_1_code (3 : Nat) (Option.none : Option Jvm.ClassFile.FieldType)) ∈ tables_1 := List.mem_of_getElem? (i := 16) rfl
theorem m_17 : (Jvm.Cond.methodLink "DemandGate" (1 : Nat) ({ cls := "java/lang/Object", name := "<init>", desc := "()V" } : Jvm.MethodName)) ∈ tables_1 := List.mem_of_getElem? (i := 17) rfl
theorem m_18 : (Jvm.Cond.instanceMethod ({ cls := "java/lang/Object", name := "<init>", desc := "()V" } : Jvm.MethodName)) ∈ tables_1 := List.mem_of_getElem? (i := 18) rfl
theorem m_19 : (Jvm.Cond.code ({ cls := "java/lang/Object", name := "<init>", desc := "()V" } : Jvm.MethodName) object_method_1_code (1 : Nat) (Option.none : Option Jvm.ClassFile.FieldType)) ∈ tables_1 := List.mem_of_getElem? (i := 19) rfl
theorem m_20 : (Jvm.Cond.arrayClass Jvm.ClassFile.FieldType.int) ∈ tables_1 := List.mem_of_getElem? (i := 20) rfl
theorem m_21 : (Jvm.Cond.fieldLink "DemandGate" (7 : Nat) "DemandGate" "admC" "[I") ∈ tables_1 := List.mem_of_getElem? (i := 21) rfl
theorem m_22 : (Jvm.Cond.laysFinal "DemandGate" "DemandGate" "admC" "[I") ∈ tables_1 := List.mem_of_getElem? (i := 22) rfl
theorem m_23 : (Jvm.Cond.fieldLink "DemandGate" (13 : Nat) "DemandGate" "admD" "[I") ∈ tables_1 := List.mem_of_getElem? (i := 23) rfl
theorem m_24 : (Jvm.Cond.laysFinal "DemandGate" "DemandGate" "admD" "[I") ∈ tables_1 := List.mem_of_getElem? (i := 24) rfl
theorem m_25 : (Jvm.Cond.fieldLink "DemandGate" (16 : Nat) "DemandGate" "admT" "[I") ∈ tables_1 := List.mem_of_getElem? (i := 25) rfl
theorem m_26 : (Jvm.Cond.laysFinal "DemandGate" "DemandGate" "admT" "[I") ∈ tables_1 := List.mem_of_getElem? (i := 26) rfl
theorem m_27 : (Jvm.Cond.fieldLink "DemandGate" (19 : Nat) "DemandGate" "candC" "[I") ∈ tables_1 := List.mem_of_getElem? (i := 27) rfl
theorem m_28 : (Jvm.Cond.laysFinal "DemandGate" "DemandGate" "candC" "[I") ∈ tables_1 := List.mem_of_getElem? (i := 28) rfl
theorem m_29 : (Jvm.Cond.fieldLink "DemandGate" (22 : Nat) "DemandGate" "candD" "[I") ∈ tables_1 := List.mem_of_getElem? (i := 29) rfl
theorem m_30 : (Jvm.Cond.laysFinal "DemandGate" "DemandGate" "candD" "[I") ∈ tables_1 := List.mem_of_getElem? (i := 30) rfl
theorem m_31 : (Jvm.Cond.fieldLink "DemandGate" (25 : Nat) "DemandGate" "candT" "[I") ∈ tables_1 := List.mem_of_getElem? (i := 31) rfl
theorem m_32 : (Jvm.Cond.laysFinal "DemandGate" "DemandGate" "candT" "[I") ∈ tables_1 := List.mem_of_getElem? (i := 32) rfl
theorem m_33 : (Jvm.Cond.fieldLink "DemandGate" (28 : Nat) "DemandGate" "wC" "[I") ∈ tables_1 := List.mem_of_getElem? (i := 33) rfl
theorem m_34 : (Jvm.Cond.laysFinal "DemandGate" "DemandGate" "wC" "[I") ∈ tables_1 := List.mem_of_getElem? (i := 34) rfl
theorem m_35 : (Jvm.Cond.fieldLink "DemandGate" (31 : Nat) "DemandGate" "wD" "[I") ∈ tables_1 := List.mem_of_getElem? (i := 35) rfl
theorem m_36 : (Jvm.Cond.laysFinal "DemandGate" "DemandGate" "wD" "[I") ∈ tables_1 := List.mem_of_getElem? (i := 36) rfl
theorem m_37 : (Jvm.Cond.fieldLink "DemandGate" (34 : Nat) "DemandGate" "wT" "[I") ∈ tables_1 := List.mem_of_getElem? (i := 37) rfl
theorem m_38 : (Jvm.Cond.laysFinal "DemandGate" "DemandGate" "wT" "[I") ∈ tables_1 := List.mem_of_getElem? (i := 38) rfl
theorem m_39 : (Jvm.Cond.fieldLink "DemandGate" (37 : Nat) "DemandGate" "nextDl" "[I") ∈ tables_1 := List.mem_of_getElem? (i := 39) rfl
theorem m_40 : (Jvm.Cond.laysFinal "DemandGate" "DemandGate" "nextDl" "[I") ∈ tables_1 := List.mem_of_getElem? (i := 40) rfl
theorem m_41 : (Jvm.Cond.fieldLink "DemandGate" (40 : Nat) "DemandGate" "rem" "[I") ∈ tables_1 := List.mem_of_getElem? (i := 41) rfl
theorem m_42 : (Jvm.Cond.laysFinal "DemandGate" "DemandGate" "rem" "[I") ∈ tables_1 := List.mem_of_getElem? (i := 42) rfl
theorem m_43 : (Jvm.Cond.fieldLink "DemandGate" (43 : Nat) "DemandGate" "absDl" "[I") ∈ tables_1 := List.mem_of_getElem? (i := 43) rfl
theorem m_44 : (Jvm.Cond.laysFinal "DemandGate" "DemandGate" "absDl" "[I") ∈ tables_1 := List.mem_of_getElem? (i := 44) rfl
theorem m_45 : (Jvm.Cond.methodLink "DemandGate" (46 : Nat) ({ cls := "DemandGate", name := "clamp", desc := "(III)I" } : Jvm.MethodName)) ∈ tables_1 := List.mem_of_getElem? (i := 45) rfl
theorem m_46 : (Jvm.Cond.instanceMethod ({ cls := "DemandGate", name := "clamp", desc := "(III)I" } : Jvm.MethodName)) ∈ tables_1 := List.mem_of_getElem? (i := 46) rfl
theorem m_47 : (Jvm.Cond.privateMethod ({ cls := "DemandGate", name := "clamp", desc := "(III)I" } : Jvm.MethodName)) ∈ tables_1 := List.mem_of_getElem? (i := 47) rfl
theorem m_48 : (Jvm.Cond.code ({ cls := "DemandGate", name := "clamp", desc := "(III)I" } : Jvm.MethodName) prog_1_method_18_code (4 : Nat) (Option.some Jvm.ClassFile.FieldType.int)) ∈ tables_1 := List.mem_of_getElem? (i := 48) rfl
theorem m_49 : (Jvm.Cond.fieldLink "DemandGate" (50 : Nat) "DemandGate" "cap" "I") ∈ tables_1 := List.mem_of_getElem? (i := 49) rfl
theorem m_50 : (Jvm.Cond.lays "DemandGate" "DemandGate" "cap" "I") ∈ tables_1 := List.mem_of_getElem? (i := 50) rfl
theorem m_51 : (Jvm.Cond.fieldLink "DemandGate" (54 : Nat) "DemandGate" "limit" "I") ∈ tables_1 := List.mem_of_getElem? (i := 51) rfl
theorem m_52 : (Jvm.Cond.lays "DemandGate" "DemandGate" "limit" "I") ∈ tables_1 := List.mem_of_getElem? (i := 52) rfl
theorem m_53 : (Jvm.Cond.fieldLink "DemandGate" (57 : Nat) "DemandGate" "admN" "I") ∈ tables_1 := List.mem_of_getElem? (i := 53) rfl
theorem m_54 : (Jvm.Cond.lays "DemandGate" "DemandGate" "admN" "I") ∈ tables_1 := List.mem_of_getElem? (i := 54) rfl
theorem m_55 : (Jvm.Cond.fieldLink "DemandGate" (60 : Nat) "DemandGate" "candN" "I") ∈ tables_1 := List.mem_of_getElem? (i := 55) rfl
theorem m_56 : (Jvm.Cond.lays "DemandGate" "DemandGate" "candN" "I") ∈ tables_1 := List.mem_of_getElem? (i := 56) rfl
theorem m_57 : (Jvm.Cond.fieldLink "DemandGate" (63 : Nat) "DemandGate" "candHeld" "Z") ∈ tables_1 := List.mem_of_getElem? (i := 57) rfl
theorem m_58 : (Jvm.Cond.lays "DemandGate" "DemandGate" "candHeld" "Z") ∈ tables_1 := List.mem_of_getElem? (i := 58) rfl
theorem m_59 : (Jvm.Cond.fieldLink "DemandGate" (67 : Nat) "DemandGate" "candH" "I") ∈ tables_1 := List.mem_of_getElem? (i := 59) rfl
theorem m_60 : (Jvm.Cond.lays "DemandGate" "DemandGate" "candH" "I") ∈ tables_1 := List.mem_of_getElem? (i := 60) rfl
theorem m_61 : (Jvm.Cond.fieldLink "DemandGate" (70 : Nat) "DemandGate" "lastOverload" "I") ∈ tables_1 := List.mem_of_getElem? (i := 61) rfl
theorem m_62 : (Jvm.Cond.lays "DemandGate" "DemandGate" "lastOverload" "I") ∈ tables_1 := List.mem_of_getElem? (i := 62) rfl
theorem m_63 : (Jvm.Cond.fieldLink "DemandGate" (73 : Nat) "DemandGate" "lastHyper" "I") ∈ tables_1 := List.mem_of_getElem? (i := 63) rfl
theorem m_64 : (Jvm.Cond.lays "DemandGate" "DemandGate" "lastHyper" "I") ∈ tables_1 := List.mem_of_getElem? (i := 64) rfl
theorem m_65 : (Jvm.Cond.fieldLink "DemandGate" (76 : Nat) "DemandGate" "missDeadline" "I") ∈ tables_1 := List.mem_of_getElem? (i := 65) rfl
theorem m_66 : (Jvm.Cond.lays "DemandGate" "DemandGate" "missDeadline" "I") ∈ tables_1 := List.mem_of_getElem? (i := 66) rfl
theorem m_67 : (Jvm.Cond.fieldLink "DemandGate" (79 : Nat) "DemandGate" "missTask" "I") ∈ tables_1 := List.mem_of_getElem? (i := 67) rfl
theorem m_68 : (Jvm.Cond.lays "DemandGate" "DemandGate" "missTask" "I") ∈ tables_1 := List.mem_of_getElem? (i := 68) rfl
theorem m_69 : (Jvm.Cond.fieldLink "DemandGate" (82 : Nat) "DemandGate" "idleUnits" "I") ∈ tables_1 := List.mem_of_getElem? (i := 69) rfl
theorem m_70 : (Jvm.Cond.lays "DemandGate" "DemandGate" "idleUnits" "I") ∈ tables_1 := List.mem_of_getElem? (i := 70) rfl
theorem m_71 : (Jvm.Cond.fieldLink "DemandGate" (85 : Nat) "DemandGate" "wN" "I") ∈ tables_1 := List.mem_of_getElem? (i := 71) rfl
theorem m_72 : (Jvm.Cond.lays "DemandGate" "DemandGate" "wN" "I") ∈ tables_1 := List.mem_of_getElem? (i := 72) rfl
theorem m_73 : (Jvm.Cond.methodLink "DemandGateOwnLaw" (26 : Nat) ({ cls := "DemandGate", name := "simulate", desc := "(I)I" } : Jvm.MethodName)) ∈ tables_1 := List.mem_of_getElem? (i := 73) rfl
theorem m_74 : (Jvm.Cond.declares ({ cls := "DemandGate", name := "simulate", desc := "(I)I" } : Jvm.MethodName)) ∈ tables_1 := List.mem_of_getElem? (i := 74) rfl
theorem m_75 : (Jvm.Cond.instanceMethod ({ cls := "DemandGate", name := "simulate", desc := "(I)I" } : Jvm.MethodName)) ∈ tables_1 := List.mem_of_getElem? (i := 75) rfl
theorem m_76 : (Jvm.Cond.selects "DemandGate" ({ cls := "DemandGate", name := "simulate", desc := "(I)I" } : Jvm.MethodName) ({ cls := "DemandGate", name := "simulate", desc := "(I)I" } : Jvm.MethodName)) ∈ tables_1 := List.mem_of_getElem? (i := 76) rfl
theorem m_77 : (Jvm.Cond.code ({ cls := "DemandGate", name := "simulate", desc := "(I)I" } : Jvm.MethodName) prog_1_method_14_code (3 : Nat) (Option.some Jvm.ClassFile.FieldType.int)) ∈ tables_1 := List.mem_of_getElem? (i := 77) rfl
theorem m_78 : (Jvm.Cond.methodLink "DemandGate" (92 : Nat) ({ cls := "DemandGate", name := "loadAdmitted", desc := "()V" } : Jvm.MethodName)) ∈ tables_1 := List.mem_of_getElem? (i := 78) rfl
theorem m_79 : (Jvm.Cond.instanceMethod ({ cls := "DemandGate", name := "loadAdmitted", desc := "()V" } : Jvm.MethodName)) ∈ tables_1 := List.mem_of_getElem? (i := 79) rfl
theorem m_80 : (Jvm.Cond.privateMethod ({ cls := "DemandGate", name := "loadAdmitted", desc := "()V" } : Jvm.MethodName)) ∈ tables_1 := List.mem_of_getElem? (i := 80) rfl
theorem m_81 : (Jvm.Cond.code ({ cls := "DemandGate", name := "loadAdmitted", desc := "()V" } : Jvm.MethodName) prog_1_method_20_code (2 : Nat) (Option.none : Option Jvm.ClassFile.FieldType)) ∈ tables_1 := List.mem_of_getElem? (i := 81) rfl
theorem m_82 : (Jvm.Cond.methodLink "DemandGate" (98 : Nat) ({ cls := "DemandGate", name := "workHyper", desc := "(I)I" } : Jvm.MethodName)) ∈ tables_1 := List.mem_of_getElem? (i := 82) rfl
theorem m_83 : (Jvm.Cond.instanceMethod ({ cls := "DemandGate", name := "workHyper", desc := "(I)I" } : Jvm.MethodName)) ∈ tables_1 := List.mem_of_getElem? (i := 83) rfl
theorem m_84 : (Jvm.Cond.privateMethod ({ cls := "DemandGate", name := "workHyper", desc := "(I)I" } : Jvm.MethodName)) ∈ tables_1 := List.mem_of_getElem? (i := 84) rfl
theorem m_85 : (Jvm.Cond.code ({ cls := "DemandGate", name := "workHyper", desc := "(I)I" } : Jvm.MethodName) prog_1_method_27_code (5 : Nat) (Option.some Jvm.ClassFile.FieldType.int)) ∈ tables_1 := List.mem_of_getElem? (i := 85) rfl
theorem m_86 : (Jvm.Cond.methodLink "DemandGate" (119 : Nat) ({ cls := "DemandGate", name := "runEdf", desc := "(I)I" } : Jvm.MethodName)) ∈ tables_1 := List.mem_of_getElem? (i := 86) rfl
theorem m_87 : (Jvm.Cond.instanceMethod ({ cls := "DemandGate", name := "runEdf", desc := "(I)I" } : Jvm.MethodName)) ∈ tables_1 := List.mem_of_getElem? (i := 87) rfl
theorem m_88 : (Jvm.Cond.privateMethod ({ cls := "DemandGate", name := "runEdf", desc := "(I)I" } : Jvm.MethodName)) ∈ tables_1 := List.mem_of_getElem? (i := 88) rfl
theorem m_89 : (Jvm.Cond.code ({ cls := "DemandGate", name := "runEdf", desc := "(I)I" } : Jvm.MethodName) prog_1_method_34_code (6 : Nat) (Option.some Jvm.ClassFile.FieldType.int)) ∈ tables_1 := List.mem_of_getElem? (i := 89) rfl
theorem m_90 : (Jvm.Cond.methodLink "DemandGate" (145 : Nat) ({ cls := "DemandGate", name := "resetJobs", desc := "()V" } : Jvm.MethodName)) ∈ tables_1 := List.mem_of_getElem? (i := 90) rfl
theorem m_91 : (Jvm.Cond.instanceMethod ({ cls := "DemandGate", name := "resetJobs", desc := "()V" } : Jvm.MethodName)) ∈ tables_1 := List.mem_of_getElem? (i := 91) rfl
theorem m_92 : (Jvm.Cond.privateMethod ({ cls := "DemandGate", name := "resetJobs", desc := "()V" } : Jvm.MethodName)) ∈ tables_1 := List.mem_of_getElem? (i := 92) rfl
theorem m_93 : (Jvm.Cond.code ({ cls := "DemandGate", name := "resetJobs", desc := "()V" } : Jvm.MethodName) prog_1_method_35_code (2 : Nat) (Option.none : Option Jvm.ClassFile.FieldType)) ∈ tables_1 := List.mem_of_getElem? (i := 93) rfl
theorem m_94 : (Jvm.Cond.methodLink "DemandGate" (148 : Nat) ({ cls := "DemandGate", name := "firstMissAt", desc := "(I)I" } : Jvm.MethodName)) ∈ tables_1 := List.mem_of_getElem? (i := 94) rfl
theorem m_95 : (Jvm.Cond.instanceMethod ({ cls := "DemandGate", name := "firstMissAt", desc := "(I)I" } : Jvm.MethodName)) ∈ tables_1 := List.mem_of_getElem? (i := 95) rfl
theorem m_96 : (Jvm.Cond.privateMethod ({ cls := "DemandGate", name := "firstMissAt", desc := "(I)I" } : Jvm.MethodName)) ∈ tables_1 := List.mem_of_getElem? (i := 96) rfl
theorem m_97 : (Jvm.Cond.code ({ cls := "DemandGate", name := "firstMissAt", desc := "(I)I" } : Jvm.MethodName) prog_1_method_37_code (3 : Nat) (Option.some Jvm.ClassFile.FieldType.int)) ∈ tables_1 := List.mem_of_getElem? (i := 97) rfl
theorem m_98 : (Jvm.Cond.methodLink "DemandGate" (155 : Nat) ({ cls := "DemandGate", name := "releaseAt", desc := "(I)V" } : Jvm.MethodName)) ∈ tables_1 := List.mem_of_getElem? (i := 98) rfl
theorem m_99 : (Jvm.Cond.instanceMethod ({ cls := "DemandGate", name := "releaseAt", desc := "(I)V" } : Jvm.MethodName)) ∈ tables_1 := List.mem_of_getElem? (i := 99) rfl
theorem m_100 : (Jvm.Cond.privateMethod ({ cls := "DemandGate", name := "releaseAt", desc := "(I)V" } : Jvm.MethodName)) ∈ tables_1 := List.mem_of_getElem? (i := 100) rfl
theorem m_101 : (Jvm.Cond.code ({ cls := "DemandGate", name := "releaseAt", desc := "(I)V" } : Jvm.MethodName) prog_1_method_38_code (3 : Nat) (Option.none : Option Jvm.ClassFile.FieldType)) ∈ tables_1 := List.mem_of_getElem? (i := 101) rfl
theorem m_102 : (Jvm.Cond.methodLink "DemandGate" (158 : Nat) ({ cls := "DemandGate", name := "dispatchSlot", desc := "()Z" } : Jvm.MethodName)) ∈ tables_1 := List.mem_of_getElem? (i := 102) rfl
theorem m_103 : (Jvm.Cond.instanceMethod ({ cls := "DemandGate", name := "dispatchSlot", desc := "()Z" } : Jvm.MethodName)) ∈ tables_1 := List.mem_of_getElem? (i := 103) rfl
theorem m_104 : (Jvm.Cond.privateMethod ({ cls := "DemandGate", name := "dispatchSlot", desc := "()Z" } : Jvm.MethodName)) ∈ tables_1 := List.mem_of_getElem? (i := 104) rfl
theorem m_105 : (Jvm.Cond.code ({ cls := "DemandGate", name := "dispatchSlot", desc := "()Z" } : Jvm.MethodName) prog_1_method_39_code (3 : Nat) (Option.some Jvm.ClassFile.FieldType.boolean)) ∈ tables_1 := List.mem_of_getElem? (i := 105) rfl
theorem m_106 : (Jvm.Cond.methodLink "DemandGate" (162 : Nat) ({ cls := "DemandGate", name := "anyPending", desc := "()Z" } : Jvm.MethodName)) ∈ tables_1 := List.mem_of_getElem? (i := 106) rfl
theorem m_107 : (Jvm.Cond.instanceMethod ({ cls := "DemandGate", name := "anyPending", desc := "()Z" } : Jvm.MethodName)) ∈ tables_1 := List.mem_of_getElem? (i := 107) rfl
theorem m_108 : (Jvm.Cond.privateMethod ({ cls := "DemandGate", name := "anyPending", desc := "()Z" } : Jvm.MethodName)) ∈ tables_1 := List.mem_of_getElem? (i := 108) rfl
theorem m_109 : (Jvm.Cond.code ({ cls := "DemandGate", name := "anyPending", desc := "()Z" } : Jvm.MethodName) prog_1_method_40_code (2 : Nat) (Option.some Jvm.ClassFile.FieldType.boolean)) ∈ tables_1 := List.mem_of_getElem? (i := 109) rfl
theorem m_110 : (Jvm.Cond.methodLink "DemandGate" (165 : Nat) ({ cls := "DemandGate", name := "nextReleaseAfter", desc := "(II)I" } : Jvm.MethodName)) ∈ tables_1 := List.mem_of_getElem? (i := 110) rfl
theorem m_111 : (Jvm.Cond.instanceMethod ({ cls := "DemandGate", name := "nextReleaseAfter", desc := "(II)I" } : Jvm.MethodName)) ∈ tables_1 := List.mem_of_getElem? (i := 111) rfl
theorem m_112 : (Jvm.Cond.privateMethod ({ cls := "DemandGate", name := "nextReleaseAfter", desc := "(II)I" } : Jvm.MethodName)) ∈ tables_1 := List.mem_of_getElem? (i := 112) rfl
theorem m_113 : (Jvm.Cond.code ({ cls := "DemandGate", name := "nextReleaseAfter", desc := "(II)I" } : Jvm.MethodName) prog_1_method_41_code (6 : Nat) (Option.some Jvm.ClassFile.FieldType.int)) ∈ tables_1 := List.mem_of_getElem? (i := 113) rfl
theorem m_114 : (Jvm.Cond.methodLink "DemandGate" (151 : Nat) ({ cls := "DemandGate", name := "recordRun", desc := "(III)V" } : Jvm.MethodName)) ∈ tables_1 := List.mem_of_getElem? (i := 114) rfl
theorem m_115 : (Jvm.Cond.instanceMethod ({ cls := "DemandGate", name := "recordRun", desc := "(III)V" } : Jvm.MethodName)) ∈ tables_1 := List.mem_of_getElem? (i := 115) rfl
theorem m_116 : (Jvm.Cond.privateMethod ({ cls := "DemandGate", name := "recordRun", desc := "(III)V" } : Jvm.MethodName)) ∈ tables_1 := List.mem_of_getElem? (i := 116) rfl
theorem m_117 : (Jvm.Cond.code ({ cls := "DemandGate", name := "recordRun", desc := "(III)V" } : Jvm.MethodName) prog_1_method_36_code (4 : Nat) (Option.none : Option Jvm.ClassFile.FieldType)) ∈ tables_1 := List.mem_of_getElem? (i := 117) rfl
theorem m_118 : (Jvm.Cond.methodLink "DemandGateOwnLaw" (29 : Nat) ({ cls := "DemandGateOwnLaw", name := "period", desc := "(I)I" } : Jvm.MethodName)) ∈ tables_1 := List.mem_of_getElem? (i := 118) rfl
theorem m_119 : (Jvm.Cond.static ({ cls := "DemandGateOwnLaw", name := "period", desc := "(I)I" } : Jvm.MethodName)) ∈ tables_1 := List.mem_of_getElem? (i := 119) rfl
theorem m_120 : (Jvm.Cond.code ({ cls := "DemandGateOwnLaw", name := "period", desc := "(I)I" } : Jvm.MethodName) method_4_code (2 : Nat) (Option.some Jvm.ClassFile.FieldType.int)) ∈ tables_1 := List.mem_of_getElem? (i := 120) rfl
theorem m_121 : (Jvm.Cond.methodLink "DemandGateOwnLaw" (32 : Nat) ({ cls := "DemandGate", name := "propose", desc := "(III)I" } : Jvm.MethodName)) ∈ tables_1 := List.mem_of_getElem? (i := 121) rfl
theorem m_122 : (Jvm.Cond.declares ({ cls := "DemandGate", name := "propose", desc := "(III)I" } : Jvm.MethodName)) ∈ tables_1 := List.mem_of_getElem? (i := 122) rfl
theorem m_123 : (Jvm.Cond.instanceMethod ({ cls := "DemandGate", name := "propose", desc := "(III)I" } : Jvm.MethodName)) ∈ tables_1 := List.mem_of_getElem? (i := 123) rfl
theorem m_124 : (Jvm.Cond.selects "DemandGate" ({ cls := "DemandGate", name := "propose", desc := "(III)I" } : Jvm.MethodName) ({ cls := "DemandGate", name := "propose", desc := "(III)I" } : Jvm.MethodName)) ∈ tables_1 := List.mem_of_getElem? (i := 124) rfl
theorem m_125 : (Jvm.Cond.code ({ cls := "DemandGate", name := "propose", desc := "(III)I" } : Jvm.MethodName) prog_1_method_2_code (5 : Nat) (Option.some Jvm.ClassFile.FieldType.int)) ∈ tables_1 := List.mem_of_getElem? (i := 125) rfl
theorem m_126 : (Jvm.Cond.methodLink "DemandGate" (88 : Nat) ({ cls := "DemandGate", name := "validParams", desc := "(III)Z" } : Jvm.MethodName)) ∈ tables_1 := List.mem_of_getElem? (i := 126) rfl
theorem m_127 : (Jvm.Cond.instanceMethod ({ cls := "DemandGate", name := "validParams", desc := "(III)Z" } : Jvm.MethodName)) ∈ tables_1 := List.mem_of_getElem? (i := 127) rfl
theorem m_128 : (Jvm.Cond.privateMethod ({ cls := "DemandGate", name := "validParams", desc := "(III)Z" } : Jvm.MethodName)) ∈ tables_1 := List.mem_of_getElem? (i := 128) rfl
theorem m_129 : (Jvm.Cond.code ({ cls := "DemandGate", name := "validParams", desc := "(III)Z" } : Jvm.MethodName) prog_1_method_19_code (4 : Nat) (Option.some Jvm.ClassFile.FieldType.boolean)) ∈ tables_1 := List.mem_of_getElem? (i := 129) rfl
theorem m_130 : (Jvm.Cond.methodLink "DemandGate" (95 : Nat) ({ cls := "DemandGate", name := "appendWork", desc := "(III)Z" } : Jvm.MethodName)) ∈ tables_1 := List.mem_of_getElem? (i := 130) rfl
theorem m_131 : (Jvm.Cond.instanceMethod ({ cls := "DemandGate", name := "appendWork", desc := "(III)Z" } : Jvm.MethodName)) ∈ tables_1 := List.mem_of_getElem? (i := 131) rfl
theorem m_132 : (Jvm.Cond.privateMethod ({ cls := "DemandGate", name := "appendWork", desc := "(III)Z" } : Jvm.MethodName)) ∈ tables_1 := List.mem_of_getElem? (i := 132) rfl
theorem m_133 : (Jvm.Cond.code ({ cls := "DemandGate", name := "appendWork", desc := "(III)Z" } : Jvm.MethodName) prog_1_method_22_code (4 : Nat) (Option.some Jvm.ClassFile.FieldType.boolean)) ∈ tables_1 := List.mem_of_getElem? (i := 133) rfl
theorem m_134 : (Jvm.Cond.methodLink "DemandGate" (126 : Nat) ({ cls := "DemandGate", name := "lcm", desc := "(JJ)J" } : Jvm.MethodName)) ∈ tables_1 := List.mem_of_getElem? (i := 134) rfl
theorem m_135 : (Jvm.Cond.instanceMethod ({ cls := "DemandGate", name := "lcm", desc := "(JJ)J" } : Jvm.MethodName)) ∈ tables_1 := List.mem_of_getElem? (i := 135) rfl
theorem m_136 : (Jvm.Cond.privateMethod ({ cls := "DemandGate", name := "lcm", desc := "(JJ)J" } : Jvm.MethodName)) ∈ tables_1 := List.mem_of_getElem? (i := 136) rfl
theorem m_137 : (Jvm.Cond.code ({ cls := "DemandGate", name := "lcm", desc := "(JJ)J" } : Jvm.MethodName) prog_1_method_26_code (7 : Nat) (Option.some Jvm.ClassFile.FieldType.long)) ∈ tables_1 := List.mem_of_getElem? (i := 137) rfl
theorem m_138 : (Jvm.Cond.methodLink "DemandGate" (122 : Nat) ({ cls := "DemandGate", name := "gcd", desc := "(JJ)J" } : Jvm.MethodName)) ∈ tables_1 := List.mem_of_getElem? (i := 138) rfl
theorem m_139 : (Jvm.Cond.instanceMethod ({ cls := "DemandGate", name := "gcd", desc := "(JJ)J" } : Jvm.MethodName)) ∈ tables_1 := List.mem_of_getElem? (i := 139) rfl
theorem m_140 : (Jvm.Cond.privateMethod ({ cls := "DemandGate", name := "gcd", desc := "(JJ)J" } : Jvm.MethodName)) ∈ tables_1 := List.mem_of_getElem? (i := 140) rfl
theorem m_141 : (Jvm.Cond.code ({ cls := "DemandGate", name := "gcd", desc := "(JJ)J" } : Jvm.MethodName) prog_1_method_25_code (12 : Nat) (Option.some Jvm.ClassFile.FieldType.long)) ∈ tables_1 := List.mem_of_getElem? (i := 141) rfl
theorem m_142 : (Jvm.Cond.methodLink "DemandGate" (102 : Nat) ({ cls := "DemandGate", name := "storeCandidate", desc := "(I)V" } : Jvm.MethodName)) ∈ tables_1 := List.mem_of_getElem? (i := 142) rfl
theorem m_143 : (Jvm.Cond.instanceMethod ({ cls := "DemandGate", name := "storeCandidate", desc := "(I)V" } : Jvm.MethodName)) ∈ tables_1 := List.mem_of_getElem? (i := 143) rfl
theorem m_144 : (Jvm.Cond.privateMethod ({ cls := "DemandGate", name := "storeCandidate", desc := "(I)V" } : Jvm.MethodName)) ∈ tables_1 := List.mem_of_getElem? (i := 144) rfl
theorem m_145 : (Jvm.Cond.code ({ cls := "DemandGate", name := "storeCandidate", desc := "(I)V" } : Jvm.MethodName) prog_1_method_23_code (3 : Nat) (Option.none : Option Jvm.ClassFile.FieldType)) ∈ tables_1 := List.mem_of_getElem? (i := 145) rfl
theorem m_146 : (Jvm.Cond.methodLink "DemandGate" (106 : Nat) ({ cls := "DemandGate", name := "overloadOfWork", desc := "(I)I" } : Jvm.MethodName)) ∈ tables_1 := List.mem_of_getElem? (i := 146) rfl
theorem m_147 : (Jvm.Cond.instanceMethod ({ cls := "DemandGate", name := "overloadOfWork", desc := "(I)I" } : Jvm.MethodName)) ∈ tables_1 := List.mem_of_getElem? (i := 147) rfl
theorem m_148 : (Jvm.Cond.privateMethod ({ cls := "DemandGate", name := "overloadOfWork", desc := "(I)I" } : Jvm.MethodName)) ∈ tables_1 := List.mem_of_getElem? (i := 148) rfl
theorem m_149 : (Jvm.Cond.code ({ cls := "DemandGate", name := "overloadOfWork", desc := "(I)I" } : Jvm.MethodName) prog_1_method_28_code (2 : Nat) (Option.some Jvm.ClassFile.FieldType.int)) ∈ tables_1 := List.mem_of_getElem? (i := 149) rfl
theorem m_150 : (Jvm.Cond.methodLink "DemandGate" (129 : Nat) ({ cls := "DemandGate", name := "implicitWithinCapacity", desc := "(I)Z" } : Jvm.MethodName)) ∈ tables_1 := List.mem_of_getElem? (i := 150) rfl
theorem m_151 : (Jvm.Cond.instanceMethod ({ cls := "DemandGate", name := "implicitWithinCapacity", desc := "(I)Z" } : Jvm.MethodName)) ∈ tables_1 := List.mem_of_getElem? (i := 151) rfl
theorem m_152 : (Jvm.Cond.privateMethod ({ cls := "DemandGate", name := "implicitWithinCapacity", desc := "(I)Z" } : Jvm.MethodName)) ∈ tables_1 := List.mem_of_getElem? (i := 152) rfl
theorem m_153 : (Jvm.Cond.code ({ cls := "DemandGate", name := "implicitWithinCapacity", desc := "(I)Z" } : Jvm.MethodName) prog_1_method_29_code (5 : Nat) (Option.some Jvm.ClassFile.FieldType.boolean)) ∈ tables_1 := List.mem_of_getElem? (i := 153) rfl
theorem m_154 : (Jvm.Cond.methodLink "DemandGate" (109 : Nat) ({ cls := "DemandGate", name := "admitTask", desc := "(III)I" } : Jvm.MethodName)) ∈ tables_1 := List.mem_of_getElem? (i := 154) rfl
theorem m_155 : (Jvm.Cond.instanceMethod ({ cls := "DemandGate", name := "admitTask", desc := "(III)I" } : Jvm.MethodName)) ∈ tables_1 := List.mem_of_getElem? (i := 155) rfl
theorem m_156 : (Jvm.Cond.privateMethod ({ cls := "DemandGate", name := "admitTask", desc := "(III)I" } : Jvm.MethodName)) ∈ tables_1 := List.mem_of_getElem? (i := 156) rfl
theorem m_157 : (Jvm.Cond.code ({ cls := "DemandGate", name := "admitTask", desc := "(III)I" } : Jvm.MethodName) prog_1_method_24_code (4 : Nat) (Option.some Jvm.ClassFile.FieldType.int)) ∈ tables_1 := List.mem_of_getElem? (i := 157) rfl
theorem m_158 : (Jvm.Cond.methodLink "DemandGate" (116 : Nat) ({ cls := "DemandGate", name := "loadCandidate", desc := "()V" } : Jvm.MethodName)) ∈ tables_1 := List.mem_of_getElem? (i := 158) rfl
theorem m_159 : (Jvm.Cond.instanceMethod ({ cls := "DemandGate", name := "loadCandidate", desc := "()V" } : Jvm.MethodName)) ∈ tables_1 := List.mem_of_getElem? (i := 159) rfl
theorem m_160 : (Jvm.Cond.privateMethod ({ cls := "DemandGate", name := "loadCandidate", desc := "()V" } : Jvm.MethodName)) ∈ tables_1 := List.mem_of_getElem? (i := 160) rfl
theorem m_161 : (Jvm.Cond.code ({ cls := "DemandGate", name := "loadCandidate", desc := "()V" } : Jvm.MethodName) prog_1_method_21_code (2 : Nat) (Option.none : Option Jvm.ClassFile.FieldType)) ∈ tables_1 := List.mem_of_getElem? (i := 161) rfl
theorem m_162 : (Jvm.Cond.methodLink "DemandGate" (133 : Nat) ({ cls := "DemandGate", name := "scanDeadlinePoints", desc := "(I)I" } : Jvm.MethodName)) ∈ tables_1 := List.mem_of_getElem? (i := 162) rfl
theorem m_163 : (Jvm.Cond.instanceMethod ({ cls := "DemandGate", name := "scanDeadlinePoints", desc := "(I)I" } : Jvm.MethodName)) ∈ tables_1 := List.mem_of_getElem? (i := 163) rfl
theorem m_164 : (Jvm.Cond.privateMethod ({ cls := "DemandGate", name := "scanDeadlinePoints", desc := "(I)I" } : Jvm.MethodName)) ∈ tables_1 := List.mem_of_getElem? (i := 164) rfl
theorem m_165 : (Jvm.Cond.code ({ cls := "DemandGate", name := "scanDeadlinePoints", desc := "(I)I" } : Jvm.MethodName) prog_1_method_30_code (6 : Nat) (Option.some Jvm.ClassFile.FieldType.int)) ∈ tables_1 := List.mem_of_getElem? (i := 165) rfl
theorem m_166 : (Jvm.Cond.methodLink "DemandGate" (136 : Nat) ({ cls := "DemandGate", name := "earliestNextDeadline", desc := "()I" } : Jvm.MethodName)) ∈ tables_1 := List.mem_of_getElem? (i := 166) rfl
theorem m_167 : (Jvm.Cond.instanceMethod ({ cls := "DemandGate", name := "earliestNextDeadline", desc := "()I" } : Jvm.MethodName)) ∈ tables_1 := List.mem_of_getElem? (i := 167) rfl
theorem m_168 : (Jvm.Cond.privateMethod ({ cls := "DemandGate", name := "earliestNextDeadline", desc := "()I" } : Jvm.MethodName)) ∈ tables_1 := List.mem_of_getElem? (i := 168) rfl
theorem m_169 : (Jvm.Cond.code ({ cls := "DemandGate", name := "earliestNextDeadline", desc := "()I" } : Jvm.MethodName) prog_1_method_31_code (3 : Nat) (Option.some Jvm.ClassFile.FieldType.int)) ∈ tables_1 := List.mem_of_getElem? (i := 169) rfl
theorem m_170 : (Jvm.Cond.constant "DemandGate" (144 : Nat) (2147483647 : Int32)) ∈ tables_1 := List.mem_of_getElem? (i := 170) rfl
theorem m_171 : (Jvm.Cond.methodLink "DemandGate" (140 : Nat) ({ cls := "DemandGate", name := "consumeDeadlinesAt", desc := "(I)J" } : Jvm.MethodName)) ∈ tables_1 := List.mem_of_getElem? (i := 171) rfl
theorem m_172 : (Jvm.Cond.instanceMethod ({ cls := "DemandGate", name := "consumeDeadlinesAt", desc := "(I)J" } : Jvm.MethodName)) ∈ tables_1 := List.mem_of_getElem? (i := 172) rfl
theorem m_173 : (Jvm.Cond.privateMethod ({ cls := "DemandGate", name := "consumeDeadlinesAt", desc := "(I)J" } : Jvm.MethodName)) ∈ tables_1 := List.mem_of_getElem? (i := 173) rfl
theorem m_174 : (Jvm.Cond.code ({ cls := "DemandGate", name := "consumeDeadlinesAt", desc := "(I)J" } : Jvm.MethodName) prog_1_method_32_code (5 : Nat) (Option.some Jvm.ClassFile.FieldType.long)) ∈ tables_1 := List.mem_of_getElem? (i := 174) rfl
theorem m_175 : (Jvm.Cond.methodLink "DemandGateOwnLaw" (36 : Nat) ({ cls := "DemandGate", name := "remove", desc := "(I)Z" } : Jvm.MethodName)) ∈ tables_1 := List.mem_of_getElem? (i := 175) rfl
theorem m_176 : (Jvm.Cond.declares ({ cls := "DemandGate", name := "remove", desc := "(I)Z" } : Jvm.MethodName)) ∈ tables_1 := List.mem_of_getElem? (i := 176) rfl
theorem m_177 : (Jvm.Cond.instanceMethod ({ cls := "DemandGate", name := "remove", desc := "(I)Z" } : Jvm.MethodName)) ∈ tables_1 := List.mem_of_getElem? (i := 177) rfl
theorem m_178 : (Jvm.Cond.selects "DemandGate" ({ cls := "DemandGate", name := "remove", desc := "(I)Z" } : Jvm.MethodName) ({ cls := "DemandGate", name := "remove", desc := "(I)Z" } : Jvm.MethodName)) ∈ tables_1 := List.mem_of_getElem? (i := 178) rfl
theorem m_179 : (Jvm.Cond.code ({ cls := "DemandGate", name := "remove", desc := "(I)Z" } : Jvm.MethodName) prog_1_method_3_code (3 : Nat) (Option.some Jvm.ClassFile.FieldType.boolean)) ∈ tables_1 := List.mem_of_getElem? (i := 179) rfl
theorem m_180 : (Jvm.Cond.methodLink "DemandGateOwnLaw" (40 : Nat) ({ cls := "DemandGate", name := "clear", desc := "()V" } : Jvm.MethodName)) ∈ tables_1 := List.mem_of_getElem? (i := 180) rfl
theorem m_181 : (Jvm.Cond.declares ({ cls := "DemandGate", name := "clear", desc := "()V" } : Jvm.MethodName)) ∈ tables_1 := List.mem_of_getElem? (i := 181) rfl
theorem m_182 : (Jvm.Cond.instanceMethod ({ cls := "DemandGate", name := "clear", desc := "()V" } : Jvm.MethodName)) ∈ tables_1 := List.mem_of_getElem? (i := 182) rfl
theorem m_183 : (Jvm.Cond.selects "DemandGate" ({ cls := "DemandGate", name := "clear", desc := "()V" } : Jvm.MethodName) ({ cls := "DemandGate", name := "clear", desc := "()V" } : Jvm.MethodName)) ∈ tables_1 := List.mem_of_getElem? (i := 183) rfl
theorem m_184 : (Jvm.Cond.code ({ cls := "DemandGate", name := "clear", desc := "()V" } : Jvm.MethodName) prog_1_method_4_code (1 : Nat) (Option.none : Option Jvm.ClassFile.FieldType)) ∈ tables_1 := List.mem_of_getElem? (i := 184) rfl
theorem laid0 {Z : State} {a0 : Array Value} (hw : HW a0 Z) : LaidAll Z a0 CN lay vs0 :=
  ⟨⟨Or.inl (hw _ m_50), .int, by decide, rfl⟩, ⟨Or.inl (hw _ m_52), .int, by decide, rfl⟩, ⟨Or.inr (hw _ m_22), .array .int, by decide, rfl⟩, ⟨Or.inr (hw _ m_24), .array .int, by decide, rfl⟩, ⟨Or.inr (hw _ m_26), .array .int, by decide, rfl⟩, ⟨Or.inl (hw _ m_54), .int, by decide, rfl⟩, ⟨Or.inr (hw _ m_28), .array .int, by decide, rfl⟩, ⟨Or.inr (hw _ m_30), .array .int, by decide, rfl⟩, ⟨Or.inr (hw _ m_32), .array .int, by decide, rfl⟩, ⟨Or.inl (hw _ m_56), .int, by decide, rfl⟩, ⟨Or.inl (hw _ m_58), .boolean, by decide, rfl⟩, ⟨Or.inl (hw _ m_60), .int, by decide, rfl⟩, ⟨Or.inl (hw _ m_62), .int, by decide, rfl⟩, ⟨Or.inl (hw _ m_64), .int, by decide, rfl⟩, ⟨Or.inl (hw _ m_66), .int, by decide, rfl⟩, ⟨Or.inl (hw _ m_68), .int, by decide, rfl⟩, ⟨Or.inl (hw _ m_70), .int, by decide, rfl⟩, ⟨Or.inr (hw _ m_34), .array .int, by decide, rfl⟩, ⟨Or.inr (hw _ m_36), .array .int, by decide, rfl⟩, ⟨Or.inr (hw _ m_38), .array .int, by decide, rfl⟩, ⟨Or.inl (hw _ m_72), .int, by decide, rfl⟩, ⟨Or.inr (hw _ m_40), .array .int, by decide, rfl⟩, ⟨Or.inr (hw _ m_42), .array .int, by decide, rfl⟩, ⟨Or.inr (hw _ m_44), .array .int, by decide, rfl⟩, trivial⟩
theorem hlay {Z : State} {a0 : Array Value} (hw : HW a0 Z) : ∀ (a b : Nat) (f g : String × String), lay[a]? = some f → lay[b]? = some g → a ≠ b → RoadKit.slotOf Z CN f.1 f.2 ≠ RoadKit.slotOf Z CN g.1 g.2 := (laid0 hw).ne (by decide)
theorem vs0_ok {Z : State} {a0 : Array Value} (hw : HW a0 Z) : ∀ (i : Nat) (f : String × String) (v : Value), lay[i]? = some f → vs0[i]? = some v → Laid Z a0 CN CN f.1 f.2 ∧ ∃ ty, parseFieldDescriptor f.2 = some ty ∧ v = defaultValue ty := (laid0 hw).new
theorem pn_cls : plainName CN = true := by first | (simp [plainName, overriddenIn]; done) | decide +kernel
theorem pn_law : plainName "DemandGateOwnLaw" = true := by first | (simp [plainName, overriddenIn]; done) | decide +kernel
theorem d0_0 : dc method_2_code 0 (.iload_n 1) 1 := by decide +kernel
theorem d0_1 : dc method_2_code 1 (.aload_n 0) 1 := by decide +kernel
theorem d0_2 : dc method_2_code 2 (.arraylength) 1 := by decide +kernel
theorem d0_3 : dc method_2_code 3 (.if_icmp .ge 9) 3 := by decide +kernel
theorem d0_6 : dc method_2_code 6 (.aload_n 0) 1 := by decide +kernel
theorem d0_7 : dc method_2_code 7 (.iload_n 1) 1 := by decide +kernel
theorem d0_8 : dc method_2_code 8 (.iaload) 1 := by decide +kernel
theorem d0_9 : dc method_2_code 9 (.goto 4) 3 := by decide +kernel
theorem d0_12 : dc method_2_code 12 (.iconst 0) 1 := by decide +kernel
theorem d0_13 : dc method_2_code 13 (.ireturn) 1 := by decide +kernel
abbrev y0 : MethodName := ⟨"DemandGateOwnLaw", "cell", "([II)I"⟩
theorem hy0 : y0.cls ≠ "java/lang/invoke/MethodHandle" ∧ y0.cls ≠ "java/lang/invoke/VarHandle" := by decide
theorem pd0 : parseMethodDescriptor y0.desc = some ⟨[.array .int, .int], some .int⟩ := by decide +kernel
abbrev R0 : Room := { frames := 0, cells := 0, slots := 0, locals := 0 }
abbrev P0 (a : List Int32) (r : Int32) : Option Value → List OwnC → Prop := fun v H' => v = some (.int r) ∧ H' = ([cI a])
abbrev W0 (l : Launch) (Z : State) (n0 : Nat) (Q : Option Value → List OwnC → Prop) (k n pc : Nat) (L : List Slot) (S : List Value) (H : List OwnC) : Prop := WP l Z CN lay "DemandGateOwnLaw" "cell" method_2_code 2 (some FieldType.int) R0 n0 1 Q k n pc L S H
def f_L_cell_13 (t0 : Int32) (a : List Int32) : Option (Int32) :=
  some t0
set_option maxRecDepth 65536 in
set_option maxHeartbeats 4000000 in
theorem ok0_13 (l : Launch) (Z : State) (a0 : Array Value) (hw : HW a0 Z) (n0 : Nat) (t0 : Int32) (a : List Int32) (r : Int32) (h : f_L_cell_13 t0 a = some r) : W0 l Z n0 (P0 a r) 0 0 13 [.unset, .unset] [.int t0] ([cI a]) := by
  unfold f_L_cell_13 at h
  cases h
  exact WP.ireturn d0_13 rfl (leb rfl) (leb rfl) ⟨rfl, rfl⟩
def f_L_cell (p1 : Int32) (a : List Int32) : Option (Int32) :=
  if p1 < a.length.toInt32 then
    (rd a p1).bind fun x2 =>
    f_L_cell_13 x2 a
  else
    f_L_cell_13 (0 : Int32) a
set_option maxRecDepth 65536 in
set_option maxHeartbeats 4000000 in
theorem ok0 (l : Launch) (Z : State) (a0 : Array Value) (hw : HW a0 Z) (p1 : Int32) (a : List Int32) (r : Int32) (h : f_L_cell p1 a = some r) : CS l Z CN lay y0 method_2_code 2 (some FieldType.int) R0 1 [.ref 0, .int p1] ([cI a]) (P0 a r) := by
  refine CS.of_wp pn_law (leb rfl) fun n0 => ?_
  show W0 l Z n0 (P0 a r) 0 0 0 [.val (.ref 0), .val (.int p1)] [] ([cI a])
  unfold f_L_cell at h
  refine WP.iloadN d0_0 rfl ?_
  refine WP.aloadN d0_1 rfl ?_
  refine WP.arraylength (i := 0) (xs := a) d0_2 rfl ?_
  rcases ite_e h with ⟨hc1, h⟩ | ⟨hc1, h⟩
  ·
    refine WP.icmpN d0_3 (XT.ii_ge_f hc1) ?_
    refine WP.aloadN d0_6 rfl ?_
    refine WP.iloadN d0_7 rfl ?_
    obtain ⟨x2, hx2, h⟩ := Option.bind_eq_some_iff.mp h
    refine WP.iaload (i := 0) d0_8 rfl hx2 ?_
    refine WP.goto (pc' := 13) d0_9 (by decide) rfl ?_
    exact WP.weak (L' := [.unset, .unset]) trivial (ok0_13 l Z a0 hw n0 x2 a _ h)
  ·
    refine WP.icmpY (pc' := 12) d0_3 (XT.ii_ge_t hc1) (by decide) rfl ?_
    refine WP.iconst (0 : Int32) d0_12 rfl ?_
    exact WP.weak (L' := [.unset, .unset]) trivial (ok0_13 l Z a0 hw n0 (0 : Int32) a _ h)
theorem d1_0 : dc method_3_code 0 (.iload_n 0) 1 := by decide +kernel
theorem d1_1 : dc method_3_code 1 (.ldc 7) 2 := by decide +kernel
theorem d1_3 : dc method_3_code 3 (.iand) 1 := by decide +kernel
theorem d1_4 : dc method_3_code 4 (.ireturn) 1 := by decide +kernel
abbrev y1 : MethodName := ⟨"DemandGateOwnLaw", "nz", "(I)I"⟩
theorem hy1 : y1.cls ≠ "java/lang/invoke/MethodHandle" ∧ y1.cls ≠ "java/lang/invoke/VarHandle" := by decide
theorem pd1 : parseMethodDescriptor y1.desc = some ⟨[.int], some .int⟩ := by decide +kernel
abbrev R1 : Room := { frames := 0, cells := 0, slots := 0, locals := 0 }
abbrev P1 (r : Int32) : Option Value → List OwnC → Prop := fun v H' => v = some (.int r) ∧ H' = ([] : List OwnC)
abbrev W1 (l : Launch) (Z : State) (n0 : Nat) (Q : Option Value → List OwnC → Prop) (k n pc : Nat) (L : List Slot) (S : List Value) (H : List OwnC) : Prop := WP l Z CN lay "DemandGateOwnLaw" "nz" method_3_code 1 (some FieldType.int) R1 n0 0 Q k n pc L S H
def f_L_nz (p0 : Int32) : Option (Int32) :=
  some (p0 &&& (2147483647 : Int32))
set_option maxRecDepth 65536 in
set_option maxHeartbeats 4000000 in
theorem ok1 (l : Launch) (Z : State) (a0 : Array Value) (hw : HW a0 Z) (p0 : Int32) (r : Int32) (h : f_L_nz p0 = some r) : CS l Z CN lay y1 method_3_code 1 (some FieldType.int) R1 0 [.int p0] ([] : List OwnC) (P1 r) := by
  refine CS.of_wp pn_law (leb rfl) fun n0 => ?_
  show W1 l Z n0 (P1 r) 0 0 0 [.val (.int p0)] [] ([] : List OwnC)
  unfold f_L_nz at h
  refine WP.iloadN d1_0 rfl ?_
  refine WP.ldc d1_1 (hw _ m_7) ?_
  refine WP.iand d1_3 ?_
  cases h
  exact WP.ireturn d1_4 rfl (leb rfl) (leb rfl) ⟨rfl, rfl⟩
theorem d2_0 : dc method_5_code 0 (.iload_n 0) 1 := by decide +kernel
theorem d2_1 : dc method_5_code 1 (.iconst 3) 1 := by decide +kernel
theorem d2_2 : dc method_5_code 2 (.iand) 1 := by decide +kernel
theorem d2_3 : dc method_5_code 3 (.istore_n 1) 1 := by decide +kernel
theorem d2_4 : dc method_5_code 4 (.iload_n 1) 1 := by decide +kernel
theorem d2_5 : dc method_5_code 5 (.ifCond .ne 6) 3 := by decide +kernel
theorem d2_8 : dc method_5_code 8 (.bipush 12) 2 := by decide +kernel
theorem d2_10 : dc method_5_code 10 (.ireturn) 1 := by decide +kernel
theorem d2_11 : dc method_5_code 11 (.iload_n 1) 1 := by decide +kernel
theorem d2_12 : dc method_5_code 12 (.iconst 1) 1 := by decide +kernel
theorem d2_13 : dc method_5_code 13 (.if_icmp .ne 6) 3 := by decide +kernel
theorem d2_16 : dc method_5_code 16 (.bipush 48) 2 := by decide +kernel
theorem d2_18 : dc method_5_code 18 (.ireturn) 1 := by decide +kernel
theorem d2_19 : dc method_5_code 19 (.iload_n 1) 1 := by decide +kernel
theorem d2_20 : dc method_5_code 20 (.iconst 2) 1 := by decide +kernel
theorem d2_21 : dc method_5_code 21 (.if_icmp .ne 7) 3 := by decide +kernel
theorem d2_24 : dc method_5_code 24 (.sipush 240) 3 := by decide +kernel
theorem d2_27 : dc method_5_code 27 (.ireturn) 1 := by decide +kernel
theorem d2_28 : dc method_5_code 28 (.sipush 2048) 3 := by decide +kernel
theorem d2_31 : dc method_5_code 31 (.ireturn) 1 := by decide +kernel
abbrev y2 : MethodName := ⟨"DemandGateOwnLaw", "hyperChoice", "(I)I"⟩
theorem hy2 : y2.cls ≠ "java/lang/invoke/MethodHandle" ∧ y2.cls ≠ "java/lang/invoke/VarHandle" := by decide
theorem pd2 : parseMethodDescriptor y2.desc = some ⟨[.int], some .int⟩ := by decide +kernel
abbrev R2 : Room := { frames := 0, cells := 0, slots := 0, locals := 0 }
abbrev P2 (r : Int32) : Option Value → List OwnC → Prop := fun v H' => v = some (.int r) ∧ H' = ([] : List OwnC)
abbrev W2 (l : Launch) (Z : State) (n0 : Nat) (Q : Option Value → List OwnC → Prop) (k n pc : Nat) (L : List Slot) (S : List Value) (H : List OwnC) : Prop := WP l Z CN lay "DemandGateOwnLaw" "hyperChoice" method_5_code 2 (some FieldType.int) R2 n0 0 Q k n pc L S H
def f_L_hyperChoice (p0 : Int32) : Option (Int32) :=
  lt (p0 &&& (3 : Int32)) fun x1 =>
  if x1 = 0 then
    some (12 : Int32)
  else
    if x1 = (1 : Int32) then
      some (48 : Int32)
    else
      if x1 = (2 : Int32) then
        some (240 : Int32)
      else
        some (2048 : Int32)
set_option maxRecDepth 65536 in
set_option maxHeartbeats 4000000 in
theorem ok2 (l : Launch) (Z : State) (a0 : Array Value) (hw : HW a0 Z) (p0 : Int32) (r : Int32) (h : f_L_hyperChoice p0 = some r) : CS l Z CN lay y2 method_5_code 2 (some FieldType.int) R2 0 [.int p0] ([] : List OwnC) (P2 r) := by
  refine CS.of_wp pn_law (leb rfl) fun n0 => ?_
  show W2 l Z n0 (P2 r) 0 0 0 [.val (.int p0), .unset] [] ([] : List OwnC)
  unfold f_L_hyperChoice at h
  refine WP.iloadN d2_0 rfl ?_
  refine WP.iconst (3 : Int32) d2_1 rfl ?_
  refine WP.iand d2_2 ?_
  obtain ⟨x1, ex1, h⟩ := lt_e h
  refine WP.istoreN (L' := [.val (.int p0), .val (.int x1)]) d2_3 (leb rfl) (by subst ex1; rfl) ?_
  refine WP.iloadN d2_4 rfl ?_
  rcases ite_e h with ⟨hc2, h⟩ | ⟨hc2, h⟩
  ·
    refine WP.ifN d2_5 (XT.i0_ne_f hc2) ?_
    refine WP.bipush (12 : Int32) d2_8 rfl ?_
    cases h
    exact WP.ireturn d2_10 rfl (leb rfl) (leb rfl) ⟨rfl, rfl⟩
  ·
    refine WP.ifY (pc' := 11) d2_5 (XT.i0_ne_t hc2) (by decide) rfl ?_
    refine WP.iloadN d2_11 rfl ?_
    refine WP.iconst (1 : Int32) d2_12 rfl ?_
    rcases ite_e h with ⟨hc3, h⟩ | ⟨hc3, h⟩
    ·
      refine WP.icmpN d2_13 (XT.ii_ne_f hc3) ?_
      refine WP.bipush (48 : Int32) d2_16 rfl ?_
      cases h
      exact WP.ireturn d2_18 rfl (leb rfl) (leb rfl) ⟨rfl, rfl⟩
    ·
      refine WP.icmpY (pc' := 19) d2_13 (XT.ii_ne_t hc3) (by decide) rfl ?_
      refine WP.iloadN d2_19 rfl ?_
      refine WP.iconst (2 : Int32) d2_20 rfl ?_
      rcases ite_e h with ⟨hc4, h⟩ | ⟨hc4, h⟩
      ·
        refine WP.icmpN d2_21 (XT.ii_ne_f hc4) ?_
        refine WP.sipush (240 : Int32) d2_24 rfl ?_
        cases h
        exact WP.ireturn d2_27 rfl (leb rfl) (leb rfl) ⟨rfl, rfl⟩
      ·
        refine WP.icmpY (pc' := 28) d2_21 (XT.ii_ne_t hc4) (by decide) rfl ?_
        refine WP.sipush (2048 : Int32) d2_28 rfl ?_
        cases h
        exact WP.ireturn d2_31 rfl (leb rfl) (leb rfl) ⟨rfl, rfl⟩
theorem d4_0 : dc prog_1_method_18_code 0 (.iload_n 1) 1 := by decide +kernel
theorem d4_1 : dc prog_1_method_18_code 1 (.iload_n 2) 1 := by decide +kernel
theorem d4_2 : dc prog_1_method_18_code 2 (.if_icmp .ge 5) 3 := by decide +kernel
theorem d4_5 : dc prog_1_method_18_code 5 (.iload_n 2) 1 := by decide +kernel
theorem d4_6 : dc prog_1_method_18_code 6 (.ireturn) 1 := by decide +kernel
theorem d4_7 : dc prog_1_method_18_code 7 (.iload_n 1) 1 := by decide +kernel
theorem d4_8 : dc prog_1_method_18_code 8 (.iload_n 3) 1 := by decide +kernel
theorem d4_9 : dc prog_1_method_18_code 9 (.if_icmp .le 5) 3 := by decide +kernel
theorem d4_12 : dc prog_1_method_18_code 12 (.iload_n 3) 1 := by decide +kernel
theorem d4_13 : dc prog_1_method_18_code 13 (.ireturn) 1 := by decide +kernel
theorem d4_14 : dc prog_1_method_18_code 14 (.iload_n 1) 1 := by decide +kernel
theorem d4_15 : dc prog_1_method_18_code 15 (.ireturn) 1 := by decide +kernel
abbrev y4 : MethodName := ⟨"DemandGate", "clamp", "(III)I"⟩
theorem hy4 : y4.cls ≠ "java/lang/invoke/MethodHandle" ∧ y4.cls ≠ "java/lang/invoke/VarHandle" := by decide
theorem pd4 : parseMethodDescriptor y4.desc = some ⟨[.int, .int, .int], some .int⟩ := by decide +kernel
abbrev R4 : Room := { frames := 0, cells := 0, slots := 0, locals := 0 }
abbrev P4 (s : St) (r : Int32) : Option Value → List OwnC → Prop := fun v H' => v = some (.int r) ∧ H' = (Hb 0 s)
abbrev W4 (l : Launch) (Z : State) (n0 : Nat) (Q : Option Value → List OwnC → Prop) (k n pc : Nat) (L : List Slot) (S : List Value) (H : List OwnC) : Prop := WP l Z CN lay "DemandGate" "clamp" prog_1_method_18_code 4 (some FieldType.int) R4 n0 0 Q k n pc L S H
def f_clamp (p1 : Int32) (p2 : Int32) (p3 : Int32) (s : St) : Option (Int32) :=
  if p1 < p2 then
    some p2
  else
    if p3 < p1 then
      some p3
    else
      some p1
set_option maxRecDepth 65536 in
set_option maxHeartbeats 4000000 in
theorem ok4 (l : Launch) (Z : State) (a0 : Array Value) (hw : HW a0 Z) (p1 : Int32) (p2 : Int32) (p3 : Int32) (s : St) (r : Int32) (h : f_clamp p1 p2 p3 s = some r) : CS l Z CN lay y4 prog_1_method_18_code 4 (some FieldType.int) R4 0 [.ref 0, .int p1, .int p2, .int p3] (Hb 0 s) (P4 s r) := by
  refine CS.of_wp pn_cls (leb rfl) fun n0 => ?_
  show W4 l Z n0 (P4 s r) 0 0 0 [.val (.ref 0), .val (.int p1), .val (.int p2), .val (.int p3)] [] (Hb 0 s)
  unfold f_clamp at h
  refine WP.iloadN d4_0 rfl ?_
  refine WP.iloadN d4_1 rfl ?_
  rcases ite_e h with ⟨hc1, h⟩ | ⟨hc1, h⟩
  ·
    refine WP.icmpN d4_2 (XT.ii_ge_f hc1) ?_
    refine WP.iloadN d4_5 rfl ?_
    cases h
    exact WP.ireturn d4_6 rfl (leb rfl) (leb rfl) ⟨rfl, rfl⟩
  ·
    refine WP.icmpY (pc' := 7) d4_2 (XT.ii_ge_t hc1) (by decide) rfl ?_
    refine WP.iloadN d4_7 rfl ?_
    refine WP.iloadN d4_8 rfl ?_
    rcases ite_e h with ⟨hc2, h⟩ | ⟨hc2, h⟩
    ·
      refine WP.icmpN d4_9 (XT.ii_le_f hc2) ?_
      refine WP.iloadN d4_12 rfl ?_
      cases h
      exact WP.ireturn d4_13 rfl (leb rfl) (leb rfl) ⟨rfl, rfl⟩
    ·
      refine WP.icmpY (pc' := 14) d4_9 (XT.ii_le_t hc2) (by decide) rfl ?_
      refine WP.iloadN d4_14 rfl ?_
      cases h
      exact WP.ireturn d4_15 rfl (leb rfl) (leb rfl) ⟨rfl, rfl⟩
theorem d3_0 : dc prog_1_method_1_code 0 (.aload_n 0) 1 := by decide +kernel
theorem d3_1 : dc prog_1_method_1_code 1 (.invokespecial 1) 3 := by decide +kernel
theorem d3_4 : dc prog_1_method_1_code 4 (.aload_n 0) 1 := by decide +kernel
theorem d3_5 : dc prog_1_method_1_code 5 (.bipush 12) 2 := by decide +kernel
theorem d3_7 : dc prog_1_method_1_code 7 (.newarray .int) 2 := by decide +kernel
theorem d3_9 : dc prog_1_method_1_code 9 (.putfield 7) 3 := by decide +kernel
theorem d3_12 : dc prog_1_method_1_code 12 (.aload_n 0) 1 := by decide +kernel
theorem d3_13 : dc prog_1_method_1_code 13 (.bipush 12) 2 := by decide +kernel
theorem d3_15 : dc prog_1_method_1_code 15 (.newarray .int) 2 := by decide +kernel
theorem d3_17 : dc prog_1_method_1_code 17 (.putfield 13) 3 := by decide +kernel
theorem d3_20 : dc prog_1_method_1_code 20 (.aload_n 0) 1 := by decide +kernel
theorem d3_21 : dc prog_1_method_1_code 21 (.bipush 12) 2 := by decide +kernel
theorem d3_23 : dc prog_1_method_1_code 23 (.newarray .int) 2 := by decide +kernel
theorem d3_25 : dc prog_1_method_1_code 25 (.putfield 16) 3 := by decide +kernel
theorem d3_28 : dc prog_1_method_1_code 28 (.aload_n 0) 1 := by decide +kernel
theorem d3_29 : dc prog_1_method_1_code 29 (.bipush 12) 2 := by decide +kernel
theorem d3_31 : dc prog_1_method_1_code 31 (.newarray .int) 2 := by decide +kernel
theorem d3_33 : dc prog_1_method_1_code 33 (.putfield 19) 3 := by decide +kernel
theorem d3_36 : dc prog_1_method_1_code 36 (.aload_n 0) 1 := by decide +kernel
theorem d3_37 : dc prog_1_method_1_code 37 (.bipush 12) 2 := by decide +kernel
theorem d3_39 : dc prog_1_method_1_code 39 (.newarray .int) 2 := by decide +kernel
theorem d3_41 : dc prog_1_method_1_code 41 (.putfield 22) 3 := by decide +kernel
theorem d3_44 : dc prog_1_method_1_code 44 (.aload_n 0) 1 := by decide +kernel
theorem d3_45 : dc prog_1_method_1_code 45 (.bipush 12) 2 := by decide +kernel
theorem d3_47 : dc prog_1_method_1_code 47 (.newarray .int) 2 := by decide +kernel
theorem d3_49 : dc prog_1_method_1_code 49 (.putfield 25) 3 := by decide +kernel
theorem d3_52 : dc prog_1_method_1_code 52 (.aload_n 0) 1 := by decide +kernel
theorem d3_53 : dc prog_1_method_1_code 53 (.bipush 12) 2 := by decide +kernel
theorem d3_55 : dc prog_1_method_1_code 55 (.newarray .int) 2 := by decide +kernel
theorem d3_57 : dc prog_1_method_1_code 57 (.putfield 28) 3 := by decide +kernel
theorem d3_60 : dc prog_1_method_1_code 60 (.aload_n 0) 1 := by decide +kernel
theorem d3_61 : dc prog_1_method_1_code 61 (.bipush 12) 2 := by decide +kernel
theorem d3_63 : dc prog_1_method_1_code 63 (.newarray .int) 2 := by decide +kernel
theorem d3_65 : dc prog_1_method_1_code 65 (.putfield 31) 3 := by decide +kernel
theorem d3_68 : dc prog_1_method_1_code 68 (.aload_n 0) 1 := by decide +kernel
theorem d3_69 : dc prog_1_method_1_code 69 (.bipush 12) 2 := by decide +kernel
theorem d3_71 : dc prog_1_method_1_code 71 (.newarray .int) 2 := by decide +kernel
theorem d3_73 : dc prog_1_method_1_code 73 (.putfield 34) 3 := by decide +kernel
theorem d3_76 : dc prog_1_method_1_code 76 (.aload_n 0) 1 := by decide +kernel
theorem d3_77 : dc prog_1_method_1_code 77 (.bipush 12) 2 := by decide +kernel
theorem d3_79 : dc prog_1_method_1_code 79 (.newarray .int) 2 := by decide +kernel
theorem d3_81 : dc prog_1_method_1_code 81 (.putfield 37) 3 := by decide +kernel
theorem d3_84 : dc prog_1_method_1_code 84 (.aload_n 0) 1 := by decide +kernel
theorem d3_85 : dc prog_1_method_1_code 85 (.bipush 12) 2 := by decide +kernel
theorem d3_87 : dc prog_1_method_1_code 87 (.newarray .int) 2 := by decide +kernel
theorem d3_89 : dc prog_1_method_1_code 89 (.putfield 40) 3 := by decide +kernel
theorem d3_92 : dc prog_1_method_1_code 92 (.aload_n 0) 1 := by decide +kernel
theorem d3_93 : dc prog_1_method_1_code 93 (.bipush 12) 2 := by decide +kernel
theorem d3_95 : dc prog_1_method_1_code 95 (.newarray .int) 2 := by decide +kernel
theorem d3_97 : dc prog_1_method_1_code 97 (.putfield 43) 3 := by decide +kernel
theorem d3_100 : dc prog_1_method_1_code 100 (.aload_n 0) 1 := by decide +kernel
theorem d3_101 : dc prog_1_method_1_code 101 (.aload_n 0) 1 := by decide +kernel
theorem d3_102 : dc prog_1_method_1_code 102 (.iload_n 1) 1 := by decide +kernel
theorem d3_103 : dc prog_1_method_1_code 103 (.iconst 1) 1 := by decide +kernel
theorem d3_104 : dc prog_1_method_1_code 104 (.bipush 12) 2 := by decide +kernel
theorem d3_106 : dc prog_1_method_1_code 106 (.invokevirtual 46) 3 := by decide +kernel
theorem d3_109 : dc prog_1_method_1_code 109 (.putfield 50) 3 := by decide +kernel
theorem d3_112 : dc prog_1_method_1_code 112 (.aload_n 0) 1 := by decide +kernel
theorem d3_113 : dc prog_1_method_1_code 113 (.aload_n 0) 1 := by decide +kernel
theorem d3_114 : dc prog_1_method_1_code 114 (.iload_n 2) 1 := by decide +kernel
theorem d3_115 : dc prog_1_method_1_code 115 (.iconst 1) 1 := by decide +kernel
theorem d3_116 : dc prog_1_method_1_code 116 (.sipush 2048) 3 := by decide +kernel
theorem d3_119 : dc prog_1_method_1_code 119 (.invokevirtual 46) 3 := by decide +kernel
theorem d3_122 : dc prog_1_method_1_code 122 (.putfield 54) 3 := by decide +kernel
theorem d3_125 : dc prog_1_method_1_code 125 (.aload_n 0) 1 := by decide +kernel
theorem d3_126 : dc prog_1_method_1_code 126 (.iconst 0) 1 := by decide +kernel
theorem d3_127 : dc prog_1_method_1_code 127 (.putfield 57) 3 := by decide +kernel
theorem d3_130 : dc prog_1_method_1_code 130 (.aload_n 0) 1 := by decide +kernel
theorem d3_131 : dc prog_1_method_1_code 131 (.iconst 0) 1 := by decide +kernel
theorem d3_132 : dc prog_1_method_1_code 132 (.putfield 60) 3 := by decide +kernel
theorem d3_135 : dc prog_1_method_1_code 135 (.aload_n 0) 1 := by decide +kernel
theorem d3_136 : dc prog_1_method_1_code 136 (.iconst 0) 1 := by decide +kernel
theorem d3_137 : dc prog_1_method_1_code 137 (.putfield 63) 3 := by decide +kernel
theorem d3_140 : dc prog_1_method_1_code 140 (.aload_n 0) 1 := by decide +kernel
theorem d3_141 : dc prog_1_method_1_code 141 (.iconst 1) 1 := by decide +kernel
theorem d3_142 : dc prog_1_method_1_code 142 (.putfield 67) 3 := by decide +kernel
theorem d3_145 : dc prog_1_method_1_code 145 (.aload_n 0) 1 := by decide +kernel
theorem d3_146 : dc prog_1_method_1_code 146 (.iconst 0) 1 := by decide +kernel
theorem d3_147 : dc prog_1_method_1_code 147 (.putfield 70) 3 := by decide +kernel
theorem d3_150 : dc prog_1_method_1_code 150 (.aload_n 0) 1 := by decide +kernel
theorem d3_151 : dc prog_1_method_1_code 151 (.iconst 0) 1 := by decide +kernel
theorem d3_152 : dc prog_1_method_1_code 152 (.putfield 73) 3 := by decide +kernel
theorem d3_155 : dc prog_1_method_1_code 155 (.aload_n 0) 1 := by decide +kernel
theorem d3_156 : dc prog_1_method_1_code 156 (.iconst 0) 1 := by decide +kernel
theorem d3_157 : dc prog_1_method_1_code 157 (.putfield 76) 3 := by decide +kernel
theorem d3_160 : dc prog_1_method_1_code 160 (.aload_n 0) 1 := by decide +kernel
theorem d3_161 : dc prog_1_method_1_code 161 (.iconst (-1)) 1 := by decide +kernel
theorem d3_162 : dc prog_1_method_1_code 162 (.putfield 79) 3 := by decide +kernel
theorem d3_165 : dc prog_1_method_1_code 165 (.aload_n 0) 1 := by decide +kernel
theorem d3_166 : dc prog_1_method_1_code 166 (.iconst 0) 1 := by decide +kernel
theorem d3_167 : dc prog_1_method_1_code 167 (.putfield 82) 3 := by decide +kernel
theorem d3_170 : dc prog_1_method_1_code 170 (.aload_n 0) 1 := by decide +kernel
theorem d3_171 : dc prog_1_method_1_code 171 (.iconst 0) 1 := by decide +kernel
theorem d3_172 : dc prog_1_method_1_code 172 (.putfield 85) 3 := by decide +kernel
theorem d3_175 : dc prog_1_method_1_code 175 (.return_) 1 := by decide +kernel
abbrev y3 : MethodName := ⟨"DemandGate", "<init>", "(II)V"⟩
theorem hy3 : y3.cls ≠ "java/lang/invoke/MethodHandle" ∧ y3.cls ≠ "java/lang/invoke/VarHandle" := by decide
theorem pd3 : parseMethodDescriptor y3.desc = some ⟨[.int, .int], none⟩ := by decide +kernel
abbrev R3 : Room := { frames := 1, cells := 12, slots := 144, locals := 16 }
abbrev P3 (r : St) : Option Value → List OwnC → Prop := fun v H' => v = none ∧ H' = (Hb 0 r)
abbrev W3 (l : Launch) (Z : State) (n0 : Nat) (Q : Option Value → List OwnC → Prop) (k n pc : Nat) (L : List Slot) (S : List Value) (H : List OwnC) : Prop := WP l Z CN lay "DemandGate" "<init>" prog_1_method_1_code 3 (none) R3 n0 0 Q k n pc L S H
def f_init (p1 : Int32) (p2 : Int32) : Option (St) :=
  lt (st0) fun s1 =>
  (f_clamp p1 (1 : Int32) (12 : Int32) s1).bind fun c2 =>
  lt (sI s1 0 c2) fun s3 =>
  (f_clamp p2 (1 : Int32) (2048 : Int32) s3).bind fun c4 =>
  lt (sI s3 1 c4) fun s5 =>
  lt (sI s5 2 (0 : Int32)) fun s6 =>
  lt (sI s6 3 (0 : Int32)) fun s7 =>
  lt (sI s7 4 (0 : Int32)) fun s8 =>
  lt (sI s8 5 (1 : Int32)) fun s9 =>
  lt (sI s9 6 (0 : Int32)) fun s10 =>
  lt (sI s10 7 (0 : Int32)) fun s11 =>
  lt (sI s11 8 (0 : Int32)) fun s12 =>
  lt (sI s12 9 (-1 : Int32)) fun s13 =>
  lt (sI s13 10 (0 : Int32)) fun s14 =>
  lt (sI s14 11 (0 : Int32)) fun s15 =>
  some s15
set_option maxRecDepth 65536 in
set_option maxHeartbeats 4000000 in
theorem ok3 (l : Launch) (Z : State) (a0 : Array Value) (hw : HW a0 Z) (p1 : Int32) (p2 : Int32) (r : St) (h : f_init p1 p2 = some r) : CS l Z CN lay y3 prog_1_method_1_code 3 (none) R3 0 [.ref 0, .int p1, .int p2] [cO vs0] (P3 r) := by
  refine CS.of_wp pn_cls (leb rfl) fun n0 => ?_
  show W3 l Z n0 (P3 r) 0 0 0 [.val (.ref 0), .val (.int p1), .val (.int p2)] [] [cO vs0]
  unfold f_init at h
  refine WP.aloadN d3_0 rfl ?_
  refine WP.initO d3_1 (hw _ m_17) (hw _ m_18) (hw _ m_19) (leb rfl) (leb rfl) ?_
  refine WP.aloadN d3_4 rfl ?_
  refine WP.bipush (12 : Int32) d3_5 rfl ?_
  refine WP.newarray d3_7 (hw _ m_20) (by decide) (leb rfl) (leb rfl) (leb rfl) (Or.inl ⟨rfl, rfl⟩) ?_
  show W3 l Z n0 (P3 r) 1 12 9 [.val (.ref 0), .val (.int p1), .val (.int p2)] [.ref 1, .ref 0] ([cO [.int (0 : Int32), .int (0 : Int32), .null, .null, .null, .int (0 : Int32), .null, .null, .null, .int (0 : Int32), .int (0 : Int32), .int (0 : Int32), .int (0 : Int32), .int (0 : Int32), .int (0 : Int32), .int (0 : Int32), .int (0 : Int32), .null, .null, .null, .int (0 : Int32), .null, .null, .null], cI (List.replicate 12 0)] : List OwnC)
  refine WP.putR (ty := .array .int) (i := 0) (j := 2) (H' := ([cO [.int (0 : Int32), .int (0 : Int32), .ref 1, .null, .null, .int (0 : Int32), .null, .null, .null, .int (0 : Int32), .int (0 : Int32), .int (0 : Int32), .int (0 : Int32), .int (0 : Int32), .int (0 : Int32), .int (0 : Int32), .int (0 : Int32), .null, .null, .null, .int (0 : Int32), .null, .null, .null], cI (List.replicate 12 0)] : List OwnC)) d3_9 (hw _ m_21) (Or.inr ⟨(hw _ m_22), rfl, rfl⟩) (hw _ m_12) (hlay hw) (by decide) (fun _ => rfl) (fun _ => rfl) rfl rfl rfl (leb rfl) rfl ?_
  refine WP.aloadN d3_12 rfl ?_
  refine WP.bipush (12 : Int32) d3_13 rfl ?_
  refine WP.newarray d3_15 (hw _ m_20) (by decide) (leb rfl) (leb rfl) (leb rfl) (Or.inl ⟨rfl, rfl⟩) ?_
  show W3 l Z n0 (P3 r) 2 24 17 [.val (.ref 0), .val (.int p1), .val (.int p2)] [.ref 2, .ref 0] ([cO [.int (0 : Int32), .int (0 : Int32), .ref 1, .null, .null, .int (0 : Int32), .null, .null, .null, .int (0 : Int32), .int (0 : Int32), .int (0 : Int32), .int (0 : Int32), .int (0 : Int32), .int (0 : Int32), .int (0 : Int32), .int (0 : Int32), .null, .null, .null, .int (0 : Int32), .null, .null, .null], cI (List.replicate 12 0), cI (List.replicate 12 0)] : List OwnC)
  refine WP.putR (ty := .array .int) (i := 0) (j := 3) (H' := ([cO [.int (0 : Int32), .int (0 : Int32), .ref 1, .ref 2, .null, .int (0 : Int32), .null, .null, .null, .int (0 : Int32), .int (0 : Int32), .int (0 : Int32), .int (0 : Int32), .int (0 : Int32), .int (0 : Int32), .int (0 : Int32), .int (0 : Int32), .null, .null, .null, .int (0 : Int32), .null, .null, .null], cI (List.replicate 12 0), cI (List.replicate 12 0)] : List OwnC)) d3_17 (hw _ m_23) (Or.inr ⟨(hw _ m_24), rfl, rfl⟩) (hw _ m_12) (hlay hw) (by decide) (fun _ => rfl) (fun _ => rfl) rfl rfl rfl (leb rfl) rfl ?_
  refine WP.aloadN d3_20 rfl ?_
  refine WP.bipush (12 : Int32) d3_21 rfl ?_
  refine WP.newarray d3_23 (hw _ m_20) (by decide) (leb rfl) (leb rfl) (leb rfl) (Or.inl ⟨rfl, rfl⟩) ?_
  show W3 l Z n0 (P3 r) 3 36 25 [.val (.ref 0), .val (.int p1), .val (.int p2)] [.ref 3, .ref 0] ([cO [.int (0 : Int32), .int (0 : Int32), .ref 1, .ref 2, .null, .int (0 : Int32), .null, .null, .null, .int (0 : Int32), .int (0 : Int32), .int (0 : Int32), .int (0 : Int32), .int (0 : Int32), .int (0 : Int32), .int (0 : Int32), .int (0 : Int32), .null, .null, .null, .int (0 : Int32), .null, .null, .null], cI (List.replicate 12 0), cI (List.replicate 12 0), cI (List.replicate 12 0)] : List OwnC)
  refine WP.putR (ty := .array .int) (i := 0) (j := 4) (H' := ([cO [.int (0 : Int32), .int (0 : Int32), .ref 1, .ref 2, .ref 3, .int (0 : Int32), .null, .null, .null, .int (0 : Int32), .int (0 : Int32), .int (0 : Int32), .int (0 : Int32), .int (0 : Int32), .int (0 : Int32), .int (0 : Int32), .int (0 : Int32), .null, .null, .null, .int (0 : Int32), .null, .null, .null], cI (List.replicate 12 0), cI (List.replicate 12 0), cI (List.replicate 12 0)] : List OwnC)) d3_25 (hw _ m_25) (Or.inr ⟨(hw _ m_26), rfl, rfl⟩) (hw _ m_12) (hlay hw) (by decide) (fun _ => rfl) (fun _ => rfl) rfl rfl rfl (leb rfl) rfl ?_
  refine WP.aloadN d3_28 rfl ?_
  refine WP.bipush (12 : Int32) d3_29 rfl ?_
  refine WP.newarray d3_31 (hw _ m_20) (by decide) (leb rfl) (leb rfl) (leb rfl) (Or.inl ⟨rfl, rfl⟩) ?_
  show W3 l Z n0 (P3 r) 4 48 33 [.val (.ref 0), .val (.int p1), .val (.int p2)] [.ref 4, .ref 0] ([cO [.int (0 : Int32), .int (0 : Int32), .ref 1, .ref 2, .ref 3, .int (0 : Int32), .null, .null, .null, .int (0 : Int32), .int (0 : Int32), .int (0 : Int32), .int (0 : Int32), .int (0 : Int32), .int (0 : Int32), .int (0 : Int32), .int (0 : Int32), .null, .null, .null, .int (0 : Int32), .null, .null, .null], cI (List.replicate 12 0), cI (List.replicate 12 0), cI (List.replicate 12 0), cI (List.replicate 12 0)] : List OwnC)
  refine WP.putR (ty := .array .int) (i := 0) (j := 6) (H' := ([cO [.int (0 : Int32), .int (0 : Int32), .ref 1, .ref 2, .ref 3, .int (0 : Int32), .ref 4, .null, .null, .int (0 : Int32), .int (0 : Int32), .int (0 : Int32), .int (0 : Int32), .int (0 : Int32), .int (0 : Int32), .int (0 : Int32), .int (0 : Int32), .null, .null, .null, .int (0 : Int32), .null, .null, .null], cI (List.replicate 12 0), cI (List.replicate 12 0), cI (List.replicate 12 0), cI (List.replicate 12 0)] : List OwnC)) d3_33 (hw _ m_27) (Or.inr ⟨(hw _ m_28), rfl, rfl⟩) (hw _ m_12) (hlay hw) (by decide) (fun _ => rfl) (fun _ => rfl) rfl rfl rfl (leb rfl) rfl ?_
  refine WP.aloadN d3_36 rfl ?_
  refine WP.bipush (12 : Int32) d3_37 rfl ?_
  refine WP.newarray d3_39 (hw _ m_20) (by decide) (leb rfl) (leb rfl) (leb rfl) (Or.inl ⟨rfl, rfl⟩) ?_
  show W3 l Z n0 (P3 r) 5 60 41 [.val (.ref 0), .val (.int p1), .val (.int p2)] [.ref 5, .ref 0] ([cO [.int (0 : Int32), .int (0 : Int32), .ref 1, .ref 2, .ref 3, .int (0 : Int32), .ref 4, .null, .null, .int (0 : Int32), .int (0 : Int32), .int (0 : Int32), .int (0 : Int32), .int (0 : Int32), .int (0 : Int32), .int (0 : Int32), .int (0 : Int32), .null, .null, .null, .int (0 : Int32), .null, .null, .null], cI (List.replicate 12 0), cI (List.replicate 12 0), cI (List.replicate 12 0), cI (List.replicate 12 0), cI (List.replicate 12 0)] : List OwnC)
  refine WP.putR (ty := .array .int) (i := 0) (j := 7) (H' := ([cO [.int (0 : Int32), .int (0 : Int32), .ref 1, .ref 2, .ref 3, .int (0 : Int32), .ref 4, .ref 5, .null, .int (0 : Int32), .int (0 : Int32), .int (0 : Int32), .int (0 : Int32), .int (0 : Int32), .int (0 : Int32), .int (0 : Int32), .int (0 : Int32), .null, .null, .null, .int (0 : Int32), .null, .null, .null], cI (List.replicate 12 0), cI (List.replicate 12 0), cI (List.replicate 12 0), cI (List.replicate 12 0), cI (List.replicate 12 0)] : List OwnC)) d3_41 (hw _ m_29) (Or.inr ⟨(hw _ m_30), rfl, rfl⟩) (hw _ m_12) (hlay hw) (by decide) (fun _ => rfl) (fun _ => rfl) rfl rfl rfl (leb rfl) rfl ?_
  refine WP.aloadN d3_44 rfl ?_
  refine WP.bipush (12 : Int32) d3_45 rfl ?_
  refine WP.newarray d3_47 (hw _ m_20) (by decide) (leb rfl) (leb rfl) (leb rfl) (Or.inl ⟨rfl, rfl⟩) ?_
  show W3 l Z n0 (P3 r) 6 72 49 [.val (.ref 0), .val (.int p1), .val (.int p2)] [.ref 6, .ref 0] ([cO [.int (0 : Int32), .int (0 : Int32), .ref 1, .ref 2, .ref 3, .int (0 : Int32), .ref 4, .ref 5, .null, .int (0 : Int32), .int (0 : Int32), .int (0 : Int32), .int (0 : Int32), .int (0 : Int32), .int (0 : Int32), .int (0 : Int32), .int (0 : Int32), .null, .null, .null, .int (0 : Int32), .null, .null, .null], cI (List.replicate 12 0), cI (List.replicate 12 0), cI (List.replicate 12 0), cI (List.replicate 12 0), cI (List.replicate 12 0), cI (List.replicate 12 0)] : List OwnC)
  refine WP.putR (ty := .array .int) (i := 0) (j := 8) (H' := ([cO [.int (0 : Int32), .int (0 : Int32), .ref 1, .ref 2, .ref 3, .int (0 : Int32), .ref 4, .ref 5, .ref 6, .int (0 : Int32), .int (0 : Int32), .int (0 : Int32), .int (0 : Int32), .int (0 : Int32), .int (0 : Int32), .int (0 : Int32), .int (0 : Int32), .null, .null, .null, .int (0 : Int32), .null, .null, .null], cI (List.replicate 12 0), cI (List.replicate 12 0), cI (List.replicate 12 0), cI (List.replicate 12 0), cI (List.replicate 12 0), cI (List.replicate 12 0)] : List OwnC)) d3_49 (hw _ m_31) (Or.inr ⟨(hw _ m_32), rfl, rfl⟩) (hw _ m_12) (hlay hw) (by decide) (fun _ => rfl) (fun _ => rfl) rfl rfl rfl (leb rfl) rfl ?_
  refine WP.aloadN d3_52 rfl ?_
  refine WP.bipush (12 : Int32) d3_53 rfl ?_
  refine WP.newarray d3_55 (hw _ m_20) (by decide) (leb rfl) (leb rfl) (leb rfl) (Or.inl ⟨rfl, rfl⟩) ?_
  show W3 l Z n0 (P3 r) 7 84 57 [.val (.ref 0), .val (.int p1), .val (.int p2)] [.ref 7, .ref 0] ([cO [.int (0 : Int32), .int (0 : Int32), .ref 1, .ref 2, .ref 3, .int (0 : Int32), .ref 4, .ref 5, .ref 6, .int (0 : Int32), .int (0 : Int32), .int (0 : Int32), .int (0 : Int32), .int (0 : Int32), .int (0 : Int32), .int (0 : Int32), .int (0 : Int32), .null, .null, .null, .int (0 : Int32), .null, .null, .null], cI (List.replicate 12 0), cI (List.replicate 12 0), cI (List.replicate 12 0), cI (List.replicate 12 0), cI (List.replicate 12 0), cI (List.replicate 12 0), cI (List.replicate 12 0)] : List OwnC)
  refine WP.putR (ty := .array .int) (i := 0) (j := 17) (H' := ([cO [.int (0 : Int32), .int (0 : Int32), .ref 1, .ref 2, .ref 3, .int (0 : Int32), .ref 4, .ref 5, .ref 6, .int (0 : Int32), .int (0 : Int32), .int (0 : Int32), .int (0 : Int32), .int (0 : Int32), .int (0 : Int32), .int (0 : Int32), .int (0 : Int32), .ref 7, .null, .null, .int (0 : Int32), .null, .null, .null], cI (List.replicate 12 0), cI (List.replicate 12 0), cI (List.replicate 12 0), cI (List.replicate 12 0), cI (List.replicate 12 0), cI (List.replicate 12 0), cI (List.replicate 12 0)] : List OwnC)) d3_57 (hw _ m_33) (Or.inr ⟨(hw _ m_34), rfl, rfl⟩) (hw _ m_12) (hlay hw) (by decide) (fun _ => rfl) (fun _ => rfl) rfl rfl rfl (leb rfl) rfl ?_
  refine WP.aloadN d3_60 rfl ?_
  refine WP.bipush (12 : Int32) d3_61 rfl ?_
  refine WP.newarray d3_63 (hw _ m_20) (by decide) (leb rfl) (leb rfl) (leb rfl) (Or.inl ⟨rfl, rfl⟩) ?_
  show W3 l Z n0 (P3 r) 8 96 65 [.val (.ref 0), .val (.int p1), .val (.int p2)] [.ref 8, .ref 0] ([cO [.int (0 : Int32), .int (0 : Int32), .ref 1, .ref 2, .ref 3, .int (0 : Int32), .ref 4, .ref 5, .ref 6, .int (0 : Int32), .int (0 : Int32), .int (0 : Int32), .int (0 : Int32), .int (0 : Int32), .int (0 : Int32), .int (0 : Int32), .int (0 : Int32), .ref 7, .null, .null, .int (0 : Int32), .null, .null, .null], cI (List.replicate 12 0), cI (List.replicate 12 0), cI (List.replicate 12 0), cI (List.replicate 12 0), cI (List.replicate 12 0), cI (List.replicate 12 0), cI (List.replicate 12 0), cI (List.replicate 12 0)] : List OwnC)
  refine WP.putR (ty := .array .int) (i := 0) (j := 18) (H' := ([cO [.int (0 : Int32), .int (0 : Int32), .ref 1, .ref 2, .ref 3, .int (0 : Int32), .ref 4, .ref 5, .ref 6, .int (0 : Int32), .int (0 : Int32), .int (0 : Int32), .int (0 : Int32), .int (0 : Int32), .int (0 : Int32), .int (0 : Int32), .int (0 : Int32), .ref 7, .ref 8, .null, .int (0 : Int32), .null, .null, .null], cI (List.replicate 12 0), cI (List.replicate 12 0), cI (List.replicate 12 0), cI (List.replicate 12 0), cI (List.replicate 12 0), cI (List.replicate 12 0), cI (List.replicate 12 0), cI (List.replicate 12 0)] : List OwnC)) d3_65 (hw _ m_35) (Or.inr ⟨(hw _ m_36), rfl, rfl⟩) (hw _ m_12) (hlay hw) (by decide) (fun _ => rfl) (fun _ => rfl) rfl rfl rfl (leb rfl) rfl ?_
  refine WP.aloadN d3_68 rfl ?_
  refine WP.bipush (12 : Int32) d3_69 rfl ?_
  refine WP.newarray d3_71 (hw _ m_20) (by decide) (leb rfl) (leb rfl) (leb rfl) (Or.inl ⟨rfl, rfl⟩) ?_
  show W3 l Z n0 (P3 r) 9 108 73 [.val (.ref 0), .val (.int p1), .val (.int p2)] [.ref 9, .ref 0] ([cO [.int (0 : Int32), .int (0 : Int32), .ref 1, .ref 2, .ref 3, .int (0 : Int32), .ref 4, .ref 5, .ref 6, .int (0 : Int32), .int (0 : Int32), .int (0 : Int32), .int (0 : Int32), .int (0 : Int32), .int (0 : Int32), .int (0 : Int32), .int (0 : Int32), .ref 7, .ref 8, .null, .int (0 : Int32), .null, .null, .null], cI (List.replicate 12 0), cI (List.replicate 12 0), cI (List.replicate 12 0), cI (List.replicate 12 0), cI (List.replicate 12 0), cI (List.replicate 12 0), cI (List.replicate 12 0), cI (List.replicate 12 0), cI (List.replicate 12 0)] : List OwnC)
  refine WP.putR (ty := .array .int) (i := 0) (j := 19) (H' := ([cO [.int (0 : Int32), .int (0 : Int32), .ref 1, .ref 2, .ref 3, .int (0 : Int32), .ref 4, .ref 5, .ref 6, .int (0 : Int32), .int (0 : Int32), .int (0 : Int32), .int (0 : Int32), .int (0 : Int32), .int (0 : Int32), .int (0 : Int32), .int (0 : Int32), .ref 7, .ref 8, .ref 9, .int (0 : Int32), .null, .null, .null], cI (List.replicate 12 0), cI (List.replicate 12 0), cI (List.replicate 12 0), cI (List.replicate 12 0), cI (List.replicate 12 0), cI (List.replicate 12 0), cI (List.replicate 12 0), cI (List.replicate 12 0), cI (List.replicate 12 0)] : List OwnC)) d3_73 (hw _ m_37) (Or.inr ⟨(hw _ m_38), rfl, rfl⟩) (hw _ m_12) (hlay hw) (by decide) (fun _ => rfl) (fun _ => rfl) rfl rfl rfl (leb rfl) rfl ?_
  refine WP.aloadN d3_76 rfl ?_
  refine WP.bipush (12 : Int32) d3_77 rfl ?_
  refine WP.newarray d3_79 (hw _ m_20) (by decide) (leb rfl) (leb rfl) (leb rfl) (Or.inl ⟨rfl, rfl⟩) ?_
  show W3 l Z n0 (P3 r) 10 120 81 [.val (.ref 0), .val (.int p1), .val (.int p2)] [.ref 10, .ref 0] ([cO [.int (0 : Int32), .int (0 : Int32), .ref 1, .ref 2, .ref 3, .int (0 : Int32), .ref 4, .ref 5, .ref 6, .int (0 : Int32), .int (0 : Int32), .int (0 : Int32), .int (0 : Int32), .int (0 : Int32), .int (0 : Int32), .int (0 : Int32), .int (0 : Int32), .ref 7, .ref 8, .ref 9, .int (0 : Int32), .null, .null, .null], cI (List.replicate 12 0), cI (List.replicate 12 0), cI (List.replicate 12 0), cI (List.replicate 12 0), cI (List.replicate 12 0), cI (List.replicate 12 0), cI (List.replicate 12 0), cI (List.replicate 12 0), cI (List.replicate 12 0), cI (List.replicate 12 0)] : List OwnC)
  refine WP.putR (ty := .array .int) (i := 0) (j := 21) (H' := ([cO [.int (0 : Int32), .int (0 : Int32), .ref 1, .ref 2, .ref 3, .int (0 : Int32), .ref 4, .ref 5, .ref 6, .int (0 : Int32), .int (0 : Int32), .int (0 : Int32), .int (0 : Int32), .int (0 : Int32), .int (0 : Int32), .int (0 : Int32), .int (0 : Int32), .ref 7, .ref 8, .ref 9, .int (0 : Int32), .ref 10, .null, .null], cI (List.replicate 12 0), cI (List.replicate 12 0), cI (List.replicate 12 0), cI (List.replicate 12 0), cI (List.replicate 12 0), cI (List.replicate 12 0), cI (List.replicate 12 0), cI (List.replicate 12 0), cI (List.replicate 12 0), cI (List.replicate 12 0)] : List OwnC)) d3_81 (hw _ m_39) (Or.inr ⟨(hw _ m_40), rfl, rfl⟩) (hw _ m_12) (hlay hw) (by decide) (fun _ => rfl) (fun _ => rfl) rfl rfl rfl (leb rfl) rfl ?_
  refine WP.aloadN d3_84 rfl ?_
  refine WP.bipush (12 : Int32) d3_85 rfl ?_
  refine WP.newarray d3_87 (hw _ m_20) (by decide) (leb rfl) (leb rfl) (leb rfl) (Or.inl ⟨rfl, rfl⟩) ?_
  show W3 l Z n0 (P3 r) 11 132 89 [.val (.ref 0), .val (.int p1), .val (.int p2)] [.ref 11, .ref 0] ([cO [.int (0 : Int32), .int (0 : Int32), .ref 1, .ref 2, .ref 3, .int (0 : Int32), .ref 4, .ref 5, .ref 6, .int (0 : Int32), .int (0 : Int32), .int (0 : Int32), .int (0 : Int32), .int (0 : Int32), .int (0 : Int32), .int (0 : Int32), .int (0 : Int32), .ref 7, .ref 8, .ref 9, .int (0 : Int32), .ref 10, .null, .null], cI (List.replicate 12 0), cI (List.replicate 12 0), cI (List.replicate 12 0), cI (List.replicate 12 0), cI (List.replicate 12 0), cI (List.replicate 12 0), cI (List.replicate 12 0), cI (List.replicate 12 0), cI (List.replicate 12 0), cI (List.replicate 12 0), cI (List.replicate 12 0)] : List OwnC)
  refine WP.putR (ty := .array .int) (i := 0) (j := 22) (H' := ([cO [.int (0 : Int32), .int (0 : Int32), .ref 1, .ref 2, .ref 3, .int (0 : Int32), .ref 4, .ref 5, .ref 6, .int (0 : Int32), .int (0 : Int32), .int (0 : Int32), .int (0 : Int32), .int (0 : Int32), .int (0 : Int32), .int (0 : Int32), .int (0 : Int32), .ref 7, .ref 8, .ref 9, .int (0 : Int32), .ref 10, .ref 11, .null], cI (List.replicate 12 0), cI (List.replicate 12 0), cI (List.replicate 12 0), cI (List.replicate 12 0), cI (List.replicate 12 0), cI (List.replicate 12 0), cI (List.replicate 12 0), cI (List.replicate 12 0), cI (List.replicate 12 0), cI (List.replicate 12 0), cI (List.replicate 12 0)] : List OwnC)) d3_89 (hw _ m_41) (Or.inr ⟨(hw _ m_42), rfl, rfl⟩) (hw _ m_12) (hlay hw) (by decide) (fun _ => rfl) (fun _ => rfl) rfl rfl rfl (leb rfl) rfl ?_
  refine WP.aloadN d3_92 rfl ?_
  refine WP.bipush (12 : Int32) d3_93 rfl ?_
  refine WP.newarray d3_95 (hw _ m_20) (by decide) (leb rfl) (leb rfl) (leb rfl) (Or.inl ⟨rfl, rfl⟩) ?_
  show W3 l Z n0 (P3 r) 12 144 97 [.val (.ref 0), .val (.int p1), .val (.int p2)] [.ref 12, .ref 0] ([cO [.int (0 : Int32), .int (0 : Int32), .ref 1, .ref 2, .ref 3, .int (0 : Int32), .ref 4, .ref 5, .ref 6, .int (0 : Int32), .int (0 : Int32), .int (0 : Int32), .int (0 : Int32), .int (0 : Int32), .int (0 : Int32), .int (0 : Int32), .int (0 : Int32), .ref 7, .ref 8, .ref 9, .int (0 : Int32), .ref 10, .ref 11, .null], cI (List.replicate 12 0), cI (List.replicate 12 0), cI (List.replicate 12 0), cI (List.replicate 12 0), cI (List.replicate 12 0), cI (List.replicate 12 0), cI (List.replicate 12 0), cI (List.replicate 12 0), cI (List.replicate 12 0), cI (List.replicate 12 0), cI (List.replicate 12 0), cI (List.replicate 12 0)] : List OwnC)
  obtain ⟨s1, es1, h⟩ := lt_e h
  refine WP.putR (ty := .array .int) (i := 0) (j := 23) (H' := (Hb 0 s1)) d3_97 (hw _ m_43) (Or.inr ⟨(hw _ m_44), rfl, rfl⟩) (hw _ m_12) (hlay hw) (by decide) (fun _ => rfl) (fun _ => rfl) rfl rfl rfl (leb rfl) (by subst es1; rfl) ?_
  refine WP.aloadN d3_100 rfl ?_
  refine WP.aloadN d3_101 rfl ?_
  refine WP.iloadN d3_102 rfl ?_
  refine WP.iconst (1 : Int32) d3_103 rfl ?_
  refine WP.bipush (12 : Int32) d3_104 rfl ?_
  obtain ⟨c2, hc2, h⟩ := Option.bind_eq_some_iff.mp h
  refine WP.callP (i := 0) (y := y4) (as := [.int p1, .int (1 : Int32), .int (12 : Int32)]) (S := [.ref 0]) d3_106 (hw _ m_45) (hw _ m_47) (hw _ m_12) (hw _ m_46) (hw _ m_48) (hw _ m_13) hy4 rfl (ok4 l Z a0 hw p1 (1 : Int32) (12 : Int32) s1 _ hc2) rfl (lenOf pd4 rfl) (leb rfl) (leb rfl) (leb rfl) (leb rfl) ?_
  rintro _ _ ⟨rfl, rfl⟩
  show W3 l Z n0 (P3 r) 12 144 109 [.val (.ref 0), .val (.int p1), .val (.int p2)] [.int c2, .ref 0] (Hb 0 s1)
  obtain ⟨s3, es3, h⟩ := lt_e h
  refine WP.putI (i := 0) (j := 0) (H' := (Hb 0 s3)) d3_109 (hw _ m_49) (Or.inl (hw _ m_50)) (hw _ m_12) (hlay hw) rfl rfl rfl (leb rfl) (by subst es3; rfl) ?_
  refine WP.aloadN d3_112 rfl ?_
  refine WP.aloadN d3_113 rfl ?_
  refine WP.iloadN d3_114 rfl ?_
  refine WP.iconst (1 : Int32) d3_115 rfl ?_
  refine WP.sipush (2048 : Int32) d3_116 rfl ?_
  obtain ⟨c4, hc4, h⟩ := Option.bind_eq_some_iff.mp h
  refine WP.callP (i := 0) (y := y4) (as := [.int p2, .int (1 : Int32), .int (2048 : Int32)]) (S := [.ref 0]) d3_119 (hw _ m_45) (hw _ m_47) (hw _ m_12) (hw _ m_46) (hw _ m_48) (hw _ m_13) hy4 rfl (ok4 l Z a0 hw p2 (1 : Int32) (2048 : Int32) s3 _ hc4) rfl (lenOf pd4 rfl) (leb rfl) (leb rfl) (leb rfl) (leb rfl) ?_
  rintro _ _ ⟨rfl, rfl⟩
  show W3 l Z n0 (P3 r) 12 144 122 [.val (.ref 0), .val (.int p1), .val (.int p2)] [.int c4, .ref 0] (Hb 0 s3)
  obtain ⟨s5, es5, h⟩ := lt_e h
  refine WP.putI (i := 0) (j := 1) (H' := (Hb 0 s5)) d3_122 (hw _ m_51) (Or.inl (hw _ m_52)) (hw _ m_12) (hlay hw) rfl rfl rfl (leb rfl) (by subst es5; rfl) ?_
  refine WP.aloadN d3_125 rfl ?_
  refine WP.iconst (0 : Int32) d3_126 rfl ?_
  obtain ⟨s6, es6, h⟩ := lt_e h
  refine WP.putI (i := 0) (j := 5) (H' := (Hb 0 s6)) d3_127 (hw _ m_53) (Or.inl (hw _ m_54)) (hw _ m_12) (hlay hw) rfl rfl rfl (leb rfl) (by subst es6; rfl) ?_
  refine WP.aloadN d3_130 rfl ?_
  refine WP.iconst (0 : Int32) d3_131 rfl ?_
  obtain ⟨s7, es7, h⟩ := lt_e h
  refine WP.putI (i := 0) (j := 9) (H' := (Hb 0 s7)) d3_132 (hw _ m_55) (Or.inl (hw _ m_56)) (hw _ m_12) (hlay hw) rfl rfl rfl (leb rfl) (by subst es7; rfl) ?_
  refine WP.aloadN d3_135 rfl ?_
  refine WP.iconst (0 : Int32) d3_136 rfl ?_
  obtain ⟨s8, es8, h⟩ := lt_e h
  refine WP.putZ (i := 0) (j := 10) (H' := (Hb 0 s8)) d3_137 (hw _ m_57) (Or.inl (hw _ m_58)) (hw _ m_12) (hlay hw) rfl rfl rfl (leb rfl) (by subst es8; rfl) ?_
  refine WP.aloadN d3_140 rfl ?_
  refine WP.iconst (1 : Int32) d3_141 rfl ?_
  obtain ⟨s9, es9, h⟩ := lt_e h
  refine WP.putI (i := 0) (j := 11) (H' := (Hb 0 s9)) d3_142 (hw _ m_59) (Or.inl (hw _ m_60)) (hw _ m_12) (hlay hw) rfl rfl rfl (leb rfl) (by subst es9; rfl) ?_
  refine WP.aloadN d3_145 rfl ?_
  refine WP.iconst (0 : Int32) d3_146 rfl ?_
  obtain ⟨s10, es10, h⟩ := lt_e h
  refine WP.putI (i := 0) (j := 12) (H' := (Hb 0 s10)) d3_147 (hw _ m_61) (Or.inl (hw _ m_62)) (hw _ m_12) (hlay hw) rfl rfl rfl (leb rfl) (by subst es10; rfl) ?_
  refine WP.aloadN d3_150 rfl ?_
  refine WP.iconst (0 : Int32) d3_151 rfl ?_
  obtain ⟨s11, es11, h⟩ := lt_e h
  refine WP.putI (i := 0) (j := 13) (H' := (Hb 0 s11)) d3_152 (hw _ m_63) (Or.inl (hw _ m_64)) (hw _ m_12) (hlay hw) rfl rfl rfl (leb rfl) (by subst es11; rfl) ?_
  refine WP.aloadN d3_155 rfl ?_
  refine WP.iconst (0 : Int32) d3_156 rfl ?_
  obtain ⟨s12, es12, h⟩ := lt_e h
  refine WP.putI (i := 0) (j := 14) (H' := (Hb 0 s12)) d3_157 (hw _ m_65) (Or.inl (hw _ m_66)) (hw _ m_12) (hlay hw) rfl rfl rfl (leb rfl) (by subst es12; rfl) ?_
  refine WP.aloadN d3_160 rfl ?_
  refine WP.iconst (-1 : Int32) d3_161 rfl ?_
  obtain ⟨s13, es13, h⟩ := lt_e h
  refine WP.putI (i := 0) (j := 15) (H' := (Hb 0 s13)) d3_162 (hw _ m_67) (Or.inl (hw _ m_68)) (hw _ m_12) (hlay hw) rfl rfl rfl (leb rfl) (by subst es13; rfl) ?_
  refine WP.aloadN d3_165 rfl ?_
  refine WP.iconst (0 : Int32) d3_166 rfl ?_
  obtain ⟨s14, es14, h⟩ := lt_e h
  refine WP.putI (i := 0) (j := 16) (H' := (Hb 0 s14)) d3_167 (hw _ m_69) (Or.inl (hw _ m_70)) (hw _ m_12) (hlay hw) rfl rfl rfl (leb rfl) (by subst es14; rfl) ?_
  refine WP.aloadN d3_170 rfl ?_
  refine WP.iconst (0 : Int32) d3_171 rfl ?_
  obtain ⟨s15, es15, h⟩ := lt_e h
  refine WP.putI (i := 0) (j := 20) (H' := (Hb 0 s15)) d3_172 (hw _ m_71) (Or.inl (hw _ m_72)) (hw _ m_12) (hlay hw) rfl rfl rfl (leb rfl) (by subst es15; rfl) ?_
  cases h
  exact WP.vreturn d3_175 rfl (leb rfl) (leb rfl) ⟨rfl, rfl⟩
theorem d19_0 : dc prog_1_method_22_code 0 (.aload_n 0) 1 := by decide +kernel
theorem d19_1 : dc prog_1_method_22_code 1 (.getfield 85) 3 := by decide +kernel
theorem d19_4 : dc prog_1_method_22_code 4 (.ifCond .lt 12) 3 := by decide +kernel
theorem d19_7 : dc prog_1_method_22_code 7 (.aload_n 0) 1 := by decide +kernel
theorem d19_8 : dc prog_1_method_22_code 8 (.getfield 85) 3 := by decide +kernel
theorem d19_11 : dc prog_1_method_22_code 11 (.bipush 12) 2 := by decide +kernel
theorem d19_13 : dc prog_1_method_22_code 13 (.if_icmp .lt 5) 3 := by decide +kernel
theorem d19_16 : dc prog_1_method_22_code 16 (.iconst 0) 1 := by decide +kernel
theorem d19_17 : dc prog_1_method_22_code 17 (.ireturn) 1 := by decide +kernel
theorem d19_18 : dc prog_1_method_22_code 18 (.aload_n 0) 1 := by decide +kernel
theorem d19_19 : dc prog_1_method_22_code 19 (.getfield 28) 3 := by decide +kernel
theorem d19_22 : dc prog_1_method_22_code 22 (.aload_n 0) 1 := by decide +kernel
theorem d19_23 : dc prog_1_method_22_code 23 (.getfield 85) 3 := by decide +kernel
theorem d19_26 : dc prog_1_method_22_code 26 (.iload_n 1) 1 := by decide +kernel
theorem d19_27 : dc prog_1_method_22_code 27 (.iastore) 1 := by decide +kernel
theorem d19_28 : dc prog_1_method_22_code 28 (.aload_n 0) 1 := by decide +kernel
theorem d19_29 : dc prog_1_method_22_code 29 (.getfield 31) 3 := by decide +kernel
theorem d19_32 : dc prog_1_method_22_code 32 (.aload_n 0) 1 := by decide +kernel
theorem d19_33 : dc prog_1_method_22_code 33 (.getfield 85) 3 := by decide +kernel
theorem d19_36 : dc prog_1_method_22_code 36 (.iload_n 2) 1 := by decide +kernel
theorem d19_37 : dc prog_1_method_22_code 37 (.iastore) 1 := by decide +kernel
theorem d19_38 : dc prog_1_method_22_code 38 (.aload_n 0) 1 := by decide +kernel
theorem d19_39 : dc prog_1_method_22_code 39 (.getfield 34) 3 := by decide +kernel
theorem d19_42 : dc prog_1_method_22_code 42 (.aload_n 0) 1 := by decide +kernel
theorem d19_43 : dc prog_1_method_22_code 43 (.getfield 85) 3 := by decide +kernel
theorem d19_46 : dc prog_1_method_22_code 46 (.iload_n 3) 1 := by decide +kernel
theorem d19_47 : dc prog_1_method_22_code 47 (.iastore) 1 := by decide +kernel
theorem d19_48 : dc prog_1_method_22_code 48 (.aload_n 0) 1 := by decide +kernel
theorem d19_49 : dc prog_1_method_22_code 49 (.dup) 1 := by decide +kernel
theorem d19_50 : dc prog_1_method_22_code 50 (.getfield 85) 3 := by decide +kernel
theorem d19_53 : dc prog_1_method_22_code 53 (.iconst 1) 1 := by decide +kernel
theorem d19_54 : dc prog_1_method_22_code 54 (.iadd) 1 := by decide +kernel
theorem d19_55 : dc prog_1_method_22_code 55 (.putfield 85) 3 := by decide +kernel
theorem d19_58 : dc prog_1_method_22_code 58 (.iconst 1) 1 := by decide +kernel
theorem d19_59 : dc prog_1_method_22_code 59 (.ireturn) 1 := by decide +kernel
abbrev y19 : MethodName := ⟨"DemandGate", "appendWork", "(III)Z"⟩
theorem hy19 : y19.cls ≠ "java/lang/invoke/MethodHandle" ∧ y19.cls ≠ "java/lang/invoke/VarHandle" := by decide
theorem pd19 : parseMethodDescriptor y19.desc = some ⟨[.int, .int, .int], some .boolean⟩ := by decide +kernel
abbrev R19 : Room := { frames := 0, cells := 0, slots := 0, locals := 0 }
abbrev P19 (r : Int32 × St) : Option Value → List OwnC → Prop := fun v H' => v = some (.int r.1) ∧ H' = (Hb 0 r.2)
abbrev W19 (l : Launch) (Z : State) (n0 : Nat) (Q : Option Value → List OwnC → Prop) (k n pc : Nat) (L : List Slot) (S : List Value) (H : List OwnC) : Prop := WP l Z CN lay "DemandGate" "appendWork" prog_1_method_22_code 4 (some FieldType.boolean) R19 n0 0 Q k n pc L S H
def f_appendWork_16 (s : St) : Option (Int32 × St) :=
  some ((0 : Int32), s)
set_option maxRecDepth 65536 in
set_option maxHeartbeats 4000000 in
theorem ok19_16 (l : Launch) (Z : State) (a0 : Array Value) (hw : HW a0 Z) (n0 : Nat) (s : St) (r : Int32 × St) (h : f_appendWork_16 s = some r) : W19 l Z n0 (P19 r) 0 0 16 [.unset, .unset, .unset, .unset] [] (Hb 0 s) := by
  unfold f_appendWork_16 at h
  refine WP.iconst (0 : Int32) d19_16 rfl ?_
  cases h
  exact WP.zreturn d19_17 rfl (leb rfl) (leb rfl) ⟨rfl, rfl⟩
def f_appendWork (p1 : Int32) (p2 : Int32) (p3 : Int32) (s : St) : Option (Int32 × St) :=
  if (gI s 11) < 0 then
    f_appendWork_16 s
  else
    if (gI s 11) < (12 : Int32) then
      (wrA s 6 (gI s 11) p1).bind fun s3 =>
      (wrA s3 7 (gI s3 11) p2).bind fun s4 =>
      (wrA s4 8 (gI s4 11) p3).bind fun s5 =>
      lt (sI s5 11 ((gI s5 11) + (1 : Int32))) fun s6 =>
      some ((1 : Int32), s6)
    else
      f_appendWork_16 s
set_option maxRecDepth 65536 in
set_option maxHeartbeats 4000000 in
theorem ok19 (l : Launch) (Z : State) (a0 : Array Value) (hw : HW a0 Z) (p1 : Int32) (p2 : Int32) (p3 : Int32) (s : St) (r : Int32 × St) (h : f_appendWork p1 p2 p3 s = some r) : CS l Z CN lay y19 prog_1_method_22_code 4 (some FieldType.boolean) R19 0 [.ref 0, .int p1, .int p2, .int p3] (Hb 0 s) (P19 r) := by
  refine CS.of_wp pn_cls (leb rfl) fun n0 => ?_
  show W19 l Z n0 (P19 r) 0 0 0 [.val (.ref 0), .val (.int p1), .val (.int p2), .val (.int p3)] [] (Hb 0 s)
  unfold f_appendWork at h
  refine WP.aloadN d19_0 rfl ?_
  refine WP.getfield (i := 0) (j := 20) d19_1 (hw _ m_71) rfl rfl rfl ?_
  rcases ite_e h with ⟨hc1, h⟩ | ⟨hc1, h⟩
  ·
    refine WP.ifY (pc' := 16) d19_4 (XT.i0_lt_t hc1) (by decide) rfl ?_
    exact WP.weak (L' := [.unset, .unset, .unset, .unset]) trivial (ok19_16 l Z a0 hw n0 s _ h)
  ·
    refine WP.ifN d19_4 (XT.i0_lt_f hc1) ?_
    refine WP.aloadN d19_7 rfl ?_
    refine WP.getfield (i := 0) (j := 20) d19_8 (hw _ m_71) rfl rfl rfl ?_
    refine WP.bipush (12 : Int32) d19_11 rfl ?_
    rcases ite_e h with ⟨hc2, h⟩ | ⟨hc2, h⟩
    ·
      refine WP.icmpY (pc' := 18) d19_13 (XT.ii_lt_t hc2) (by decide) rfl ?_
      refine WP.aloadN d19_18 rfl ?_
      refine WP.getfield (i := 0) (j := 17) d19_19 (hw _ m_33) rfl rfl rfl ?_
      refine WP.aloadN d19_22 rfl ?_
      refine WP.getfield (i := 0) (j := 20) d19_23 (hw _ m_71) rfl rfl rfl ?_
      refine WP.iloadN d19_26 rfl ?_
      obtain ⟨s3, hs3, h⟩ := Option.bind_eq_some_iff.mp h
      obtain ⟨ys3, gs3, es3⟩ := wrA_e hs3
      refine WP.iastore (i := 7) (xs := gA s 6) (H' := (Hb 0 s3)) d19_27 rfl (leb rfl) gs3 (by subst es3; rfl) ?_
      refine WP.aloadN d19_28 rfl ?_
      refine WP.getfield (i := 0) (j := 18) d19_29 (hw _ m_35) rfl rfl rfl ?_
      refine WP.aloadN d19_32 rfl ?_
      refine WP.getfield (i := 0) (j := 20) d19_33 (hw _ m_71) rfl rfl rfl ?_
      refine WP.iloadN d19_36 rfl ?_
      obtain ⟨s4, hs4, h⟩ := Option.bind_eq_some_iff.mp h
      obtain ⟨ys4, gs4, es4⟩ := wrA_e hs4
      refine WP.iastore (i := 8) (xs := gA s3 7) (H' := (Hb 0 s4)) d19_37 rfl (leb rfl) gs4 (by subst es4; rfl) ?_
      refine WP.aloadN d19_38 rfl ?_
      refine WP.getfield (i := 0) (j := 19) d19_39 (hw _ m_37) rfl rfl rfl ?_
      refine WP.aloadN d19_42 rfl ?_
      refine WP.getfield (i := 0) (j := 20) d19_43 (hw _ m_71) rfl rfl rfl ?_
      refine WP.iloadN d19_46 rfl ?_
      obtain ⟨s5, hs5, h⟩ := Option.bind_eq_some_iff.mp h
      obtain ⟨ys5, gs5, es5⟩ := wrA_e hs5
      refine WP.iastore (i := 9) (xs := gA s4 8) (H' := (Hb 0 s5)) d19_47 rfl (leb rfl) gs5 (by subst es5; rfl) ?_
      refine WP.aloadN d19_48 rfl ?_
      refine WP.dup d19_49 rfl ?_
      refine WP.getfield (i := 0) (j := 20) d19_50 (hw _ m_71) rfl rfl rfl ?_
      refine WP.iconst (1 : Int32) d19_53 rfl ?_
      refine WP.iadd d19_54 ?_
      obtain ⟨s6, es6, h⟩ := lt_e h
      refine WP.putI (i := 0) (j := 20) (H' := (Hb 0 s6)) d19_55 (hw _ m_71) (Or.inl (hw _ m_72)) (hw _ m_12) (hlay hw) rfl rfl rfl (leb rfl) (by subst es6; rfl) ?_
      refine WP.iconst (1 : Int32) d19_58 rfl ?_
      cases h
      exact WP.zreturn d19_59 rfl (leb rfl) (leb rfl) ⟨rfl, rfl⟩
    ·
      refine WP.icmpN d19_13 (XT.ii_lt_f hc2) ?_
      exact WP.weak (L' := [.unset, .unset, .unset, .unset]) trivial (ok19_16 l Z a0 hw n0 s _ h)
theorem d6_0 : dc prog_1_method_20_code 0 (.aload_n 0) 1 := by decide +kernel
theorem d6_1 : dc prog_1_method_20_code 1 (.iconst 0) 1 := by decide +kernel
theorem d6_2 : dc prog_1_method_20_code 2 (.putfield 85) 3 := by decide +kernel
theorem d6_5 : dc prog_1_method_20_code 5 (.iconst 0) 1 := by decide +kernel
theorem d6_6 : dc prog_1_method_20_code 6 (.istore_n 1) 1 := by decide +kernel
theorem d6_7 : dc prog_1_method_20_code 7 (.iload_n 1) 1 := by decide +kernel
theorem d6_8 : dc prog_1_method_20_code 8 (.aload_n 0) 1 := by decide +kernel
theorem d6_9 : dc prog_1_method_20_code 9 (.getfield 57) 3 := by decide +kernel
theorem d6_12 : dc prog_1_method_20_code 12 (.if_icmp .ge 38) 3 := by decide +kernel
theorem d6_15 : dc prog_1_method_20_code 15 (.iload_n 1) 1 := by decide +kernel
theorem d6_16 : dc prog_1_method_20_code 16 (.bipush 12) 2 := by decide +kernel
theorem d6_18 : dc prog_1_method_20_code 18 (.if_icmp .ge 32) 3 := by decide +kernel
theorem d6_21 : dc prog_1_method_20_code 21 (.aload_n 0) 1 := by decide +kernel
theorem d6_22 : dc prog_1_method_20_code 22 (.aload_n 0) 1 := by decide +kernel
theorem d6_23 : dc prog_1_method_20_code 23 (.getfield 7) 3 := by decide +kernel
theorem d6_26 : dc prog_1_method_20_code 26 (.iload_n 1) 1 := by decide +kernel
theorem d6_27 : dc prog_1_method_20_code 27 (.iaload) 1 := by decide +kernel
theorem d6_28 : dc prog_1_method_20_code 28 (.aload_n 0) 1 := by decide +kernel
theorem d6_29 : dc prog_1_method_20_code 29 (.getfield 13) 3 := by decide +kernel
theorem d6_32 : dc prog_1_method_20_code 32 (.iload_n 1) 1 := by decide +kernel
theorem d6_33 : dc prog_1_method_20_code 33 (.iaload) 1 := by decide +kernel
theorem d6_34 : dc prog_1_method_20_code 34 (.aload_n 0) 1 := by decide +kernel
theorem d6_35 : dc prog_1_method_20_code 35 (.getfield 16) 3 := by decide +kernel
theorem d6_38 : dc prog_1_method_20_code 38 (.iload_n 1) 1 := by decide +kernel
theorem d6_39 : dc prog_1_method_20_code 39 (.iaload) 1 := by decide +kernel
theorem d6_40 : dc prog_1_method_20_code 40 (.invokevirtual 95) 3 := by decide +kernel
theorem d6_43 : dc prog_1_method_20_code 43 (.pop) 1 := by decide +kernel
theorem d6_44 : dc prog_1_method_20_code 44 (.iinc 1 1) 3 := by decide +kernel
theorem d6_47 : dc prog_1_method_20_code 47 (.goto (-40)) 3 := by decide +kernel
theorem d6_50 : dc prog_1_method_20_code 50 (.return_) 1 := by decide +kernel
abbrev y6 : MethodName := ⟨"DemandGate", "loadAdmitted", "()V"⟩
theorem hy6 : y6.cls ≠ "java/lang/invoke/MethodHandle" ∧ y6.cls ≠ "java/lang/invoke/VarHandle" := by decide
theorem pd6 : parseMethodDescriptor y6.desc = some ⟨[], none⟩ := by decide +kernel
abbrev R6 : Room := { frames := 1, cells := 0, slots := 0, locals := 15 }
abbrev P6 (r : St) : Option Value → List OwnC → Prop := fun v H' => v = none ∧ H' = (Hb 0 r)
abbrev W6 (l : Launch) (Z : State) (n0 : Nat) (Q : Option Value → List OwnC → Prop) (k n pc : Nat) (L : List Slot) (S : List Value) (H : List OwnC) : Prop := WP l Z CN lay "DemandGate" "loadAdmitted" prog_1_method_20_code 2 (none) R6 n0 0 Q k n pc L S H
def f_loadAdmitted_50 (n : Nat) (s : St) : Option (St) :=
  some s
set_option maxRecDepth 65536 in
set_option maxHeartbeats 4000000 in
theorem ok6_50 (l : Launch) (Z : State) (a0 : Array Value) (hw : HW a0 Z) (n0 : Nat) (n : Nat) (s : St) (r : St) (h : f_loadAdmitted_50 n s = some r) : W6 l Z n0 (P6 r) 0 0 50 [.unset, .unset] [] (Hb 0 s) := by
  unfold f_loadAdmitted_50 at h
  cases h
  exact WP.vreturn d6_50 rfl (leb rfl) (leb rfl) ⟨rfl, rfl⟩
def g_loadAdmitted_7 (k7 : Int32 → St → Option (St)) (n : Nat) (v1 : Int32) (s : St) : Option (St) :=
  if v1 < (gI s 2) then
    if v1 < (12 : Int32) then
      (rd (gA s 0) v1).bind fun x3 =>
      (rd (gA s 1) v1).bind fun x4 =>
      (rd (gA s 2) v1).bind fun x5 =>
      (f_appendWork x3 x4 x5 s).bind fun c6 =>
      lt (v1 + (1 : Int32)) fun x7 =>
      k7 x7 c6.2
    else
      f_loadAdmitted_50 n s
  else
    f_loadAdmitted_50 n s
set_option maxRecDepth 65536 in
set_option maxHeartbeats 4000000 in
theorem okg6_7 (l : Launch) (Z : State) (a0 : Array Value) (hw : HW a0 Z) (n0 : Nat) (k7 : Int32 → St → Option (St)) (hk7 : ∀ (v1 : Int32) (s : St) (r : St), k7 v1 s = some r → W6 l Z n0 (P6 r) 0 0 7 [.val (.ref 0), .val (.int v1)] [] (Hb 0 s)) (n : Nat) (v1 : Int32) (s : St) (r : St) (h : g_loadAdmitted_7 k7 n v1 s = some r) : W6 l Z n0 (P6 r) 0 0 7 [.val (.ref 0), .val (.int v1)] [] (Hb 0 s) := by
  unfold g_loadAdmitted_7 at h
  refine WP.iloadN d6_7 rfl ?_
  refine WP.aloadN d6_8 rfl ?_
  refine WP.getfield (i := 0) (j := 5) d6_9 (hw _ m_53) rfl rfl rfl ?_
  rcases ite_e h with ⟨hc1, h⟩ | ⟨hc1, h⟩
  ·
    refine WP.icmpN d6_12 (XT.ii_ge_f hc1) ?_
    refine WP.iloadN d6_15 rfl ?_
    refine WP.bipush (12 : Int32) d6_16 rfl ?_
    rcases ite_e h with ⟨hc2, h⟩ | ⟨hc2, h⟩
    ·
      refine WP.icmpN d6_18 (XT.ii_ge_f hc2) ?_
      refine WP.aloadN d6_21 rfl ?_
      refine WP.aloadN d6_22 rfl ?_
      refine WP.getfield (i := 0) (j := 2) d6_23 (hw _ m_21) rfl rfl rfl ?_
      refine WP.iloadN d6_26 rfl ?_
      obtain ⟨x3, hx3, h⟩ := Option.bind_eq_some_iff.mp h
      refine WP.iaload (i := 1) d6_27 rfl hx3 ?_
      refine WP.aloadN d6_28 rfl ?_
      refine WP.getfield (i := 0) (j := 3) d6_29 (hw _ m_23) rfl rfl rfl ?_
      refine WP.iloadN d6_32 rfl ?_
      obtain ⟨x4, hx4, h⟩ := Option.bind_eq_some_iff.mp h
      refine WP.iaload (i := 2) d6_33 rfl hx4 ?_
      refine WP.aloadN d6_34 rfl ?_
      refine WP.getfield (i := 0) (j := 4) d6_35 (hw _ m_25) rfl rfl rfl ?_
      refine WP.iloadN d6_38 rfl ?_
      obtain ⟨x5, hx5, h⟩ := Option.bind_eq_some_iff.mp h
      refine WP.iaload (i := 3) d6_39 rfl hx5 ?_
      obtain ⟨c6, hc6, h⟩ := Option.bind_eq_some_iff.mp h
      refine WP.callP (i := 0) (y := y19) (as := [.int x3, .int x4, .int x5]) (S := []) d6_40 (hw _ m_130) (hw _ m_132) (hw _ m_12) (hw _ m_131) (hw _ m_133) (hw _ m_13) hy19 rfl (ok19 l Z a0 hw x3 x4 x5 s _ hc6) rfl (lenOf pd19 rfl) (leb rfl) (leb rfl) (leb rfl) (leb rfl) ?_
      rintro _ _ ⟨rfl, rfl⟩
      show W6 l Z n0 (P6 r) 0 0 43 [.val (.ref 0), .val (.int v1)] [.int c6.1] (Hb 0 c6.2)
      refine WP.pop d6_43 rfl ?_
      obtain ⟨x7, ex7, h⟩ := lt_e h
      refine WP.iinc (L' := [.val (.ref 0), .val (.int x7)]) (1 : Int32) d6_44 rfl rfl (by subst ex7; rfl) ?_
      refine WP.goto (pc' := 7) d6_47 (by decide) rfl ?_
      exact WP.weak (L' := [.val (.ref 0), .val (.int x7)]) ⟨rfl, rfl, trivial⟩ (hk7 x7 c6.2 _ h)
    ·
      refine WP.icmpY (pc' := 50) d6_18 (XT.ii_ge_t hc2) (by decide) rfl ?_
      exact WP.weak (L' := [.unset, .unset]) trivial (ok6_50 l Z a0 hw n0 n s _ h)
  ·
    refine WP.icmpY (pc' := 50) d6_12 (XT.ii_ge_t hc1) (by decide) rfl ?_
    exact WP.weak (L' := [.unset, .unset]) trivial (ok6_50 l Z a0 hw n0 n s _ h)
def f_loadAdmitted_7 : Nat → Int32 → St → Option (St)
  | 0 => fun _ _ => none
  | n + 1 => g_loadAdmitted_7 (f_loadAdmitted_7 n) n
theorem ok6_7 (l : Launch) (Z : State) (a0 : Array Value) (hw : HW a0 Z) (n0 : Nat) : ∀ (n : Nat) (v1 : Int32) (s : St) (r : St), f_loadAdmitted_7 n v1 s = some r → W6 l Z n0 (P6 r) 0 0 7 [.val (.ref 0), .val (.int v1)] [] (Hb 0 s)
  | 0, v1, s, r, h => nomatch (show none = some r from h)
  | n + 1, v1, s, r, h => okg6_7 l Z a0 hw n0 _ (ok6_7 l Z a0 hw n0 n) n v1 s r h
def f_loadAdmitted (n : Nat) (s : St) : Option (St) :=
  lt (sI s 11 (0 : Int32)) fun s1 =>
  f_loadAdmitted_7 n (0 : Int32) s1
set_option maxRecDepth 65536 in
set_option maxHeartbeats 4000000 in
theorem ok6 (l : Launch) (Z : State) (a0 : Array Value) (hw : HW a0 Z) (n : Nat) (s : St) (r : St) (h : f_loadAdmitted n s = some r) : CS l Z CN lay y6 prog_1_method_20_code 2 (none) R6 0 [.ref 0] (Hb 0 s) (P6 r) := by
  refine CS.of_wp pn_cls (leb rfl) fun n0 => ?_
  show W6 l Z n0 (P6 r) 0 0 0 [.val (.ref 0), .unset] [] (Hb 0 s)
  unfold f_loadAdmitted at h
  refine WP.aloadN d6_0 rfl ?_
  refine WP.iconst (0 : Int32) d6_1 rfl ?_
  obtain ⟨s1, es1, h⟩ := lt_e h
  refine WP.putI (i := 0) (j := 20) (H' := (Hb 0 s1)) d6_2 (hw _ m_71) (Or.inl (hw _ m_72)) (hw _ m_12) (hlay hw) rfl rfl rfl (leb rfl) (by subst es1; rfl) ?_
  refine WP.iconst (0 : Int32) d6_5 rfl ?_
  refine WP.istoreN (L' := [.val (.ref 0), .val (.int (0 : Int32))]) d6_6 (leb rfl) rfl ?_
  exact WP.weak (L' := [.val (.ref 0), .val (.int (0 : Int32))]) ⟨rfl, rfl, trivial⟩ (ok6_7 l Z a0 hw n0 n (0 : Int32) s1 _ h)
theorem d21_0 : dc prog_1_method_25_code 0 (.lload_n 1) 1 := by decide +kernel
theorem d21_1 : dc prog_1_method_25_code 1 (.lstore 5) 2 := by decide +kernel
theorem d21_3 : dc prog_1_method_25_code 3 (.lload_n 3) 1 := by decide +kernel
theorem d21_4 : dc prog_1_method_25_code 4 (.lstore 7) 2 := by decide +kernel
theorem d21_6 : dc prog_1_method_25_code 6 (.iconst 0) 1 := by decide +kernel
theorem d21_7 : dc prog_1_method_25_code 7 (.istore 9) 2 := by decide +kernel
theorem d21_9 : dc prog_1_method_25_code 9 (.iload 9) 2 := by decide +kernel
theorem d21_11 : dc prog_1_method_25_code 11 (.sipush 128) 3 := by decide +kernel
theorem d21_14 : dc prog_1_method_25_code 14 (.if_icmp .ge 31) 3 := by decide +kernel
theorem d21_17 : dc prog_1_method_25_code 17 (.lload 7) 2 := by decide +kernel
theorem d21_19 : dc prog_1_method_25_code 19 (.lconst 0) 1 := by decide +kernel
theorem d21_20 : dc prog_1_method_25_code 20 (.lcmp) 1 := by decide +kernel
theorem d21_21 : dc prog_1_method_25_code 21 (.ifCond .eq 24) 3 := by decide +kernel
theorem d21_24 : dc prog_1_method_25_code 24 (.lload 5) 2 := by decide +kernel
theorem d21_26 : dc prog_1_method_25_code 26 (.lload 7) 2 := by decide +kernel
theorem d21_28 : dc prog_1_method_25_code 28 (.lrem) 1 := by decide +kernel
theorem d21_29 : dc prog_1_method_25_code 29 (.lstore 10) 2 := by decide +kernel
theorem d21_31 : dc prog_1_method_25_code 31 (.lload 7) 2 := by decide +kernel
theorem d21_33 : dc prog_1_method_25_code 33 (.lstore 5) 2 := by decide +kernel
theorem d21_35 : dc prog_1_method_25_code 35 (.lload 10) 2 := by decide +kernel
theorem d21_37 : dc prog_1_method_25_code 37 (.lstore 7) 2 := by decide +kernel
theorem d21_39 : dc prog_1_method_25_code 39 (.iinc 9 1) 3 := by decide +kernel
theorem d21_42 : dc prog_1_method_25_code 42 (.goto (-33)) 3 := by decide +kernel
theorem d21_45 : dc prog_1_method_25_code 45 (.lload 5) 2 := by decide +kernel
theorem d21_47 : dc prog_1_method_25_code 47 (.lreturn) 1 := by decide +kernel
abbrev y21 : MethodName := ⟨"DemandGate", "gcd", "(JJ)J"⟩
theorem hy21 : y21.cls ≠ "java/lang/invoke/MethodHandle" ∧ y21.cls ≠ "java/lang/invoke/VarHandle" := by decide
theorem pd21 : parseMethodDescriptor y21.desc = some ⟨[.long, .long], some .long⟩ := by decide +kernel
abbrev R21 : Room := { frames := 0, cells := 0, slots := 0, locals := 0 }
abbrev P21 (s : St) (r : Int64) : Option Value → List OwnC → Prop := fun v H' => v = some (.long r) ∧ H' = (Hb 0 s)
abbrev W21 (l : Launch) (Z : State) (n0 : Nat) (Q : Option Value → List OwnC → Prop) (k n pc : Nat) (L : List Slot) (S : List Value) (H : List OwnC) : Prop := WP l Z CN lay "DemandGate" "gcd" prog_1_method_25_code 12 (some FieldType.long) R21 n0 0 Q k n pc L S H
def f_gcd_45 (n : Nat) (v5 : Int64) (s : St) : Option (Int64) :=
  some v5
set_option maxRecDepth 65536 in
set_option maxHeartbeats 4000000 in
theorem ok21_45 (l : Launch) (Z : State) (a0 : Array Value) (hw : HW a0 Z) (n0 : Nat) (n : Nat) (v5 : Int64) (s : St) (r : Int64) (h : f_gcd_45 n v5 s = some r) : W21 l Z n0 (P21 s r) 0 0 45 [.unset, .unset, .unset, .unset, .unset, .val (.long v5), .second, .unset, .unset, .unset, .unset, .unset] [] (Hb 0 s) := by
  unfold f_gcd_45 at h
  refine WP.lload d21_45 rfl ?_
  cases h
  exact WP.lreturn d21_47 rfl (leb rfl) (leb rfl) ⟨rfl, rfl⟩
def g_gcd_9 (k9 : Int64 → Int64 → Int32 → St → Option (Int64)) (n : Nat) (v5 : Int64) (v7 : Int64) (v9 : Int32) (s : St) : Option (Int64) :=
  if v9 < (128 : Int32) then
    if v7 = (0 : Int64) then
      f_gcd_45 n v5 s
    else
      if v7 = 0 then none else
      lt (v5 % v7) fun x4 =>
      lt (v9 + (1 : Int32)) fun x5 =>
      k9 v7 x4 x5 s
  else
    f_gcd_45 n v5 s
set_option maxRecDepth 65536 in
set_option maxHeartbeats 4000000 in
theorem okg21_9 (l : Launch) (Z : State) (a0 : Array Value) (hw : HW a0 Z) (n0 : Nat) (k9 : Int64 → Int64 → Int32 → St → Option (Int64)) (hk9 : ∀ (v5 : Int64) (v7 : Int64) (v9 : Int32) (s : St) (r : Int64), k9 v5 v7 v9 s = some r → W21 l Z n0 (P21 s r) 0 0 9 [.unset, .unset, .unset, .unset, .unset, .val (.long v5), .second, .val (.long v7), .second, .val (.int v9), .unset, .unset] [] (Hb 0 s)) (n : Nat) (v5 : Int64) (v7 : Int64) (v9 : Int32) (s : St) (r : Int64) (h : g_gcd_9 k9 n v5 v7 v9 s = some r) : W21 l Z n0 (P21 s r) 0 0 9 [.unset, .unset, .unset, .unset, .unset, .val (.long v5), .second, .val (.long v7), .second, .val (.int v9), .unset, .unset] [] (Hb 0 s) := by
  unfold g_gcd_9 at h
  refine WP.iload d21_9 rfl ?_
  refine WP.sipush (128 : Int32) d21_11 rfl ?_
  rcases ite_e h with ⟨hc1, h⟩ | ⟨hc1, h⟩
  ·
    refine WP.icmpN d21_14 (XT.ii_ge_f hc1) ?_
    refine WP.lload d21_17 rfl ?_
    refine WP.lconst (0 : Int64) d21_19 rfl ?_
    refine WP.lcmp d21_20 ?_
    rcases ite_e h with ⟨hc2, h⟩ | ⟨hc2, h⟩
    ·
      refine WP.ifY (pc' := 45) d21_21 (XT.ll_eq_t hc2) (by decide) rfl ?_
      exact WP.weak (L' := [.unset, .unset, .unset, .unset, .unset, .val (.long v5), .second, .unset, .unset, .unset, .unset, .unset]) ⟨rfl, rfl, trivial⟩ (ok21_45 l Z a0 hw n0 n v5 s _ h)
    ·
      refine WP.ifN d21_21 (XT.ll_eq_f hc2) ?_
      refine WP.lload d21_24 rfl ?_
      refine WP.lload d21_26 rfl ?_
      obtain ⟨hz3, h⟩ := nz_e h
      refine WP.lrem d21_28 hz3 ?_
      obtain ⟨x4, ex4, h⟩ := lt_e h
      refine WP.lstore (L' := [.unset, .unset, .unset, .unset, .unset, .val (.long v5), .second, .val (.long v7), .second, .val (.int v9), .val (.long x4), .second]) d21_29 (leb rfl) (by subst ex4; rfl) ?_
      refine WP.lload d21_31 rfl ?_
      refine WP.lstore (L' := [.unset, .unset, .unset, .unset, .unset, .val (.long v7), .second, .val (.long v7), .second, .val (.int v9), .val (.long x4), .second]) d21_33 (leb rfl) rfl ?_
      refine WP.lload d21_35 rfl ?_
      refine WP.lstore (L' := [.unset, .unset, .unset, .unset, .unset, .val (.long v7), .second, .val (.long x4), .second, .val (.int v9), .val (.long x4), .second]) d21_37 (leb rfl) rfl ?_
      obtain ⟨x5, ex5, h⟩ := lt_e h
      refine WP.iinc (L' := [.unset, .unset, .unset, .unset, .unset, .val (.long v7), .second, .val (.long x4), .second, .val (.int x5), .val (.long x4), .second]) (1 : Int32) d21_39 rfl rfl (by subst ex5; rfl) ?_
      refine WP.goto (pc' := 9) d21_42 (by decide) rfl ?_
      exact WP.weak (L' := [.unset, .unset, .unset, .unset, .unset, .val (.long v7), .second, .val (.long x4), .second, .val (.int x5), .unset, .unset]) ⟨rfl, rfl, rfl, rfl, rfl, trivial⟩ (hk9 v7 x4 x5 s _ h)
  ·
    refine WP.icmpY (pc' := 45) d21_14 (XT.ii_ge_t hc1) (by decide) rfl ?_
    exact WP.weak (L' := [.unset, .unset, .unset, .unset, .unset, .val (.long v5), .second, .unset, .unset, .unset, .unset, .unset]) ⟨rfl, rfl, trivial⟩ (ok21_45 l Z a0 hw n0 n v5 s _ h)
def f_gcd_9 : Nat → Int64 → Int64 → Int32 → St → Option (Int64)
  | 0 => fun _ _ _ _ => none
  | n + 1 => g_gcd_9 (f_gcd_9 n) n
theorem ok21_9 (l : Launch) (Z : State) (a0 : Array Value) (hw : HW a0 Z) (n0 : Nat) : ∀ (n : Nat) (v5 : Int64) (v7 : Int64) (v9 : Int32) (s : St) (r : Int64), f_gcd_9 n v5 v7 v9 s = some r → W21 l Z n0 (P21 s r) 0 0 9 [.unset, .unset, .unset, .unset, .unset, .val (.long v5), .second, .val (.long v7), .second, .val (.int v9), .unset, .unset] [] (Hb 0 s)
  | 0, v5, v7, v9, s, r, h => nomatch (show none = some r from h)
  | n + 1, v5, v7, v9, s, r, h => okg21_9 l Z a0 hw n0 _ (ok21_9 l Z a0 hw n0 n) n v5 v7 v9 s r h
def f_gcd (n : Nat) (p1 : Int64) (p2 : Int64) (s : St) : Option (Int64) :=
  f_gcd_9 n p1 p2 (0 : Int32) s
set_option maxRecDepth 65536 in
set_option maxHeartbeats 4000000 in
theorem ok21 (l : Launch) (Z : State) (a0 : Array Value) (hw : HW a0 Z) (n : Nat) (p1 : Int64) (p2 : Int64) (s : St) (r : Int64) (h : f_gcd n p1 p2 s = some r) : CS l Z CN lay y21 prog_1_method_25_code 12 (some FieldType.long) R21 0 [.ref 0, .long p1, .long p2] (Hb 0 s) (P21 s r) := by
  refine CS.of_wp pn_cls (leb rfl) fun n0 => ?_
  show W21 l Z n0 (P21 s r) 0 0 0 [.val (.ref 0), .val (.long p1), .second, .val (.long p2), .second, .unset, .unset, .unset, .unset, .unset, .unset, .unset] [] (Hb 0 s)
  unfold f_gcd at h
  refine WP.lloadN d21_0 rfl ?_
  refine WP.lstore (L' := [.val (.ref 0), .val (.long p1), .second, .val (.long p2), .second, .val (.long p1), .second, .unset, .unset, .unset, .unset, .unset]) d21_1 (leb rfl) rfl ?_
  refine WP.lloadN d21_3 rfl ?_
  refine WP.lstore (L' := [.val (.ref 0), .val (.long p1), .second, .val (.long p2), .second, .val (.long p1), .second, .val (.long p2), .second, .unset, .unset, .unset]) d21_4 (leb rfl) rfl ?_
  refine WP.iconst (0 : Int32) d21_6 rfl ?_
  refine WP.istore (L' := [.val (.ref 0), .val (.long p1), .second, .val (.long p2), .second, .val (.long p1), .second, .val (.long p2), .second, .val (.int (0 : Int32)), .unset, .unset]) d21_7 (leb rfl) rfl ?_
  exact WP.weak (L' := [.unset, .unset, .unset, .unset, .unset, .val (.long p1), .second, .val (.long p2), .second, .val (.int (0 : Int32)), .unset, .unset]) ⟨rfl, rfl, rfl, rfl, rfl, trivial⟩ (ok21_9 l Z a0 hw n0 n p1 p2 (0 : Int32) s _ h)
theorem d20_0 : dc prog_1_method_26_code 0 (.aload_n 0) 1 := by decide +kernel
theorem d20_1 : dc prog_1_method_26_code 1 (.lload_n 1) 1 := by decide +kernel
theorem d20_2 : dc prog_1_method_26_code 2 (.lload_n 3) 1 := by decide +kernel
theorem d20_3 : dc prog_1_method_26_code 3 (.invokevirtual 122) 3 := by decide +kernel
theorem d20_6 : dc prog_1_method_26_code 6 (.lstore 5) 2 := by decide +kernel
theorem d20_8 : dc prog_1_method_26_code 8 (.lload 5) 2 := by decide +kernel
theorem d20_10 : dc prog_1_method_26_code 10 (.lconst 1) 1 := by decide +kernel
theorem d20_11 : dc prog_1_method_26_code 11 (.lcmp) 1 := by decide +kernel
theorem d20_12 : dc prog_1_method_26_code 12 (.ifCond .ge 6) 3 := by decide +kernel
theorem d20_15 : dc prog_1_method_26_code 15 (.lconst 1) 1 := by decide +kernel
theorem d20_16 : dc prog_1_method_26_code 16 (.lstore 5) 2 := by decide +kernel
theorem d20_18 : dc prog_1_method_26_code 18 (.lload_n 1) 1 := by decide +kernel
theorem d20_19 : dc prog_1_method_26_code 19 (.lload 5) 2 := by decide +kernel
theorem d20_21 : dc prog_1_method_26_code 21 (.ldiv) 1 := by decide +kernel
theorem d20_22 : dc prog_1_method_26_code 22 (.lload_n 3) 1 := by decide +kernel
theorem d20_23 : dc prog_1_method_26_code 23 (.lmul) 1 := by decide +kernel
theorem d20_24 : dc prog_1_method_26_code 24 (.lreturn) 1 := by decide +kernel
abbrev y20 : MethodName := ⟨"DemandGate", "lcm", "(JJ)J"⟩
theorem hy20 : y20.cls ≠ "java/lang/invoke/MethodHandle" ∧ y20.cls ≠ "java/lang/invoke/VarHandle" := by decide
theorem pd20 : parseMethodDescriptor y20.desc = some ⟨[.long, .long], some .long⟩ := by decide +kernel
abbrev R20 : Room := { frames := 1, cells := 0, slots := 0, locals := 23 }
abbrev P20 (s : St) (r : Int64) : Option Value → List OwnC → Prop := fun v H' => v = some (.long r) ∧ H' = (Hb 0 s)
abbrev W20 (l : Launch) (Z : State) (n0 : Nat) (Q : Option Value → List OwnC → Prop) (k n pc : Nat) (L : List Slot) (S : List Value) (H : List OwnC) : Prop := WP l Z CN lay "DemandGate" "lcm" prog_1_method_26_code 7 (some FieldType.long) R20 n0 0 Q k n pc L S H
def f_lcm_18 (n : Nat) (v1 : Int64) (v3 : Int64) (v5 : Int64) (s : St) : Option (Int64) :=
  if v5 = 0 then none else
  some ((v1 / v5) * v3)
set_option maxRecDepth 65536 in
set_option maxHeartbeats 4000000 in
theorem ok20_18 (l : Launch) (Z : State) (a0 : Array Value) (hw : HW a0 Z) (n0 : Nat) (n : Nat) (v1 : Int64) (v3 : Int64) (v5 : Int64) (s : St) (r : Int64) (h : f_lcm_18 n v1 v3 v5 s = some r) : W20 l Z n0 (P20 s r) 0 0 18 [.unset, .val (.long v1), .second, .val (.long v3), .second, .val (.long v5), .second] [] (Hb 0 s) := by
  unfold f_lcm_18 at h
  refine WP.lloadN d20_18 rfl ?_
  refine WP.lload d20_19 rfl ?_
  obtain ⟨hz1, h⟩ := nz_e h
  refine WP.ldiv d20_21 hz1 ?_
  refine WP.lloadN d20_22 rfl ?_
  refine WP.lmul d20_23 ?_
  cases h
  exact WP.lreturn d20_24 rfl (leb rfl) (leb rfl) ⟨rfl, rfl⟩
def f_lcm (n : Nat) (p1 : Int64) (p2 : Int64) (s : St) : Option (Int64) :=
  (f_gcd n p1 p2 s).bind fun c1 =>
  if c1 < (1 : Int64) then
    f_lcm_18 n p1 p2 (1 : Int64) s
  else
    f_lcm_18 n p1 p2 c1 s
set_option maxRecDepth 65536 in
set_option maxHeartbeats 4000000 in
theorem ok20 (l : Launch) (Z : State) (a0 : Array Value) (hw : HW a0 Z) (n : Nat) (p1 : Int64) (p2 : Int64) (s : St) (r : Int64) (h : f_lcm n p1 p2 s = some r) : CS l Z CN lay y20 prog_1_method_26_code 7 (some FieldType.long) R20 0 [.ref 0, .long p1, .long p2] (Hb 0 s) (P20 s r) := by
  refine CS.of_wp pn_cls (leb rfl) fun n0 => ?_
  show W20 l Z n0 (P20 s r) 0 0 0 [.val (.ref 0), .val (.long p1), .second, .val (.long p2), .second, .unset, .unset] [] (Hb 0 s)
  unfold f_lcm at h
  refine WP.aloadN d20_0 rfl ?_
  refine WP.lloadN d20_1 rfl ?_
  refine WP.lloadN d20_2 rfl ?_
  obtain ⟨c1, hc1, h⟩ := Option.bind_eq_some_iff.mp h
  refine WP.callP (i := 0) (y := y21) (as := [.long p1, .long p2]) (S := []) d20_3 (hw _ m_138) (hw _ m_140) (hw _ m_12) (hw _ m_139) (hw _ m_141) (hw _ m_13) hy21 rfl (ok21 l Z a0 hw n p1 p2 s _ hc1) rfl (lenOf pd21 rfl) (leb rfl) (leb rfl) (leb rfl) (leb rfl) ?_
  rintro _ _ ⟨rfl, rfl⟩
  show W20 l Z n0 (P20 s r) 0 0 6 [.val (.ref 0), .val (.long p1), .second, .val (.long p2), .second, .unset, .unset] [.long c1] (Hb 0 s)
  refine WP.lstore (L' := [.val (.ref 0), .val (.long p1), .second, .val (.long p2), .second, .val (.long c1), .second]) d20_6 (leb rfl) rfl ?_
  refine WP.lload d20_8 rfl ?_
  refine WP.lconst (1 : Int64) d20_10 rfl ?_
  refine WP.lcmp d20_11 ?_
  rcases ite_e h with ⟨hc2, h⟩ | ⟨hc2, h⟩
  ·
    refine WP.ifN d20_12 (XT.ll_ge_f hc2) ?_
    refine WP.lconst (1 : Int64) d20_15 rfl ?_
    refine WP.lstore (L' := [.val (.ref 0), .val (.long p1), .second, .val (.long p2), .second, .val (.long (1 : Int64)), .second]) d20_16 (leb rfl) rfl ?_
    exact WP.weak (L' := [.unset, .val (.long p1), .second, .val (.long p2), .second, .val (.long (1 : Int64)), .second]) ⟨rfl, rfl, rfl, rfl, rfl, rfl, trivial⟩ (ok20_18 l Z a0 hw n0 n p1 p2 (1 : Int64) s _ h)
  ·
    refine WP.ifY (pc' := 18) d20_12 (XT.ll_ge_t hc2) (by decide) rfl ?_
    exact WP.weak (L' := [.unset, .val (.long p1), .second, .val (.long p2), .second, .val (.long c1), .second]) ⟨rfl, rfl, rfl, rfl, rfl, rfl, trivial⟩ (ok20_18 l Z a0 hw n0 n p1 p2 c1 s _ h)
theorem d7_0 : dc prog_1_method_27_code 0 (.lconst 1) 1 := by decide +kernel
theorem d7_1 : dc prog_1_method_27_code 1 (.lstore_n 2) 1 := by decide +kernel
theorem d7_2 : dc prog_1_method_27_code 2 (.iconst 0) 1 := by decide +kernel
theorem d7_3 : dc prog_1_method_27_code 3 (.istore 4) 2 := by decide +kernel
theorem d7_5 : dc prog_1_method_27_code 5 (.iload 4) 2 := by decide +kernel
theorem d7_7 : dc prog_1_method_27_code 7 (.aload_n 0) 1 := by decide +kernel
theorem d7_8 : dc prog_1_method_27_code 8 (.getfield 85) 3 := by decide +kernel
theorem d7_11 : dc prog_1_method_27_code 11 (.if_icmp .ge 49) 3 := by decide +kernel
theorem d7_14 : dc prog_1_method_27_code 14 (.aload_n 0) 1 := by decide +kernel
theorem d7_15 : dc prog_1_method_27_code 15 (.getfield 34) 3 := by decide +kernel
theorem d7_18 : dc prog_1_method_27_code 18 (.iload 4) 2 := by decide +kernel
theorem d7_20 : dc prog_1_method_27_code 20 (.iaload) 1 := by decide +kernel
theorem d7_21 : dc prog_1_method_27_code 21 (.iconst 1) 1 := by decide +kernel
theorem d7_22 : dc prog_1_method_27_code 22 (.if_icmp .ge 7) 3 := by decide +kernel
theorem d7_25 : dc prog_1_method_27_code 25 (.iload_n 1) 1 := by decide +kernel
theorem d7_26 : dc prog_1_method_27_code 26 (.iconst 1) 1 := by decide +kernel
theorem d7_27 : dc prog_1_method_27_code 27 (.iadd) 1 := by decide +kernel
theorem d7_28 : dc prog_1_method_27_code 28 (.ireturn) 1 := by decide +kernel
theorem d7_29 : dc prog_1_method_27_code 29 (.aload_n 0) 1 := by decide +kernel
theorem d7_30 : dc prog_1_method_27_code 30 (.lload_n 2) 1 := by decide +kernel
theorem d7_31 : dc prog_1_method_27_code 31 (.aload_n 0) 1 := by decide +kernel
theorem d7_32 : dc prog_1_method_27_code 32 (.getfield 34) 3 := by decide +kernel
theorem d7_35 : dc prog_1_method_27_code 35 (.iload 4) 2 := by decide +kernel
theorem d7_37 : dc prog_1_method_27_code 37 (.iaload) 1 := by decide +kernel
theorem d7_38 : dc prog_1_method_27_code 38 (.i2l) 1 := by decide +kernel
theorem d7_39 : dc prog_1_method_27_code 39 (.invokevirtual 126) 3 := by decide +kernel
theorem d7_42 : dc prog_1_method_27_code 42 (.lstore_n 2) 1 := by decide +kernel
theorem d7_43 : dc prog_1_method_27_code 43 (.lload_n 2) 1 := by decide +kernel
theorem d7_44 : dc prog_1_method_27_code 44 (.iload_n 1) 1 := by decide +kernel
theorem d7_45 : dc prog_1_method_27_code 45 (.i2l) 1 := by decide +kernel
theorem d7_46 : dc prog_1_method_27_code 46 (.lcmp) 1 := by decide +kernel
theorem d7_47 : dc prog_1_method_27_code 47 (.ifCond .le 7) 3 := by decide +kernel
theorem d7_50 : dc prog_1_method_27_code 50 (.iload_n 1) 1 := by decide +kernel
theorem d7_51 : dc prog_1_method_27_code 51 (.iconst 1) 1 := by decide +kernel
theorem d7_52 : dc prog_1_method_27_code 52 (.iadd) 1 := by decide +kernel
theorem d7_53 : dc prog_1_method_27_code 53 (.ireturn) 1 := by decide +kernel
theorem d7_54 : dc prog_1_method_27_code 54 (.iinc 4 1) 3 := by decide +kernel
theorem d7_57 : dc prog_1_method_27_code 57 (.goto (-52)) 3 := by decide +kernel
theorem d7_60 : dc prog_1_method_27_code 60 (.lload_n 2) 1 := by decide +kernel
theorem d7_61 : dc prog_1_method_27_code 61 (.l2i) 1 := by decide +kernel
theorem d7_62 : dc prog_1_method_27_code 62 (.ireturn) 1 := by decide +kernel
abbrev y7 : MethodName := ⟨"DemandGate", "workHyper", "(I)I"⟩
theorem hy7 : y7.cls ≠ "java/lang/invoke/MethodHandle" ∧ y7.cls ≠ "java/lang/invoke/VarHandle" := by decide
theorem pd7 : parseMethodDescriptor y7.desc = some ⟨[.int], some .int⟩ := by decide +kernel
abbrev R7 : Room := { frames := 2, cells := 0, slots := 0, locals := 41 }
abbrev P7 (s : St) (r : Int32) : Option Value → List OwnC → Prop := fun v H' => v = some (.int r) ∧ H' = (Hb 0 s)
abbrev W7 (l : Launch) (Z : State) (n0 : Nat) (Q : Option Value → List OwnC → Prop) (k n pc : Nat) (L : List Slot) (S : List Value) (H : List OwnC) : Prop := WP l Z CN lay "DemandGate" "workHyper" prog_1_method_27_code 5 (some FieldType.int) R7 n0 0 Q k n pc L S H
def g_workHyper_5 (k5 : Int32 → Int64 → Int32 → St → Option (Int32)) (n : Nat) (v1 : Int32) (v2 : Int64) (v4 : Int32) (s : St) : Option (Int32) :=
  if v4 < (gI s 11) then
    (rd (gA s 8) v4).bind fun x2 =>
    if x2 < (1 : Int32) then
      some (v1 + (1 : Int32))
    else
      (rd (gA s 8) v4).bind fun x4 =>
      (f_lcm n v2 x4.toInt64 s).bind fun c5 =>
      if v1.toInt64 < c5 then
        some (v1 + (1 : Int32))
      else
        lt (v4 + (1 : Int32)) fun x7 =>
        k5 v1 c5 x7 s
  else
    some v2.toInt32
set_option maxRecDepth 65536 in
set_option maxHeartbeats 4000000 in
theorem okg7_5 (l : Launch) (Z : State) (a0 : Array Value) (hw : HW a0 Z) (n0 : Nat) (k5 : Int32 → Int64 → Int32 → St → Option (Int32)) (hk5 : ∀ (v1 : Int32) (v2 : Int64) (v4 : Int32) (s : St) (r : Int32), k5 v1 v2 v4 s = some r → W7 l Z n0 (P7 s r) 0 0 5 [.val (.ref 0), .val (.int v1), .val (.long v2), .second, .val (.int v4)] [] (Hb 0 s)) (n : Nat) (v1 : Int32) (v2 : Int64) (v4 : Int32) (s : St) (r : Int32) (h : g_workHyper_5 k5 n v1 v2 v4 s = some r) : W7 l Z n0 (P7 s r) 0 0 5 [.val (.ref 0), .val (.int v1), .val (.long v2), .second, .val (.int v4)] [] (Hb 0 s) := by
  unfold g_workHyper_5 at h
  refine WP.iload d7_5 rfl ?_
  refine WP.aloadN d7_7 rfl ?_
  refine WP.getfield (i := 0) (j := 20) d7_8 (hw _ m_71) rfl rfl rfl ?_
  rcases ite_e h with ⟨hc1, h⟩ | ⟨hc1, h⟩
  ·
    refine WP.icmpN d7_11 (XT.ii_ge_f hc1) ?_
    refine WP.aloadN d7_14 rfl ?_
    refine WP.getfield (i := 0) (j := 19) d7_15 (hw _ m_37) rfl rfl rfl ?_
    refine WP.iload d7_18 rfl ?_
    obtain ⟨x2, hx2, h⟩ := Option.bind_eq_some_iff.mp h
    refine WP.iaload (i := 9) d7_20 rfl hx2 ?_
    refine WP.iconst (1 : Int32) d7_21 rfl ?_
    rcases ite_e h with ⟨hc3, h⟩ | ⟨hc3, h⟩
    ·
      refine WP.icmpN d7_22 (XT.ii_ge_f hc3) ?_
      refine WP.iloadN d7_25 rfl ?_
      refine WP.iconst (1 : Int32) d7_26 rfl ?_
      refine WP.iadd d7_27 ?_
      cases h
      exact WP.ireturn d7_28 rfl (leb rfl) (leb rfl) ⟨rfl, rfl⟩
    ·
      refine WP.icmpY (pc' := 29) d7_22 (XT.ii_ge_t hc3) (by decide) rfl ?_
      refine WP.aloadN d7_29 rfl ?_
      refine WP.lloadN d7_30 rfl ?_
      refine WP.aloadN d7_31 rfl ?_
      refine WP.getfield (i := 0) (j := 19) d7_32 (hw _ m_37) rfl rfl rfl ?_
      refine WP.iload d7_35 rfl ?_
      obtain ⟨x4, hx4, h⟩ := Option.bind_eq_some_iff.mp h
      refine WP.iaload (i := 9) d7_37 rfl hx4 ?_
      refine WP.i2l d7_38 ?_
      obtain ⟨c5, hc5, h⟩ := Option.bind_eq_some_iff.mp h
      refine WP.callP (i := 0) (y := y20) (as := [.long v2, .long x4.toInt64]) (S := []) d7_39 (hw _ m_134) (hw _ m_136) (hw _ m_12) (hw _ m_135) (hw _ m_137) (hw _ m_13) hy20 rfl (ok20 l Z a0 hw n v2 x4.toInt64 s _ hc5) rfl (lenOf pd20 rfl) (leb rfl) (leb rfl) (leb rfl) (leb rfl) ?_
      rintro _ _ ⟨rfl, rfl⟩
      show W7 l Z n0 (P7 s r) 0 0 42 [.val (.ref 0), .val (.int v1), .val (.long v2), .second, .val (.int v4)] [.long c5] (Hb 0 s)
      refine WP.lstoreN (L' := [.val (.ref 0), .val (.int v1), .val (.long c5), .second, .val (.int v4)]) d7_42 (leb rfl) rfl ?_
      refine WP.lloadN d7_43 rfl ?_
      refine WP.iloadN d7_44 rfl ?_
      refine WP.i2l d7_45 ?_
      refine WP.lcmp d7_46 ?_
      rcases ite_e h with ⟨hc6, h⟩ | ⟨hc6, h⟩
      ·
        refine WP.ifN d7_47 (XT.ll_le_f hc6) ?_
        refine WP.iloadN d7_50 rfl ?_
        refine WP.iconst (1 : Int32) d7_51 rfl ?_
        refine WP.iadd d7_52 ?_
        cases h
        exact WP.ireturn d7_53 rfl (leb rfl) (leb rfl) ⟨rfl, rfl⟩
      ·
        refine WP.ifY (pc' := 54) d7_47 (XT.ll_le_t hc6) (by decide) rfl ?_
        obtain ⟨x7, ex7, h⟩ := lt_e h
        refine WP.iinc (L' := [.val (.ref 0), .val (.int v1), .val (.long c5), .second, .val (.int x7)]) (1 : Int32) d7_54 rfl rfl (by subst ex7; rfl) ?_
        refine WP.goto (pc' := 5) d7_57 (by decide) rfl ?_
        exact WP.weak (L' := [.val (.ref 0), .val (.int v1), .val (.long c5), .second, .val (.int x7)]) ⟨rfl, rfl, rfl, rfl, rfl, trivial⟩ (hk5 v1 c5 x7 s _ h)
  ·
    refine WP.icmpY (pc' := 60) d7_11 (XT.ii_ge_t hc1) (by decide) rfl ?_
    refine WP.lloadN d7_60 rfl ?_
    refine WP.l2i d7_61 ?_
    cases h
    exact WP.ireturn d7_62 rfl (leb rfl) (leb rfl) ⟨rfl, rfl⟩
def f_workHyper_5 : Nat → Int32 → Int64 → Int32 → St → Option (Int32)
  | 0 => fun _ _ _ _ => none
  | n + 1 => g_workHyper_5 (f_workHyper_5 n) n
theorem ok7_5 (l : Launch) (Z : State) (a0 : Array Value) (hw : HW a0 Z) (n0 : Nat) : ∀ (n : Nat) (v1 : Int32) (v2 : Int64) (v4 : Int32) (s : St) (r : Int32), f_workHyper_5 n v1 v2 v4 s = some r → W7 l Z n0 (P7 s r) 0 0 5 [.val (.ref 0), .val (.int v1), .val (.long v2), .second, .val (.int v4)] [] (Hb 0 s)
  | 0, v1, v2, v4, s, r, h => nomatch (show none = some r from h)
  | n + 1, v1, v2, v4, s, r, h => okg7_5 l Z a0 hw n0 _ (ok7_5 l Z a0 hw n0 n) n v1 v2 v4 s r h
def f_workHyper (n : Nat) (p1 : Int32) (s : St) : Option (Int32) :=
  f_workHyper_5 n p1 (1 : Int64) (0 : Int32) s
set_option maxRecDepth 65536 in
set_option maxHeartbeats 4000000 in
theorem ok7 (l : Launch) (Z : State) (a0 : Array Value) (hw : HW a0 Z) (n : Nat) (p1 : Int32) (s : St) (r : Int32) (h : f_workHyper n p1 s = some r) : CS l Z CN lay y7 prog_1_method_27_code 5 (some FieldType.int) R7 0 [.ref 0, .int p1] (Hb 0 s) (P7 s r) := by
  refine CS.of_wp pn_cls (leb rfl) fun n0 => ?_
  show W7 l Z n0 (P7 s r) 0 0 0 [.val (.ref 0), .val (.int p1), .unset, .unset, .unset] [] (Hb 0 s)
  unfold f_workHyper at h
  refine WP.lconst (1 : Int64) d7_0 rfl ?_
  refine WP.lstoreN (L' := [.val (.ref 0), .val (.int p1), .val (.long (1 : Int64)), .second, .unset]) d7_1 (leb rfl) rfl ?_
  refine WP.iconst (0 : Int32) d7_2 rfl ?_
  refine WP.istore (L' := [.val (.ref 0), .val (.int p1), .val (.long (1 : Int64)), .second, .val (.int (0 : Int32))]) d7_3 (leb rfl) rfl ?_
  exact WP.weak (L' := [.val (.ref 0), .val (.int p1), .val (.long (1 : Int64)), .second, .val (.int (0 : Int32))]) ⟨rfl, rfl, rfl, rfl, rfl, trivial⟩ (ok7_5 l Z a0 hw n0 n p1 (1 : Int64) (0 : Int32) s _ h)
theorem d26_0 : dc prog_1_method_21_code 0 (.aload_n 0) 1 := by decide +kernel
theorem d26_1 : dc prog_1_method_21_code 1 (.iconst 0) 1 := by decide +kernel
theorem d26_2 : dc prog_1_method_21_code 2 (.putfield 85) 3 := by decide +kernel
theorem d26_5 : dc prog_1_method_21_code 5 (.iconst 0) 1 := by decide +kernel
theorem d26_6 : dc prog_1_method_21_code 6 (.istore_n 1) 1 := by decide +kernel
theorem d26_7 : dc prog_1_method_21_code 7 (.iload_n 1) 1 := by decide +kernel
theorem d26_8 : dc prog_1_method_21_code 8 (.aload_n 0) 1 := by decide +kernel
theorem d26_9 : dc prog_1_method_21_code 9 (.getfield 60) 3 := by decide +kernel
theorem d26_12 : dc prog_1_method_21_code 12 (.if_icmp .ge 38) 3 := by decide +kernel
theorem d26_15 : dc prog_1_method_21_code 15 (.iload_n 1) 1 := by decide +kernel
theorem d26_16 : dc prog_1_method_21_code 16 (.bipush 12) 2 := by decide +kernel
theorem d26_18 : dc prog_1_method_21_code 18 (.if_icmp .ge 32) 3 := by decide +kernel
theorem d26_21 : dc prog_1_method_21_code 21 (.aload_n 0) 1 := by decide +kernel
theorem d26_22 : dc prog_1_method_21_code 22 (.aload_n 0) 1 := by decide +kernel
theorem d26_23 : dc prog_1_method_21_code 23 (.getfield 19) 3 := by decide +kernel
theorem d26_26 : dc prog_1_method_21_code 26 (.iload_n 1) 1 := by decide +kernel
theorem d26_27 : dc prog_1_method_21_code 27 (.iaload) 1 := by decide +kernel
theorem d26_28 : dc prog_1_method_21_code 28 (.aload_n 0) 1 := by decide +kernel
theorem d26_29 : dc prog_1_method_21_code 29 (.getfield 22) 3 := by decide +kernel
theorem d26_32 : dc prog_1_method_21_code 32 (.iload_n 1) 1 := by decide +kernel
theorem d26_33 : dc prog_1_method_21_code 33 (.iaload) 1 := by decide +kernel
theorem d26_34 : dc prog_1_method_21_code 34 (.aload_n 0) 1 := by decide +kernel
theorem d26_35 : dc prog_1_method_21_code 35 (.getfield 25) 3 := by decide +kernel
theorem d26_38 : dc prog_1_method_21_code 38 (.iload_n 1) 1 := by decide +kernel
theorem d26_39 : dc prog_1_method_21_code 39 (.iaload) 1 := by decide +kernel
theorem d26_40 : dc prog_1_method_21_code 40 (.invokevirtual 95) 3 := by decide +kernel
theorem d26_43 : dc prog_1_method_21_code 43 (.pop) 1 := by decide +kernel
theorem d26_44 : dc prog_1_method_21_code 44 (.iinc 1 1) 3 := by decide +kernel
theorem d26_47 : dc prog_1_method_21_code 47 (.goto (-40)) 3 := by decide +kernel
theorem d26_50 : dc prog_1_method_21_code 50 (.return_) 1 := by decide +kernel
abbrev y26 : MethodName := ⟨"DemandGate", "loadCandidate", "()V"⟩
theorem hy26 : y26.cls ≠ "java/lang/invoke/MethodHandle" ∧ y26.cls ≠ "java/lang/invoke/VarHandle" := by decide
theorem pd26 : parseMethodDescriptor y26.desc = some ⟨[], none⟩ := by decide +kernel
abbrev R26 : Room := { frames := 1, cells := 0, slots := 0, locals := 15 }
abbrev P26 (r : St) : Option Value → List OwnC → Prop := fun v H' => v = none ∧ H' = (Hb 0 r)
abbrev W26 (l : Launch) (Z : State) (n0 : Nat) (Q : Option Value → List OwnC → Prop) (k n pc : Nat) (L : List Slot) (S : List Value) (H : List OwnC) : Prop := WP l Z CN lay "DemandGate" "loadCandidate" prog_1_method_21_code 2 (none) R26 n0 0 Q k n pc L S H
def f_loadCandidate_50 (n : Nat) (s : St) : Option (St) :=
  some s
set_option maxRecDepth 65536 in
set_option maxHeartbeats 4000000 in
theorem ok26_50 (l : Launch) (Z : State) (a0 : Array Value) (hw : HW a0 Z) (n0 : Nat) (n : Nat) (s : St) (r : St) (h : f_loadCandidate_50 n s = some r) : W26 l Z n0 (P26 r) 0 0 50 [.unset, .unset] [] (Hb 0 s) := by
  unfold f_loadCandidate_50 at h
  cases h
  exact WP.vreturn d26_50 rfl (leb rfl) (leb rfl) ⟨rfl, rfl⟩
def g_loadCandidate_7 (k7 : Int32 → St → Option (St)) (n : Nat) (v1 : Int32) (s : St) : Option (St) :=
  if v1 < (gI s 3) then
    if v1 < (12 : Int32) then
      (rd (gA s 3) v1).bind fun x3 =>
      (rd (gA s 4) v1).bind fun x4 =>
      (rd (gA s 5) v1).bind fun x5 =>
      (f_appendWork x3 x4 x5 s).bind fun c6 =>
      lt (v1 + (1 : Int32)) fun x7 =>
      k7 x7 c6.2
    else
      f_loadCandidate_50 n s
  else
    f_loadCandidate_50 n s
set_option maxRecDepth 65536 in
set_option maxHeartbeats 4000000 in
theorem okg26_7 (l : Launch) (Z : State) (a0 : Array Value) (hw : HW a0 Z) (n0 : Nat) (k7 : Int32 → St → Option (St)) (hk7 : ∀ (v1 : Int32) (s : St) (r : St), k7 v1 s = some r → W26 l Z n0 (P26 r) 0 0 7 [.val (.ref 0), .val (.int v1)] [] (Hb 0 s)) (n : Nat) (v1 : Int32) (s : St) (r : St) (h : g_loadCandidate_7 k7 n v1 s = some r) : W26 l Z n0 (P26 r) 0 0 7 [.val (.ref 0), .val (.int v1)] [] (Hb 0 s) := by
  unfold g_loadCandidate_7 at h
  refine WP.iloadN d26_7 rfl ?_
  refine WP.aloadN d26_8 rfl ?_
  refine WP.getfield (i := 0) (j := 9) d26_9 (hw _ m_55) rfl rfl rfl ?_
  rcases ite_e h with ⟨hc1, h⟩ | ⟨hc1, h⟩
  ·
    refine WP.icmpN d26_12 (XT.ii_ge_f hc1) ?_
    refine WP.iloadN d26_15 rfl ?_
    refine WP.bipush (12 : Int32) d26_16 rfl ?_
    rcases ite_e h with ⟨hc2, h⟩ | ⟨hc2, h⟩
    ·
      refine WP.icmpN d26_18 (XT.ii_ge_f hc2) ?_
      refine WP.aloadN d26_21 rfl ?_
      refine WP.aloadN d26_22 rfl ?_
      refine WP.getfield (i := 0) (j := 6) d26_23 (hw _ m_27) rfl rfl rfl ?_
      refine WP.iloadN d26_26 rfl ?_
      obtain ⟨x3, hx3, h⟩ := Option.bind_eq_some_iff.mp h
      refine WP.iaload (i := 4) d26_27 rfl hx3 ?_
      refine WP.aloadN d26_28 rfl ?_
      refine WP.getfield (i := 0) (j := 7) d26_29 (hw _ m_29) rfl rfl rfl ?_
      refine WP.iloadN d26_32 rfl ?_
      obtain ⟨x4, hx4, h⟩ := Option.bind_eq_some_iff.mp h
      refine WP.iaload (i := 5) d26_33 rfl hx4 ?_
      refine WP.aloadN d26_34 rfl ?_
      refine WP.getfield (i := 0) (j := 8) d26_35 (hw _ m_31) rfl rfl rfl ?_
      refine WP.iloadN d26_38 rfl ?_
      obtain ⟨x5, hx5, h⟩ := Option.bind_eq_some_iff.mp h
      refine WP.iaload (i := 6) d26_39 rfl hx5 ?_
      obtain ⟨c6, hc6, h⟩ := Option.bind_eq_some_iff.mp h
      refine WP.callP (i := 0) (y := y19) (as := [.int x3, .int x4, .int x5]) (S := []) d26_40 (hw _ m_130) (hw _ m_132) (hw _ m_12) (hw _ m_131) (hw _ m_133) (hw _ m_13) hy19 rfl (ok19 l Z a0 hw x3 x4 x5 s _ hc6) rfl (lenOf pd19 rfl) (leb rfl) (leb rfl) (leb rfl) (leb rfl) ?_
      rintro _ _ ⟨rfl, rfl⟩
      show W26 l Z n0 (P26 r) 0 0 43 [.val (.ref 0), .val (.int v1)] [.int c6.1] (Hb 0 c6.2)
      refine WP.pop d26_43 rfl ?_
      obtain ⟨x7, ex7, h⟩ := lt_e h
      refine WP.iinc (L' := [.val (.ref 0), .val (.int x7)]) (1 : Int32) d26_44 rfl rfl (by subst ex7; rfl) ?_
      refine WP.goto (pc' := 7) d26_47 (by decide) rfl ?_
      exact WP.weak (L' := [.val (.ref 0), .val (.int x7)]) ⟨rfl, rfl, trivial⟩ (hk7 x7 c6.2 _ h)
    ·
      refine WP.icmpY (pc' := 50) d26_18 (XT.ii_ge_t hc2) (by decide) rfl ?_
      exact WP.weak (L' := [.unset, .unset]) trivial (ok26_50 l Z a0 hw n0 n s _ h)
  ·
    refine WP.icmpY (pc' := 50) d26_12 (XT.ii_ge_t hc1) (by decide) rfl ?_
    exact WP.weak (L' := [.unset, .unset]) trivial (ok26_50 l Z a0 hw n0 n s _ h)
def f_loadCandidate_7 : Nat → Int32 → St → Option (St)
  | 0 => fun _ _ => none
  | n + 1 => g_loadCandidate_7 (f_loadCandidate_7 n) n
theorem ok26_7 (l : Launch) (Z : State) (a0 : Array Value) (hw : HW a0 Z) (n0 : Nat) : ∀ (n : Nat) (v1 : Int32) (s : St) (r : St), f_loadCandidate_7 n v1 s = some r → W26 l Z n0 (P26 r) 0 0 7 [.val (.ref 0), .val (.int v1)] [] (Hb 0 s)
  | 0, v1, s, r, h => nomatch (show none = some r from h)
  | n + 1, v1, s, r, h => okg26_7 l Z a0 hw n0 _ (ok26_7 l Z a0 hw n0 n) n v1 s r h
def f_loadCandidate (n : Nat) (s : St) : Option (St) :=
  lt (sI s 11 (0 : Int32)) fun s1 =>
  f_loadCandidate_7 n (0 : Int32) s1
set_option maxRecDepth 65536 in
set_option maxHeartbeats 4000000 in
theorem ok26 (l : Launch) (Z : State) (a0 : Array Value) (hw : HW a0 Z) (n : Nat) (s : St) (r : St) (h : f_loadCandidate n s = some r) : CS l Z CN lay y26 prog_1_method_21_code 2 (none) R26 0 [.ref 0] (Hb 0 s) (P26 r) := by
  refine CS.of_wp pn_cls (leb rfl) fun n0 => ?_
  show W26 l Z n0 (P26 r) 0 0 0 [.val (.ref 0), .unset] [] (Hb 0 s)
  unfold f_loadCandidate at h
  refine WP.aloadN d26_0 rfl ?_
  refine WP.iconst (0 : Int32) d26_1 rfl ?_
  obtain ⟨s1, es1, h⟩ := lt_e h
  refine WP.putI (i := 0) (j := 20) (H' := (Hb 0 s1)) d26_2 (hw _ m_71) (Or.inl (hw _ m_72)) (hw _ m_12) (hlay hw) rfl rfl rfl (leb rfl) (by subst es1; rfl) ?_
  refine WP.iconst (0 : Int32) d26_5 rfl ?_
  refine WP.istoreN (L' := [.val (.ref 0), .val (.int (0 : Int32))]) d26_6 (leb rfl) rfl ?_
  exact WP.weak (L' := [.val (.ref 0), .val (.int (0 : Int32))]) ⟨rfl, rfl, trivial⟩ (ok26_7 l Z a0 hw n0 n (0 : Int32) s1 _ h)
theorem d9_0 : dc prog_1_method_35_code 0 (.iconst 0) 1 := by decide +kernel
theorem d9_1 : dc prog_1_method_35_code 1 (.istore_n 1) 1 := by decide +kernel
theorem d9_2 : dc prog_1_method_35_code 2 (.iload_n 1) 1 := by decide +kernel
theorem d9_3 : dc prog_1_method_35_code 3 (.bipush 12) 2 := by decide +kernel
theorem d9_5 : dc prog_1_method_35_code 5 (.if_icmp .ge 23) 3 := by decide +kernel
theorem d9_8 : dc prog_1_method_35_code 8 (.aload_n 0) 1 := by decide +kernel
theorem d9_9 : dc prog_1_method_35_code 9 (.getfield 40) 3 := by decide +kernel
theorem d9_12 : dc prog_1_method_35_code 12 (.iload_n 1) 1 := by decide +kernel
theorem d9_13 : dc prog_1_method_35_code 13 (.iconst 0) 1 := by decide +kernel
theorem d9_14 : dc prog_1_method_35_code 14 (.iastore) 1 := by decide +kernel
theorem d9_15 : dc prog_1_method_35_code 15 (.aload_n 0) 1 := by decide +kernel
theorem d9_16 : dc prog_1_method_35_code 16 (.getfield 43) 3 := by decide +kernel
theorem d9_19 : dc prog_1_method_35_code 19 (.iload_n 1) 1 := by decide +kernel
theorem d9_20 : dc prog_1_method_35_code 20 (.iconst 0) 1 := by decide +kernel
theorem d9_21 : dc prog_1_method_35_code 21 (.iastore) 1 := by decide +kernel
theorem d9_22 : dc prog_1_method_35_code 22 (.iinc 1 1) 3 := by decide +kernel
theorem d9_25 : dc prog_1_method_35_code 25 (.goto (-23)) 3 := by decide +kernel
theorem d9_28 : dc prog_1_method_35_code 28 (.return_) 1 := by decide +kernel
abbrev y9 : MethodName := ⟨"DemandGate", "resetJobs", "()V"⟩
theorem hy9 : y9.cls ≠ "java/lang/invoke/MethodHandle" ∧ y9.cls ≠ "java/lang/invoke/VarHandle" := by decide
theorem pd9 : parseMethodDescriptor y9.desc = some ⟨[], none⟩ := by decide +kernel
abbrev R9 : Room := { frames := 0, cells := 0, slots := 0, locals := 0 }
abbrev P9 (r : St) : Option Value → List OwnC → Prop := fun v H' => v = none ∧ H' = (Hb 0 r)
abbrev W9 (l : Launch) (Z : State) (n0 : Nat) (Q : Option Value → List OwnC → Prop) (k n pc : Nat) (L : List Slot) (S : List Value) (H : List OwnC) : Prop := WP l Z CN lay "DemandGate" "resetJobs" prog_1_method_35_code 2 (none) R9 n0 0 Q k n pc L S H
def g_resetJobs_2 (k2 : Int32 → St → Option (St)) (n : Nat) (v1 : Int32) (s : St) : Option (St) :=
  if v1 < (12 : Int32) then
    (wrA s 10 v1 (0 : Int32)).bind fun s2 =>
    (wrA s2 11 v1 (0 : Int32)).bind fun s3 =>
    lt (v1 + (1 : Int32)) fun x4 =>
    k2 x4 s3
  else
    some s
set_option maxRecDepth 65536 in
set_option maxHeartbeats 4000000 in
theorem okg9_2 (l : Launch) (Z : State) (a0 : Array Value) (hw : HW a0 Z) (n0 : Nat) (k2 : Int32 → St → Option (St)) (hk2 : ∀ (v1 : Int32) (s : St) (r : St), k2 v1 s = some r → W9 l Z n0 (P9 r) 0 0 2 [.val (.ref 0), .val (.int v1)] [] (Hb 0 s)) (n : Nat) (v1 : Int32) (s : St) (r : St) (h : g_resetJobs_2 k2 n v1 s = some r) : W9 l Z n0 (P9 r) 0 0 2 [.val (.ref 0), .val (.int v1)] [] (Hb 0 s) := by
  unfold g_resetJobs_2 at h
  refine WP.iloadN d9_2 rfl ?_
  refine WP.bipush (12 : Int32) d9_3 rfl ?_
  rcases ite_e h with ⟨hc1, h⟩ | ⟨hc1, h⟩
  ·
    refine WP.icmpN d9_5 (XT.ii_ge_f hc1) ?_
    refine WP.aloadN d9_8 rfl ?_
    refine WP.getfield (i := 0) (j := 22) d9_9 (hw _ m_41) rfl rfl rfl ?_
    refine WP.iloadN d9_12 rfl ?_
    refine WP.iconst (0 : Int32) d9_13 rfl ?_
    obtain ⟨s2, hs2, h⟩ := Option.bind_eq_some_iff.mp h
    obtain ⟨ys2, gs2, es2⟩ := wrA_e hs2
    refine WP.iastore (i := 11) (xs := gA s 10) (H' := (Hb 0 s2)) d9_14 rfl (leb rfl) gs2 (by subst es2; rfl) ?_
    refine WP.aloadN d9_15 rfl ?_
    refine WP.getfield (i := 0) (j := 23) d9_16 (hw _ m_43) rfl rfl rfl ?_
    refine WP.iloadN d9_19 rfl ?_
    refine WP.iconst (0 : Int32) d9_20 rfl ?_
    obtain ⟨s3, hs3, h⟩ := Option.bind_eq_some_iff.mp h
    obtain ⟨ys3, gs3, es3⟩ := wrA_e hs3
    refine WP.iastore (i := 12) (xs := gA s2 11) (H' := (Hb 0 s3)) d9_21 rfl (leb rfl) gs3 (by subst es3; rfl) ?_
    obtain ⟨x4, ex4, h⟩ := lt_e h
    refine WP.iinc (L' := [.val (.ref 0), .val (.int x4)]) (1 : Int32) d9_22 rfl rfl (by subst ex4; rfl) ?_
    refine WP.goto (pc' := 2) d9_25 (by decide) rfl ?_
    exact WP.weak (L' := [.val (.ref 0), .val (.int x4)]) ⟨rfl, rfl, trivial⟩ (hk2 x4 s3 _ h)
  ·
    refine WP.icmpY (pc' := 28) d9_5 (XT.ii_ge_t hc1) (by decide) rfl ?_
    cases h
    exact WP.vreturn d9_28 rfl (leb rfl) (leb rfl) ⟨rfl, rfl⟩
def f_resetJobs_2 : Nat → Int32 → St → Option (St)
  | 0 => fun _ _ => none
  | n + 1 => g_resetJobs_2 (f_resetJobs_2 n) n
theorem ok9_2 (l : Launch) (Z : State) (a0 : Array Value) (hw : HW a0 Z) (n0 : Nat) : ∀ (n : Nat) (v1 : Int32) (s : St) (r : St), f_resetJobs_2 n v1 s = some r → W9 l Z n0 (P9 r) 0 0 2 [.val (.ref 0), .val (.int v1)] [] (Hb 0 s)
  | 0, v1, s, r, h => nomatch (show none = some r from h)
  | n + 1, v1, s, r, h => okg9_2 l Z a0 hw n0 _ (ok9_2 l Z a0 hw n0 n) n v1 s r h
def f_resetJobs (n : Nat) (s : St) : Option (St) :=
  f_resetJobs_2 n (0 : Int32) s
set_option maxRecDepth 65536 in
set_option maxHeartbeats 4000000 in
theorem ok9 (l : Launch) (Z : State) (a0 : Array Value) (hw : HW a0 Z) (n : Nat) (s : St) (r : St) (h : f_resetJobs n s = some r) : CS l Z CN lay y9 prog_1_method_35_code 2 (none) R9 0 [.ref 0] (Hb 0 s) (P9 r) := by
  refine CS.of_wp pn_cls (leb rfl) fun n0 => ?_
  show W9 l Z n0 (P9 r) 0 0 0 [.val (.ref 0), .unset] [] (Hb 0 s)
  unfold f_resetJobs at h
  refine WP.iconst (0 : Int32) d9_0 rfl ?_
  refine WP.istoreN (L' := [.val (.ref 0), .val (.int (0 : Int32))]) d9_1 (leb rfl) rfl ?_
  exact WP.weak (L' := [.val (.ref 0), .val (.int (0 : Int32))]) ⟨rfl, rfl, trivial⟩ (ok9_2 l Z a0 hw n0 n (0 : Int32) s _ h)
theorem d10_0 : dc prog_1_method_37_code 0 (.iconst 0) 1 := by decide +kernel
theorem d10_1 : dc prog_1_method_37_code 1 (.istore_n 2) 1 := by decide +kernel
theorem d10_2 : dc prog_1_method_37_code 2 (.iload_n 2) 1 := by decide +kernel
theorem d10_3 : dc prog_1_method_37_code 3 (.aload_n 0) 1 := by decide +kernel
theorem d10_4 : dc prog_1_method_37_code 4 (.getfield 85) 3 := by decide +kernel
theorem d10_7 : dc prog_1_method_37_code 7 (.if_icmp .ge 30) 3 := by decide +kernel
theorem d10_10 : dc prog_1_method_37_code 10 (.aload_n 0) 1 := by decide +kernel
theorem d10_11 : dc prog_1_method_37_code 11 (.getfield 40) 3 := by decide +kernel
theorem d10_14 : dc prog_1_method_37_code 14 (.iload_n 2) 1 := by decide +kernel
theorem d10_15 : dc prog_1_method_37_code 15 (.iaload) 1 := by decide +kernel
theorem d10_16 : dc prog_1_method_37_code 16 (.ifCond .le 15) 3 := by decide +kernel
theorem d10_19 : dc prog_1_method_37_code 19 (.aload_n 0) 1 := by decide +kernel
theorem d10_20 : dc prog_1_method_37_code 20 (.getfield 43) 3 := by decide +kernel
theorem d10_23 : dc prog_1_method_37_code 23 (.iload_n 2) 1 := by decide +kernel
theorem d10_24 : dc prog_1_method_37_code 24 (.iaload) 1 := by decide +kernel
theorem d10_25 : dc prog_1_method_37_code 25 (.iload_n 1) 1 := by decide +kernel
theorem d10_26 : dc prog_1_method_37_code 26 (.if_icmp .ne 5) 3 := by decide +kernel
theorem d10_29 : dc prog_1_method_37_code 29 (.iload_n 2) 1 := by decide +kernel
theorem d10_30 : dc prog_1_method_37_code 30 (.ireturn) 1 := by decide +kernel
theorem d10_31 : dc prog_1_method_37_code 31 (.iinc 2 1) 3 := by decide +kernel
theorem d10_34 : dc prog_1_method_37_code 34 (.goto (-32)) 3 := by decide +kernel
theorem d10_37 : dc prog_1_method_37_code 37 (.iconst (-1)) 1 := by decide +kernel
theorem d10_38 : dc prog_1_method_37_code 38 (.ireturn) 1 := by decide +kernel
abbrev y10 : MethodName := ⟨"DemandGate", "firstMissAt", "(I)I"⟩
theorem hy10 : y10.cls ≠ "java/lang/invoke/MethodHandle" ∧ y10.cls ≠ "java/lang/invoke/VarHandle" := by decide
theorem pd10 : parseMethodDescriptor y10.desc = some ⟨[.int], some .int⟩ := by decide +kernel
abbrev R10 : Room := { frames := 0, cells := 0, slots := 0, locals := 0 }
abbrev P10 (s : St) (r : Int32) : Option Value → List OwnC → Prop := fun v H' => v = some (.int r) ∧ H' = (Hb 0 s)
abbrev W10 (l : Launch) (Z : State) (n0 : Nat) (Q : Option Value → List OwnC → Prop) (k n pc : Nat) (L : List Slot) (S : List Value) (H : List OwnC) : Prop := WP l Z CN lay "DemandGate" "firstMissAt" prog_1_method_37_code 3 (some FieldType.int) R10 n0 0 Q k n pc L S H
def f_firstMissAt_31 (k2 : Int32 → Int32 → St → Option (Int32)) (n : Nat) (v1 : Int32) (v2 : Int32) (s : St) : Option (Int32) :=
  lt (v2 + (1 : Int32)) fun x1 =>
  k2 v1 x1 s
set_option maxRecDepth 65536 in
set_option maxHeartbeats 4000000 in
theorem ok10_31 (l : Launch) (Z : State) (a0 : Array Value) (hw : HW a0 Z) (n0 : Nat) (k2 : Int32 → Int32 → St → Option (Int32)) (hk2 : ∀ (v1 : Int32) (v2 : Int32) (s : St) (r : Int32), k2 v1 v2 s = some r → W10 l Z n0 (P10 s r) 0 0 2 [.val (.ref 0), .val (.int v1), .val (.int v2)] [] (Hb 0 s)) (n : Nat) (v1 : Int32) (v2 : Int32) (s : St) (r : Int32) (h : f_firstMissAt_31 k2 n v1 v2 s = some r) : W10 l Z n0 (P10 s r) 0 0 31 [.val (.ref 0), .val (.int v1), .val (.int v2)] [] (Hb 0 s) := by
  unfold f_firstMissAt_31 at h
  obtain ⟨x1, ex1, h⟩ := lt_e h
  refine WP.iinc (L' := [.val (.ref 0), .val (.int v1), .val (.int x1)]) (1 : Int32) d10_31 rfl rfl (by subst ex1; rfl) ?_
  refine WP.goto (pc' := 2) d10_34 (by decide) rfl ?_
  exact WP.weak (L' := [.val (.ref 0), .val (.int v1), .val (.int x1)]) ⟨rfl, rfl, rfl, trivial⟩ (hk2 v1 x1 s _ h)
def g_firstMissAt_2 (k2 : Int32 → Int32 → St → Option (Int32)) (n : Nat) (v1 : Int32) (v2 : Int32) (s : St) : Option (Int32) :=
  if v2 < (gI s 11) then
    (rd (gA s 10) v2).bind fun x2 =>
    if 0 < x2 then
      (rd (gA s 11) v2).bind fun x4 =>
      if x4 = v1 then
        some v2
      else
        f_firstMissAt_31 k2 n v1 v2 s
    else
      f_firstMissAt_31 k2 n v1 v2 s
  else
    some (-1 : Int32)
set_option maxRecDepth 65536 in
set_option maxHeartbeats 4000000 in
theorem okg10_2 (l : Launch) (Z : State) (a0 : Array Value) (hw : HW a0 Z) (n0 : Nat) (k2 : Int32 → Int32 → St → Option (Int32)) (hk2 : ∀ (v1 : Int32) (v2 : Int32) (s : St) (r : Int32), k2 v1 v2 s = some r → W10 l Z n0 (P10 s r) 0 0 2 [.val (.ref 0), .val (.int v1), .val (.int v2)] [] (Hb 0 s)) (n : Nat) (v1 : Int32) (v2 : Int32) (s : St) (r : Int32) (h : g_firstMissAt_2 k2 n v1 v2 s = some r) : W10 l Z n0 (P10 s r) 0 0 2 [.val (.ref 0), .val (.int v1), .val (.int v2)] [] (Hb 0 s) := by
  unfold g_firstMissAt_2 at h
  refine WP.iloadN d10_2 rfl ?_
  refine WP.aloadN d10_3 rfl ?_
  refine WP.getfield (i := 0) (j := 20) d10_4 (hw _ m_71) rfl rfl rfl ?_
  rcases ite_e h with ⟨hc1, h⟩ | ⟨hc1, h⟩
  ·
    refine WP.icmpN d10_7 (XT.ii_ge_f hc1) ?_
    refine WP.aloadN d10_10 rfl ?_
    refine WP.getfield (i := 0) (j := 22) d10_11 (hw _ m_41) rfl rfl rfl ?_
    refine WP.iloadN d10_14 rfl ?_
    obtain ⟨x2, hx2, h⟩ := Option.bind_eq_some_iff.mp h
    refine WP.iaload (i := 11) d10_15 rfl hx2 ?_
    rcases ite_e h with ⟨hc3, h⟩ | ⟨hc3, h⟩
    ·
      refine WP.ifN d10_16 (XT.i0_le_f hc3) ?_
      refine WP.aloadN d10_19 rfl ?_
      refine WP.getfield (i := 0) (j := 23) d10_20 (hw _ m_43) rfl rfl rfl ?_
      refine WP.iloadN d10_23 rfl ?_
      obtain ⟨x4, hx4, h⟩ := Option.bind_eq_some_iff.mp h
      refine WP.iaload (i := 12) d10_24 rfl hx4 ?_
      refine WP.iloadN d10_25 rfl ?_
      rcases ite_e h with ⟨hc5, h⟩ | ⟨hc5, h⟩
      ·
        refine WP.icmpN d10_26 (XT.ii_ne_f hc5) ?_
        refine WP.iloadN d10_29 rfl ?_
        cases h
        exact WP.ireturn d10_30 rfl (leb rfl) (leb rfl) ⟨rfl, rfl⟩
      ·
        refine WP.icmpY (pc' := 31) d10_26 (XT.ii_ne_t hc5) (by decide) rfl ?_
        exact WP.weak (L' := [.val (.ref 0), .val (.int v1), .val (.int v2)]) ⟨rfl, rfl, rfl, trivial⟩ (ok10_31 l Z a0 hw n0 _ hk2 n v1 v2 s _ h)
    ·
      refine WP.ifY (pc' := 31) d10_16 (XT.i0_le_t hc3) (by decide) rfl ?_
      exact WP.weak (L' := [.val (.ref 0), .val (.int v1), .val (.int v2)]) ⟨rfl, rfl, rfl, trivial⟩ (ok10_31 l Z a0 hw n0 _ hk2 n v1 v2 s _ h)
  ·
    refine WP.icmpY (pc' := 37) d10_7 (XT.ii_ge_t hc1) (by decide) rfl ?_
    refine WP.iconst (-1 : Int32) d10_37 rfl ?_
    cases h
    exact WP.ireturn d10_38 rfl (leb rfl) (leb rfl) ⟨rfl, rfl⟩
def f_firstMissAt_2 : Nat → Int32 → Int32 → St → Option (Int32)
  | 0 => fun _ _ _ => none
  | n + 1 => g_firstMissAt_2 (f_firstMissAt_2 n) n
theorem ok10_2 (l : Launch) (Z : State) (a0 : Array Value) (hw : HW a0 Z) (n0 : Nat) : ∀ (n : Nat) (v1 : Int32) (v2 : Int32) (s : St) (r : Int32), f_firstMissAt_2 n v1 v2 s = some r → W10 l Z n0 (P10 s r) 0 0 2 [.val (.ref 0), .val (.int v1), .val (.int v2)] [] (Hb 0 s)
  | 0, v1, v2, s, r, h => nomatch (show none = some r from h)
  | n + 1, v1, v2, s, r, h => okg10_2 l Z a0 hw n0 _ (ok10_2 l Z a0 hw n0 n) n v1 v2 s r h
def f_firstMissAt (n : Nat) (p1 : Int32) (s : St) : Option (Int32) :=
  f_firstMissAt_2 n p1 (0 : Int32) s
set_option maxRecDepth 65536 in
set_option maxHeartbeats 4000000 in
theorem ok10 (l : Launch) (Z : State) (a0 : Array Value) (hw : HW a0 Z) (n : Nat) (p1 : Int32) (s : St) (r : Int32) (h : f_firstMissAt n p1 s = some r) : CS l Z CN lay y10 prog_1_method_37_code 3 (some FieldType.int) R10 0 [.ref 0, .int p1] (Hb 0 s) (P10 s r) := by
  refine CS.of_wp pn_cls (leb rfl) fun n0 => ?_
  show W10 l Z n0 (P10 s r) 0 0 0 [.val (.ref 0), .val (.int p1), .unset] [] (Hb 0 s)
  unfold f_firstMissAt at h
  refine WP.iconst (0 : Int32) d10_0 rfl ?_
  refine WP.istoreN (L' := [.val (.ref 0), .val (.int p1), .val (.int (0 : Int32))]) d10_1 (leb rfl) rfl ?_
  exact WP.weak (L' := [.val (.ref 0), .val (.int p1), .val (.int (0 : Int32))]) ⟨rfl, rfl, rfl, trivial⟩ (ok10_2 l Z a0 hw n0 n p1 (0 : Int32) s _ h)
theorem d15_0 : dc prog_1_method_36_code 0 (.aload_n 0) 1 := by decide +kernel
theorem d15_1 : dc prog_1_method_36_code 1 (.iload_n 1) 1 := by decide +kernel
theorem d15_2 : dc prog_1_method_36_code 2 (.putfield 76) 3 := by decide +kernel
theorem d15_5 : dc prog_1_method_36_code 5 (.aload_n 0) 1 := by decide +kernel
theorem d15_6 : dc prog_1_method_36_code 6 (.iload_n 2) 1 := by decide +kernel
theorem d15_7 : dc prog_1_method_36_code 7 (.putfield 79) 3 := by decide +kernel
theorem d15_10 : dc prog_1_method_36_code 10 (.aload_n 0) 1 := by decide +kernel
theorem d15_11 : dc prog_1_method_36_code 11 (.iload_n 3) 1 := by decide +kernel
theorem d15_12 : dc prog_1_method_36_code 12 (.putfield 82) 3 := by decide +kernel
theorem d15_15 : dc prog_1_method_36_code 15 (.return_) 1 := by decide +kernel
abbrev y15 : MethodName := ⟨"DemandGate", "recordRun", "(III)V"⟩
theorem hy15 : y15.cls ≠ "java/lang/invoke/MethodHandle" ∧ y15.cls ≠ "java/lang/invoke/VarHandle" := by decide
theorem pd15 : parseMethodDescriptor y15.desc = some ⟨[.int, .int, .int], none⟩ := by decide +kernel
abbrev R15 : Room := { frames := 0, cells := 0, slots := 0, locals := 0 }
abbrev P15 (r : St) : Option Value → List OwnC → Prop := fun v H' => v = none ∧ H' = (Hb 0 r)
abbrev W15 (l : Launch) (Z : State) (n0 : Nat) (Q : Option Value → List OwnC → Prop) (k n pc : Nat) (L : List Slot) (S : List Value) (H : List OwnC) : Prop := WP l Z CN lay "DemandGate" "recordRun" prog_1_method_36_code 4 (none) R15 n0 0 Q k n pc L S H
def f_recordRun (p1 : Int32) (p2 : Int32) (p3 : Int32) (s : St) : Option (St) :=
  lt (sI s 8 p1) fun s1 =>
  lt (sI s1 9 p2) fun s2 =>
  lt (sI s2 10 p3) fun s3 =>
  some s3
set_option maxRecDepth 65536 in
set_option maxHeartbeats 4000000 in
theorem ok15 (l : Launch) (Z : State) (a0 : Array Value) (hw : HW a0 Z) (p1 : Int32) (p2 : Int32) (p3 : Int32) (s : St) (r : St) (h : f_recordRun p1 p2 p3 s = some r) : CS l Z CN lay y15 prog_1_method_36_code 4 (none) R15 0 [.ref 0, .int p1, .int p2, .int p3] (Hb 0 s) (P15 r) := by
  refine CS.of_wp pn_cls (leb rfl) fun n0 => ?_
  show W15 l Z n0 (P15 r) 0 0 0 [.val (.ref 0), .val (.int p1), .val (.int p2), .val (.int p3)] [] (Hb 0 s)
  unfold f_recordRun at h
  refine WP.aloadN d15_0 rfl ?_
  refine WP.iloadN d15_1 rfl ?_
  obtain ⟨s1, es1, h⟩ := lt_e h
  refine WP.putI (i := 0) (j := 14) (H' := (Hb 0 s1)) d15_2 (hw _ m_65) (Or.inl (hw _ m_66)) (hw _ m_12) (hlay hw) rfl rfl rfl (leb rfl) (by subst es1; rfl) ?_
  refine WP.aloadN d15_5 rfl ?_
  refine WP.iloadN d15_6 rfl ?_
  obtain ⟨s2, es2, h⟩ := lt_e h
  refine WP.putI (i := 0) (j := 15) (H' := (Hb 0 s2)) d15_7 (hw _ m_67) (Or.inl (hw _ m_68)) (hw _ m_12) (hlay hw) rfl rfl rfl (leb rfl) (by subst es2; rfl) ?_
  refine WP.aloadN d15_10 rfl ?_
  refine WP.iloadN d15_11 rfl ?_
  obtain ⟨s3, es3, h⟩ := lt_e h
  refine WP.putI (i := 0) (j := 16) (H' := (Hb 0 s3)) d15_12 (hw _ m_69) (Or.inl (hw _ m_70)) (hw _ m_12) (hlay hw) rfl rfl rfl (leb rfl) (by subst es3; rfl) ?_
  cases h
  exact WP.vreturn d15_15 rfl (leb rfl) (leb rfl) ⟨rfl, rfl⟩
theorem d11_0 : dc prog_1_method_38_code 0 (.iconst 0) 1 := by decide +kernel
theorem d11_1 : dc prog_1_method_38_code 1 (.istore_n 2) 1 := by decide +kernel
theorem d11_2 : dc prog_1_method_38_code 2 (.iload_n 2) 1 := by decide +kernel
theorem d11_3 : dc prog_1_method_38_code 3 (.aload_n 0) 1 := by decide +kernel
theorem d11_4 : dc prog_1_method_38_code 4 (.getfield 85) 3 := by decide +kernel
theorem d11_7 : dc prog_1_method_38_code 7 (.if_icmp .ge 55) 3 := by decide +kernel
theorem d11_10 : dc prog_1_method_38_code 10 (.aload_n 0) 1 := by decide +kernel
theorem d11_11 : dc prog_1_method_38_code 11 (.getfield 34) 3 := by decide +kernel
theorem d11_14 : dc prog_1_method_38_code 14 (.iload_n 2) 1 := by decide +kernel
theorem d11_15 : dc prog_1_method_38_code 15 (.iaload) 1 := by decide +kernel
theorem d11_16 : dc prog_1_method_38_code 16 (.ifCond .le 40) 3 := by decide +kernel
theorem d11_19 : dc prog_1_method_38_code 19 (.iload_n 1) 1 := by decide +kernel
theorem d11_20 : dc prog_1_method_38_code 20 (.aload_n 0) 1 := by decide +kernel
theorem d11_21 : dc prog_1_method_38_code 21 (.getfield 34) 3 := by decide +kernel
theorem d11_24 : dc prog_1_method_38_code 24 (.iload_n 2) 1 := by decide +kernel
theorem d11_25 : dc prog_1_method_38_code 25 (.iaload) 1 := by decide +kernel
theorem d11_26 : dc prog_1_method_38_code 26 (.irem) 1 := by decide +kernel
theorem d11_27 : dc prog_1_method_38_code 27 (.ifCond .ne 29) 3 := by decide +kernel
theorem d11_30 : dc prog_1_method_38_code 30 (.aload_n 0) 1 := by decide +kernel
theorem d11_31 : dc prog_1_method_38_code 31 (.getfield 40) 3 := by decide +kernel
theorem d11_34 : dc prog_1_method_38_code 34 (.iload_n 2) 1 := by decide +kernel
theorem d11_35 : dc prog_1_method_38_code 35 (.aload_n 0) 1 := by decide +kernel
theorem d11_36 : dc prog_1_method_38_code 36 (.getfield 28) 3 := by decide +kernel
theorem d11_39 : dc prog_1_method_38_code 39 (.iload_n 2) 1 := by decide +kernel
theorem d11_40 : dc prog_1_method_38_code 40 (.iaload) 1 := by decide +kernel
theorem d11_41 : dc prog_1_method_38_code 41 (.iastore) 1 := by decide +kernel
theorem d11_42 : dc prog_1_method_38_code 42 (.aload_n 0) 1 := by decide +kernel
theorem d11_43 : dc prog_1_method_38_code 43 (.getfield 43) 3 := by decide +kernel
theorem d11_46 : dc prog_1_method_38_code 46 (.iload_n 2) 1 := by decide +kernel
theorem d11_47 : dc prog_1_method_38_code 47 (.iload_n 1) 1 := by decide +kernel
theorem d11_48 : dc prog_1_method_38_code 48 (.aload_n 0) 1 := by decide +kernel
theorem d11_49 : dc prog_1_method_38_code 49 (.getfield 31) 3 := by decide +kernel
theorem d11_52 : dc prog_1_method_38_code 52 (.iload_n 2) 1 := by decide +kernel
theorem d11_53 : dc prog_1_method_38_code 53 (.iaload) 1 := by decide +kernel
theorem d11_54 : dc prog_1_method_38_code 54 (.iadd) 1 := by decide +kernel
theorem d11_55 : dc prog_1_method_38_code 55 (.iastore) 1 := by decide +kernel
theorem d11_56 : dc prog_1_method_38_code 56 (.iinc 2 1) 3 := by decide +kernel
theorem d11_59 : dc prog_1_method_38_code 59 (.goto (-57)) 3 := by decide +kernel
theorem d11_62 : dc prog_1_method_38_code 62 (.return_) 1 := by decide +kernel
abbrev y11 : MethodName := ⟨"DemandGate", "releaseAt", "(I)V"⟩
theorem hy11 : y11.cls ≠ "java/lang/invoke/MethodHandle" ∧ y11.cls ≠ "java/lang/invoke/VarHandle" := by decide
theorem pd11 : parseMethodDescriptor y11.desc = some ⟨[.int], none⟩ := by decide +kernel
abbrev R11 : Room := { frames := 0, cells := 0, slots := 0, locals := 0 }
abbrev P11 (r : St) : Option Value → List OwnC → Prop := fun v H' => v = none ∧ H' = (Hb 0 r)
abbrev W11 (l : Launch) (Z : State) (n0 : Nat) (Q : Option Value → List OwnC → Prop) (k n pc : Nat) (L : List Slot) (S : List Value) (H : List OwnC) : Prop := WP l Z CN lay "DemandGate" "releaseAt" prog_1_method_38_code 3 (none) R11 n0 0 Q k n pc L S H
def f_releaseAt_56 (k2 : Int32 → Int32 → St → Option (St)) (n : Nat) (v1 : Int32) (v2 : Int32) (s : St) : Option (St) :=
  lt (v2 + (1 : Int32)) fun x1 =>
  k2 v1 x1 s
set_option maxRecDepth 65536 in
set_option maxHeartbeats 4000000 in
theorem ok11_56 (l : Launch) (Z : State) (a0 : Array Value) (hw : HW a0 Z) (n0 : Nat) (k2 : Int32 → Int32 → St → Option (St)) (hk2 : ∀ (v1 : Int32) (v2 : Int32) (s : St) (r : St), k2 v1 v2 s = some r → W11 l Z n0 (P11 r) 0 0 2 [.val (.ref 0), .val (.int v1), .val (.int v2)] [] (Hb 0 s)) (n : Nat) (v1 : Int32) (v2 : Int32) (s : St) (r : St) (h : f_releaseAt_56 k2 n v1 v2 s = some r) : W11 l Z n0 (P11 r) 0 0 56 [.val (.ref 0), .val (.int v1), .val (.int v2)] [] (Hb 0 s) := by
  unfold f_releaseAt_56 at h
  obtain ⟨x1, ex1, h⟩ := lt_e h
  refine WP.iinc (L' := [.val (.ref 0), .val (.int v1), .val (.int x1)]) (1 : Int32) d11_56 rfl rfl (by subst ex1; rfl) ?_
  refine WP.goto (pc' := 2) d11_59 (by decide) rfl ?_
  exact WP.weak (L' := [.val (.ref 0), .val (.int v1), .val (.int x1)]) ⟨rfl, rfl, rfl, trivial⟩ (hk2 v1 x1 s _ h)
def g_releaseAt_2 (k2 : Int32 → Int32 → St → Option (St)) (n : Nat) (v1 : Int32) (v2 : Int32) (s : St) : Option (St) :=
  if v2 < (gI s 11) then
    (rd (gA s 8) v2).bind fun x2 =>
    if 0 < x2 then
      (rd (gA s 8) v2).bind fun x4 =>
      if x4 = 0 then none else
      if (v1 % x4) = 0 then
        (rd (gA s 6) v2).bind fun x7 =>
        (wrA s 10 v2 x7).bind fun s8 =>
        (rd (gA s8 7) v2).bind fun x9 =>
        (wrA s8 11 v2 (v1 + x9)).bind fun s10 =>
        f_releaseAt_56 k2 n v1 v2 s10
      else
        f_releaseAt_56 k2 n v1 v2 s
    else
      f_releaseAt_56 k2 n v1 v2 s
  else
    some s
set_option maxRecDepth 65536 in
set_option maxHeartbeats 4000000 in
theorem okg11_2 (l : Launch) (Z : State) (a0 : Array Value) (hw : HW a0 Z) (n0 : Nat) (k2 : Int32 → Int32 → St → Option (St)) (hk2 : ∀ (v1 : Int32) (v2 : Int32) (s : St) (r : St), k2 v1 v2 s = some r → W11 l Z n0 (P11 r) 0 0 2 [.val (.ref 0), .val (.int v1), .val (.int v2)] [] (Hb 0 s)) (n : Nat) (v1 : Int32) (v2 : Int32) (s : St) (r : St) (h : g_releaseAt_2 k2 n v1 v2 s = some r) : W11 l Z n0 (P11 r) 0 0 2 [.val (.ref 0), .val (.int v1), .val (.int v2)] [] (Hb 0 s) := by
  unfold g_releaseAt_2 at h
  refine WP.iloadN d11_2 rfl ?_
  refine WP.aloadN d11_3 rfl ?_
  refine WP.getfield (i := 0) (j := 20) d11_4 (hw _ m_71) rfl rfl rfl ?_
  rcases ite_e h with ⟨hc1, h⟩ | ⟨hc1, h⟩
  ·
    refine WP.icmpN d11_7 (XT.ii_ge_f hc1) ?_
    refine WP.aloadN d11_10 rfl ?_
    refine WP.getfield (i := 0) (j := 19) d11_11 (hw _ m_37) rfl rfl rfl ?_
    refine WP.iloadN d11_14 rfl ?_
    obtain ⟨x2, hx2, h⟩ := Option.bind_eq_some_iff.mp h
    refine WP.iaload (i := 9) d11_15 rfl hx2 ?_
    rcases ite_e h with ⟨hc3, h⟩ | ⟨hc3, h⟩
    ·
      refine WP.ifN d11_16 (XT.i0_le_f hc3) ?_
      refine WP.iloadN d11_19 rfl ?_
      refine WP.aloadN d11_20 rfl ?_
      refine WP.getfield (i := 0) (j := 19) d11_21 (hw _ m_37) rfl rfl rfl ?_
      refine WP.iloadN d11_24 rfl ?_
      obtain ⟨x4, hx4, h⟩ := Option.bind_eq_some_iff.mp h
      refine WP.iaload (i := 9) d11_25 rfl hx4 ?_
      obtain ⟨hz5, h⟩ := nz_e h
      refine WP.irem d11_26 hz5 ?_
      rcases ite_e h with ⟨hc6, h⟩ | ⟨hc6, h⟩
      ·
        refine WP.ifN d11_27 (XT.i0_ne_f hc6) ?_
        refine WP.aloadN d11_30 rfl ?_
        refine WP.getfield (i := 0) (j := 22) d11_31 (hw _ m_41) rfl rfl rfl ?_
        refine WP.iloadN d11_34 rfl ?_
        refine WP.aloadN d11_35 rfl ?_
        refine WP.getfield (i := 0) (j := 17) d11_36 (hw _ m_33) rfl rfl rfl ?_
        refine WP.iloadN d11_39 rfl ?_
        obtain ⟨x7, hx7, h⟩ := Option.bind_eq_some_iff.mp h
        refine WP.iaload (i := 7) d11_40 rfl hx7 ?_
        obtain ⟨s8, hs8, h⟩ := Option.bind_eq_some_iff.mp h
        obtain ⟨ys8, gs8, es8⟩ := wrA_e hs8
        refine WP.iastore (i := 11) (xs := gA s 10) (H' := (Hb 0 s8)) d11_41 rfl (leb rfl) gs8 (by subst es8; rfl) ?_
        refine WP.aloadN d11_42 rfl ?_
        refine WP.getfield (i := 0) (j := 23) d11_43 (hw _ m_43) rfl rfl rfl ?_
        refine WP.iloadN d11_46 rfl ?_
        refine WP.iloadN d11_47 rfl ?_
        refine WP.aloadN d11_48 rfl ?_
        refine WP.getfield (i := 0) (j := 18) d11_49 (hw _ m_35) rfl rfl rfl ?_
        refine WP.iloadN d11_52 rfl ?_
        obtain ⟨x9, hx9, h⟩ := Option.bind_eq_some_iff.mp h
        refine WP.iaload (i := 8) d11_53 rfl hx9 ?_
        refine WP.iadd d11_54 ?_
        obtain ⟨s10, hs10, h⟩ := Option.bind_eq_some_iff.mp h
        obtain ⟨ys10, gs10, es10⟩ := wrA_e hs10
        refine WP.iastore (i := 12) (xs := gA s8 11) (H' := (Hb 0 s10)) d11_55 rfl (leb rfl) gs10 (by subst es10; rfl) ?_
        exact WP.weak (L' := [.val (.ref 0), .val (.int v1), .val (.int v2)]) ⟨rfl, rfl, rfl, trivial⟩ (ok11_56 l Z a0 hw n0 _ hk2 n v1 v2 s10 _ h)
      ·
        refine WP.ifY (pc' := 56) d11_27 (XT.i0_ne_t hc6) (by decide) rfl ?_
        exact WP.weak (L' := [.val (.ref 0), .val (.int v1), .val (.int v2)]) ⟨rfl, rfl, rfl, trivial⟩ (ok11_56 l Z a0 hw n0 _ hk2 n v1 v2 s _ h)
    ·
      refine WP.ifY (pc' := 56) d11_16 (XT.i0_le_t hc3) (by decide) rfl ?_
      exact WP.weak (L' := [.val (.ref 0), .val (.int v1), .val (.int v2)]) ⟨rfl, rfl, rfl, trivial⟩ (ok11_56 l Z a0 hw n0 _ hk2 n v1 v2 s _ h)
  ·
    refine WP.icmpY (pc' := 62) d11_7 (XT.ii_ge_t hc1) (by decide) rfl ?_
    cases h
    exact WP.vreturn d11_62 rfl (leb rfl) (leb rfl) ⟨rfl, rfl⟩
def f_releaseAt_2 : Nat → Int32 → Int32 → St → Option (St)
  | 0 => fun _ _ _ => none
  | n + 1 => g_releaseAt_2 (f_releaseAt_2 n) n
theorem ok11_2 (l : Launch) (Z : State) (a0 : Array Value) (hw : HW a0 Z) (n0 : Nat) : ∀ (n : Nat) (v1 : Int32) (v2 : Int32) (s : St) (r : St), f_releaseAt_2 n v1 v2 s = some r → W11 l Z n0 (P11 r) 0 0 2 [.val (.ref 0), .val (.int v1), .val (.int v2)] [] (Hb 0 s)
  | 0, v1, v2, s, r, h => nomatch (show none = some r from h)
  | n + 1, v1, v2, s, r, h => okg11_2 l Z a0 hw n0 _ (ok11_2 l Z a0 hw n0 n) n v1 v2 s r h
def f_releaseAt (n : Nat) (p1 : Int32) (s : St) : Option (St) :=
  f_releaseAt_2 n p1 (0 : Int32) s
set_option maxRecDepth 65536 in
set_option maxHeartbeats 4000000 in
theorem ok11 (l : Launch) (Z : State) (a0 : Array Value) (hw : HW a0 Z) (n : Nat) (p1 : Int32) (s : St) (r : St) (h : f_releaseAt n p1 s = some r) : CS l Z CN lay y11 prog_1_method_38_code 3 (none) R11 0 [.ref 0, .int p1] (Hb 0 s) (P11 r) := by
  refine CS.of_wp pn_cls (leb rfl) fun n0 => ?_
  show W11 l Z n0 (P11 r) 0 0 0 [.val (.ref 0), .val (.int p1), .unset] [] (Hb 0 s)
  unfold f_releaseAt at h
  refine WP.iconst (0 : Int32) d11_0 rfl ?_
  refine WP.istoreN (L' := [.val (.ref 0), .val (.int p1), .val (.int (0 : Int32))]) d11_1 (leb rfl) rfl ?_
  exact WP.weak (L' := [.val (.ref 0), .val (.int p1), .val (.int (0 : Int32))]) ⟨rfl, rfl, rfl, trivial⟩ (ok11_2 l Z a0 hw n0 n p1 (0 : Int32) s _ h)
theorem d12_0 : dc prog_1_method_39_code 0 (.iconst (-1)) 1 := by decide +kernel
theorem d12_1 : dc prog_1_method_39_code 1 (.istore_n 1) 1 := by decide +kernel
theorem d12_2 : dc prog_1_method_39_code 2 (.iconst 0) 1 := by decide +kernel
theorem d12_3 : dc prog_1_method_39_code 3 (.istore_n 2) 1 := by decide +kernel
theorem d12_4 : dc prog_1_method_39_code 4 (.iload_n 2) 1 := by decide +kernel
theorem d12_5 : dc prog_1_method_39_code 5 (.aload_n 0) 1 := by decide +kernel
theorem d12_6 : dc prog_1_method_39_code 6 (.getfield 85) 3 := by decide +kernel
theorem d12_9 : dc prog_1_method_39_code 9 (.if_icmp .ge 39) 3 := by decide +kernel
theorem d12_12 : dc prog_1_method_39_code 12 (.aload_n 0) 1 := by decide +kernel
theorem d12_13 : dc prog_1_method_39_code 13 (.getfield 40) 3 := by decide +kernel
theorem d12_16 : dc prog_1_method_39_code 16 (.iload_n 2) 1 := by decide +kernel
theorem d12_17 : dc prog_1_method_39_code 17 (.iaload) 1 := by decide +kernel
theorem d12_18 : dc prog_1_method_39_code 18 (.ifCond .le 24) 3 := by decide +kernel
theorem d12_21 : dc prog_1_method_39_code 21 (.iload_n 1) 1 := by decide +kernel
theorem d12_22 : dc prog_1_method_39_code 22 (.ifCond .lt 18) 3 := by decide +kernel
theorem d12_25 : dc prog_1_method_39_code 25 (.aload_n 0) 1 := by decide +kernel
theorem d12_26 : dc prog_1_method_39_code 26 (.getfield 43) 3 := by decide +kernel
theorem d12_29 : dc prog_1_method_39_code 29 (.iload_n 2) 1 := by decide +kernel
theorem d12_30 : dc prog_1_method_39_code 30 (.iaload) 1 := by decide +kernel
theorem d12_31 : dc prog_1_method_39_code 31 (.aload_n 0) 1 := by decide +kernel
theorem d12_32 : dc prog_1_method_39_code 32 (.getfield 43) 3 := by decide +kernel
theorem d12_35 : dc prog_1_method_39_code 35 (.iload_n 1) 1 := by decide +kernel
theorem d12_36 : dc prog_1_method_39_code 36 (.iaload) 1 := by decide +kernel
theorem d12_37 : dc prog_1_method_39_code 37 (.if_icmp .ge 5) 3 := by decide +kernel
theorem d12_40 : dc prog_1_method_39_code 40 (.iload_n 2) 1 := by decide +kernel
theorem d12_41 : dc prog_1_method_39_code 41 (.istore_n 1) 1 := by decide +kernel
theorem d12_42 : dc prog_1_method_39_code 42 (.iinc 2 1) 3 := by decide +kernel
theorem d12_45 : dc prog_1_method_39_code 45 (.goto (-41)) 3 := by decide +kernel
theorem d12_48 : dc prog_1_method_39_code 48 (.iload_n 1) 1 := by decide +kernel
theorem d12_49 : dc prog_1_method_39_code 49 (.ifCond .ge 5) 3 := by decide +kernel
theorem d12_52 : dc prog_1_method_39_code 52 (.iconst 0) 1 := by decide +kernel
theorem d12_53 : dc prog_1_method_39_code 53 (.ireturn) 1 := by decide +kernel
theorem d12_54 : dc prog_1_method_39_code 54 (.aload_n 0) 1 := by decide +kernel
theorem d12_55 : dc prog_1_method_39_code 55 (.getfield 40) 3 := by decide +kernel
theorem d12_58 : dc prog_1_method_39_code 58 (.iload_n 1) 1 := by decide +kernel
theorem d12_59 : dc prog_1_method_39_code 59 (.aload_n 0) 1 := by decide +kernel
theorem d12_60 : dc prog_1_method_39_code 60 (.getfield 40) 3 := by decide +kernel
theorem d12_63 : dc prog_1_method_39_code 63 (.iload_n 1) 1 := by decide +kernel
theorem d12_64 : dc prog_1_method_39_code 64 (.iaload) 1 := by decide +kernel
theorem d12_65 : dc prog_1_method_39_code 65 (.iconst 1) 1 := by decide +kernel
theorem d12_66 : dc prog_1_method_39_code 66 (.isub) 1 := by decide +kernel
theorem d12_67 : dc prog_1_method_39_code 67 (.iastore) 1 := by decide +kernel
theorem d12_68 : dc prog_1_method_39_code 68 (.iconst 1) 1 := by decide +kernel
theorem d12_69 : dc prog_1_method_39_code 69 (.ireturn) 1 := by decide +kernel
abbrev y12 : MethodName := ⟨"DemandGate", "dispatchSlot", "()Z"⟩
theorem hy12 : y12.cls ≠ "java/lang/invoke/MethodHandle" ∧ y12.cls ≠ "java/lang/invoke/VarHandle" := by decide
theorem pd12 : parseMethodDescriptor y12.desc = some ⟨[], some .boolean⟩ := by decide +kernel
abbrev R12 : Room := { frames := 0, cells := 0, slots := 0, locals := 0 }
abbrev P12 (r : Int32 × St) : Option Value → List OwnC → Prop := fun v H' => v = some (.int r.1) ∧ H' = (Hb 0 r.2)
abbrev W12 (l : Launch) (Z : State) (n0 : Nat) (Q : Option Value → List OwnC → Prop) (k n pc : Nat) (L : List Slot) (S : List Value) (H : List OwnC) : Prop := WP l Z CN lay "DemandGate" "dispatchSlot" prog_1_method_39_code 3 (some FieldType.boolean) R12 n0 0 Q k n pc L S H
def f_dispatchSlot_42 (k4 : Int32 → Int32 → St → Option (Int32 × St)) (n : Nat) (v1 : Int32) (v2 : Int32) (s : St) : Option (Int32 × St) :=
  lt (v2 + (1 : Int32)) fun x1 =>
  k4 v1 x1 s
set_option maxRecDepth 65536 in
set_option maxHeartbeats 4000000 in
theorem ok12_42 (l : Launch) (Z : State) (a0 : Array Value) (hw : HW a0 Z) (n0 : Nat) (k4 : Int32 → Int32 → St → Option (Int32 × St)) (hk4 : ∀ (v1 : Int32) (v2 : Int32) (s : St) (r : Int32 × St), k4 v1 v2 s = some r → W12 l Z n0 (P12 r) 0 0 4 [.val (.ref 0), .val (.int v1), .val (.int v2)] [] (Hb 0 s)) (n : Nat) (v1 : Int32) (v2 : Int32) (s : St) (r : Int32 × St) (h : f_dispatchSlot_42 k4 n v1 v2 s = some r) : W12 l Z n0 (P12 r) 0 0 42 [.val (.ref 0), .val (.int v1), .val (.int v2)] [] (Hb 0 s) := by
  unfold f_dispatchSlot_42 at h
  obtain ⟨x1, ex1, h⟩ := lt_e h
  refine WP.iinc (L' := [.val (.ref 0), .val (.int v1), .val (.int x1)]) (1 : Int32) d12_42 rfl rfl (by subst ex1; rfl) ?_
  refine WP.goto (pc' := 4) d12_45 (by decide) rfl ?_
  exact WP.weak (L' := [.val (.ref 0), .val (.int v1), .val (.int x1)]) ⟨rfl, rfl, rfl, trivial⟩ (hk4 v1 x1 s _ h)
def f_dispatchSlot_40 (k4 : Int32 → Int32 → St → Option (Int32 × St)) (n : Nat) (v2 : Int32) (s : St) : Option (Int32 × St) :=
  f_dispatchSlot_42 k4 n v2 v2 s
set_option maxRecDepth 65536 in
set_option maxHeartbeats 4000000 in
theorem ok12_40 (l : Launch) (Z : State) (a0 : Array Value) (hw : HW a0 Z) (n0 : Nat) (k4 : Int32 → Int32 → St → Option (Int32 × St)) (hk4 : ∀ (v1 : Int32) (v2 : Int32) (s : St) (r : Int32 × St), k4 v1 v2 s = some r → W12 l Z n0 (P12 r) 0 0 4 [.val (.ref 0), .val (.int v1), .val (.int v2)] [] (Hb 0 s)) (n : Nat) (v2 : Int32) (s : St) (r : Int32 × St) (h : f_dispatchSlot_40 k4 n v2 s = some r) : W12 l Z n0 (P12 r) 0 0 40 [.val (.ref 0), .unset, .val (.int v2)] [] (Hb 0 s) := by
  unfold f_dispatchSlot_40 at h
  refine WP.iloadN d12_40 rfl ?_
  refine WP.istoreN (L' := [.val (.ref 0), .val (.int v2), .val (.int v2)]) d12_41 (leb rfl) rfl ?_
  exact WP.weak (L' := [.val (.ref 0), .val (.int v2), .val (.int v2)]) ⟨rfl, rfl, rfl, trivial⟩ (ok12_42 l Z a0 hw n0 _ hk4 n v2 v2 s _ h)
def g_dispatchSlot_4 (k4 : Int32 → Int32 → St → Option (Int32 × St)) (n : Nat) (v1 : Int32) (v2 : Int32) (s : St) : Option (Int32 × St) :=
  if v2 < (gI s 11) then
    (rd (gA s 10) v2).bind fun x2 =>
    if 0 < x2 then
      if v1 < 0 then
        f_dispatchSlot_40 k4 n v2 s
      else
        (rd (gA s 11) v2).bind fun x5 =>
        (rd (gA s 11) v1).bind fun x6 =>
        if x5 < x6 then
          f_dispatchSlot_40 k4 n v2 s
        else
          f_dispatchSlot_42 k4 n v1 v2 s
    else
      f_dispatchSlot_42 k4 n v1 v2 s
  else
    if v1 < 0 then
      some ((0 : Int32), s)
    else
      (rd (gA s 10) v1).bind fun x9 =>
      (wrA s 10 v1 (x9 - (1 : Int32))).bind fun s10 =>
      some ((1 : Int32), s10)
set_option maxRecDepth 65536 in
set_option maxHeartbeats 4000000 in
theorem okg12_4 (l : Launch) (Z : State) (a0 : Array Value) (hw : HW a0 Z) (n0 : Nat) (k4 : Int32 → Int32 → St → Option (Int32 × St)) (hk4 : ∀ (v1 : Int32) (v2 : Int32) (s : St) (r : Int32 × St), k4 v1 v2 s = some r → W12 l Z n0 (P12 r) 0 0 4 [.val (.ref 0), .val (.int v1), .val (.int v2)] [] (Hb 0 s)) (n : Nat) (v1 : Int32) (v2 : Int32) (s : St) (r : Int32 × St) (h : g_dispatchSlot_4 k4 n v1 v2 s = some r) : W12 l Z n0 (P12 r) 0 0 4 [.val (.ref 0), .val (.int v1), .val (.int v2)] [] (Hb 0 s) := by
  unfold g_dispatchSlot_4 at h
  refine WP.iloadN d12_4 rfl ?_
  refine WP.aloadN d12_5 rfl ?_
  refine WP.getfield (i := 0) (j := 20) d12_6 (hw _ m_71) rfl rfl rfl ?_
  rcases ite_e h with ⟨hc1, h⟩ | ⟨hc1, h⟩
  ·
    refine WP.icmpN d12_9 (XT.ii_ge_f hc1) ?_
    refine WP.aloadN d12_12 rfl ?_
    refine WP.getfield (i := 0) (j := 22) d12_13 (hw _ m_41) rfl rfl rfl ?_
    refine WP.iloadN d12_16 rfl ?_
    obtain ⟨x2, hx2, h⟩ := Option.bind_eq_some_iff.mp h
    refine WP.iaload (i := 11) d12_17 rfl hx2 ?_
    rcases ite_e h with ⟨hc3, h⟩ | ⟨hc3, h⟩
    ·
      refine WP.ifN d12_18 (XT.i0_le_f hc3) ?_
      refine WP.iloadN d12_21 rfl ?_
      rcases ite_e h with ⟨hc4, h⟩ | ⟨hc4, h⟩
      ·
        refine WP.ifY (pc' := 40) d12_22 (XT.i0_lt_t hc4) (by decide) rfl ?_
        exact WP.weak (L' := [.val (.ref 0), .unset, .val (.int v2)]) ⟨rfl, rfl, trivial⟩ (ok12_40 l Z a0 hw n0 _ hk4 n v2 s _ h)
      ·
        refine WP.ifN d12_22 (XT.i0_lt_f hc4) ?_
        refine WP.aloadN d12_25 rfl ?_
        refine WP.getfield (i := 0) (j := 23) d12_26 (hw _ m_43) rfl rfl rfl ?_
        refine WP.iloadN d12_29 rfl ?_
        obtain ⟨x5, hx5, h⟩ := Option.bind_eq_some_iff.mp h
        refine WP.iaload (i := 12) d12_30 rfl hx5 ?_
        refine WP.aloadN d12_31 rfl ?_
        refine WP.getfield (i := 0) (j := 23) d12_32 (hw _ m_43) rfl rfl rfl ?_
        refine WP.iloadN d12_35 rfl ?_
        obtain ⟨x6, hx6, h⟩ := Option.bind_eq_some_iff.mp h
        refine WP.iaload (i := 12) d12_36 rfl hx6 ?_
        rcases ite_e h with ⟨hc7, h⟩ | ⟨hc7, h⟩
        ·
          refine WP.icmpN d12_37 (XT.ii_ge_f hc7) ?_
          exact WP.weak (L' := [.val (.ref 0), .unset, .val (.int v2)]) ⟨rfl, rfl, trivial⟩ (ok12_40 l Z a0 hw n0 _ hk4 n v2 s _ h)
        ·
          refine WP.icmpY (pc' := 42) d12_37 (XT.ii_ge_t hc7) (by decide) rfl ?_
          exact WP.weak (L' := [.val (.ref 0), .val (.int v1), .val (.int v2)]) ⟨rfl, rfl, rfl, trivial⟩ (ok12_42 l Z a0 hw n0 _ hk4 n v1 v2 s _ h)
    ·
      refine WP.ifY (pc' := 42) d12_18 (XT.i0_le_t hc3) (by decide) rfl ?_
      exact WP.weak (L' := [.val (.ref 0), .val (.int v1), .val (.int v2)]) ⟨rfl, rfl, rfl, trivial⟩ (ok12_42 l Z a0 hw n0 _ hk4 n v1 v2 s _ h)
  ·
    refine WP.icmpY (pc' := 48) d12_9 (XT.ii_ge_t hc1) (by decide) rfl ?_
    refine WP.iloadN d12_48 rfl ?_
    rcases ite_e h with ⟨hc8, h⟩ | ⟨hc8, h⟩
    ·
      refine WP.ifN d12_49 (XT.i0_ge_f hc8) ?_
      refine WP.iconst (0 : Int32) d12_52 rfl ?_
      cases h
      exact WP.zreturn d12_53 rfl (leb rfl) (leb rfl) ⟨rfl, rfl⟩
    ·
      refine WP.ifY (pc' := 54) d12_49 (XT.i0_ge_t hc8) (by decide) rfl ?_
      refine WP.aloadN d12_54 rfl ?_
      refine WP.getfield (i := 0) (j := 22) d12_55 (hw _ m_41) rfl rfl rfl ?_
      refine WP.iloadN d12_58 rfl ?_
      refine WP.aloadN d12_59 rfl ?_
      refine WP.getfield (i := 0) (j := 22) d12_60 (hw _ m_41) rfl rfl rfl ?_
      refine WP.iloadN d12_63 rfl ?_
      obtain ⟨x9, hx9, h⟩ := Option.bind_eq_some_iff.mp h
      refine WP.iaload (i := 11) d12_64 rfl hx9 ?_
      refine WP.iconst (1 : Int32) d12_65 rfl ?_
      refine WP.isub d12_66 ?_
      obtain ⟨s10, hs10, h⟩ := Option.bind_eq_some_iff.mp h
      obtain ⟨ys10, gs10, es10⟩ := wrA_e hs10
      refine WP.iastore (i := 11) (xs := gA s 10) (H' := (Hb 0 s10)) d12_67 rfl (leb rfl) gs10 (by subst es10; rfl) ?_
      refine WP.iconst (1 : Int32) d12_68 rfl ?_
      cases h
      exact WP.zreturn d12_69 rfl (leb rfl) (leb rfl) ⟨rfl, rfl⟩
def f_dispatchSlot_4 : Nat → Int32 → Int32 → St → Option (Int32 × St)
  | 0 => fun _ _ _ => none
  | n + 1 => g_dispatchSlot_4 (f_dispatchSlot_4 n) n
theorem ok12_4 (l : Launch) (Z : State) (a0 : Array Value) (hw : HW a0 Z) (n0 : Nat) : ∀ (n : Nat) (v1 : Int32) (v2 : Int32) (s : St) (r : Int32 × St), f_dispatchSlot_4 n v1 v2 s = some r → W12 l Z n0 (P12 r) 0 0 4 [.val (.ref 0), .val (.int v1), .val (.int v2)] [] (Hb 0 s)
  | 0, v1, v2, s, r, h => nomatch (show none = some r from h)
  | n + 1, v1, v2, s, r, h => okg12_4 l Z a0 hw n0 _ (ok12_4 l Z a0 hw n0 n) n v1 v2 s r h
def f_dispatchSlot (n : Nat) (s : St) : Option (Int32 × St) :=
  f_dispatchSlot_4 n (-1 : Int32) (0 : Int32) s
set_option maxRecDepth 65536 in
set_option maxHeartbeats 4000000 in
theorem ok12 (l : Launch) (Z : State) (a0 : Array Value) (hw : HW a0 Z) (n : Nat) (s : St) (r : Int32 × St) (h : f_dispatchSlot n s = some r) : CS l Z CN lay y12 prog_1_method_39_code 3 (some FieldType.boolean) R12 0 [.ref 0] (Hb 0 s) (P12 r) := by
  refine CS.of_wp pn_cls (leb rfl) fun n0 => ?_
  show W12 l Z n0 (P12 r) 0 0 0 [.val (.ref 0), .unset, .unset] [] (Hb 0 s)
  unfold f_dispatchSlot at h
  refine WP.iconst (-1 : Int32) d12_0 rfl ?_
  refine WP.istoreN (L' := [.val (.ref 0), .val (.int (-1 : Int32)), .unset]) d12_1 (leb rfl) rfl ?_
  refine WP.iconst (0 : Int32) d12_2 rfl ?_
  refine WP.istoreN (L' := [.val (.ref 0), .val (.int (-1 : Int32)), .val (.int (0 : Int32))]) d12_3 (leb rfl) rfl ?_
  exact WP.weak (L' := [.val (.ref 0), .val (.int (-1 : Int32)), .val (.int (0 : Int32))]) ⟨rfl, rfl, rfl, trivial⟩ (ok12_4 l Z a0 hw n0 n (-1 : Int32) (0 : Int32) s _ h)
theorem d13_0 : dc prog_1_method_40_code 0 (.iconst 0) 1 := by decide +kernel
theorem d13_1 : dc prog_1_method_40_code 1 (.istore_n 1) 1 := by decide +kernel
theorem d13_2 : dc prog_1_method_40_code 2 (.iload_n 1) 1 := by decide +kernel
theorem d13_3 : dc prog_1_method_40_code 3 (.aload_n 0) 1 := by decide +kernel
theorem d13_4 : dc prog_1_method_40_code 4 (.getfield 85) 3 := by decide +kernel
theorem d13_7 : dc prog_1_method_40_code 7 (.if_icmp .ge 20) 3 := by decide +kernel
theorem d13_10 : dc prog_1_method_40_code 10 (.aload_n 0) 1 := by decide +kernel
theorem d13_11 : dc prog_1_method_40_code 11 (.getfield 40) 3 := by decide +kernel
theorem d13_14 : dc prog_1_method_40_code 14 (.iload_n 1) 1 := by decide +kernel
theorem d13_15 : dc prog_1_method_40_code 15 (.iaload) 1 := by decide +kernel
theorem d13_16 : dc prog_1_method_40_code 16 (.ifCond .le 5) 3 := by decide +kernel
theorem d13_19 : dc prog_1_method_40_code 19 (.iconst 1) 1 := by decide +kernel
theorem d13_20 : dc prog_1_method_40_code 20 (.ireturn) 1 := by decide +kernel
theorem d13_21 : dc prog_1_method_40_code 21 (.iinc 1 1) 3 := by decide +kernel
theorem d13_24 : dc prog_1_method_40_code 24 (.goto (-22)) 3 := by decide +kernel
theorem d13_27 : dc prog_1_method_40_code 27 (.iconst 0) 1 := by decide +kernel
theorem d13_28 : dc prog_1_method_40_code 28 (.ireturn) 1 := by decide +kernel
abbrev y13 : MethodName := ⟨"DemandGate", "anyPending", "()Z"⟩
theorem hy13 : y13.cls ≠ "java/lang/invoke/MethodHandle" ∧ y13.cls ≠ "java/lang/invoke/VarHandle" := by decide
theorem pd13 : parseMethodDescriptor y13.desc = some ⟨[], some .boolean⟩ := by decide +kernel
abbrev R13 : Room := { frames := 0, cells := 0, slots := 0, locals := 0 }
abbrev P13 (s : St) (r : Int32) : Option Value → List OwnC → Prop := fun v H' => v = some (.int r) ∧ H' = (Hb 0 s)
abbrev W13 (l : Launch) (Z : State) (n0 : Nat) (Q : Option Value → List OwnC → Prop) (k n pc : Nat) (L : List Slot) (S : List Value) (H : List OwnC) : Prop := WP l Z CN lay "DemandGate" "anyPending" prog_1_method_40_code 2 (some FieldType.boolean) R13 n0 0 Q k n pc L S H
def g_anyPending_2 (k2 : Int32 → St → Option (Int32)) (n : Nat) (v1 : Int32) (s : St) : Option (Int32) :=
  if v1 < (gI s 11) then
    (rd (gA s 10) v1).bind fun x2 =>
    if 0 < x2 then
      some (1 : Int32)
    else
      lt (v1 + (1 : Int32)) fun x4 =>
      k2 x4 s
  else
    some (0 : Int32)
set_option maxRecDepth 65536 in
set_option maxHeartbeats 4000000 in
theorem okg13_2 (l : Launch) (Z : State) (a0 : Array Value) (hw : HW a0 Z) (n0 : Nat) (k2 : Int32 → St → Option (Int32)) (hk2 : ∀ (v1 : Int32) (s : St) (r : Int32), k2 v1 s = some r → W13 l Z n0 (P13 s r) 0 0 2 [.val (.ref 0), .val (.int v1)] [] (Hb 0 s)) (n : Nat) (v1 : Int32) (s : St) (r : Int32) (h : g_anyPending_2 k2 n v1 s = some r) : W13 l Z n0 (P13 s r) 0 0 2 [.val (.ref 0), .val (.int v1)] [] (Hb 0 s) := by
  unfold g_anyPending_2 at h
  refine WP.iloadN d13_2 rfl ?_
  refine WP.aloadN d13_3 rfl ?_
  refine WP.getfield (i := 0) (j := 20) d13_4 (hw _ m_71) rfl rfl rfl ?_
  rcases ite_e h with ⟨hc1, h⟩ | ⟨hc1, h⟩
  ·
    refine WP.icmpN d13_7 (XT.ii_ge_f hc1) ?_
    refine WP.aloadN d13_10 rfl ?_
    refine WP.getfield (i := 0) (j := 22) d13_11 (hw _ m_41) rfl rfl rfl ?_
    refine WP.iloadN d13_14 rfl ?_
    obtain ⟨x2, hx2, h⟩ := Option.bind_eq_some_iff.mp h
    refine WP.iaload (i := 11) d13_15 rfl hx2 ?_
    rcases ite_e h with ⟨hc3, h⟩ | ⟨hc3, h⟩
    ·
      refine WP.ifN d13_16 (XT.i0_le_f hc3) ?_
      refine WP.iconst (1 : Int32) d13_19 rfl ?_
      cases h
      exact WP.zreturn d13_20 rfl (leb rfl) (leb rfl) ⟨rfl, rfl⟩
    ·
      refine WP.ifY (pc' := 21) d13_16 (XT.i0_le_t hc3) (by decide) rfl ?_
      obtain ⟨x4, ex4, h⟩ := lt_e h
      refine WP.iinc (L' := [.val (.ref 0), .val (.int x4)]) (1 : Int32) d13_21 rfl rfl (by subst ex4; rfl) ?_
      refine WP.goto (pc' := 2) d13_24 (by decide) rfl ?_
      exact WP.weak (L' := [.val (.ref 0), .val (.int x4)]) ⟨rfl, rfl, trivial⟩ (hk2 x4 s _ h)
  ·
    refine WP.icmpY (pc' := 27) d13_7 (XT.ii_ge_t hc1) (by decide) rfl ?_
    refine WP.iconst (0 : Int32) d13_27 rfl ?_
    cases h
    exact WP.zreturn d13_28 rfl (leb rfl) (leb rfl) ⟨rfl, rfl⟩
def f_anyPending_2 : Nat → Int32 → St → Option (Int32)
  | 0 => fun _ _ => none
  | n + 1 => g_anyPending_2 (f_anyPending_2 n) n
theorem ok13_2 (l : Launch) (Z : State) (a0 : Array Value) (hw : HW a0 Z) (n0 : Nat) : ∀ (n : Nat) (v1 : Int32) (s : St) (r : Int32), f_anyPending_2 n v1 s = some r → W13 l Z n0 (P13 s r) 0 0 2 [.val (.ref 0), .val (.int v1)] [] (Hb 0 s)
  | 0, v1, s, r, h => nomatch (show none = some r from h)
  | n + 1, v1, s, r, h => okg13_2 l Z a0 hw n0 _ (ok13_2 l Z a0 hw n0 n) n v1 s r h
def f_anyPending (n : Nat) (s : St) : Option (Int32) :=
  f_anyPending_2 n (0 : Int32) s
set_option maxRecDepth 65536 in
set_option maxHeartbeats 4000000 in
theorem ok13 (l : Launch) (Z : State) (a0 : Array Value) (hw : HW a0 Z) (n : Nat) (s : St) (r : Int32) (h : f_anyPending n s = some r) : CS l Z CN lay y13 prog_1_method_40_code 2 (some FieldType.boolean) R13 0 [.ref 0] (Hb 0 s) (P13 s r) := by
  refine CS.of_wp pn_cls (leb rfl) fun n0 => ?_
  show W13 l Z n0 (P13 s r) 0 0 0 [.val (.ref 0), .unset] [] (Hb 0 s)
  unfold f_anyPending at h
  refine WP.iconst (0 : Int32) d13_0 rfl ?_
  refine WP.istoreN (L' := [.val (.ref 0), .val (.int (0 : Int32))]) d13_1 (leb rfl) rfl ?_
  exact WP.weak (L' := [.val (.ref 0), .val (.int (0 : Int32))]) ⟨rfl, rfl, trivial⟩ (ok13_2 l Z a0 hw n0 n (0 : Int32) s _ h)
theorem d14_0 : dc prog_1_method_41_code 0 (.iload_n 2) 1 := by decide +kernel
theorem d14_1 : dc prog_1_method_41_code 1 (.istore_n 3) 1 := by decide +kernel
theorem d14_2 : dc prog_1_method_41_code 2 (.iconst 0) 1 := by decide +kernel
theorem d14_3 : dc prog_1_method_41_code 3 (.istore 4) 2 := by decide +kernel
theorem d14_5 : dc prog_1_method_41_code 5 (.iload 4) 2 := by decide +kernel
theorem d14_7 : dc prog_1_method_41_code 7 (.aload_n 0) 1 := by decide +kernel
theorem d14_8 : dc prog_1_method_41_code 8 (.getfield 85) 3 := by decide +kernel
theorem d14_11 : dc prog_1_method_41_code 11 (.if_icmp .ge 49) 3 := by decide +kernel
theorem d14_14 : dc prog_1_method_41_code 14 (.aload_n 0) 1 := by decide +kernel
theorem d14_15 : dc prog_1_method_41_code 15 (.getfield 34) 3 := by decide +kernel
theorem d14_18 : dc prog_1_method_41_code 18 (.iload 4) 2 := by decide +kernel
theorem d14_20 : dc prog_1_method_41_code 20 (.iaload) 1 := by decide +kernel
theorem d14_21 : dc prog_1_method_41_code 21 (.ifCond .le 33) 3 := by decide +kernel
theorem d14_24 : dc prog_1_method_41_code 24 (.iload_n 1) 1 := by decide +kernel
theorem d14_25 : dc prog_1_method_41_code 25 (.aload_n 0) 1 := by decide +kernel
theorem d14_26 : dc prog_1_method_41_code 26 (.getfield 34) 3 := by decide +kernel
theorem d14_29 : dc prog_1_method_41_code 29 (.iload 4) 2 := by decide +kernel
theorem d14_31 : dc prog_1_method_41_code 31 (.iaload) 1 := by decide +kernel
theorem d14_32 : dc prog_1_method_41_code 32 (.idiv) 1 := by decide +kernel
theorem d14_33 : dc prog_1_method_41_code 33 (.iconst 1) 1 := by decide +kernel
theorem d14_34 : dc prog_1_method_41_code 34 (.iadd) 1 := by decide +kernel
theorem d14_35 : dc prog_1_method_41_code 35 (.aload_n 0) 1 := by decide +kernel
theorem d14_36 : dc prog_1_method_41_code 36 (.getfield 34) 3 := by decide +kernel
theorem d14_39 : dc prog_1_method_41_code 39 (.iload 4) 2 := by decide +kernel
theorem d14_41 : dc prog_1_method_41_code 41 (.iaload) 1 := by decide +kernel
theorem d14_42 : dc prog_1_method_41_code 42 (.imul) 1 := by decide +kernel
theorem d14_43 : dc prog_1_method_41_code 43 (.istore 5) 2 := by decide +kernel
theorem d14_45 : dc prog_1_method_41_code 45 (.iload 5) 2 := by decide +kernel
theorem d14_47 : dc prog_1_method_41_code 47 (.iload_n 3) 1 := by decide +kernel
theorem d14_48 : dc prog_1_method_41_code 48 (.if_icmp .ge 6) 3 := by decide +kernel
theorem d14_51 : dc prog_1_method_41_code 51 (.iload 5) 2 := by decide +kernel
theorem d14_53 : dc prog_1_method_41_code 53 (.istore_n 3) 1 := by decide +kernel
theorem d14_54 : dc prog_1_method_41_code 54 (.iinc 4 1) 3 := by decide +kernel
theorem d14_57 : dc prog_1_method_41_code 57 (.goto (-52)) 3 := by decide +kernel
theorem d14_60 : dc prog_1_method_41_code 60 (.iload_n 3) 1 := by decide +kernel
theorem d14_61 : dc prog_1_method_41_code 61 (.iload_n 1) 1 := by decide +kernel
theorem d14_62 : dc prog_1_method_41_code 62 (.if_icmp .gt 7) 3 := by decide +kernel
theorem d14_65 : dc prog_1_method_41_code 65 (.iload_n 1) 1 := by decide +kernel
theorem d14_66 : dc prog_1_method_41_code 66 (.iconst 1) 1 := by decide +kernel
theorem d14_67 : dc prog_1_method_41_code 67 (.iadd) 1 := by decide +kernel
theorem d14_68 : dc prog_1_method_41_code 68 (.istore_n 3) 1 := by decide +kernel
theorem d14_69 : dc prog_1_method_41_code 69 (.iload_n 3) 1 := by decide +kernel
theorem d14_70 : dc prog_1_method_41_code 70 (.ireturn) 1 := by decide +kernel
abbrev y14 : MethodName := ⟨"DemandGate", "nextReleaseAfter", "(II)I"⟩
theorem hy14 : y14.cls ≠ "java/lang/invoke/MethodHandle" ∧ y14.cls ≠ "java/lang/invoke/VarHandle" := by decide
theorem pd14 : parseMethodDescriptor y14.desc = some ⟨[.int, .int], some .int⟩ := by decide +kernel
abbrev R14 : Room := { frames := 0, cells := 0, slots := 0, locals := 0 }
abbrev P14 (s : St) (r : Int32) : Option Value → List OwnC → Prop := fun v H' => v = some (.int r) ∧ H' = (Hb 0 s)
abbrev W14 (l : Launch) (Z : State) (n0 : Nat) (Q : Option Value → List OwnC → Prop) (k n pc : Nat) (L : List Slot) (S : List Value) (H : List OwnC) : Prop := WP l Z CN lay "DemandGate" "nextReleaseAfter" prog_1_method_41_code 6 (some FieldType.int) R14 n0 0 Q k n pc L S H
def f_nextReleaseAfter_54 (k5 : Int32 → Int32 → Int32 → St → Option (Int32)) (n : Nat) (v1 : Int32) (v3 : Int32) (v4 : Int32) (s : St) : Option (Int32) :=
  lt (v4 + (1 : Int32)) fun x1 =>
  k5 v1 v3 x1 s
set_option maxRecDepth 65536 in
set_option maxHeartbeats 4000000 in
theorem ok14_54 (l : Launch) (Z : State) (a0 : Array Value) (hw : HW a0 Z) (n0 : Nat) (k5 : Int32 → Int32 → Int32 → St → Option (Int32)) (hk5 : ∀ (v1 : Int32) (v3 : Int32) (v4 : Int32) (s : St) (r : Int32), k5 v1 v3 v4 s = some r → W14 l Z n0 (P14 s r) 0 0 5 [.val (.ref 0), .val (.int v1), .unset, .val (.int v3), .val (.int v4), .unset] [] (Hb 0 s)) (n : Nat) (v1 : Int32) (v3 : Int32) (v4 : Int32) (s : St) (r : Int32) (h : f_nextReleaseAfter_54 k5 n v1 v3 v4 s = some r) : W14 l Z n0 (P14 s r) 0 0 54 [.val (.ref 0), .val (.int v1), .unset, .val (.int v3), .val (.int v4), .unset] [] (Hb 0 s) := by
  unfold f_nextReleaseAfter_54 at h
  obtain ⟨x1, ex1, h⟩ := lt_e h
  refine WP.iinc (L' := [.val (.ref 0), .val (.int v1), .unset, .val (.int v3), .val (.int x1), .unset]) (1 : Int32) d14_54 rfl rfl (by subst ex1; rfl) ?_
  refine WP.goto (pc' := 5) d14_57 (by decide) rfl ?_
  exact WP.weak (L' := [.val (.ref 0), .val (.int v1), .unset, .val (.int v3), .val (.int x1), .unset]) ⟨rfl, rfl, rfl, rfl, trivial⟩ (hk5 v1 v3 x1 s _ h)
def f_nextReleaseAfter_69 (n : Nat) (v3 : Int32) (s : St) : Option (Int32) :=
  some v3
set_option maxRecDepth 65536 in
set_option maxHeartbeats 4000000 in
theorem ok14_69 (l : Launch) (Z : State) (a0 : Array Value) (hw : HW a0 Z) (n0 : Nat) (n : Nat) (v3 : Int32) (s : St) (r : Int32) (h : f_nextReleaseAfter_69 n v3 s = some r) : W14 l Z n0 (P14 s r) 0 0 69 [.unset, .unset, .unset, .val (.int v3), .unset, .unset] [] (Hb 0 s) := by
  unfold f_nextReleaseAfter_69 at h
  refine WP.iloadN d14_69 rfl ?_
  cases h
  exact WP.ireturn d14_70 rfl (leb rfl) (leb rfl) ⟨rfl, rfl⟩
def g_nextReleaseAfter_5 (k5 : Int32 → Int32 → Int32 → St → Option (Int32)) (n : Nat) (v1 : Int32) (v3 : Int32) (v4 : Int32) (s : St) : Option (Int32) :=
  if v4 < (gI s 11) then
    (rd (gA s 8) v4).bind fun x2 =>
    if 0 < x2 then
      (rd (gA s 8) v4).bind fun x4 =>
      if x4 = 0 then none else
      (rd (gA s 8) v4).bind fun x6 =>
      lt (((v1 / x4) + (1 : Int32)) * x6) fun x7 =>
      if x7 < v3 then
        f_nextReleaseAfter_54 k5 n v1 x7 v4 s
      else
        f_nextReleaseAfter_54 k5 n v1 v3 v4 s
    else
      f_nextReleaseAfter_54 k5 n v1 v3 v4 s
  else
    if v1 < v3 then
      f_nextReleaseAfter_69 n v3 s
    else
      lt (v1 + (1 : Int32)) fun x10 =>
      f_nextReleaseAfter_69 n x10 s
set_option maxRecDepth 65536 in
set_option maxHeartbeats 4000000 in
theorem okg14_5 (l : Launch) (Z : State) (a0 : Array Value) (hw : HW a0 Z) (n0 : Nat) (k5 : Int32 → Int32 → Int32 → St → Option (Int32)) (hk5 : ∀ (v1 : Int32) (v3 : Int32) (v4 : Int32) (s : St) (r : Int32), k5 v1 v3 v4 s = some r → W14 l Z n0 (P14 s r) 0 0 5 [.val (.ref 0), .val (.int v1), .unset, .val (.int v3), .val (.int v4), .unset] [] (Hb 0 s)) (n : Nat) (v1 : Int32) (v3 : Int32) (v4 : Int32) (s : St) (r : Int32) (h : g_nextReleaseAfter_5 k5 n v1 v3 v4 s = some r) : W14 l Z n0 (P14 s r) 0 0 5 [.val (.ref 0), .val (.int v1), .unset, .val (.int v3), .val (.int v4), .unset] [] (Hb 0 s) := by
  unfold g_nextReleaseAfter_5 at h
  refine WP.iload d14_5 rfl ?_
  refine WP.aloadN d14_7 rfl ?_
  refine WP.getfield (i := 0) (j := 20) d14_8 (hw _ m_71) rfl rfl rfl ?_
  rcases ite_e h with ⟨hc1, h⟩ | ⟨hc1, h⟩
  ·
    refine WP.icmpN d14_11 (XT.ii_ge_f hc1) ?_
    refine WP.aloadN d14_14 rfl ?_
    refine WP.getfield (i := 0) (j := 19) d14_15 (hw _ m_37) rfl rfl rfl ?_
    refine WP.iload d14_18 rfl ?_
    obtain ⟨x2, hx2, h⟩ := Option.bind_eq_some_iff.mp h
    refine WP.iaload (i := 9) d14_20 rfl hx2 ?_
    rcases ite_e h with ⟨hc3, h⟩ | ⟨hc3, h⟩
    ·
      refine WP.ifN d14_21 (XT.i0_le_f hc3) ?_
      refine WP.iloadN d14_24 rfl ?_
      refine WP.aloadN d14_25 rfl ?_
      refine WP.getfield (i := 0) (j := 19) d14_26 (hw _ m_37) rfl rfl rfl ?_
      refine WP.iload d14_29 rfl ?_
      obtain ⟨x4, hx4, h⟩ := Option.bind_eq_some_iff.mp h
      refine WP.iaload (i := 9) d14_31 rfl hx4 ?_
      obtain ⟨hz5, h⟩ := nz_e h
      refine WP.idiv d14_32 hz5 ?_
      refine WP.iconst (1 : Int32) d14_33 rfl ?_
      refine WP.iadd d14_34 ?_
      refine WP.aloadN d14_35 rfl ?_
      refine WP.getfield (i := 0) (j := 19) d14_36 (hw _ m_37) rfl rfl rfl ?_
      refine WP.iload d14_39 rfl ?_
      obtain ⟨x6, hx6, h⟩ := Option.bind_eq_some_iff.mp h
      refine WP.iaload (i := 9) d14_41 rfl hx6 ?_
      refine WP.imul d14_42 ?_
      obtain ⟨x7, ex7, h⟩ := lt_e h
      refine WP.istore (L' := [.val (.ref 0), .val (.int v1), .unset, .val (.int v3), .val (.int v4), .val (.int x7)]) d14_43 (leb rfl) (by subst ex7; rfl) ?_
      refine WP.iload d14_45 rfl ?_
      refine WP.iloadN d14_47 rfl ?_
      rcases ite_e h with ⟨hc8, h⟩ | ⟨hc8, h⟩
      ·
        refine WP.icmpN d14_48 (XT.ii_ge_f hc8) ?_
        refine WP.iload d14_51 rfl ?_
        refine WP.istoreN (L' := [.val (.ref 0), .val (.int v1), .unset, .val (.int x7), .val (.int v4), .val (.int x7)]) d14_53 (leb rfl) rfl ?_
        exact WP.weak (L' := [.val (.ref 0), .val (.int v1), .unset, .val (.int x7), .val (.int v4), .unset]) ⟨rfl, rfl, rfl, rfl, trivial⟩ (ok14_54 l Z a0 hw n0 _ hk5 n v1 x7 v4 s _ h)
      ·
        refine WP.icmpY (pc' := 54) d14_48 (XT.ii_ge_t hc8) (by decide) rfl ?_
        exact WP.weak (L' := [.val (.ref 0), .val (.int v1), .unset, .val (.int v3), .val (.int v4), .unset]) ⟨rfl, rfl, rfl, rfl, trivial⟩ (ok14_54 l Z a0 hw n0 _ hk5 n v1 v3 v4 s _ h)
    ·
      refine WP.ifY (pc' := 54) d14_21 (XT.i0_le_t hc3) (by decide) rfl ?_
      exact WP.weak (L' := [.val (.ref 0), .val (.int v1), .unset, .val (.int v3), .val (.int v4), .unset]) ⟨rfl, rfl, rfl, rfl, trivial⟩ (ok14_54 l Z a0 hw n0 _ hk5 n v1 v3 v4 s _ h)
  ·
    refine WP.icmpY (pc' := 60) d14_11 (XT.ii_ge_t hc1) (by decide) rfl ?_
    refine WP.iloadN d14_60 rfl ?_
    refine WP.iloadN d14_61 rfl ?_
    rcases ite_e h with ⟨hc9, h⟩ | ⟨hc9, h⟩
    ·
      refine WP.icmpY (pc' := 69) d14_62 (XT.ii_gt_t hc9) (by decide) rfl ?_
      exact WP.weak (L' := [.unset, .unset, .unset, .val (.int v3), .unset, .unset]) ⟨rfl, trivial⟩ (ok14_69 l Z a0 hw n0 n v3 s _ h)
    ·
      refine WP.icmpN d14_62 (XT.ii_gt_f hc9) ?_
      refine WP.iloadN d14_65 rfl ?_
      refine WP.iconst (1 : Int32) d14_66 rfl ?_
      refine WP.iadd d14_67 ?_
      obtain ⟨x10, ex10, h⟩ := lt_e h
      refine WP.istoreN (L' := [.val (.ref 0), .val (.int v1), .unset, .val (.int x10), .val (.int v4), .unset]) d14_68 (leb rfl) (by subst ex10; rfl) ?_
      exact WP.weak (L' := [.unset, .unset, .unset, .val (.int x10), .unset, .unset]) ⟨rfl, trivial⟩ (ok14_69 l Z a0 hw n0 n x10 s _ h)
def f_nextReleaseAfter_5 : Nat → Int32 → Int32 → Int32 → St → Option (Int32)
  | 0 => fun _ _ _ _ => none
  | n + 1 => g_nextReleaseAfter_5 (f_nextReleaseAfter_5 n) n
theorem ok14_5 (l : Launch) (Z : State) (a0 : Array Value) (hw : HW a0 Z) (n0 : Nat) : ∀ (n : Nat) (v1 : Int32) (v3 : Int32) (v4 : Int32) (s : St) (r : Int32), f_nextReleaseAfter_5 n v1 v3 v4 s = some r → W14 l Z n0 (P14 s r) 0 0 5 [.val (.ref 0), .val (.int v1), .unset, .val (.int v3), .val (.int v4), .unset] [] (Hb 0 s)
  | 0, v1, v3, v4, s, r, h => nomatch (show none = some r from h)
  | n + 1, v1, v3, v4, s, r, h => okg14_5 l Z a0 hw n0 _ (ok14_5 l Z a0 hw n0 n) n v1 v3 v4 s r h
def f_nextReleaseAfter (n : Nat) (p1 : Int32) (p2 : Int32) (s : St) : Option (Int32) :=
  f_nextReleaseAfter_5 n p1 p2 (0 : Int32) s
set_option maxRecDepth 65536 in
set_option maxHeartbeats 4000000 in
theorem ok14 (l : Launch) (Z : State) (a0 : Array Value) (hw : HW a0 Z) (n : Nat) (p1 : Int32) (p2 : Int32) (s : St) (r : Int32) (h : f_nextReleaseAfter n p1 p2 s = some r) : CS l Z CN lay y14 prog_1_method_41_code 6 (some FieldType.int) R14 0 [.ref 0, .int p1, .int p2] (Hb 0 s) (P14 s r) := by
  refine CS.of_wp pn_cls (leb rfl) fun n0 => ?_
  show W14 l Z n0 (P14 s r) 0 0 0 [.val (.ref 0), .val (.int p1), .val (.int p2), .unset, .unset, .unset] [] (Hb 0 s)
  unfold f_nextReleaseAfter at h
  refine WP.iloadN d14_0 rfl ?_
  refine WP.istoreN (L' := [.val (.ref 0), .val (.int p1), .val (.int p2), .val (.int p2), .unset, .unset]) d14_1 (leb rfl) rfl ?_
  refine WP.iconst (0 : Int32) d14_2 rfl ?_
  refine WP.istore (L' := [.val (.ref 0), .val (.int p1), .val (.int p2), .val (.int p2), .val (.int (0 : Int32)), .unset]) d14_3 (leb rfl) rfl ?_
  exact WP.weak (L' := [.val (.ref 0), .val (.int p1), .unset, .val (.int p2), .val (.int (0 : Int32)), .unset]) ⟨rfl, rfl, rfl, rfl, trivial⟩ (ok14_5 l Z a0 hw n0 n p1 p2 (0 : Int32) s _ h)
theorem d8_0 : dc prog_1_method_34_code 0 (.aload_n 0) 1 := by decide +kernel
theorem d8_1 : dc prog_1_method_34_code 1 (.invokevirtual 145) 3 := by decide +kernel
theorem d8_4 : dc prog_1_method_34_code 4 (.iconst 0) 1 := by decide +kernel
theorem d8_5 : dc prog_1_method_34_code 5 (.istore_n 2) 1 := by decide +kernel
theorem d8_6 : dc prog_1_method_34_code 6 (.iconst 0) 1 := by decide +kernel
theorem d8_7 : dc prog_1_method_34_code 7 (.istore_n 3) 1 := by decide +kernel
theorem d8_8 : dc prog_1_method_34_code 8 (.iload_n 3) 1 := by decide +kernel
theorem d8_9 : dc prog_1_method_34_code 9 (.iload_n 1) 1 := by decide +kernel
theorem d8_10 : dc prog_1_method_34_code 10 (.if_icmp .gt 90) 3 := by decide +kernel
theorem d8_13 : dc prog_1_method_34_code 13 (.iload_n 3) 1 := by decide +kernel
theorem d8_14 : dc prog_1_method_34_code 14 (.sipush 2048) 3 := by decide +kernel
theorem d8_17 : dc prog_1_method_34_code 17 (.if_icmp .gt 83) 3 := by decide +kernel
theorem d8_20 : dc prog_1_method_34_code 20 (.aload_n 0) 1 := by decide +kernel
theorem d8_21 : dc prog_1_method_34_code 21 (.iload_n 3) 1 := by decide +kernel
theorem d8_22 : dc prog_1_method_34_code 22 (.invokevirtual 148) 3 := by decide +kernel
theorem d8_25 : dc prog_1_method_34_code 25 (.istore 4) 2 := by decide +kernel
theorem d8_27 : dc prog_1_method_34_code 27 (.iload 4) 2 := by decide +kernel
theorem d8_29 : dc prog_1_method_34_code 29 (.ifCond .lt 13) 3 := by decide +kernel
theorem d8_32 : dc prog_1_method_34_code 32 (.aload_n 0) 1 := by decide +kernel
theorem d8_33 : dc prog_1_method_34_code 33 (.iload_n 3) 1 := by decide +kernel
theorem d8_34 : dc prog_1_method_34_code 34 (.iload 4) 2 := by decide +kernel
theorem d8_36 : dc prog_1_method_34_code 36 (.iload_n 2) 1 := by decide +kernel
theorem d8_37 : dc prog_1_method_34_code 37 (.invokevirtual 151) 3 := by decide +kernel
theorem d8_40 : dc prog_1_method_34_code 40 (.iconst 2) 1 := by decide +kernel
theorem d8_41 : dc prog_1_method_34_code 41 (.ireturn) 1 := by decide +kernel
theorem d8_42 : dc prog_1_method_34_code 42 (.iload_n 3) 1 := by decide +kernel
theorem d8_43 : dc prog_1_method_34_code 43 (.iload_n 1) 1 := by decide +kernel
theorem d8_44 : dc prog_1_method_34_code 44 (.if_icmp .ne 6) 3 := by decide +kernel
theorem d8_47 : dc prog_1_method_34_code 47 (.goto 53) 3 := by decide +kernel
theorem d8_50 : dc prog_1_method_34_code 50 (.aload_n 0) 1 := by decide +kernel
theorem d8_51 : dc prog_1_method_34_code 51 (.iload_n 3) 1 := by decide +kernel
theorem d8_52 : dc prog_1_method_34_code 52 (.invokevirtual 155) 3 := by decide +kernel
theorem d8_55 : dc prog_1_method_34_code 55 (.aload_n 0) 1 := by decide +kernel
theorem d8_56 : dc prog_1_method_34_code 56 (.invokevirtual 158) 3 := by decide +kernel
theorem d8_59 : dc prog_1_method_34_code 59 (.ifCond .ne 6) 3 := by decide +kernel
theorem d8_62 : dc prog_1_method_34_code 62 (.iinc 2 1) 3 := by decide +kernel
theorem d8_65 : dc prog_1_method_34_code 65 (.aload_n 0) 1 := by decide +kernel
theorem d8_66 : dc prog_1_method_34_code 66 (.invokevirtual 162) 3 := by decide +kernel
theorem d8_69 : dc prog_1_method_34_code 69 (.ifCond .ne 25) 3 := by decide +kernel
theorem d8_72 : dc prog_1_method_34_code 72 (.aload_n 0) 1 := by decide +kernel
theorem d8_73 : dc prog_1_method_34_code 73 (.iload_n 3) 1 := by decide +kernel
theorem d8_74 : dc prog_1_method_34_code 74 (.iload_n 1) 1 := by decide +kernel
theorem d8_75 : dc prog_1_method_34_code 75 (.invokevirtual 165) 3 := by decide +kernel
theorem d8_78 : dc prog_1_method_34_code 78 (.istore 5) 2 := by decide +kernel
theorem d8_80 : dc prog_1_method_34_code 80 (.iload_n 2) 1 := by decide +kernel
theorem d8_81 : dc prog_1_method_34_code 81 (.iload 5) 2 := by decide +kernel
theorem d8_83 : dc prog_1_method_34_code 83 (.iload_n 3) 1 := by decide +kernel
theorem d8_84 : dc prog_1_method_34_code 84 (.isub) 1 := by decide +kernel
theorem d8_85 : dc prog_1_method_34_code 85 (.iconst 1) 1 := by decide +kernel
theorem d8_86 : dc prog_1_method_34_code 86 (.isub) 1 := by decide +kernel
theorem d8_87 : dc prog_1_method_34_code 87 (.iadd) 1 := by decide +kernel
theorem d8_88 : dc prog_1_method_34_code 88 (.istore_n 2) 1 := by decide +kernel
theorem d8_89 : dc prog_1_method_34_code 89 (.iload 5) 2 := by decide +kernel
theorem d8_91 : dc prog_1_method_34_code 91 (.iconst 1) 1 := by decide +kernel
theorem d8_92 : dc prog_1_method_34_code 92 (.isub) 1 := by decide +kernel
theorem d8_93 : dc prog_1_method_34_code 93 (.istore_n 3) 1 := by decide +kernel
theorem d8_94 : dc prog_1_method_34_code 94 (.iinc 3 1) 3 := by decide +kernel
theorem d8_97 : dc prog_1_method_34_code 97 (.goto (-89)) 3 := by decide +kernel
theorem d8_100 : dc prog_1_method_34_code 100 (.aload_n 0) 1 := by decide +kernel
theorem d8_101 : dc prog_1_method_34_code 101 (.iconst 0) 1 := by decide +kernel
theorem d8_102 : dc prog_1_method_34_code 102 (.iconst (-1)) 1 := by decide +kernel
theorem d8_103 : dc prog_1_method_34_code 103 (.iload_n 2) 1 := by decide +kernel
theorem d8_104 : dc prog_1_method_34_code 104 (.invokevirtual 151) 3 := by decide +kernel
theorem d8_107 : dc prog_1_method_34_code 107 (.iconst 1) 1 := by decide +kernel
theorem d8_108 : dc prog_1_method_34_code 108 (.ireturn) 1 := by decide +kernel
abbrev y8 : MethodName := ⟨"DemandGate", "runEdf", "(I)I"⟩
theorem hy8 : y8.cls ≠ "java/lang/invoke/MethodHandle" ∧ y8.cls ≠ "java/lang/invoke/VarHandle" := by decide
theorem pd8 : parseMethodDescriptor y8.desc = some ⟨[.int], some .int⟩ := by decide +kernel
abbrev R8 : Room := { frames := 1, cells := 0, slots := 0, locals := 17 }
abbrev P8 (r : Int32 × St) : Option Value → List OwnC → Prop := fun v H' => v = some (.int r.1) ∧ H' = (Hb 0 r.2)
abbrev W8 (l : Launch) (Z : State) (n0 : Nat) (Q : Option Value → List OwnC → Prop) (k n pc : Nat) (L : List Slot) (S : List Value) (H : List OwnC) : Prop := WP l Z CN lay "DemandGate" "runEdf" prog_1_method_34_code 6 (some FieldType.int) R8 n0 0 Q k n pc L S H
def f_runEdf_94 (k8 : Int32 → Int32 → Int32 → St → Option (Int32 × St)) (n : Nat) (v1 : Int32) (v2 : Int32) (v3 : Int32) (s : St) : Option (Int32 × St) :=
  lt (v3 + (1 : Int32)) fun x1 =>
  k8 v1 v2 x1 s
set_option maxRecDepth 65536 in
set_option maxHeartbeats 4000000 in
theorem ok8_94 (l : Launch) (Z : State) (a0 : Array Value) (hw : HW a0 Z) (n0 : Nat) (k8 : Int32 → Int32 → Int32 → St → Option (Int32 × St)) (hk8 : ∀ (v1 : Int32) (v2 : Int32) (v3 : Int32) (s : St) (r : Int32 × St), k8 v1 v2 v3 s = some r → W8 l Z n0 (P8 r) 0 0 8 [.val (.ref 0), .val (.int v1), .val (.int v2), .val (.int v3), .unset, .unset] [] (Hb 0 s)) (n : Nat) (v1 : Int32) (v2 : Int32) (v3 : Int32) (s : St) (r : Int32 × St) (h : f_runEdf_94 k8 n v1 v2 v3 s = some r) : W8 l Z n0 (P8 r) 0 0 94 [.val (.ref 0), .val (.int v1), .val (.int v2), .val (.int v3), .unset, .unset] [] (Hb 0 s) := by
  unfold f_runEdf_94 at h
  obtain ⟨x1, ex1, h⟩ := lt_e h
  refine WP.iinc (L' := [.val (.ref 0), .val (.int v1), .val (.int v2), .val (.int x1), .unset, .unset]) (1 : Int32) d8_94 rfl rfl (by subst ex1; rfl) ?_
  refine WP.goto (pc' := 8) d8_97 (by decide) rfl ?_
  exact WP.weak (L' := [.val (.ref 0), .val (.int v1), .val (.int v2), .val (.int x1), .unset, .unset]) ⟨rfl, rfl, rfl, rfl, trivial⟩ (hk8 v1 v2 x1 s _ h)
def f_runEdf_65 (k8 : Int32 → Int32 → Int32 → St → Option (Int32 × St)) (n : Nat) (v1 : Int32) (v2 : Int32) (v3 : Int32) (s : St) : Option (Int32 × St) :=
  (f_anyPending n s).bind fun c1 =>
  if c1 = 0 then
    (f_nextReleaseAfter n v3 v1 s).bind fun c3 =>
    lt (v2 + ((c3 - v3) - (1 : Int32))) fun x4 =>
    lt (c3 - (1 : Int32)) fun x5 =>
    f_runEdf_94 k8 n v1 x4 x5 s
  else
    f_runEdf_94 k8 n v1 v2 v3 s
set_option maxRecDepth 65536 in
set_option maxHeartbeats 4000000 in
theorem ok8_65 (l : Launch) (Z : State) (a0 : Array Value) (hw : HW a0 Z) (n0 : Nat) (k8 : Int32 → Int32 → Int32 → St → Option (Int32 × St)) (hk8 : ∀ (v1 : Int32) (v2 : Int32) (v3 : Int32) (s : St) (r : Int32 × St), k8 v1 v2 v3 s = some r → W8 l Z n0 (P8 r) 0 0 8 [.val (.ref 0), .val (.int v1), .val (.int v2), .val (.int v3), .unset, .unset] [] (Hb 0 s)) (n : Nat) (v1 : Int32) (v2 : Int32) (v3 : Int32) (s : St) (r : Int32 × St) (h : f_runEdf_65 k8 n v1 v2 v3 s = some r) : W8 l Z n0 (P8 r) 0 0 65 [.val (.ref 0), .val (.int v1), .val (.int v2), .val (.int v3), .unset, .unset] [] (Hb 0 s) := by
  unfold f_runEdf_65 at h
  refine WP.aloadN d8_65 rfl ?_
  obtain ⟨c1, hc1, h⟩ := Option.bind_eq_some_iff.mp h
  refine WP.callP (i := 0) (y := y13) (as := []) (S := []) d8_66 (hw _ m_106) (hw _ m_108) (hw _ m_12) (hw _ m_107) (hw _ m_109) (hw _ m_13) hy13 rfl (ok13 l Z a0 hw n s _ hc1) rfl (lenOf pd13 rfl) (leb rfl) (leb rfl) (leb rfl) (leb rfl) ?_
  rintro _ _ ⟨rfl, rfl⟩
  show W8 l Z n0 (P8 r) 0 0 69 [.val (.ref 0), .val (.int v1), .val (.int v2), .val (.int v3), .unset, .unset] [.int c1] (Hb 0 s)
  rcases ite_e h with ⟨hc2, h⟩ | ⟨hc2, h⟩
  ·
    refine WP.ifN d8_69 (XT.i0_ne_f hc2) ?_
    refine WP.aloadN d8_72 rfl ?_
    refine WP.iloadN d8_73 rfl ?_
    refine WP.iloadN d8_74 rfl ?_
    obtain ⟨c3, hc3, h⟩ := Option.bind_eq_some_iff.mp h
    refine WP.callP (i := 0) (y := y14) (as := [.int v3, .int v1]) (S := []) d8_75 (hw _ m_110) (hw _ m_112) (hw _ m_12) (hw _ m_111) (hw _ m_113) (hw _ m_13) hy14 rfl (ok14 l Z a0 hw n v3 v1 s _ hc3) rfl (lenOf pd14 rfl) (leb rfl) (leb rfl) (leb rfl) (leb rfl) ?_
    rintro _ _ ⟨rfl, rfl⟩
    show W8 l Z n0 (P8 r) 0 0 78 [.val (.ref 0), .val (.int v1), .val (.int v2), .val (.int v3), .unset, .unset] [.int c3] (Hb 0 s)
    refine WP.istore (L' := [.val (.ref 0), .val (.int v1), .val (.int v2), .val (.int v3), .unset, .val (.int c3)]) d8_78 (leb rfl) rfl ?_
    refine WP.iloadN d8_80 rfl ?_
    refine WP.iload d8_81 rfl ?_
    refine WP.iloadN d8_83 rfl ?_
    refine WP.isub d8_84 ?_
    refine WP.iconst (1 : Int32) d8_85 rfl ?_
    refine WP.isub d8_86 ?_
    refine WP.iadd d8_87 ?_
    obtain ⟨x4, ex4, h⟩ := lt_e h
    refine WP.istoreN (L' := [.val (.ref 0), .val (.int v1), .val (.int x4), .val (.int v3), .unset, .val (.int c3)]) d8_88 (leb rfl) (by subst ex4; rfl) ?_
    refine WP.iload d8_89 rfl ?_
    refine WP.iconst (1 : Int32) d8_91 rfl ?_
    refine WP.isub d8_92 ?_
    obtain ⟨x5, ex5, h⟩ := lt_e h
    refine WP.istoreN (L' := [.val (.ref 0), .val (.int v1), .val (.int x4), .val (.int x5), .unset, .val (.int c3)]) d8_93 (leb rfl) (by subst ex5; rfl) ?_
    exact WP.weak (L' := [.val (.ref 0), .val (.int v1), .val (.int x4), .val (.int x5), .unset, .unset]) ⟨rfl, rfl, rfl, rfl, trivial⟩ (ok8_94 l Z a0 hw n0 _ hk8 n v1 x4 x5 s _ h)
  ·
    refine WP.ifY (pc' := 94) d8_69 (XT.i0_ne_t hc2) (by decide) rfl ?_
    exact WP.weak (L' := [.val (.ref 0), .val (.int v1), .val (.int v2), .val (.int v3), .unset, .unset]) ⟨rfl, rfl, rfl, rfl, trivial⟩ (ok8_94 l Z a0 hw n0 _ hk8 n v1 v2 v3 s _ h)
def f_runEdf_100 (n : Nat) (v2 : Int32) (s : St) : Option (Int32 × St) :=
  (f_recordRun (0 : Int32) (-1 : Int32) v2 s).bind fun c1 =>
  some ((1 : Int32), c1)
set_option maxRecDepth 65536 in
set_option maxHeartbeats 4000000 in
theorem ok8_100 (l : Launch) (Z : State) (a0 : Array Value) (hw : HW a0 Z) (n0 : Nat) (n : Nat) (v2 : Int32) (s : St) (r : Int32 × St) (h : f_runEdf_100 n v2 s = some r) : W8 l Z n0 (P8 r) 0 0 100 [.val (.ref 0), .unset, .val (.int v2), .unset, .unset, .unset] [] (Hb 0 s) := by
  unfold f_runEdf_100 at h
  refine WP.aloadN d8_100 rfl ?_
  refine WP.iconst (0 : Int32) d8_101 rfl ?_
  refine WP.iconst (-1 : Int32) d8_102 rfl ?_
  refine WP.iloadN d8_103 rfl ?_
  obtain ⟨c1, hc1, h⟩ := Option.bind_eq_some_iff.mp h
  refine WP.callP (i := 0) (y := y15) (as := [.int (0 : Int32), .int (-1 : Int32), .int v2]) (S := []) d8_104 (hw _ m_114) (hw _ m_116) (hw _ m_12) (hw _ m_115) (hw _ m_117) (hw _ m_13) hy15 rfl (ok15 l Z a0 hw (0 : Int32) (-1 : Int32) v2 s _ hc1) rfl (lenOf pd15 rfl) (leb rfl) (leb rfl) (leb rfl) (leb rfl) ?_
  rintro _ _ ⟨rfl, rfl⟩
  show W8 l Z n0 (P8 r) 0 0 107 [.val (.ref 0), .unset, .val (.int v2), .unset, .unset, .unset] [] (Hb 0 c1)
  refine WP.iconst (1 : Int32) d8_107 rfl ?_
  cases h
  exact WP.ireturn d8_108 rfl (leb rfl) (leb rfl) ⟨rfl, rfl⟩
def g_runEdf_8 (k8 : Int32 → Int32 → Int32 → St → Option (Int32 × St)) (n : Nat) (v1 : Int32) (v2 : Int32) (v3 : Int32) (s : St) : Option (Int32 × St) :=
  if v1 < v3 then
    f_runEdf_100 n v2 s
  else
    if (2048 : Int32) < v3 then
      f_runEdf_100 n v2 s
    else
      (f_firstMissAt n v3 s).bind fun c3 =>
      if c3 < 0 then
        if v3 = v1 then
          f_runEdf_100 n v2 s
        else
          (f_releaseAt n v3 s).bind fun c6 =>
          (f_dispatchSlot n c6).bind fun c7 =>
          if c7.1 = 0 then
            lt (v2 + (1 : Int32)) fun x9 =>
            f_runEdf_65 k8 n v1 x9 v3 c7.2
          else
            f_runEdf_65 k8 n v1 v2 v3 c7.2
      else
        (f_recordRun v3 c3 v2 s).bind fun c10 =>
        some ((2 : Int32), c10)
set_option maxRecDepth 65536 in
set_option maxHeartbeats 4000000 in
theorem okg8_8 (l : Launch) (Z : State) (a0 : Array Value) (hw : HW a0 Z) (n0 : Nat) (k8 : Int32 → Int32 → Int32 → St → Option (Int32 × St)) (hk8 : ∀ (v1 : Int32) (v2 : Int32) (v3 : Int32) (s : St) (r : Int32 × St), k8 v1 v2 v3 s = some r → W8 l Z n0 (P8 r) 0 0 8 [.val (.ref 0), .val (.int v1), .val (.int v2), .val (.int v3), .unset, .unset] [] (Hb 0 s)) (n : Nat) (v1 : Int32) (v2 : Int32) (v3 : Int32) (s : St) (r : Int32 × St) (h : g_runEdf_8 k8 n v1 v2 v3 s = some r) : W8 l Z n0 (P8 r) 0 0 8 [.val (.ref 0), .val (.int v1), .val (.int v2), .val (.int v3), .unset, .unset] [] (Hb 0 s) := by
  unfold g_runEdf_8 at h
  refine WP.iloadN d8_8 rfl ?_
  refine WP.iloadN d8_9 rfl ?_
  rcases ite_e h with ⟨hc1, h⟩ | ⟨hc1, h⟩
  ·
    refine WP.icmpY (pc' := 100) d8_10 (XT.ii_gt_t hc1) (by decide) rfl ?_
    exact WP.weak (L' := [.val (.ref 0), .unset, .val (.int v2), .unset, .unset, .unset]) ⟨rfl, rfl, trivial⟩ (ok8_100 l Z a0 hw n0 n v2 s _ h)
  ·
    refine WP.icmpN d8_10 (XT.ii_gt_f hc1) ?_
    refine WP.iloadN d8_13 rfl ?_
    refine WP.sipush (2048 : Int32) d8_14 rfl ?_
    rcases ite_e h with ⟨hc2, h⟩ | ⟨hc2, h⟩
    ·
      refine WP.icmpY (pc' := 100) d8_17 (XT.ii_gt_t hc2) (by decide) rfl ?_
      exact WP.weak (L' := [.val (.ref 0), .unset, .val (.int v2), .unset, .unset, .unset]) ⟨rfl, rfl, trivial⟩ (ok8_100 l Z a0 hw n0 n v2 s _ h)
    ·
      refine WP.icmpN d8_17 (XT.ii_gt_f hc2) ?_
      refine WP.aloadN d8_20 rfl ?_
      refine WP.iloadN d8_21 rfl ?_
      obtain ⟨c3, hc3, h⟩ := Option.bind_eq_some_iff.mp h
      refine WP.callP (i := 0) (y := y10) (as := [.int v3]) (S := []) d8_22 (hw _ m_94) (hw _ m_96) (hw _ m_12) (hw _ m_95) (hw _ m_97) (hw _ m_13) hy10 rfl (ok10 l Z a0 hw n v3 s _ hc3) rfl (lenOf pd10 rfl) (leb rfl) (leb rfl) (leb rfl) (leb rfl) ?_
      rintro _ _ ⟨rfl, rfl⟩
      show W8 l Z n0 (P8 r) 0 0 25 [.val (.ref 0), .val (.int v1), .val (.int v2), .val (.int v3), .unset, .unset] [.int c3] (Hb 0 s)
      refine WP.istore (L' := [.val (.ref 0), .val (.int v1), .val (.int v2), .val (.int v3), .val (.int c3), .unset]) d8_25 (leb rfl) rfl ?_
      refine WP.iload d8_27 rfl ?_
      rcases ite_e h with ⟨hc4, h⟩ | ⟨hc4, h⟩
      ·
        refine WP.ifY (pc' := 42) d8_29 (XT.i0_lt_t hc4) (by decide) rfl ?_
        refine WP.iloadN d8_42 rfl ?_
        refine WP.iloadN d8_43 rfl ?_
        rcases ite_e h with ⟨hc5, h⟩ | ⟨hc5, h⟩
        ·
          refine WP.icmpN d8_44 (XT.ii_ne_f hc5) ?_
          refine WP.goto (pc' := 100) d8_47 (by decide) rfl ?_
          exact WP.weak (L' := [.val (.ref 0), .unset, .val (.int v2), .unset, .unset, .unset]) ⟨rfl, rfl, trivial⟩ (ok8_100 l Z a0 hw n0 n v2 s _ h)
        ·
          refine WP.icmpY (pc' := 50) d8_44 (XT.ii_ne_t hc5) (by decide) rfl ?_
          refine WP.aloadN d8_50 rfl ?_
          refine WP.iloadN d8_51 rfl ?_
          obtain ⟨c6, hc6, h⟩ := Option.bind_eq_some_iff.mp h
          refine WP.callP (i := 0) (y := y11) (as := [.int v3]) (S := []) d8_52 (hw _ m_98) (hw _ m_100) (hw _ m_12) (hw _ m_99) (hw _ m_101) (hw _ m_13) hy11 rfl (ok11 l Z a0 hw n v3 s _ hc6) rfl (lenOf pd11 rfl) (leb rfl) (leb rfl) (leb rfl) (leb rfl) ?_
          rintro _ _ ⟨rfl, rfl⟩
          show W8 l Z n0 (P8 r) 0 0 55 [.val (.ref 0), .val (.int v1), .val (.int v2), .val (.int v3), .val (.int c3), .unset] [] (Hb 0 c6)
          refine WP.aloadN d8_55 rfl ?_
          obtain ⟨c7, hc7, h⟩ := Option.bind_eq_some_iff.mp h
          refine WP.callP (i := 0) (y := y12) (as := []) (S := []) d8_56 (hw _ m_102) (hw _ m_104) (hw _ m_12) (hw _ m_103) (hw _ m_105) (hw _ m_13) hy12 rfl (ok12 l Z a0 hw n c6 _ hc7) rfl (lenOf pd12 rfl) (leb rfl) (leb rfl) (leb rfl) (leb rfl) ?_
          rintro _ _ ⟨rfl, rfl⟩
          show W8 l Z n0 (P8 r) 0 0 59 [.val (.ref 0), .val (.int v1), .val (.int v2), .val (.int v3), .val (.int c3), .unset] [.int c7.1] (Hb 0 c7.2)
          rcases ite_e h with ⟨hc8, h⟩ | ⟨hc8, h⟩
          ·
            refine WP.ifN d8_59 (XT.i0_ne_f hc8) ?_
            obtain ⟨x9, ex9, h⟩ := lt_e h
            refine WP.iinc (L' := [.val (.ref 0), .val (.int v1), .val (.int x9), .val (.int v3), .val (.int c3), .unset]) (1 : Int32) d8_62 rfl rfl (by subst ex9; rfl) ?_
            exact WP.weak (L' := [.val (.ref 0), .val (.int v1), .val (.int x9), .val (.int v3), .unset, .unset]) ⟨rfl, rfl, rfl, rfl, trivial⟩ (ok8_65 l Z a0 hw n0 _ hk8 n v1 x9 v3 c7.2 _ h)
          ·
            refine WP.ifY (pc' := 65) d8_59 (XT.i0_ne_t hc8) (by decide) rfl ?_
            exact WP.weak (L' := [.val (.ref 0), .val (.int v1), .val (.int v2), .val (.int v3), .unset, .unset]) ⟨rfl, rfl, rfl, rfl, trivial⟩ (ok8_65 l Z a0 hw n0 _ hk8 n v1 v2 v3 c7.2 _ h)
      ·
        refine WP.ifN d8_29 (XT.i0_lt_f hc4) ?_
        refine WP.aloadN d8_32 rfl ?_
        refine WP.iloadN d8_33 rfl ?_
        refine WP.iload d8_34 rfl ?_
        refine WP.iloadN d8_36 rfl ?_
        obtain ⟨c10, hc10, h⟩ := Option.bind_eq_some_iff.mp h
        refine WP.callP (i := 0) (y := y15) (as := [.int v3, .int c3, .int v2]) (S := []) d8_37 (hw _ m_114) (hw _ m_116) (hw _ m_12) (hw _ m_115) (hw _ m_117) (hw _ m_13) hy15 rfl (ok15 l Z a0 hw v3 c3 v2 s _ hc10) rfl (lenOf pd15 rfl) (leb rfl) (leb rfl) (leb rfl) (leb rfl) ?_
        rintro _ _ ⟨rfl, rfl⟩
        show W8 l Z n0 (P8 r) 0 0 40 [.val (.ref 0), .val (.int v1), .val (.int v2), .val (.int v3), .val (.int c3), .unset] [] (Hb 0 c10)
        refine WP.iconst (2 : Int32) d8_40 rfl ?_
        cases h
        exact WP.ireturn d8_41 rfl (leb rfl) (leb rfl) ⟨rfl, rfl⟩
def f_runEdf_8 : Nat → Int32 → Int32 → Int32 → St → Option (Int32 × St)
  | 0 => fun _ _ _ _ => none
  | n + 1 => g_runEdf_8 (f_runEdf_8 n) n
theorem ok8_8 (l : Launch) (Z : State) (a0 : Array Value) (hw : HW a0 Z) (n0 : Nat) : ∀ (n : Nat) (v1 : Int32) (v2 : Int32) (v3 : Int32) (s : St) (r : Int32 × St), f_runEdf_8 n v1 v2 v3 s = some r → W8 l Z n0 (P8 r) 0 0 8 [.val (.ref 0), .val (.int v1), .val (.int v2), .val (.int v3), .unset, .unset] [] (Hb 0 s)
  | 0, v1, v2, v3, s, r, h => nomatch (show none = some r from h)
  | n + 1, v1, v2, v3, s, r, h => okg8_8 l Z a0 hw n0 _ (ok8_8 l Z a0 hw n0 n) n v1 v2 v3 s r h
def f_runEdf (n : Nat) (p1 : Int32) (s : St) : Option (Int32 × St) :=
  (f_resetJobs n s).bind fun c1 =>
  f_runEdf_8 n p1 (0 : Int32) (0 : Int32) c1
set_option maxRecDepth 65536 in
set_option maxHeartbeats 4000000 in
theorem ok8 (l : Launch) (Z : State) (a0 : Array Value) (hw : HW a0 Z) (n : Nat) (p1 : Int32) (s : St) (r : Int32 × St) (h : f_runEdf n p1 s = some r) : CS l Z CN lay y8 prog_1_method_34_code 6 (some FieldType.int) R8 0 [.ref 0, .int p1] (Hb 0 s) (P8 r) := by
  refine CS.of_wp pn_cls (leb rfl) fun n0 => ?_
  show W8 l Z n0 (P8 r) 0 0 0 [.val (.ref 0), .val (.int p1), .unset, .unset, .unset, .unset] [] (Hb 0 s)
  unfold f_runEdf at h
  refine WP.aloadN d8_0 rfl ?_
  obtain ⟨c1, hc1, h⟩ := Option.bind_eq_some_iff.mp h
  refine WP.callP (i := 0) (y := y9) (as := []) (S := []) d8_1 (hw _ m_90) (hw _ m_92) (hw _ m_12) (hw _ m_91) (hw _ m_93) (hw _ m_13) hy9 rfl (ok9 l Z a0 hw n s _ hc1) rfl (lenOf pd9 rfl) (leb rfl) (leb rfl) (leb rfl) (leb rfl) ?_
  rintro _ _ ⟨rfl, rfl⟩
  show W8 l Z n0 (P8 r) 0 0 4 [.val (.ref 0), .val (.int p1), .unset, .unset, .unset, .unset] [] (Hb 0 c1)
  refine WP.iconst (0 : Int32) d8_4 rfl ?_
  refine WP.istoreN (L' := [.val (.ref 0), .val (.int p1), .val (.int (0 : Int32)), .unset, .unset, .unset]) d8_5 (leb rfl) rfl ?_
  refine WP.iconst (0 : Int32) d8_6 rfl ?_
  refine WP.istoreN (L' := [.val (.ref 0), .val (.int p1), .val (.int (0 : Int32)), .val (.int (0 : Int32)), .unset, .unset]) d8_7 (leb rfl) rfl ?_
  exact WP.weak (L' := [.val (.ref 0), .val (.int p1), .val (.int (0 : Int32)), .val (.int (0 : Int32)), .unset, .unset]) ⟨rfl, rfl, rfl, rfl, trivial⟩ (ok8_8 l Z a0 hw n0 n p1 (0 : Int32) (0 : Int32) c1 _ h)
theorem d5_0 : dc prog_1_method_14_code 0 (.iload_n 1) 1 := by decide +kernel
theorem d5_1 : dc prog_1_method_14_code 1 (.ifCond .eq 10) 3 := by decide +kernel
theorem d5_4 : dc prog_1_method_14_code 4 (.iload_n 1) 1 := by decide +kernel
theorem d5_5 : dc prog_1_method_14_code 5 (.iconst 1) 1 := by decide +kernel
theorem d5_6 : dc prog_1_method_14_code 6 (.if_icmp .eq 5) 3 := by decide +kernel
theorem d5_9 : dc prog_1_method_14_code 9 (.iconst 0) 1 := by decide +kernel
theorem d5_10 : dc prog_1_method_14_code 10 (.ireturn) 1 := by decide +kernel
theorem d5_11 : dc prog_1_method_14_code 11 (.iload_n 1) 1 := by decide +kernel
theorem d5_12 : dc prog_1_method_14_code 12 (.iconst 1) 1 := by decide +kernel
theorem d5_13 : dc prog_1_method_14_code 13 (.if_icmp .ne 12) 3 := by decide +kernel
theorem d5_16 : dc prog_1_method_14_code 16 (.aload_n 0) 1 := by decide +kernel
theorem d5_17 : dc prog_1_method_14_code 17 (.getfield 63) 3 := by decide +kernel
theorem d5_20 : dc prog_1_method_14_code 20 (.ifCond .ne 5) 3 := by decide +kernel
theorem d5_23 : dc prog_1_method_14_code 23 (.iconst 0) 1 := by decide +kernel
theorem d5_24 : dc prog_1_method_14_code 24 (.ireturn) 1 := by decide +kernel
theorem d5_25 : dc prog_1_method_14_code 25 (.iload_n 1) 1 := by decide +kernel
theorem d5_26 : dc prog_1_method_14_code 26 (.ifCond .ne 19) 3 := by decide +kernel
theorem d5_29 : dc prog_1_method_14_code 29 (.aload_n 0) 1 := by decide +kernel
theorem d5_30 : dc prog_1_method_14_code 30 (.invokevirtual 92) 3 := by decide +kernel
theorem d5_33 : dc prog_1_method_14_code 33 (.aload_n 0) 1 := by decide +kernel
theorem d5_34 : dc prog_1_method_14_code 34 (.aload_n 0) 1 := by decide +kernel
theorem d5_35 : dc prog_1_method_14_code 35 (.getfield 54) 3 := by decide +kernel
theorem d5_38 : dc prog_1_method_14_code 38 (.invokevirtual 98) 3 := by decide +kernel
theorem d5_41 : dc prog_1_method_14_code 41 (.istore_n 2) 1 := by decide +kernel
theorem d5_42 : dc prog_1_method_14_code 42 (.goto 12) 3 := by decide +kernel
theorem d5_45 : dc prog_1_method_14_code 45 (.aload_n 0) 1 := by decide +kernel
theorem d5_46 : dc prog_1_method_14_code 46 (.invokevirtual 116) 3 := by decide +kernel
theorem d5_49 : dc prog_1_method_14_code 49 (.aload_n 0) 1 := by decide +kernel
theorem d5_50 : dc prog_1_method_14_code 50 (.getfield 67) 3 := by decide +kernel
theorem d5_53 : dc prog_1_method_14_code 53 (.istore_n 2) 1 := by decide +kernel
theorem d5_54 : dc prog_1_method_14_code 54 (.iload_n 2) 1 := by decide +kernel
theorem d5_55 : dc prog_1_method_14_code 55 (.iconst 1) 1 := by decide +kernel
theorem d5_56 : dc prog_1_method_14_code 56 (.if_icmp .ge 5) 3 := by decide +kernel
theorem d5_59 : dc prog_1_method_14_code 59 (.iconst 1) 1 := by decide +kernel
theorem d5_60 : dc prog_1_method_14_code 60 (.istore_n 2) 1 := by decide +kernel
theorem d5_61 : dc prog_1_method_14_code 61 (.aload_n 0) 1 := by decide +kernel
theorem d5_62 : dc prog_1_method_14_code 62 (.iload_n 2) 1 := by decide +kernel
theorem d5_63 : dc prog_1_method_14_code 63 (.invokevirtual 119) 3 := by decide +kernel
theorem d5_66 : dc prog_1_method_14_code 66 (.ireturn) 1 := by decide +kernel
abbrev y5 : MethodName := ⟨"DemandGate", "simulate", "(I)I"⟩
theorem hy5 : y5.cls ≠ "java/lang/invoke/MethodHandle" ∧ y5.cls ≠ "java/lang/invoke/VarHandle" := by decide
theorem pd5 : parseMethodDescriptor y5.desc = some ⟨[.int], some .int⟩ := by decide +kernel
abbrev R5 : Room := { frames := 3, cells := 0, slots := 0, locals := 57 }
abbrev P5 (r : Int32 × St) : Option Value → List OwnC → Prop := fun v H' => v = some (.int r.1) ∧ H' = (Hb 0 r.2)
abbrev W5 (l : Launch) (Z : State) (n0 : Nat) (Q : Option Value → List OwnC → Prop) (k n pc : Nat) (L : List Slot) (S : List Value) (H : List OwnC) : Prop := WP l Z CN lay "DemandGate" "simulate" prog_1_method_14_code 3 (some FieldType.int) R5 n0 0 Q k n pc L S H
def f_simulate_61 (n : Nat) (v2 : Int32) (s : St) : Option (Int32 × St) :=
  (f_runEdf n v2 s).bind fun c1 =>
  some (c1.1, c1.2)
set_option maxRecDepth 65536 in
set_option maxHeartbeats 4000000 in
theorem ok5_61 (l : Launch) (Z : State) (a0 : Array Value) (hw : HW a0 Z) (n0 : Nat) (n : Nat) (v2 : Int32) (s : St) (r : Int32 × St) (h : f_simulate_61 n v2 s = some r) : W5 l Z n0 (P5 r) 0 0 61 [.val (.ref 0), .unset, .val (.int v2)] [] (Hb 0 s) := by
  unfold f_simulate_61 at h
  refine WP.aloadN d5_61 rfl ?_
  refine WP.iloadN d5_62 rfl ?_
  obtain ⟨c1, hc1, h⟩ := Option.bind_eq_some_iff.mp h
  refine WP.callP (i := 0) (y := y8) (as := [.int v2]) (S := []) d5_63 (hw _ m_86) (hw _ m_88) (hw _ m_12) (hw _ m_87) (hw _ m_89) (hw _ m_13) hy8 rfl (ok8 l Z a0 hw n v2 s _ hc1) rfl (lenOf pd8 rfl) (leb rfl) (leb rfl) (leb rfl) (leb rfl) ?_
  rintro _ _ ⟨rfl, rfl⟩
  show W5 l Z n0 (P5 r) 0 0 66 [.val (.ref 0), .unset, .val (.int v2)] [.int c1.1] (Hb 0 c1.2)
  cases h
  exact WP.ireturn d5_66 rfl (leb rfl) (leb rfl) ⟨rfl, rfl⟩
def f_simulate_54 (n : Nat) (v2 : Int32) (s : St) : Option (Int32 × St) :=
  if v2 < (1 : Int32) then
    f_simulate_61 n (1 : Int32) s
  else
    f_simulate_61 n v2 s
set_option maxRecDepth 65536 in
set_option maxHeartbeats 4000000 in
theorem ok5_54 (l : Launch) (Z : State) (a0 : Array Value) (hw : HW a0 Z) (n0 : Nat) (n : Nat) (v2 : Int32) (s : St) (r : Int32 × St) (h : f_simulate_54 n v2 s = some r) : W5 l Z n0 (P5 r) 0 0 54 [.val (.ref 0), .unset, .val (.int v2)] [] (Hb 0 s) := by
  unfold f_simulate_54 at h
  refine WP.iloadN d5_54 rfl ?_
  refine WP.iconst (1 : Int32) d5_55 rfl ?_
  rcases ite_e h with ⟨hc1, h⟩ | ⟨hc1, h⟩
  ·
    refine WP.icmpN d5_56 (XT.ii_ge_f hc1) ?_
    refine WP.iconst (1 : Int32) d5_59 rfl ?_
    refine WP.istoreN (L' := [.val (.ref 0), .unset, .val (.int (1 : Int32))]) d5_60 (leb rfl) rfl ?_
    exact WP.weak (L' := [.val (.ref 0), .unset, .val (.int (1 : Int32))]) ⟨rfl, rfl, trivial⟩ (ok5_61 l Z a0 hw n0 n (1 : Int32) s _ h)
  ·
    refine WP.icmpY (pc' := 61) d5_56 (XT.ii_ge_t hc1) (by decide) rfl ?_
    exact WP.weak (L' := [.val (.ref 0), .unset, .val (.int v2)]) ⟨rfl, rfl, trivial⟩ (ok5_61 l Z a0 hw n0 n v2 s _ h)
def f_simulate_25 (n : Nat) (v1 : Int32) (s : St) : Option (Int32 × St) :=
  if v1 = 0 then
    (f_loadAdmitted n s).bind fun c2 =>
    (f_workHyper n (gI c2 1) c2).bind fun c3 =>
    f_simulate_54 n c3 c2
  else
    (f_loadCandidate n s).bind fun c4 =>
    lt (gI c4 5) fun x5 =>
    f_simulate_54 n x5 c4
set_option maxRecDepth 65536 in
set_option maxHeartbeats 4000000 in
theorem ok5_25 (l : Launch) (Z : State) (a0 : Array Value) (hw : HW a0 Z) (n0 : Nat) (n : Nat) (v1 : Int32) (s : St) (r : Int32 × St) (h : f_simulate_25 n v1 s = some r) : W5 l Z n0 (P5 r) 0 0 25 [.val (.ref 0), .val (.int v1), .unset] [] (Hb 0 s) := by
  unfold f_simulate_25 at h
  refine WP.iloadN d5_25 rfl ?_
  rcases ite_e h with ⟨hc1, h⟩ | ⟨hc1, h⟩
  ·
    refine WP.ifN d5_26 (XT.i0_ne_f hc1) ?_
    refine WP.aloadN d5_29 rfl ?_
    obtain ⟨c2, hc2, h⟩ := Option.bind_eq_some_iff.mp h
    refine WP.callP (i := 0) (y := y6) (as := []) (S := []) d5_30 (hw _ m_78) (hw _ m_80) (hw _ m_12) (hw _ m_79) (hw _ m_81) (hw _ m_13) hy6 rfl (ok6 l Z a0 hw n s _ hc2) rfl (lenOf pd6 rfl) (leb rfl) (leb rfl) (leb rfl) (leb rfl) ?_
    rintro _ _ ⟨rfl, rfl⟩
    show W5 l Z n0 (P5 r) 0 0 33 [.val (.ref 0), .val (.int v1), .unset] [] (Hb 0 c2)
    refine WP.aloadN d5_33 rfl ?_
    refine WP.aloadN d5_34 rfl ?_
    refine WP.getfield (i := 0) (j := 1) d5_35 (hw _ m_51) rfl rfl rfl ?_
    obtain ⟨c3, hc3, h⟩ := Option.bind_eq_some_iff.mp h
    refine WP.callP (i := 0) (y := y7) (as := [.int (gI c2 1)]) (S := []) d5_38 (hw _ m_82) (hw _ m_84) (hw _ m_12) (hw _ m_83) (hw _ m_85) (hw _ m_13) hy7 rfl (ok7 l Z a0 hw n (gI c2 1) c2 _ hc3) rfl (lenOf pd7 rfl) (leb rfl) (leb rfl) (leb rfl) (leb rfl) ?_
    rintro _ _ ⟨rfl, rfl⟩
    show W5 l Z n0 (P5 r) 0 0 41 [.val (.ref 0), .val (.int v1), .unset] [.int c3] (Hb 0 c2)
    refine WP.istoreN (L' := [.val (.ref 0), .val (.int v1), .val (.int c3)]) d5_41 (leb rfl) rfl ?_
    refine WP.goto (pc' := 54) d5_42 (by decide) rfl ?_
    exact WP.weak (L' := [.val (.ref 0), .unset, .val (.int c3)]) ⟨rfl, rfl, trivial⟩ (ok5_54 l Z a0 hw n0 n c3 c2 _ h)
  ·
    refine WP.ifY (pc' := 45) d5_26 (XT.i0_ne_t hc1) (by decide) rfl ?_
    refine WP.aloadN d5_45 rfl ?_
    obtain ⟨c4, hc4, h⟩ := Option.bind_eq_some_iff.mp h
    refine WP.callP (i := 0) (y := y26) (as := []) (S := []) d5_46 (hw _ m_158) (hw _ m_160) (hw _ m_12) (hw _ m_159) (hw _ m_161) (hw _ m_13) hy26 rfl (ok26 l Z a0 hw n s _ hc4) rfl (lenOf pd26 rfl) (leb rfl) (leb rfl) (leb rfl) (leb rfl) ?_
    rintro _ _ ⟨rfl, rfl⟩
    show W5 l Z n0 (P5 r) 0 0 49 [.val (.ref 0), .val (.int v1), .unset] [] (Hb 0 c4)
    refine WP.aloadN d5_49 rfl ?_
    refine WP.getfield (i := 0) (j := 11) d5_50 (hw _ m_59) rfl rfl rfl ?_
    obtain ⟨x5, ex5, h⟩ := lt_e h
    refine WP.istoreN (L' := [.val (.ref 0), .val (.int v1), .val (.int x5)]) d5_53 (leb rfl) (by subst ex5; rfl) ?_
    exact WP.weak (L' := [.val (.ref 0), .unset, .val (.int x5)]) ⟨rfl, rfl, trivial⟩ (ok5_54 l Z a0 hw n0 n x5 c4 _ h)
def f_simulate_11 (n : Nat) (v1 : Int32) (s : St) : Option (Int32 × St) :=
  if v1 = (1 : Int32) then
    if (gI s 4) = 0 then
      some ((0 : Int32), s)
    else
      f_simulate_25 n v1 s
  else
    f_simulate_25 n v1 s
set_option maxRecDepth 65536 in
set_option maxHeartbeats 4000000 in
theorem ok5_11 (l : Launch) (Z : State) (a0 : Array Value) (hw : HW a0 Z) (n0 : Nat) (n : Nat) (v1 : Int32) (s : St) (r : Int32 × St) (h : f_simulate_11 n v1 s = some r) : W5 l Z n0 (P5 r) 0 0 11 [.val (.ref 0), .val (.int v1), .unset] [] (Hb 0 s) := by
  unfold f_simulate_11 at h
  refine WP.iloadN d5_11 rfl ?_
  refine WP.iconst (1 : Int32) d5_12 rfl ?_
  rcases ite_e h with ⟨hc1, h⟩ | ⟨hc1, h⟩
  ·
    refine WP.icmpN d5_13 (XT.ii_ne_f hc1) ?_
    refine WP.aloadN d5_16 rfl ?_
    refine WP.getfield (i := 0) (j := 10) d5_17 (hw _ m_57) rfl rfl rfl ?_
    rcases ite_e h with ⟨hc2, h⟩ | ⟨hc2, h⟩
    ·
      refine WP.ifN d5_20 (XT.i0_ne_f hc2) ?_
      refine WP.iconst (0 : Int32) d5_23 rfl ?_
      cases h
      exact WP.ireturn d5_24 rfl (leb rfl) (leb rfl) ⟨rfl, rfl⟩
    ·
      refine WP.ifY (pc' := 25) d5_20 (XT.i0_ne_t hc2) (by decide) rfl ?_
      exact WP.weak (L' := [.val (.ref 0), .val (.int v1), .unset]) ⟨rfl, rfl, trivial⟩ (ok5_25 l Z a0 hw n0 n v1 s _ h)
  ·
    refine WP.icmpY (pc' := 25) d5_13 (XT.ii_ne_t hc1) (by decide) rfl ?_
    exact WP.weak (L' := [.val (.ref 0), .val (.int v1), .unset]) ⟨rfl, rfl, trivial⟩ (ok5_25 l Z a0 hw n0 n v1 s _ h)
def f_simulate (n : Nat) (p1 : Int32) (s : St) : Option (Int32 × St) :=
  if p1 = 0 then
    f_simulate_11 n p1 s
  else
    if p1 = (1 : Int32) then
      f_simulate_11 n p1 s
    else
      some ((0 : Int32), s)
set_option maxRecDepth 65536 in
set_option maxHeartbeats 4000000 in
theorem ok5 (l : Launch) (Z : State) (a0 : Array Value) (hw : HW a0 Z) (n : Nat) (p1 : Int32) (s : St) (r : Int32 × St) (h : f_simulate n p1 s = some r) : CS l Z CN lay y5 prog_1_method_14_code 3 (some FieldType.int) R5 0 [.ref 0, .int p1] (Hb 0 s) (P5 r) := by
  refine CS.of_wp pn_cls (leb rfl) fun n0 => ?_
  show W5 l Z n0 (P5 r) 0 0 0 [.val (.ref 0), .val (.int p1), .unset] [] (Hb 0 s)
  unfold f_simulate at h
  refine WP.iloadN d5_0 rfl ?_
  rcases ite_e h with ⟨hc1, h⟩ | ⟨hc1, h⟩
  ·
    refine WP.ifY (pc' := 11) d5_1 (XT.i0_eq_t hc1) (by decide) rfl ?_
    exact WP.weak (L' := [.val (.ref 0), .val (.int p1), .unset]) ⟨rfl, rfl, trivial⟩ (ok5_11 l Z a0 hw n0 n p1 s _ h)
  ·
    refine WP.ifN d5_1 (XT.i0_eq_f hc1) ?_
    refine WP.iloadN d5_4 rfl ?_
    refine WP.iconst (1 : Int32) d5_5 rfl ?_
    rcases ite_e h with ⟨hc2, h⟩ | ⟨hc2, h⟩
    ·
      refine WP.icmpY (pc' := 11) d5_6 (XT.ii_eq_t hc2) (by decide) rfl ?_
      exact WP.weak (L' := [.val (.ref 0), .val (.int p1), .unset]) ⟨rfl, rfl, trivial⟩ (ok5_11 l Z a0 hw n0 n p1 s _ h)
    ·
      refine WP.icmpN d5_6 (XT.ii_eq_f hc2) ?_
      refine WP.iconst (0 : Int32) d5_9 rfl ?_
      cases h
      exact WP.ireturn d5_10 rfl (leb rfl) (leb rfl) ⟨rfl, rfl⟩
theorem d16_0 : dc method_4_code 0 (.iload_n 0) 1 := by decide +kernel
theorem d16_1 : dc method_4_code 1 (.invokestatic 8) 3 := by decide +kernel
theorem d16_4 : dc method_4_code 4 (.bipush 10) 2 := by decide +kernel
theorem d16_6 : dc method_4_code 6 (.irem) 1 := by decide +kernel
theorem d16_7 : dc method_4_code 7 (.istore_n 1) 1 := by decide +kernel
theorem d16_8 : dc method_4_code 8 (.iload_n 1) 1 := by decide +kernel
theorem d16_9 : dc method_4_code 9 (.ifCond .ne 5) 3 := by decide +kernel
theorem d16_12 : dc method_4_code 12 (.iconst 1) 1 := by decide +kernel
theorem d16_13 : dc method_4_code 13 (.ireturn) 1 := by decide +kernel
theorem d16_14 : dc method_4_code 14 (.iload_n 1) 1 := by decide +kernel
theorem d16_15 : dc method_4_code 15 (.iconst 1) 1 := by decide +kernel
theorem d16_16 : dc method_4_code 16 (.if_icmp .ne 5) 3 := by decide +kernel
theorem d16_19 : dc method_4_code 19 (.iconst 2) 1 := by decide +kernel
theorem d16_20 : dc method_4_code 20 (.ireturn) 1 := by decide +kernel
theorem d16_21 : dc method_4_code 21 (.iload_n 1) 1 := by decide +kernel
theorem d16_22 : dc method_4_code 22 (.iconst 2) 1 := by decide +kernel
theorem d16_23 : dc method_4_code 23 (.if_icmp .ne 5) 3 := by decide +kernel
theorem d16_26 : dc method_4_code 26 (.iconst 3) 1 := by decide +kernel
theorem d16_27 : dc method_4_code 27 (.ireturn) 1 := by decide +kernel
theorem d16_28 : dc method_4_code 28 (.iload_n 1) 1 := by decide +kernel
theorem d16_29 : dc method_4_code 29 (.iconst 3) 1 := by decide +kernel
theorem d16_30 : dc method_4_code 30 (.if_icmp .ne 5) 3 := by decide +kernel
theorem d16_33 : dc method_4_code 33 (.iconst 4) 1 := by decide +kernel
theorem d16_34 : dc method_4_code 34 (.ireturn) 1 := by decide +kernel
theorem d16_35 : dc method_4_code 35 (.iload_n 1) 1 := by decide +kernel
theorem d16_36 : dc method_4_code 36 (.iconst 4) 1 := by decide +kernel
theorem d16_37 : dc method_4_code 37 (.if_icmp .ne 5) 3 := by decide +kernel
theorem d16_40 : dc method_4_code 40 (.iconst 5) 1 := by decide +kernel
theorem d16_41 : dc method_4_code 41 (.ireturn) 1 := by decide +kernel
theorem d16_42 : dc method_4_code 42 (.iload_n 1) 1 := by decide +kernel
theorem d16_43 : dc method_4_code 43 (.iconst 5) 1 := by decide +kernel
theorem d16_44 : dc method_4_code 44 (.if_icmp .ne 6) 3 := by decide +kernel
theorem d16_47 : dc method_4_code 47 (.bipush 6) 2 := by decide +kernel
theorem d16_49 : dc method_4_code 49 (.ireturn) 1 := by decide +kernel
theorem d16_50 : dc method_4_code 50 (.iload_n 1) 1 := by decide +kernel
theorem d16_51 : dc method_4_code 51 (.bipush 6) 2 := by decide +kernel
theorem d16_53 : dc method_4_code 53 (.if_icmp .ne 6) 3 := by decide +kernel
theorem d16_56 : dc method_4_code 56 (.bipush 8) 2 := by decide +kernel
theorem d16_58 : dc method_4_code 58 (.ireturn) 1 := by decide +kernel
theorem d16_59 : dc method_4_code 59 (.iload_n 1) 1 := by decide +kernel
theorem d16_60 : dc method_4_code 60 (.bipush 7) 2 := by decide +kernel
theorem d16_62 : dc method_4_code 62 (.if_icmp .ne 6) 3 := by decide +kernel
theorem d16_65 : dc method_4_code 65 (.bipush 10) 2 := by decide +kernel
theorem d16_67 : dc method_4_code 67 (.ireturn) 1 := by decide +kernel
theorem d16_68 : dc method_4_code 68 (.iload_n 1) 1 := by decide +kernel
theorem d16_69 : dc method_4_code 69 (.bipush 8) 2 := by decide +kernel
theorem d16_71 : dc method_4_code 71 (.if_icmp .ne 6) 3 := by decide +kernel
theorem d16_74 : dc method_4_code 74 (.bipush 12) 2 := by decide +kernel
theorem d16_76 : dc method_4_code 76 (.ireturn) 1 := by decide +kernel
theorem d16_77 : dc method_4_code 77 (.bipush 16) 2 := by decide +kernel
theorem d16_79 : dc method_4_code 79 (.ireturn) 1 := by decide +kernel
abbrev y16 : MethodName := ⟨"DemandGateOwnLaw", "period", "(I)I"⟩
theorem hy16 : y16.cls ≠ "java/lang/invoke/MethodHandle" ∧ y16.cls ≠ "java/lang/invoke/VarHandle" := by decide
theorem pd16 : parseMethodDescriptor y16.desc = some ⟨[.int], some .int⟩ := by decide +kernel
abbrev R16 : Room := { frames := 1, cells := 0, slots := 0, locals := 12 }
abbrev P16 (r : Int32) : Option Value → List OwnC → Prop := fun v H' => v = some (.int r) ∧ H' = ([] : List OwnC)
abbrev W16 (l : Launch) (Z : State) (n0 : Nat) (Q : Option Value → List OwnC → Prop) (k n pc : Nat) (L : List Slot) (S : List Value) (H : List OwnC) : Prop := WP l Z CN lay "DemandGateOwnLaw" "period" method_4_code 2 (some FieldType.int) R16 n0 0 Q k n pc L S H
def f_L_period (p0 : Int32) : Option (Int32) :=
  (f_L_nz p0).bind fun c1 =>
  lt (c1 % (10 : Int32)) fun x2 =>
  if x2 = 0 then
    some (1 : Int32)
  else
    if x2 = (1 : Int32) then
      some (2 : Int32)
    else
      if x2 = (2 : Int32) then
        some (3 : Int32)
      else
        if x2 = (3 : Int32) then
          some (4 : Int32)
        else
          if x2 = (4 : Int32) then
            some (5 : Int32)
          else
            if x2 = (5 : Int32) then
              some (6 : Int32)
            else
              if x2 = (6 : Int32) then
                some (8 : Int32)
              else
                if x2 = (7 : Int32) then
                  some (10 : Int32)
                else
                  if x2 = (8 : Int32) then
                    some (12 : Int32)
                  else
                    some (16 : Int32)
set_option maxRecDepth 65536 in
set_option maxHeartbeats 4000000 in
theorem ok16 (l : Launch) (Z : State) (a0 : Array Value) (hw : HW a0 Z) (p0 : Int32) (r : Int32) (h : f_L_period p0 = some r) : CS l Z CN lay y16 method_4_code 2 (some FieldType.int) R16 0 [.int p0] ([] : List OwnC) (P16 r) := by
  refine CS.of_wp pn_law (leb rfl) fun n0 => ?_
  show W16 l Z n0 (P16 r) 0 0 0 [.val (.int p0), .unset] [] ([] : List OwnC)
  unfold f_L_period at h
  refine WP.iloadN d16_0 rfl ?_
  obtain ⟨c1, hc1, h⟩ := Option.bind_eq_some_iff.mp h
  refine WP.callS (y := y1) (as := [.int p0]) (S := []) d16_1 (hw _ m_4) (hw _ m_5) (hw _ m_2) (hw _ m_6) hy1 (ok1 l Z a0 hw p0 _ hc1) rfl (lenOf pd1 rfl) (leb rfl) (leb rfl) (leb rfl) (leb rfl) ?_
  rintro _ _ ⟨rfl, rfl⟩
  show W16 l Z n0 (P16 r) 0 0 4 [.val (.int p0), .unset] [.int c1] ([] : List OwnC)
  refine WP.bipush (10 : Int32) d16_4 rfl ?_
  refine WP.irem d16_6 (by decide) ?_
  obtain ⟨x2, ex2, h⟩ := lt_e h
  refine WP.istoreN (L' := [.val (.int p0), .val (.int x2)]) d16_7 (leb rfl) (by subst ex2; rfl) ?_
  refine WP.iloadN d16_8 rfl ?_
  rcases ite_e h with ⟨hc3, h⟩ | ⟨hc3, h⟩
  ·
    refine WP.ifN d16_9 (XT.i0_ne_f hc3) ?_
    refine WP.iconst (1 : Int32) d16_12 rfl ?_
    cases h
    exact WP.ireturn d16_13 rfl (leb rfl) (leb rfl) ⟨rfl, rfl⟩
  ·
    refine WP.ifY (pc' := 14) d16_9 (XT.i0_ne_t hc3) (by decide) rfl ?_
    refine WP.iloadN d16_14 rfl ?_
    refine WP.iconst (1 : Int32) d16_15 rfl ?_
    rcases ite_e h with ⟨hc4, h⟩ | ⟨hc4, h⟩
    ·
      refine WP.icmpN d16_16 (XT.ii_ne_f hc4) ?_
      refine WP.iconst (2 : Int32) d16_19 rfl ?_
      cases h
      exact WP.ireturn d16_20 rfl (leb rfl) (leb rfl) ⟨rfl, rfl⟩
    ·
      refine WP.icmpY (pc' := 21) d16_16 (XT.ii_ne_t hc4) (by decide) rfl ?_
      refine WP.iloadN d16_21 rfl ?_
      refine WP.iconst (2 : Int32) d16_22 rfl ?_
      rcases ite_e h with ⟨hc5, h⟩ | ⟨hc5, h⟩
      ·
        refine WP.icmpN d16_23 (XT.ii_ne_f hc5) ?_
        refine WP.iconst (3 : Int32) d16_26 rfl ?_
        cases h
        exact WP.ireturn d16_27 rfl (leb rfl) (leb rfl) ⟨rfl, rfl⟩
      ·
        refine WP.icmpY (pc' := 28) d16_23 (XT.ii_ne_t hc5) (by decide) rfl ?_
        refine WP.iloadN d16_28 rfl ?_
        refine WP.iconst (3 : Int32) d16_29 rfl ?_
        rcases ite_e h with ⟨hc6, h⟩ | ⟨hc6, h⟩
        ·
          refine WP.icmpN d16_30 (XT.ii_ne_f hc6) ?_
          refine WP.iconst (4 : Int32) d16_33 rfl ?_
          cases h
          exact WP.ireturn d16_34 rfl (leb rfl) (leb rfl) ⟨rfl, rfl⟩
        ·
          refine WP.icmpY (pc' := 35) d16_30 (XT.ii_ne_t hc6) (by decide) rfl ?_
          refine WP.iloadN d16_35 rfl ?_
          refine WP.iconst (4 : Int32) d16_36 rfl ?_
          rcases ite_e h with ⟨hc7, h⟩ | ⟨hc7, h⟩
          ·
            refine WP.icmpN d16_37 (XT.ii_ne_f hc7) ?_
            refine WP.iconst (5 : Int32) d16_40 rfl ?_
            cases h
            exact WP.ireturn d16_41 rfl (leb rfl) (leb rfl) ⟨rfl, rfl⟩
          ·
            refine WP.icmpY (pc' := 42) d16_37 (XT.ii_ne_t hc7) (by decide) rfl ?_
            refine WP.iloadN d16_42 rfl ?_
            refine WP.iconst (5 : Int32) d16_43 rfl ?_
            rcases ite_e h with ⟨hc8, h⟩ | ⟨hc8, h⟩
            ·
              refine WP.icmpN d16_44 (XT.ii_ne_f hc8) ?_
              refine WP.bipush (6 : Int32) d16_47 rfl ?_
              cases h
              exact WP.ireturn d16_49 rfl (leb rfl) (leb rfl) ⟨rfl, rfl⟩
            ·
              refine WP.icmpY (pc' := 50) d16_44 (XT.ii_ne_t hc8) (by decide) rfl ?_
              refine WP.iloadN d16_50 rfl ?_
              refine WP.bipush (6 : Int32) d16_51 rfl ?_
              rcases ite_e h with ⟨hc9, h⟩ | ⟨hc9, h⟩
              ·
                refine WP.icmpN d16_53 (XT.ii_ne_f hc9) ?_
                refine WP.bipush (8 : Int32) d16_56 rfl ?_
                cases h
                exact WP.ireturn d16_58 rfl (leb rfl) (leb rfl) ⟨rfl, rfl⟩
              ·
                refine WP.icmpY (pc' := 59) d16_53 (XT.ii_ne_t hc9) (by decide) rfl ?_
                refine WP.iloadN d16_59 rfl ?_
                refine WP.bipush (7 : Int32) d16_60 rfl ?_
                rcases ite_e h with ⟨hc10, h⟩ | ⟨hc10, h⟩
                ·
                  refine WP.icmpN d16_62 (XT.ii_ne_f hc10) ?_
                  refine WP.bipush (10 : Int32) d16_65 rfl ?_
                  cases h
                  exact WP.ireturn d16_67 rfl (leb rfl) (leb rfl) ⟨rfl, rfl⟩
                ·
                  refine WP.icmpY (pc' := 68) d16_62 (XT.ii_ne_t hc10) (by decide) rfl ?_
                  refine WP.iloadN d16_68 rfl ?_
                  refine WP.bipush (8 : Int32) d16_69 rfl ?_
                  rcases ite_e h with ⟨hc11, h⟩ | ⟨hc11, h⟩
                  ·
                    refine WP.icmpN d16_71 (XT.ii_ne_f hc11) ?_
                    refine WP.bipush (12 : Int32) d16_74 rfl ?_
                    cases h
                    exact WP.ireturn d16_76 rfl (leb rfl) (leb rfl) ⟨rfl, rfl⟩
                  ·
                    refine WP.icmpY (pc' := 77) d16_71 (XT.ii_ne_t hc11) (by decide) rfl ?_
                    refine WP.bipush (16 : Int32) d16_77 rfl ?_
                    cases h
                    exact WP.ireturn d16_79 rfl (leb rfl) (leb rfl) ⟨rfl, rfl⟩
theorem d18_0 : dc prog_1_method_19_code 0 (.iload_n 1) 1 := by decide +kernel
theorem d18_1 : dc prog_1_method_19_code 1 (.iconst 1) 1 := by decide +kernel
theorem d18_2 : dc prog_1_method_19_code 2 (.if_icmp .lt 10) 3 := by decide +kernel
theorem d18_5 : dc prog_1_method_19_code 5 (.iload_n 1) 1 := by decide +kernel
theorem d18_6 : dc prog_1_method_19_code 6 (.sipush 2048) 3 := by decide +kernel
theorem d18_9 : dc prog_1_method_19_code 9 (.if_icmp .le 5) 3 := by decide +kernel
theorem d18_12 : dc prog_1_method_19_code 12 (.iconst 0) 1 := by decide +kernel
theorem d18_13 : dc prog_1_method_19_code 13 (.ireturn) 1 := by decide +kernel
theorem d18_14 : dc prog_1_method_19_code 14 (.iload_n 3) 1 := by decide +kernel
theorem d18_15 : dc prog_1_method_19_code 15 (.iconst 1) 1 := by decide +kernel
theorem d18_16 : dc prog_1_method_19_code 16 (.if_icmp .lt 10) 3 := by decide +kernel
theorem d18_19 : dc prog_1_method_19_code 19 (.iload_n 3) 1 := by decide +kernel
theorem d18_20 : dc prog_1_method_19_code 20 (.sipush 2048) 3 := by decide +kernel
theorem d18_23 : dc prog_1_method_19_code 23 (.if_icmp .le 5) 3 := by decide +kernel
theorem d18_26 : dc prog_1_method_19_code 26 (.iconst 0) 1 := by decide +kernel
theorem d18_27 : dc prog_1_method_19_code 27 (.ireturn) 1 := by decide +kernel
theorem d18_28 : dc prog_1_method_19_code 28 (.iload_n 2) 1 := by decide +kernel
theorem d18_29 : dc prog_1_method_19_code 29 (.iconst 1) 1 := by decide +kernel
theorem d18_30 : dc prog_1_method_19_code 30 (.if_icmp .lt 12) 3 := by decide +kernel
theorem d18_33 : dc prog_1_method_19_code 33 (.iload_n 2) 1 := by decide +kernel
theorem d18_34 : dc prog_1_method_19_code 34 (.iload_n 3) 1 := by decide +kernel
theorem d18_35 : dc prog_1_method_19_code 35 (.if_icmp .gt 7) 3 := by decide +kernel
theorem d18_38 : dc prog_1_method_19_code 38 (.iconst 1) 1 := by decide +kernel
theorem d18_39 : dc prog_1_method_19_code 39 (.goto 4) 3 := by decide +kernel
theorem d18_42 : dc prog_1_method_19_code 42 (.iconst 0) 1 := by decide +kernel
theorem d18_43 : dc prog_1_method_19_code 43 (.ireturn) 1 := by decide +kernel
abbrev y18 : MethodName := ⟨"DemandGate", "validParams", "(III)Z"⟩
theorem hy18 : y18.cls ≠ "java/lang/invoke/MethodHandle" ∧ y18.cls ≠ "java/lang/invoke/VarHandle" := by decide
theorem pd18 : parseMethodDescriptor y18.desc = some ⟨[.int, .int, .int], some .boolean⟩ := by decide +kernel
abbrev R18 : Room := { frames := 0, cells := 0, slots := 0, locals := 0 }
abbrev P18 (s : St) (r : Int32) : Option Value → List OwnC → Prop := fun v H' => v = some (.int r) ∧ H' = (Hb 0 s)
abbrev W18 (l : Launch) (Z : State) (n0 : Nat) (Q : Option Value → List OwnC → Prop) (k n pc : Nat) (L : List Slot) (S : List Value) (H : List OwnC) : Prop := WP l Z CN lay "DemandGate" "validParams" prog_1_method_19_code 4 (some FieldType.boolean) R18 n0 0 Q k n pc L S H
def f_validParams_12 (s : St) : Option (Int32) :=
  some (0 : Int32)
set_option maxRecDepth 65536 in
set_option maxHeartbeats 4000000 in
theorem ok18_12 (l : Launch) (Z : State) (a0 : Array Value) (hw : HW a0 Z) (n0 : Nat) (s : St) (r : Int32) (h : f_validParams_12 s = some r) : W18 l Z n0 (P18 s r) 0 0 12 [.unset, .unset, .unset, .unset] [] (Hb 0 s) := by
  unfold f_validParams_12 at h
  refine WP.iconst (0 : Int32) d18_12 rfl ?_
  cases h
  exact WP.zreturn d18_13 rfl (leb rfl) (leb rfl) ⟨rfl, rfl⟩
def f_validParams_26 (s : St) : Option (Int32) :=
  some (0 : Int32)
set_option maxRecDepth 65536 in
set_option maxHeartbeats 4000000 in
theorem ok18_26 (l : Launch) (Z : State) (a0 : Array Value) (hw : HW a0 Z) (n0 : Nat) (s : St) (r : Int32) (h : f_validParams_26 s = some r) : W18 l Z n0 (P18 s r) 0 0 26 [.unset, .unset, .unset, .unset] [] (Hb 0 s) := by
  unfold f_validParams_26 at h
  refine WP.iconst (0 : Int32) d18_26 rfl ?_
  cases h
  exact WP.zreturn d18_27 rfl (leb rfl) (leb rfl) ⟨rfl, rfl⟩
def f_validParams_43 (t0 : Int32) (s : St) : Option (Int32) :=
  some (t0 &&& 1)
set_option maxRecDepth 65536 in
set_option maxHeartbeats 4000000 in
theorem ok18_43 (l : Launch) (Z : State) (a0 : Array Value) (hw : HW a0 Z) (n0 : Nat) (t0 : Int32) (s : St) (r : Int32) (h : f_validParams_43 t0 s = some r) : W18 l Z n0 (P18 s r) 0 0 43 [.unset, .unset, .unset, .unset] [.int t0] (Hb 0 s) := by
  unfold f_validParams_43 at h
  cases h
  exact WP.zreturn d18_43 rfl (leb rfl) (leb rfl) ⟨rfl, rfl⟩
def f_validParams_42 (s : St) : Option (Int32) :=
  f_validParams_43 (0 : Int32) s
set_option maxRecDepth 65536 in
set_option maxHeartbeats 4000000 in
theorem ok18_42 (l : Launch) (Z : State) (a0 : Array Value) (hw : HW a0 Z) (n0 : Nat) (s : St) (r : Int32) (h : f_validParams_42 s = some r) : W18 l Z n0 (P18 s r) 0 0 42 [.unset, .unset, .unset, .unset] [] (Hb 0 s) := by
  unfold f_validParams_42 at h
  refine WP.iconst (0 : Int32) d18_42 rfl ?_
  exact WP.weak (L' := [.unset, .unset, .unset, .unset]) trivial (ok18_43 l Z a0 hw n0 (0 : Int32) s _ h)
def f_validParams (p1 : Int32) (p2 : Int32) (p3 : Int32) (s : St) : Option (Int32) :=
  if p1 < (1 : Int32) then
    f_validParams_12 s
  else
    if (2048 : Int32) < p1 then
      f_validParams_12 s
    else
      if p3 < (1 : Int32) then
        f_validParams_26 s
      else
        if (2048 : Int32) < p3 then
          f_validParams_26 s
        else
          if p2 < (1 : Int32) then
            f_validParams_42 s
          else
            if p3 < p2 then
              f_validParams_42 s
            else
              f_validParams_43 (1 : Int32) s
set_option maxRecDepth 65536 in
set_option maxHeartbeats 4000000 in
theorem ok18 (l : Launch) (Z : State) (a0 : Array Value) (hw : HW a0 Z) (p1 : Int32) (p2 : Int32) (p3 : Int32) (s : St) (r : Int32) (h : f_validParams p1 p2 p3 s = some r) : CS l Z CN lay y18 prog_1_method_19_code 4 (some FieldType.boolean) R18 0 [.ref 0, .int p1, .int p2, .int p3] (Hb 0 s) (P18 s r) := by
  refine CS.of_wp pn_cls (leb rfl) fun n0 => ?_
  show W18 l Z n0 (P18 s r) 0 0 0 [.val (.ref 0), .val (.int p1), .val (.int p2), .val (.int p3)] [] (Hb 0 s)
  unfold f_validParams at h
  refine WP.iloadN d18_0 rfl ?_
  refine WP.iconst (1 : Int32) d18_1 rfl ?_
  rcases ite_e h with ⟨hc1, h⟩ | ⟨hc1, h⟩
  ·
    refine WP.icmpY (pc' := 12) d18_2 (XT.ii_lt_t hc1) (by decide) rfl ?_
    exact WP.weak (L' := [.unset, .unset, .unset, .unset]) trivial (ok18_12 l Z a0 hw n0 s _ h)
  ·
    refine WP.icmpN d18_2 (XT.ii_lt_f hc1) ?_
    refine WP.iloadN d18_5 rfl ?_
    refine WP.sipush (2048 : Int32) d18_6 rfl ?_
    rcases ite_e h with ⟨hc2, h⟩ | ⟨hc2, h⟩
    ·
      refine WP.icmpN d18_9 (XT.ii_le_f hc2) ?_
      exact WP.weak (L' := [.unset, .unset, .unset, .unset]) trivial (ok18_12 l Z a0 hw n0 s _ h)
    ·
      refine WP.icmpY (pc' := 14) d18_9 (XT.ii_le_t hc2) (by decide) rfl ?_
      refine WP.iloadN d18_14 rfl ?_
      refine WP.iconst (1 : Int32) d18_15 rfl ?_
      rcases ite_e h with ⟨hc3, h⟩ | ⟨hc3, h⟩
      ·
        refine WP.icmpY (pc' := 26) d18_16 (XT.ii_lt_t hc3) (by decide) rfl ?_
        exact WP.weak (L' := [.unset, .unset, .unset, .unset]) trivial (ok18_26 l Z a0 hw n0 s _ h)
      ·
        refine WP.icmpN d18_16 (XT.ii_lt_f hc3) ?_
        refine WP.iloadN d18_19 rfl ?_
        refine WP.sipush (2048 : Int32) d18_20 rfl ?_
        rcases ite_e h with ⟨hc4, h⟩ | ⟨hc4, h⟩
        ·
          refine WP.icmpN d18_23 (XT.ii_le_f hc4) ?_
          exact WP.weak (L' := [.unset, .unset, .unset, .unset]) trivial (ok18_26 l Z a0 hw n0 s _ h)
        ·
          refine WP.icmpY (pc' := 28) d18_23 (XT.ii_le_t hc4) (by decide) rfl ?_
          refine WP.iloadN d18_28 rfl ?_
          refine WP.iconst (1 : Int32) d18_29 rfl ?_
          rcases ite_e h with ⟨hc5, h⟩ | ⟨hc5, h⟩
          ·
            refine WP.icmpY (pc' := 42) d18_30 (XT.ii_lt_t hc5) (by decide) rfl ?_
            exact WP.weak (L' := [.unset, .unset, .unset, .unset]) trivial (ok18_42 l Z a0 hw n0 s _ h)
          ·
            refine WP.icmpN d18_30 (XT.ii_lt_f hc5) ?_
            refine WP.iloadN d18_33 rfl ?_
            refine WP.iloadN d18_34 rfl ?_
            rcases ite_e h with ⟨hc6, h⟩ | ⟨hc6, h⟩
            ·
              refine WP.icmpY (pc' := 42) d18_35 (XT.ii_gt_t hc6) (by decide) rfl ?_
              exact WP.weak (L' := [.unset, .unset, .unset, .unset]) trivial (ok18_42 l Z a0 hw n0 s _ h)
            ·
              refine WP.icmpN d18_35 (XT.ii_gt_f hc6) ?_
              refine WP.iconst (1 : Int32) d18_38 rfl ?_
              refine WP.goto (pc' := 43) d18_39 (by decide) rfl ?_
              exact WP.weak (L' := [.unset, .unset, .unset, .unset]) trivial (ok18_43 l Z a0 hw n0 (1 : Int32) s _ h)
theorem d22_0 : dc prog_1_method_23_code 0 (.aload_n 0) 1 := by decide +kernel
theorem d22_1 : dc prog_1_method_23_code 1 (.iconst 0) 1 := by decide +kernel
theorem d22_2 : dc prog_1_method_23_code 2 (.putfield 60) 3 := by decide +kernel
theorem d22_5 : dc prog_1_method_23_code 5 (.iconst 0) 1 := by decide +kernel
theorem d22_6 : dc prog_1_method_23_code 6 (.istore_n 2) 1 := by decide +kernel
theorem d22_7 : dc prog_1_method_23_code 7 (.iload_n 2) 1 := by decide +kernel
theorem d22_8 : dc prog_1_method_23_code 8 (.aload_n 0) 1 := by decide +kernel
theorem d22_9 : dc prog_1_method_23_code 9 (.getfield 85) 3 := by decide +kernel
theorem d22_12 : dc prog_1_method_23_code 12 (.if_icmp .ge 61) 3 := by decide +kernel
theorem d22_15 : dc prog_1_method_23_code 15 (.iload_n 2) 1 := by decide +kernel
theorem d22_16 : dc prog_1_method_23_code 16 (.bipush 12) 2 := by decide +kernel
theorem d22_18 : dc prog_1_method_23_code 18 (.if_icmp .ge 55) 3 := by decide +kernel
theorem d22_21 : dc prog_1_method_23_code 21 (.aload_n 0) 1 := by decide +kernel
theorem d22_22 : dc prog_1_method_23_code 22 (.getfield 19) 3 := by decide +kernel
theorem d22_25 : dc prog_1_method_23_code 25 (.iload_n 2) 1 := by decide +kernel
theorem d22_26 : dc prog_1_method_23_code 26 (.aload_n 0) 1 := by decide +kernel
theorem d22_27 : dc prog_1_method_23_code 27 (.getfield 28) 3 := by decide +kernel
theorem d22_30 : dc prog_1_method_23_code 30 (.iload_n 2) 1 := by decide +kernel
theorem d22_31 : dc prog_1_method_23_code 31 (.iaload) 1 := by decide +kernel
theorem d22_32 : dc prog_1_method_23_code 32 (.iastore) 1 := by decide +kernel
theorem d22_33 : dc prog_1_method_23_code 33 (.aload_n 0) 1 := by decide +kernel
theorem d22_34 : dc prog_1_method_23_code 34 (.getfield 22) 3 := by decide +kernel
theorem d22_37 : dc prog_1_method_23_code 37 (.iload_n 2) 1 := by decide +kernel
theorem d22_38 : dc prog_1_method_23_code 38 (.aload_n 0) 1 := by decide +kernel
theorem d22_39 : dc prog_1_method_23_code 39 (.getfield 31) 3 := by decide +kernel
theorem d22_42 : dc prog_1_method_23_code 42 (.iload_n 2) 1 := by decide +kernel
theorem d22_43 : dc prog_1_method_23_code 43 (.iaload) 1 := by decide +kernel
theorem d22_44 : dc prog_1_method_23_code 44 (.iastore) 1 := by decide +kernel
theorem d22_45 : dc prog_1_method_23_code 45 (.aload_n 0) 1 := by decide +kernel
theorem d22_46 : dc prog_1_method_23_code 46 (.getfield 25) 3 := by decide +kernel
theorem d22_49 : dc prog_1_method_23_code 49 (.iload_n 2) 1 := by decide +kernel
theorem d22_50 : dc prog_1_method_23_code 50 (.aload_n 0) 1 := by decide +kernel
theorem d22_51 : dc prog_1_method_23_code 51 (.getfield 34) 3 := by decide +kernel
theorem d22_54 : dc prog_1_method_23_code 54 (.iload_n 2) 1 := by decide +kernel
theorem d22_55 : dc prog_1_method_23_code 55 (.iaload) 1 := by decide +kernel
theorem d22_56 : dc prog_1_method_23_code 56 (.iastore) 1 := by decide +kernel
theorem d22_57 : dc prog_1_method_23_code 57 (.aload_n 0) 1 := by decide +kernel
theorem d22_58 : dc prog_1_method_23_code 58 (.dup) 1 := by decide +kernel
theorem d22_59 : dc prog_1_method_23_code 59 (.getfield 60) 3 := by decide +kernel
theorem d22_62 : dc prog_1_method_23_code 62 (.iconst 1) 1 := by decide +kernel
theorem d22_63 : dc prog_1_method_23_code 63 (.iadd) 1 := by decide +kernel
theorem d22_64 : dc prog_1_method_23_code 64 (.putfield 60) 3 := by decide +kernel
theorem d22_67 : dc prog_1_method_23_code 67 (.iinc 2 1) 3 := by decide +kernel
theorem d22_70 : dc prog_1_method_23_code 70 (.goto (-63)) 3 := by decide +kernel
theorem d22_73 : dc prog_1_method_23_code 73 (.aload_n 0) 1 := by decide +kernel
theorem d22_74 : dc prog_1_method_23_code 74 (.iconst 1) 1 := by decide +kernel
theorem d22_75 : dc prog_1_method_23_code 75 (.putfield 63) 3 := by decide +kernel
theorem d22_78 : dc prog_1_method_23_code 78 (.aload_n 0) 1 := by decide +kernel
theorem d22_79 : dc prog_1_method_23_code 79 (.iload_n 1) 1 := by decide +kernel
theorem d22_80 : dc prog_1_method_23_code 80 (.putfield 67) 3 := by decide +kernel
theorem d22_83 : dc prog_1_method_23_code 83 (.return_) 1 := by decide +kernel
abbrev y22 : MethodName := ⟨"DemandGate", "storeCandidate", "(I)V"⟩
theorem hy22 : y22.cls ≠ "java/lang/invoke/MethodHandle" ∧ y22.cls ≠ "java/lang/invoke/VarHandle" := by decide
theorem pd22 : parseMethodDescriptor y22.desc = some ⟨[.int], none⟩ := by decide +kernel
abbrev R22 : Room := { frames := 0, cells := 0, slots := 0, locals := 0 }
abbrev P22 (r : St) : Option Value → List OwnC → Prop := fun v H' => v = none ∧ H' = (Hb 0 r)
abbrev W22 (l : Launch) (Z : State) (n0 : Nat) (Q : Option Value → List OwnC → Prop) (k n pc : Nat) (L : List Slot) (S : List Value) (H : List OwnC) : Prop := WP l Z CN lay "DemandGate" "storeCandidate" prog_1_method_23_code 3 (none) R22 n0 0 Q k n pc L S H
def f_storeCandidate_73 (n : Nat) (v1 : Int32) (s : St) : Option (St) :=
  lt (sI s 4 (1 : Int32)) fun s1 =>
  lt (sI s1 5 v1) fun s2 =>
  some s2
set_option maxRecDepth 65536 in
set_option maxHeartbeats 4000000 in
theorem ok22_73 (l : Launch) (Z : State) (a0 : Array Value) (hw : HW a0 Z) (n0 : Nat) (n : Nat) (v1 : Int32) (s : St) (r : St) (h : f_storeCandidate_73 n v1 s = some r) : W22 l Z n0 (P22 r) 0 0 73 [.val (.ref 0), .val (.int v1), .unset] [] (Hb 0 s) := by
  unfold f_storeCandidate_73 at h
  refine WP.aloadN d22_73 rfl ?_
  refine WP.iconst (1 : Int32) d22_74 rfl ?_
  obtain ⟨s1, es1, h⟩ := lt_e h
  refine WP.putZ (i := 0) (j := 10) (H' := (Hb 0 s1)) d22_75 (hw _ m_57) (Or.inl (hw _ m_58)) (hw _ m_12) (hlay hw) rfl rfl rfl (leb rfl) (by subst es1; rfl) ?_
  refine WP.aloadN d22_78 rfl ?_
  refine WP.iloadN d22_79 rfl ?_
  obtain ⟨s2, es2, h⟩ := lt_e h
  refine WP.putI (i := 0) (j := 11) (H' := (Hb 0 s2)) d22_80 (hw _ m_59) (Or.inl (hw _ m_60)) (hw _ m_12) (hlay hw) rfl rfl rfl (leb rfl) (by subst es2; rfl) ?_
  cases h
  exact WP.vreturn d22_83 rfl (leb rfl) (leb rfl) ⟨rfl, rfl⟩
def g_storeCandidate_7 (k7 : Int32 → Int32 → St → Option (St)) (n : Nat) (v1 : Int32) (v2 : Int32) (s : St) : Option (St) :=
  if v2 < (gI s 11) then
    if v2 < (12 : Int32) then
      (rd (gA s 6) v2).bind fun x3 =>
      (wrA s 3 v2 x3).bind fun s4 =>
      (rd (gA s4 7) v2).bind fun x5 =>
      (wrA s4 4 v2 x5).bind fun s6 =>
      (rd (gA s6 8) v2).bind fun x7 =>
      (wrA s6 5 v2 x7).bind fun s8 =>
      lt (sI s8 3 ((gI s8 3) + (1 : Int32))) fun s9 =>
      lt (v2 + (1 : Int32)) fun x10 =>
      k7 v1 x10 s9
    else
      f_storeCandidate_73 n v1 s
  else
    f_storeCandidate_73 n v1 s
set_option maxRecDepth 65536 in
set_option maxHeartbeats 4000000 in
theorem okg22_7 (l : Launch) (Z : State) (a0 : Array Value) (hw : HW a0 Z) (n0 : Nat) (k7 : Int32 → Int32 → St → Option (St)) (hk7 : ∀ (v1 : Int32) (v2 : Int32) (s : St) (r : St), k7 v1 v2 s = some r → W22 l Z n0 (P22 r) 0 0 7 [.val (.ref 0), .val (.int v1), .val (.int v2)] [] (Hb 0 s)) (n : Nat) (v1 : Int32) (v2 : Int32) (s : St) (r : St) (h : g_storeCandidate_7 k7 n v1 v2 s = some r) : W22 l Z n0 (P22 r) 0 0 7 [.val (.ref 0), .val (.int v1), .val (.int v2)] [] (Hb 0 s) := by
  unfold g_storeCandidate_7 at h
  refine WP.iloadN d22_7 rfl ?_
  refine WP.aloadN d22_8 rfl ?_
  refine WP.getfield (i := 0) (j := 20) d22_9 (hw _ m_71) rfl rfl rfl ?_
  rcases ite_e h with ⟨hc1, h⟩ | ⟨hc1, h⟩
  ·
    refine WP.icmpN d22_12 (XT.ii_ge_f hc1) ?_
    refine WP.iloadN d22_15 rfl ?_
    refine WP.bipush (12 : Int32) d22_16 rfl ?_
    rcases ite_e h with ⟨hc2, h⟩ | ⟨hc2, h⟩
    ·
      refine WP.icmpN d22_18 (XT.ii_ge_f hc2) ?_
      refine WP.aloadN d22_21 rfl ?_
      refine WP.getfield (i := 0) (j := 6) d22_22 (hw _ m_27) rfl rfl rfl ?_
      refine WP.iloadN d22_25 rfl ?_
      refine WP.aloadN d22_26 rfl ?_
      refine WP.getfield (i := 0) (j := 17) d22_27 (hw _ m_33) rfl rfl rfl ?_
      refine WP.iloadN d22_30 rfl ?_
      obtain ⟨x3, hx3, h⟩ := Option.bind_eq_some_iff.mp h
      refine WP.iaload (i := 7) d22_31 rfl hx3 ?_
      obtain ⟨s4, hs4, h⟩ := Option.bind_eq_some_iff.mp h
      obtain ⟨ys4, gs4, es4⟩ := wrA_e hs4
      refine WP.iastore (i := 4) (xs := gA s 3) (H' := (Hb 0 s4)) d22_32 rfl (leb rfl) gs4 (by subst es4; rfl) ?_
      refine WP.aloadN d22_33 rfl ?_
      refine WP.getfield (i := 0) (j := 7) d22_34 (hw _ m_29) rfl rfl rfl ?_
      refine WP.iloadN d22_37 rfl ?_
      refine WP.aloadN d22_38 rfl ?_
      refine WP.getfield (i := 0) (j := 18) d22_39 (hw _ m_35) rfl rfl rfl ?_
      refine WP.iloadN d22_42 rfl ?_
      obtain ⟨x5, hx5, h⟩ := Option.bind_eq_some_iff.mp h
      refine WP.iaload (i := 8) d22_43 rfl hx5 ?_
      obtain ⟨s6, hs6, h⟩ := Option.bind_eq_some_iff.mp h
      obtain ⟨ys6, gs6, es6⟩ := wrA_e hs6
      refine WP.iastore (i := 5) (xs := gA s4 4) (H' := (Hb 0 s6)) d22_44 rfl (leb rfl) gs6 (by subst es6; rfl) ?_
      refine WP.aloadN d22_45 rfl ?_
      refine WP.getfield (i := 0) (j := 8) d22_46 (hw _ m_31) rfl rfl rfl ?_
      refine WP.iloadN d22_49 rfl ?_
      refine WP.aloadN d22_50 rfl ?_
      refine WP.getfield (i := 0) (j := 19) d22_51 (hw _ m_37) rfl rfl rfl ?_
      refine WP.iloadN d22_54 rfl ?_
      obtain ⟨x7, hx7, h⟩ := Option.bind_eq_some_iff.mp h
      refine WP.iaload (i := 9) d22_55 rfl hx7 ?_
      obtain ⟨s8, hs8, h⟩ := Option.bind_eq_some_iff.mp h
      obtain ⟨ys8, gs8, es8⟩ := wrA_e hs8
      refine WP.iastore (i := 6) (xs := gA s6 5) (H' := (Hb 0 s8)) d22_56 rfl (leb rfl) gs8 (by subst es8; rfl) ?_
      refine WP.aloadN d22_57 rfl ?_
      refine WP.dup d22_58 rfl ?_
      refine WP.getfield (i := 0) (j := 9) d22_59 (hw _ m_55) rfl rfl rfl ?_
      refine WP.iconst (1 : Int32) d22_62 rfl ?_
      refine WP.iadd d22_63 ?_
      obtain ⟨s9, es9, h⟩ := lt_e h
      refine WP.putI (i := 0) (j := 9) (H' := (Hb 0 s9)) d22_64 (hw _ m_55) (Or.inl (hw _ m_56)) (hw _ m_12) (hlay hw) rfl rfl rfl (leb rfl) (by subst es9; rfl) ?_
      obtain ⟨x10, ex10, h⟩ := lt_e h
      refine WP.iinc (L' := [.val (.ref 0), .val (.int v1), .val (.int x10)]) (1 : Int32) d22_67 rfl rfl (by subst ex10; rfl) ?_
      refine WP.goto (pc' := 7) d22_70 (by decide) rfl ?_
      exact WP.weak (L' := [.val (.ref 0), .val (.int v1), .val (.int x10)]) ⟨rfl, rfl, rfl, trivial⟩ (hk7 v1 x10 s9 _ h)
    ·
      refine WP.icmpY (pc' := 73) d22_18 (XT.ii_ge_t hc2) (by decide) rfl ?_
      exact WP.weak (L' := [.val (.ref 0), .val (.int v1), .unset]) ⟨rfl, rfl, trivial⟩ (ok22_73 l Z a0 hw n0 n v1 s _ h)
  ·
    refine WP.icmpY (pc' := 73) d22_12 (XT.ii_ge_t hc1) (by decide) rfl ?_
    exact WP.weak (L' := [.val (.ref 0), .val (.int v1), .unset]) ⟨rfl, rfl, trivial⟩ (ok22_73 l Z a0 hw n0 n v1 s _ h)
def f_storeCandidate_7 : Nat → Int32 → Int32 → St → Option (St)
  | 0 => fun _ _ _ => none
  | n + 1 => g_storeCandidate_7 (f_storeCandidate_7 n) n
theorem ok22_7 (l : Launch) (Z : State) (a0 : Array Value) (hw : HW a0 Z) (n0 : Nat) : ∀ (n : Nat) (v1 : Int32) (v2 : Int32) (s : St) (r : St), f_storeCandidate_7 n v1 v2 s = some r → W22 l Z n0 (P22 r) 0 0 7 [.val (.ref 0), .val (.int v1), .val (.int v2)] [] (Hb 0 s)
  | 0, v1, v2, s, r, h => nomatch (show none = some r from h)
  | n + 1, v1, v2, s, r, h => okg22_7 l Z a0 hw n0 _ (ok22_7 l Z a0 hw n0 n) n v1 v2 s r h
def f_storeCandidate (n : Nat) (p1 : Int32) (s : St) : Option (St) :=
  lt (sI s 3 (0 : Int32)) fun s1 =>
  f_storeCandidate_7 n p1 (0 : Int32) s1
set_option maxRecDepth 65536 in
set_option maxHeartbeats 4000000 in
theorem ok22 (l : Launch) (Z : State) (a0 : Array Value) (hw : HW a0 Z) (n : Nat) (p1 : Int32) (s : St) (r : St) (h : f_storeCandidate n p1 s = some r) : CS l Z CN lay y22 prog_1_method_23_code 3 (none) R22 0 [.ref 0, .int p1] (Hb 0 s) (P22 r) := by
  refine CS.of_wp pn_cls (leb rfl) fun n0 => ?_
  show W22 l Z n0 (P22 r) 0 0 0 [.val (.ref 0), .val (.int p1), .unset] [] (Hb 0 s)
  unfold f_storeCandidate at h
  refine WP.aloadN d22_0 rfl ?_
  refine WP.iconst (0 : Int32) d22_1 rfl ?_
  obtain ⟨s1, es1, h⟩ := lt_e h
  refine WP.putI (i := 0) (j := 9) (H' := (Hb 0 s1)) d22_2 (hw _ m_55) (Or.inl (hw _ m_56)) (hw _ m_12) (hlay hw) rfl rfl rfl (leb rfl) (by subst es1; rfl) ?_
  refine WP.iconst (0 : Int32) d22_5 rfl ?_
  refine WP.istoreN (L' := [.val (.ref 0), .val (.int p1), .val (.int (0 : Int32))]) d22_6 (leb rfl) rfl ?_
  exact WP.weak (L' := [.val (.ref 0), .val (.int p1), .val (.int (0 : Int32))]) ⟨rfl, rfl, rfl, trivial⟩ (ok22_7 l Z a0 hw n0 n p1 (0 : Int32) s1 _ h)
theorem d24_0 : dc prog_1_method_29_code 0 (.lconst 0) 1 := by decide +kernel
theorem d24_1 : dc prog_1_method_29_code 1 (.lstore_n 2) 1 := by decide +kernel
theorem d24_2 : dc prog_1_method_29_code 2 (.iconst 0) 1 := by decide +kernel
theorem d24_3 : dc prog_1_method_29_code 3 (.istore 4) 2 := by decide +kernel
theorem d24_5 : dc prog_1_method_29_code 5 (.iload 4) 2 := by decide +kernel
theorem d24_7 : dc prog_1_method_29_code 7 (.aload_n 0) 1 := by decide +kernel
theorem d24_8 : dc prog_1_method_29_code 8 (.getfield 85) 3 := by decide +kernel
theorem d24_11 : dc prog_1_method_29_code 11 (.if_icmp .ge 61) 3 := by decide +kernel
theorem d24_14 : dc prog_1_method_29_code 14 (.aload_n 0) 1 := by decide +kernel
theorem d24_15 : dc prog_1_method_29_code 15 (.getfield 34) 3 := by decide +kernel
theorem d24_18 : dc prog_1_method_29_code 18 (.iload 4) 2 := by decide +kernel
theorem d24_20 : dc prog_1_method_29_code 20 (.iaload) 1 := by decide +kernel
theorem d24_21 : dc prog_1_method_29_code 21 (.iconst 1) 1 := by decide +kernel
theorem d24_22 : dc prog_1_method_29_code 22 (.if_icmp .lt 20) 3 := by decide +kernel
theorem d24_25 : dc prog_1_method_29_code 25 (.aload_n 0) 1 := by decide +kernel
theorem d24_26 : dc prog_1_method_29_code 26 (.getfield 31) 3 := by decide +kernel
theorem d24_29 : dc prog_1_method_29_code 29 (.iload 4) 2 := by decide +kernel
theorem d24_31 : dc prog_1_method_29_code 31 (.iaload) 1 := by decide +kernel
theorem d24_32 : dc prog_1_method_29_code 32 (.aload_n 0) 1 := by decide +kernel
theorem d24_33 : dc prog_1_method_29_code 33 (.getfield 34) 3 := by decide +kernel
theorem d24_36 : dc prog_1_method_29_code 36 (.iload 4) 2 := by decide +kernel
theorem d24_38 : dc prog_1_method_29_code 38 (.iaload) 1 := by decide +kernel
theorem d24_39 : dc prog_1_method_29_code 39 (.if_icmp .eq 5) 3 := by decide +kernel
theorem d24_42 : dc prog_1_method_29_code 42 (.iconst 0) 1 := by decide +kernel
theorem d24_43 : dc prog_1_method_29_code 43 (.ireturn) 1 := by decide +kernel
theorem d24_44 : dc prog_1_method_29_code 44 (.lload_n 2) 1 := by decide +kernel
theorem d24_45 : dc prog_1_method_29_code 45 (.aload_n 0) 1 := by decide +kernel
theorem d24_46 : dc prog_1_method_29_code 46 (.getfield 28) 3 := by decide +kernel
theorem d24_49 : dc prog_1_method_29_code 49 (.iload 4) 2 := by decide +kernel
theorem d24_51 : dc prog_1_method_29_code 51 (.iaload) 1 := by decide +kernel
theorem d24_52 : dc prog_1_method_29_code 52 (.i2l) 1 := by decide +kernel
theorem d24_53 : dc prog_1_method_29_code 53 (.iload_n 1) 1 := by decide +kernel
theorem d24_54 : dc prog_1_method_29_code 54 (.aload_n 0) 1 := by decide +kernel
theorem d24_55 : dc prog_1_method_29_code 55 (.getfield 34) 3 := by decide +kernel
theorem d24_58 : dc prog_1_method_29_code 58 (.iload 4) 2 := by decide +kernel
theorem d24_60 : dc prog_1_method_29_code 60 (.iaload) 1 := by decide +kernel
theorem d24_61 : dc prog_1_method_29_code 61 (.idiv) 1 := by decide +kernel
theorem d24_62 : dc prog_1_method_29_code 62 (.i2l) 1 := by decide +kernel
theorem d24_63 : dc prog_1_method_29_code 63 (.lmul) 1 := by decide +kernel
theorem d24_64 : dc prog_1_method_29_code 64 (.ladd) 1 := by decide +kernel
theorem d24_65 : dc prog_1_method_29_code 65 (.lstore_n 2) 1 := by decide +kernel
theorem d24_66 : dc prog_1_method_29_code 66 (.iinc 4 1) 3 := by decide +kernel
theorem d24_69 : dc prog_1_method_29_code 69 (.goto (-64)) 3 := by decide +kernel
theorem d24_72 : dc prog_1_method_29_code 72 (.lload_n 2) 1 := by decide +kernel
theorem d24_73 : dc prog_1_method_29_code 73 (.iload_n 1) 1 := by decide +kernel
theorem d24_74 : dc prog_1_method_29_code 74 (.i2l) 1 := by decide +kernel
theorem d24_75 : dc prog_1_method_29_code 75 (.lcmp) 1 := by decide +kernel
theorem d24_76 : dc prog_1_method_29_code 76 (.ifCond .gt 7) 3 := by decide +kernel
theorem d24_79 : dc prog_1_method_29_code 79 (.iconst 1) 1 := by decide +kernel
theorem d24_80 : dc prog_1_method_29_code 80 (.goto 4) 3 := by decide +kernel
theorem d24_83 : dc prog_1_method_29_code 83 (.iconst 0) 1 := by decide +kernel
theorem d24_84 : dc prog_1_method_29_code 84 (.ireturn) 1 := by decide +kernel
abbrev y24 : MethodName := ⟨"DemandGate", "implicitWithinCapacity", "(I)Z"⟩
theorem hy24 : y24.cls ≠ "java/lang/invoke/MethodHandle" ∧ y24.cls ≠ "java/lang/invoke/VarHandle" := by decide
theorem pd24 : parseMethodDescriptor y24.desc = some ⟨[.int], some .boolean⟩ := by decide +kernel
abbrev R24 : Room := { frames := 0, cells := 0, slots := 0, locals := 0 }
abbrev P24 (s : St) (r : Int32) : Option Value → List OwnC → Prop := fun v H' => v = some (.int r) ∧ H' = (Hb 0 s)
abbrev W24 (l : Launch) (Z : State) (n0 : Nat) (Q : Option Value → List OwnC → Prop) (k n pc : Nat) (L : List Slot) (S : List Value) (H : List OwnC) : Prop := WP l Z CN lay "DemandGate" "implicitWithinCapacity" prog_1_method_29_code 5 (some FieldType.boolean) R24 n0 0 Q k n pc L S H
def f_implicitWithinCapacity_42 (n : Nat) (s : St) : Option (Int32) :=
  some (0 : Int32)
set_option maxRecDepth 65536 in
set_option maxHeartbeats 4000000 in
theorem ok24_42 (l : Launch) (Z : State) (a0 : Array Value) (hw : HW a0 Z) (n0 : Nat) (n : Nat) (s : St) (r : Int32) (h : f_implicitWithinCapacity_42 n s = some r) : W24 l Z n0 (P24 s r) 0 0 42 [.unset, .unset, .unset, .unset, .unset] [] (Hb 0 s) := by
  unfold f_implicitWithinCapacity_42 at h
  refine WP.iconst (0 : Int32) d24_42 rfl ?_
  cases h
  exact WP.zreturn d24_43 rfl (leb rfl) (leb rfl) ⟨rfl, rfl⟩
def f_implicitWithinCapacity_84 (n : Nat) (t0 : Int32) (s : St) : Option (Int32) :=
  some (t0 &&& 1)
set_option maxRecDepth 65536 in
set_option maxHeartbeats 4000000 in
theorem ok24_84 (l : Launch) (Z : State) (a0 : Array Value) (hw : HW a0 Z) (n0 : Nat) (n : Nat) (t0 : Int32) (s : St) (r : Int32) (h : f_implicitWithinCapacity_84 n t0 s = some r) : W24 l Z n0 (P24 s r) 0 0 84 [.unset, .unset, .unset, .unset, .unset] [.int t0] (Hb 0 s) := by
  unfold f_implicitWithinCapacity_84 at h
  cases h
  exact WP.zreturn d24_84 rfl (leb rfl) (leb rfl) ⟨rfl, rfl⟩
def g_implicitWithinCapacity_5 (k5 : Int32 → Int64 → Int32 → St → Option (Int32)) (n : Nat) (v1 : Int32) (v2 : Int64) (v4 : Int32) (s : St) : Option (Int32) :=
  if v4 < (gI s 11) then
    (rd (gA s 8) v4).bind fun x2 =>
    if x2 < (1 : Int32) then
      f_implicitWithinCapacity_42 n s
    else
      (rd (gA s 7) v4).bind fun x4 =>
      (rd (gA s 8) v4).bind fun x5 =>
      if x4 = x5 then
        (rd (gA s 6) v4).bind fun x7 =>
        (rd (gA s 8) v4).bind fun x8 =>
        if x8 = 0 then none else
        lt (v2 + (x7.toInt64 * ((v1 / x8).toInt64))) fun x10 =>
        lt (v4 + (1 : Int32)) fun x11 =>
        k5 v1 x10 x11 s
      else
        f_implicitWithinCapacity_42 n s
  else
    if v1.toInt64 < v2 then
      f_implicitWithinCapacity_84 n (0 : Int32) s
    else
      f_implicitWithinCapacity_84 n (1 : Int32) s
set_option maxRecDepth 65536 in
set_option maxHeartbeats 4000000 in
theorem okg24_5 (l : Launch) (Z : State) (a0 : Array Value) (hw : HW a0 Z) (n0 : Nat) (k5 : Int32 → Int64 → Int32 → St → Option (Int32)) (hk5 : ∀ (v1 : Int32) (v2 : Int64) (v4 : Int32) (s : St) (r : Int32), k5 v1 v2 v4 s = some r → W24 l Z n0 (P24 s r) 0 0 5 [.val (.ref 0), .val (.int v1), .val (.long v2), .second, .val (.int v4)] [] (Hb 0 s)) (n : Nat) (v1 : Int32) (v2 : Int64) (v4 : Int32) (s : St) (r : Int32) (h : g_implicitWithinCapacity_5 k5 n v1 v2 v4 s = some r) : W24 l Z n0 (P24 s r) 0 0 5 [.val (.ref 0), .val (.int v1), .val (.long v2), .second, .val (.int v4)] [] (Hb 0 s) := by
  unfold g_implicitWithinCapacity_5 at h
  refine WP.iload d24_5 rfl ?_
  refine WP.aloadN d24_7 rfl ?_
  refine WP.getfield (i := 0) (j := 20) d24_8 (hw _ m_71) rfl rfl rfl ?_
  rcases ite_e h with ⟨hc1, h⟩ | ⟨hc1, h⟩
  ·
    refine WP.icmpN d24_11 (XT.ii_ge_f hc1) ?_
    refine WP.aloadN d24_14 rfl ?_
    refine WP.getfield (i := 0) (j := 19) d24_15 (hw _ m_37) rfl rfl rfl ?_
    refine WP.iload d24_18 rfl ?_
    obtain ⟨x2, hx2, h⟩ := Option.bind_eq_some_iff.mp h
    refine WP.iaload (i := 9) d24_20 rfl hx2 ?_
    refine WP.iconst (1 : Int32) d24_21 rfl ?_
    rcases ite_e h with ⟨hc3, h⟩ | ⟨hc3, h⟩
    ·
      refine WP.icmpY (pc' := 42) d24_22 (XT.ii_lt_t hc3) (by decide) rfl ?_
      exact WP.weak (L' := [.unset, .unset, .unset, .unset, .unset]) trivial (ok24_42 l Z a0 hw n0 n s _ h)
    ·
      refine WP.icmpN d24_22 (XT.ii_lt_f hc3) ?_
      refine WP.aloadN d24_25 rfl ?_
      refine WP.getfield (i := 0) (j := 18) d24_26 (hw _ m_35) rfl rfl rfl ?_
      refine WP.iload d24_29 rfl ?_
      obtain ⟨x4, hx4, h⟩ := Option.bind_eq_some_iff.mp h
      refine WP.iaload (i := 8) d24_31 rfl hx4 ?_
      refine WP.aloadN d24_32 rfl ?_
      refine WP.getfield (i := 0) (j := 19) d24_33 (hw _ m_37) rfl rfl rfl ?_
      refine WP.iload d24_36 rfl ?_
      obtain ⟨x5, hx5, h⟩ := Option.bind_eq_some_iff.mp h
      refine WP.iaload (i := 9) d24_38 rfl hx5 ?_
      rcases ite_e h with ⟨hc6, h⟩ | ⟨hc6, h⟩
      ·
        refine WP.icmpY (pc' := 44) d24_39 (XT.ii_eq_t hc6) (by decide) rfl ?_
        refine WP.lloadN d24_44 rfl ?_
        refine WP.aloadN d24_45 rfl ?_
        refine WP.getfield (i := 0) (j := 17) d24_46 (hw _ m_33) rfl rfl rfl ?_
        refine WP.iload d24_49 rfl ?_
        obtain ⟨x7, hx7, h⟩ := Option.bind_eq_some_iff.mp h
        refine WP.iaload (i := 7) d24_51 rfl hx7 ?_
        refine WP.i2l d24_52 ?_
        refine WP.iloadN d24_53 rfl ?_
        refine WP.aloadN d24_54 rfl ?_
        refine WP.getfield (i := 0) (j := 19) d24_55 (hw _ m_37) rfl rfl rfl ?_
        refine WP.iload d24_58 rfl ?_
        obtain ⟨x8, hx8, h⟩ := Option.bind_eq_some_iff.mp h
        refine WP.iaload (i := 9) d24_60 rfl hx8 ?_
        obtain ⟨hz9, h⟩ := nz_e h
        refine WP.idiv d24_61 hz9 ?_
        refine WP.i2l d24_62 ?_
        refine WP.lmul d24_63 ?_
        refine WP.ladd d24_64 ?_
        obtain ⟨x10, ex10, h⟩ := lt_e h
        refine WP.lstoreN (L' := [.val (.ref 0), .val (.int v1), .val (.long x10), .second, .val (.int v4)]) d24_65 (leb rfl) (by subst ex10; rfl) ?_
        obtain ⟨x11, ex11, h⟩ := lt_e h
        refine WP.iinc (L' := [.val (.ref 0), .val (.int v1), .val (.long x10), .second, .val (.int x11)]) (1 : Int32) d24_66 rfl rfl (by subst ex11; rfl) ?_
        refine WP.goto (pc' := 5) d24_69 (by decide) rfl ?_
        exact WP.weak (L' := [.val (.ref 0), .val (.int v1), .val (.long x10), .second, .val (.int x11)]) ⟨rfl, rfl, rfl, rfl, rfl, trivial⟩ (hk5 v1 x10 x11 s _ h)
      ·
        refine WP.icmpN d24_39 (XT.ii_eq_f hc6) ?_
        exact WP.weak (L' := [.unset, .unset, .unset, .unset, .unset]) trivial (ok24_42 l Z a0 hw n0 n s _ h)
  ·
    refine WP.icmpY (pc' := 72) d24_11 (XT.ii_ge_t hc1) (by decide) rfl ?_
    refine WP.lloadN d24_72 rfl ?_
    refine WP.iloadN d24_73 rfl ?_
    refine WP.i2l d24_74 ?_
    refine WP.lcmp d24_75 ?_
    rcases ite_e h with ⟨hc12, h⟩ | ⟨hc12, h⟩
    ·
      refine WP.ifY (pc' := 83) d24_76 (XT.ll_gt_t hc12) (by decide) rfl ?_
      refine WP.iconst (0 : Int32) d24_83 rfl ?_
      exact WP.weak (L' := [.unset, .unset, .unset, .unset, .unset]) trivial (ok24_84 l Z a0 hw n0 n (0 : Int32) s _ h)
    ·
      refine WP.ifN d24_76 (XT.ll_gt_f hc12) ?_
      refine WP.iconst (1 : Int32) d24_79 rfl ?_
      refine WP.goto (pc' := 84) d24_80 (by decide) rfl ?_
      exact WP.weak (L' := [.unset, .unset, .unset, .unset, .unset]) trivial (ok24_84 l Z a0 hw n0 n (1 : Int32) s _ h)
def f_implicitWithinCapacity_5 : Nat → Int32 → Int64 → Int32 → St → Option (Int32)
  | 0 => fun _ _ _ _ => none
  | n + 1 => g_implicitWithinCapacity_5 (f_implicitWithinCapacity_5 n) n
theorem ok24_5 (l : Launch) (Z : State) (a0 : Array Value) (hw : HW a0 Z) (n0 : Nat) : ∀ (n : Nat) (v1 : Int32) (v2 : Int64) (v4 : Int32) (s : St) (r : Int32), f_implicitWithinCapacity_5 n v1 v2 v4 s = some r → W24 l Z n0 (P24 s r) 0 0 5 [.val (.ref 0), .val (.int v1), .val (.long v2), .second, .val (.int v4)] [] (Hb 0 s)
  | 0, v1, v2, v4, s, r, h => nomatch (show none = some r from h)
  | n + 1, v1, v2, v4, s, r, h => okg24_5 l Z a0 hw n0 _ (ok24_5 l Z a0 hw n0 n) n v1 v2 v4 s r h
def f_implicitWithinCapacity (n : Nat) (p1 : Int32) (s : St) : Option (Int32) :=
  f_implicitWithinCapacity_5 n p1 (0 : Int64) (0 : Int32) s
set_option maxRecDepth 65536 in
set_option maxHeartbeats 4000000 in
theorem ok24 (l : Launch) (Z : State) (a0 : Array Value) (hw : HW a0 Z) (n : Nat) (p1 : Int32) (s : St) (r : Int32) (h : f_implicitWithinCapacity n p1 s = some r) : CS l Z CN lay y24 prog_1_method_29_code 5 (some FieldType.boolean) R24 0 [.ref 0, .int p1] (Hb 0 s) (P24 s r) := by
  refine CS.of_wp pn_cls (leb rfl) fun n0 => ?_
  show W24 l Z n0 (P24 s r) 0 0 0 [.val (.ref 0), .val (.int p1), .unset, .unset, .unset] [] (Hb 0 s)
  unfold f_implicitWithinCapacity at h
  refine WP.lconst (0 : Int64) d24_0 rfl ?_
  refine WP.lstoreN (L' := [.val (.ref 0), .val (.int p1), .val (.long (0 : Int64)), .second, .unset]) d24_1 (leb rfl) rfl ?_
  refine WP.iconst (0 : Int32) d24_2 rfl ?_
  refine WP.istore (L' := [.val (.ref 0), .val (.int p1), .val (.long (0 : Int64)), .second, .val (.int (0 : Int32))]) d24_3 (leb rfl) rfl ?_
  exact WP.weak (L' := [.val (.ref 0), .val (.int p1), .val (.long (0 : Int64)), .second, .val (.int (0 : Int32))]) ⟨rfl, rfl, rfl, rfl, rfl, trivial⟩ (ok24_5 l Z a0 hw n0 n p1 (0 : Int64) (0 : Int32) s _ h)
theorem d28_0 : dc prog_1_method_31_code 0 (.ldc 144) 2 := by decide +kernel
theorem d28_2 : dc prog_1_method_31_code 2 (.istore_n 1) 1 := by decide +kernel
theorem d28_3 : dc prog_1_method_31_code 3 (.iconst 0) 1 := by decide +kernel
theorem d28_4 : dc prog_1_method_31_code 4 (.istore_n 2) 1 := by decide +kernel
theorem d28_5 : dc prog_1_method_31_code 5 (.iload_n 2) 1 := by decide +kernel
theorem d28_6 : dc prog_1_method_31_code 6 (.aload_n 0) 1 := by decide +kernel
theorem d28_7 : dc prog_1_method_31_code 7 (.getfield 85) 3 := by decide +kernel
theorem d28_10 : dc prog_1_method_31_code 10 (.if_icmp .ge 26) 3 := by decide +kernel
theorem d28_13 : dc prog_1_method_31_code 13 (.aload_n 0) 1 := by decide +kernel
theorem d28_14 : dc prog_1_method_31_code 14 (.getfield 37) 3 := by decide +kernel
theorem d28_17 : dc prog_1_method_31_code 17 (.iload_n 2) 1 := by decide +kernel
theorem d28_18 : dc prog_1_method_31_code 18 (.iaload) 1 := by decide +kernel
theorem d28_19 : dc prog_1_method_31_code 19 (.iload_n 1) 1 := by decide +kernel
theorem d28_20 : dc prog_1_method_31_code 20 (.if_icmp .ge 10) 3 := by decide +kernel
theorem d28_23 : dc prog_1_method_31_code 23 (.aload_n 0) 1 := by decide +kernel
theorem d28_24 : dc prog_1_method_31_code 24 (.getfield 37) 3 := by decide +kernel
theorem d28_27 : dc prog_1_method_31_code 27 (.iload_n 2) 1 := by decide +kernel
theorem d28_28 : dc prog_1_method_31_code 28 (.iaload) 1 := by decide +kernel
theorem d28_29 : dc prog_1_method_31_code 29 (.istore_n 1) 1 := by decide +kernel
theorem d28_30 : dc prog_1_method_31_code 30 (.iinc 2 1) 3 := by decide +kernel
theorem d28_33 : dc prog_1_method_31_code 33 (.goto (-28)) 3 := by decide +kernel
theorem d28_36 : dc prog_1_method_31_code 36 (.iload_n 1) 1 := by decide +kernel
theorem d28_37 : dc prog_1_method_31_code 37 (.ireturn) 1 := by decide +kernel
abbrev y28 : MethodName := ⟨"DemandGate", "earliestNextDeadline", "()I"⟩
theorem hy28 : y28.cls ≠ "java/lang/invoke/MethodHandle" ∧ y28.cls ≠ "java/lang/invoke/VarHandle" := by decide
theorem pd28 : parseMethodDescriptor y28.desc = some ⟨[], some .int⟩ := by decide +kernel
abbrev R28 : Room := { frames := 0, cells := 0, slots := 0, locals := 0 }
abbrev P28 (s : St) (r : Int32) : Option Value → List OwnC → Prop := fun v H' => v = some (.int r) ∧ H' = (Hb 0 s)
abbrev W28 (l : Launch) (Z : State) (n0 : Nat) (Q : Option Value → List OwnC → Prop) (k n pc : Nat) (L : List Slot) (S : List Value) (H : List OwnC) : Prop := WP l Z CN lay "DemandGate" "earliestNextDeadline" prog_1_method_31_code 3 (some FieldType.int) R28 n0 0 Q k n pc L S H
def f_earliestNextDeadline_30 (k5 : Int32 → Int32 → St → Option (Int32)) (n : Nat) (v1 : Int32) (v2 : Int32) (s : St) : Option (Int32) :=
  lt (v2 + (1 : Int32)) fun x1 =>
  k5 v1 x1 s
set_option maxRecDepth 65536 in
set_option maxHeartbeats 4000000 in
theorem ok28_30 (l : Launch) (Z : State) (a0 : Array Value) (hw : HW a0 Z) (n0 : Nat) (k5 : Int32 → Int32 → St → Option (Int32)) (hk5 : ∀ (v1 : Int32) (v2 : Int32) (s : St) (r : Int32), k5 v1 v2 s = some r → W28 l Z n0 (P28 s r) 0 0 5 [.val (.ref 0), .val (.int v1), .val (.int v2)] [] (Hb 0 s)) (n : Nat) (v1 : Int32) (v2 : Int32) (s : St) (r : Int32) (h : f_earliestNextDeadline_30 k5 n v1 v2 s = some r) : W28 l Z n0 (P28 s r) 0 0 30 [.val (.ref 0), .val (.int v1), .val (.int v2)] [] (Hb 0 s) := by
  unfold f_earliestNextDeadline_30 at h
  obtain ⟨x1, ex1, h⟩ := lt_e h
  refine WP.iinc (L' := [.val (.ref 0), .val (.int v1), .val (.int x1)]) (1 : Int32) d28_30 rfl rfl (by subst ex1; rfl) ?_
  refine WP.goto (pc' := 5) d28_33 (by decide) rfl ?_
  exact WP.weak (L' := [.val (.ref 0), .val (.int v1), .val (.int x1)]) ⟨rfl, rfl, rfl, trivial⟩ (hk5 v1 x1 s _ h)
def g_earliestNextDeadline_5 (k5 : Int32 → Int32 → St → Option (Int32)) (n : Nat) (v1 : Int32) (v2 : Int32) (s : St) : Option (Int32) :=
  if v2 < (gI s 11) then
    (rd (gA s 9) v2).bind fun x2 =>
    if x2 < v1 then
      (rd (gA s 9) v2).bind fun x4 =>
      f_earliestNextDeadline_30 k5 n x4 v2 s
    else
      f_earliestNextDeadline_30 k5 n v1 v2 s
  else
    some v1
set_option maxRecDepth 65536 in
set_option maxHeartbeats 4000000 in
theorem okg28_5 (l : Launch) (Z : State) (a0 : Array Value) (hw : HW a0 Z) (n0 : Nat) (k5 : Int32 → Int32 → St → Option (Int32)) (hk5 : ∀ (v1 : Int32) (v2 : Int32) (s : St) (r : Int32), k5 v1 v2 s = some r → W28 l Z n0 (P28 s r) 0 0 5 [.val (.ref 0), .val (.int v1), .val (.int v2)] [] (Hb 0 s)) (n : Nat) (v1 : Int32) (v2 : Int32) (s : St) (r : Int32) (h : g_earliestNextDeadline_5 k5 n v1 v2 s = some r) : W28 l Z n0 (P28 s r) 0 0 5 [.val (.ref 0), .val (.int v1), .val (.int v2)] [] (Hb 0 s) := by
  unfold g_earliestNextDeadline_5 at h
  refine WP.iloadN d28_5 rfl ?_
  refine WP.aloadN d28_6 rfl ?_
  refine WP.getfield (i := 0) (j := 20) d28_7 (hw _ m_71) rfl rfl rfl ?_
  rcases ite_e h with ⟨hc1, h⟩ | ⟨hc1, h⟩
  ·
    refine WP.icmpN d28_10 (XT.ii_ge_f hc1) ?_
    refine WP.aloadN d28_13 rfl ?_
    refine WP.getfield (i := 0) (j := 21) d28_14 (hw _ m_39) rfl rfl rfl ?_
    refine WP.iloadN d28_17 rfl ?_
    obtain ⟨x2, hx2, h⟩ := Option.bind_eq_some_iff.mp h
    refine WP.iaload (i := 10) d28_18 rfl hx2 ?_
    refine WP.iloadN d28_19 rfl ?_
    rcases ite_e h with ⟨hc3, h⟩ | ⟨hc3, h⟩
    ·
      refine WP.icmpN d28_20 (XT.ii_ge_f hc3) ?_
      refine WP.aloadN d28_23 rfl ?_
      refine WP.getfield (i := 0) (j := 21) d28_24 (hw _ m_39) rfl rfl rfl ?_
      refine WP.iloadN d28_27 rfl ?_
      obtain ⟨x4, hx4, h⟩ := Option.bind_eq_some_iff.mp h
      refine WP.iaload (i := 10) d28_28 rfl hx4 ?_
      refine WP.istoreN (L' := [.val (.ref 0), .val (.int x4), .val (.int v2)]) d28_29 (leb rfl) rfl ?_
      exact WP.weak (L' := [.val (.ref 0), .val (.int x4), .val (.int v2)]) ⟨rfl, rfl, rfl, trivial⟩ (ok28_30 l Z a0 hw n0 _ hk5 n x4 v2 s _ h)
    ·
      refine WP.icmpY (pc' := 30) d28_20 (XT.ii_ge_t hc3) (by decide) rfl ?_
      exact WP.weak (L' := [.val (.ref 0), .val (.int v1), .val (.int v2)]) ⟨rfl, rfl, rfl, trivial⟩ (ok28_30 l Z a0 hw n0 _ hk5 n v1 v2 s _ h)
  ·
    refine WP.icmpY (pc' := 36) d28_10 (XT.ii_ge_t hc1) (by decide) rfl ?_
    refine WP.iloadN d28_36 rfl ?_
    cases h
    exact WP.ireturn d28_37 rfl (leb rfl) (leb rfl) ⟨rfl, rfl⟩
def f_earliestNextDeadline_5 : Nat → Int32 → Int32 → St → Option (Int32)
  | 0 => fun _ _ _ => none
  | n + 1 => g_earliestNextDeadline_5 (f_earliestNextDeadline_5 n) n
theorem ok28_5 (l : Launch) (Z : State) (a0 : Array Value) (hw : HW a0 Z) (n0 : Nat) : ∀ (n : Nat) (v1 : Int32) (v2 : Int32) (s : St) (r : Int32), f_earliestNextDeadline_5 n v1 v2 s = some r → W28 l Z n0 (P28 s r) 0 0 5 [.val (.ref 0), .val (.int v1), .val (.int v2)] [] (Hb 0 s)
  | 0, v1, v2, s, r, h => nomatch (show none = some r from h)
  | n + 1, v1, v2, s, r, h => okg28_5 l Z a0 hw n0 _ (ok28_5 l Z a0 hw n0 n) n v1 v2 s r h
def f_earliestNextDeadline (n : Nat) (s : St) : Option (Int32) :=
  f_earliestNextDeadline_5 n (2147483647 : Int32) (0 : Int32) s
set_option maxRecDepth 65536 in
set_option maxHeartbeats 4000000 in
theorem ok28 (l : Launch) (Z : State) (a0 : Array Value) (hw : HW a0 Z) (n : Nat) (s : St) (r : Int32) (h : f_earliestNextDeadline n s = some r) : CS l Z CN lay y28 prog_1_method_31_code 3 (some FieldType.int) R28 0 [.ref 0] (Hb 0 s) (P28 s r) := by
  refine CS.of_wp pn_cls (leb rfl) fun n0 => ?_
  show W28 l Z n0 (P28 s r) 0 0 0 [.val (.ref 0), .unset, .unset] [] (Hb 0 s)
  unfold f_earliestNextDeadline at h
  refine WP.ldc d28_0 (hw _ m_170) ?_
  refine WP.istoreN (L' := [.val (.ref 0), .val (.int (2147483647 : Int32)), .unset]) d28_2 (leb rfl) rfl ?_
  refine WP.iconst (0 : Int32) d28_3 rfl ?_
  refine WP.istoreN (L' := [.val (.ref 0), .val (.int (2147483647 : Int32)), .val (.int (0 : Int32))]) d28_4 (leb rfl) rfl ?_
  exact WP.weak (L' := [.val (.ref 0), .val (.int (2147483647 : Int32)), .val (.int (0 : Int32))]) ⟨rfl, rfl, rfl, trivial⟩ (ok28_5 l Z a0 hw n0 n (2147483647 : Int32) (0 : Int32) s _ h)
theorem d29_0 : dc prog_1_method_32_code 0 (.lconst 0) 1 := by decide +kernel
theorem d29_1 : dc prog_1_method_32_code 1 (.lstore_n 2) 1 := by decide +kernel
theorem d29_2 : dc prog_1_method_32_code 2 (.iconst 0) 1 := by decide +kernel
theorem d29_3 : dc prog_1_method_32_code 3 (.istore 4) 2 := by decide +kernel
theorem d29_5 : dc prog_1_method_32_code 5 (.iload 4) 2 := by decide +kernel
theorem d29_7 : dc prog_1_method_32_code 7 (.aload_n 0) 1 := by decide +kernel
theorem d29_8 : dc prog_1_method_32_code 8 (.getfield 85) 3 := by decide +kernel
theorem d29_11 : dc prog_1_method_32_code 11 (.if_icmp .ge 53) 3 := by decide +kernel
theorem d29_14 : dc prog_1_method_32_code 14 (.aload_n 0) 1 := by decide +kernel
theorem d29_15 : dc prog_1_method_32_code 15 (.getfield 37) 3 := by decide +kernel
theorem d29_18 : dc prog_1_method_32_code 18 (.iload 4) 2 := by decide +kernel
theorem d29_20 : dc prog_1_method_32_code 20 (.iaload) 1 := by decide +kernel
theorem d29_21 : dc prog_1_method_32_code 21 (.iload_n 1) 1 := by decide +kernel
theorem d29_22 : dc prog_1_method_32_code 22 (.if_icmp .ne 36) 3 := by decide +kernel
theorem d29_25 : dc prog_1_method_32_code 25 (.lload_n 2) 1 := by decide +kernel
theorem d29_26 : dc prog_1_method_32_code 26 (.aload_n 0) 1 := by decide +kernel
theorem d29_27 : dc prog_1_method_32_code 27 (.getfield 28) 3 := by decide +kernel
theorem d29_30 : dc prog_1_method_32_code 30 (.iload 4) 2 := by decide +kernel
theorem d29_32 : dc prog_1_method_32_code 32 (.iaload) 1 := by decide +kernel
theorem d29_33 : dc prog_1_method_32_code 33 (.i2l) 1 := by decide +kernel
theorem d29_34 : dc prog_1_method_32_code 34 (.ladd) 1 := by decide +kernel
theorem d29_35 : dc prog_1_method_32_code 35 (.lstore_n 2) 1 := by decide +kernel
theorem d29_36 : dc prog_1_method_32_code 36 (.aload_n 0) 1 := by decide +kernel
theorem d29_37 : dc prog_1_method_32_code 37 (.getfield 37) 3 := by decide +kernel
theorem d29_40 : dc prog_1_method_32_code 40 (.iload 4) 2 := by decide +kernel
theorem d29_42 : dc prog_1_method_32_code 42 (.aload_n 0) 1 := by decide +kernel
theorem d29_43 : dc prog_1_method_32_code 43 (.getfield 37) 3 := by decide +kernel
theorem d29_46 : dc prog_1_method_32_code 46 (.iload 4) 2 := by decide +kernel
theorem d29_48 : dc prog_1_method_32_code 48 (.iaload) 1 := by decide +kernel
theorem d29_49 : dc prog_1_method_32_code 49 (.aload_n 0) 1 := by decide +kernel
theorem d29_50 : dc prog_1_method_32_code 50 (.getfield 34) 3 := by decide +kernel
theorem d29_53 : dc prog_1_method_32_code 53 (.iload 4) 2 := by decide +kernel
theorem d29_55 : dc prog_1_method_32_code 55 (.iaload) 1 := by decide +kernel
theorem d29_56 : dc prog_1_method_32_code 56 (.iadd) 1 := by decide +kernel
theorem d29_57 : dc prog_1_method_32_code 57 (.iastore) 1 := by decide +kernel
theorem d29_58 : dc prog_1_method_32_code 58 (.iinc 4 1) 3 := by decide +kernel
theorem d29_61 : dc prog_1_method_32_code 61 (.goto (-56)) 3 := by decide +kernel
theorem d29_64 : dc prog_1_method_32_code 64 (.lload_n 2) 1 := by decide +kernel
theorem d29_65 : dc prog_1_method_32_code 65 (.lreturn) 1 := by decide +kernel
abbrev y29 : MethodName := ⟨"DemandGate", "consumeDeadlinesAt", "(I)J"⟩
theorem hy29 : y29.cls ≠ "java/lang/invoke/MethodHandle" ∧ y29.cls ≠ "java/lang/invoke/VarHandle" := by decide
theorem pd29 : parseMethodDescriptor y29.desc = some ⟨[.int], some .long⟩ := by decide +kernel
abbrev R29 : Room := { frames := 0, cells := 0, slots := 0, locals := 0 }
abbrev P29 (r : Int64 × St) : Option Value → List OwnC → Prop := fun v H' => v = some (.long r.1) ∧ H' = (Hb 0 r.2)
abbrev W29 (l : Launch) (Z : State) (n0 : Nat) (Q : Option Value → List OwnC → Prop) (k n pc : Nat) (L : List Slot) (S : List Value) (H : List OwnC) : Prop := WP l Z CN lay "DemandGate" "consumeDeadlinesAt" prog_1_method_32_code 5 (some FieldType.long) R29 n0 0 Q k n pc L S H
def f_consumeDeadlinesAt_58 (k5 : Int32 → Int64 → Int32 → St → Option (Int64 × St)) (n : Nat) (v1 : Int32) (v2 : Int64) (v4 : Int32) (s : St) : Option (Int64 × St) :=
  lt (v4 + (1 : Int32)) fun x1 =>
  k5 v1 v2 x1 s
set_option maxRecDepth 65536 in
set_option maxHeartbeats 4000000 in
theorem ok29_58 (l : Launch) (Z : State) (a0 : Array Value) (hw : HW a0 Z) (n0 : Nat) (k5 : Int32 → Int64 → Int32 → St → Option (Int64 × St)) (hk5 : ∀ (v1 : Int32) (v2 : Int64) (v4 : Int32) (s : St) (r : Int64 × St), k5 v1 v2 v4 s = some r → W29 l Z n0 (P29 r) 0 0 5 [.val (.ref 0), .val (.int v1), .val (.long v2), .second, .val (.int v4)] [] (Hb 0 s)) (n : Nat) (v1 : Int32) (v2 : Int64) (v4 : Int32) (s : St) (r : Int64 × St) (h : f_consumeDeadlinesAt_58 k5 n v1 v2 v4 s = some r) : W29 l Z n0 (P29 r) 0 0 58 [.val (.ref 0), .val (.int v1), .val (.long v2), .second, .val (.int v4)] [] (Hb 0 s) := by
  unfold f_consumeDeadlinesAt_58 at h
  obtain ⟨x1, ex1, h⟩ := lt_e h
  refine WP.iinc (L' := [.val (.ref 0), .val (.int v1), .val (.long v2), .second, .val (.int x1)]) (1 : Int32) d29_58 rfl rfl (by subst ex1; rfl) ?_
  refine WP.goto (pc' := 5) d29_61 (by decide) rfl ?_
  exact WP.weak (L' := [.val (.ref 0), .val (.int v1), .val (.long v2), .second, .val (.int x1)]) ⟨rfl, rfl, rfl, rfl, rfl, trivial⟩ (hk5 v1 v2 x1 s _ h)
def g_consumeDeadlinesAt_5 (k5 : Int32 → Int64 → Int32 → St → Option (Int64 × St)) (n : Nat) (v1 : Int32) (v2 : Int64) (v4 : Int32) (s : St) : Option (Int64 × St) :=
  if v4 < (gI s 11) then
    (rd (gA s 9) v4).bind fun x2 =>
    if x2 = v1 then
      (rd (gA s 6) v4).bind fun x4 =>
      lt (v2 + x4.toInt64) fun x5 =>
      (rd (gA s 9) v4).bind fun x6 =>
      (rd (gA s 8) v4).bind fun x7 =>
      (wrA s 9 v4 (x6 + x7)).bind fun s8 =>
      f_consumeDeadlinesAt_58 k5 n v1 x5 v4 s8
    else
      f_consumeDeadlinesAt_58 k5 n v1 v2 v4 s
  else
    some (v2, s)
set_option maxRecDepth 65536 in
set_option maxHeartbeats 4000000 in
theorem okg29_5 (l : Launch) (Z : State) (a0 : Array Value) (hw : HW a0 Z) (n0 : Nat) (k5 : Int32 → Int64 → Int32 → St → Option (Int64 × St)) (hk5 : ∀ (v1 : Int32) (v2 : Int64) (v4 : Int32) (s : St) (r : Int64 × St), k5 v1 v2 v4 s = some r → W29 l Z n0 (P29 r) 0 0 5 [.val (.ref 0), .val (.int v1), .val (.long v2), .second, .val (.int v4)] [] (Hb 0 s)) (n : Nat) (v1 : Int32) (v2 : Int64) (v4 : Int32) (s : St) (r : Int64 × St) (h : g_consumeDeadlinesAt_5 k5 n v1 v2 v4 s = some r) : W29 l Z n0 (P29 r) 0 0 5 [.val (.ref 0), .val (.int v1), .val (.long v2), .second, .val (.int v4)] [] (Hb 0 s) := by
  unfold g_consumeDeadlinesAt_5 at h
  refine WP.iload d29_5 rfl ?_
  refine WP.aloadN d29_7 rfl ?_
  refine WP.getfield (i := 0) (j := 20) d29_8 (hw _ m_71) rfl rfl rfl ?_
  rcases ite_e h with ⟨hc1, h⟩ | ⟨hc1, h⟩
  ·
    refine WP.icmpN d29_11 (XT.ii_ge_f hc1) ?_
    refine WP.aloadN d29_14 rfl ?_
    refine WP.getfield (i := 0) (j := 21) d29_15 (hw _ m_39) rfl rfl rfl ?_
    refine WP.iload d29_18 rfl ?_
    obtain ⟨x2, hx2, h⟩ := Option.bind_eq_some_iff.mp h
    refine WP.iaload (i := 10) d29_20 rfl hx2 ?_
    refine WP.iloadN d29_21 rfl ?_
    rcases ite_e h with ⟨hc3, h⟩ | ⟨hc3, h⟩
    ·
      refine WP.icmpN d29_22 (XT.ii_ne_f hc3) ?_
      refine WP.lloadN d29_25 rfl ?_
      refine WP.aloadN d29_26 rfl ?_
      refine WP.getfield (i := 0) (j := 17) d29_27 (hw _ m_33) rfl rfl rfl ?_
      refine WP.iload d29_30 rfl ?_
      obtain ⟨x4, hx4, h⟩ := Option.bind_eq_some_iff.mp h
      refine WP.iaload (i := 7) d29_32 rfl hx4 ?_
      refine WP.i2l d29_33 ?_
      refine WP.ladd d29_34 ?_
      obtain ⟨x5, ex5, h⟩ := lt_e h
      refine WP.lstoreN (L' := [.val (.ref 0), .val (.int v1), .val (.long x5), .second, .val (.int v4)]) d29_35 (leb rfl) (by subst ex5; rfl) ?_
      refine WP.aloadN d29_36 rfl ?_
      refine WP.getfield (i := 0) (j := 21) d29_37 (hw _ m_39) rfl rfl rfl ?_
      refine WP.iload d29_40 rfl ?_
      refine WP.aloadN d29_42 rfl ?_
      refine WP.getfield (i := 0) (j := 21) d29_43 (hw _ m_39) rfl rfl rfl ?_
      refine WP.iload d29_46 rfl ?_
      obtain ⟨x6, hx6, h⟩ := Option.bind_eq_some_iff.mp h
      refine WP.iaload (i := 10) d29_48 rfl hx6 ?_
      refine WP.aloadN d29_49 rfl ?_
      refine WP.getfield (i := 0) (j := 19) d29_50 (hw _ m_37) rfl rfl rfl ?_
      refine WP.iload d29_53 rfl ?_
      obtain ⟨x7, hx7, h⟩ := Option.bind_eq_some_iff.mp h
      refine WP.iaload (i := 9) d29_55 rfl hx7 ?_
      refine WP.iadd d29_56 ?_
      obtain ⟨s8, hs8, h⟩ := Option.bind_eq_some_iff.mp h
      obtain ⟨ys8, gs8, es8⟩ := wrA_e hs8
      refine WP.iastore (i := 10) (xs := gA s 9) (H' := (Hb 0 s8)) d29_57 rfl (leb rfl) gs8 (by subst es8; rfl) ?_
      exact WP.weak (L' := [.val (.ref 0), .val (.int v1), .val (.long x5), .second, .val (.int v4)]) ⟨rfl, rfl, rfl, rfl, rfl, trivial⟩ (ok29_58 l Z a0 hw n0 _ hk5 n v1 x5 v4 s8 _ h)
    ·
      refine WP.icmpY (pc' := 58) d29_22 (XT.ii_ne_t hc3) (by decide) rfl ?_
      exact WP.weak (L' := [.val (.ref 0), .val (.int v1), .val (.long v2), .second, .val (.int v4)]) ⟨rfl, rfl, rfl, rfl, rfl, trivial⟩ (ok29_58 l Z a0 hw n0 _ hk5 n v1 v2 v4 s _ h)
  ·
    refine WP.icmpY (pc' := 64) d29_11 (XT.ii_ge_t hc1) (by decide) rfl ?_
    refine WP.lloadN d29_64 rfl ?_
    cases h
    exact WP.lreturn d29_65 rfl (leb rfl) (leb rfl) ⟨rfl, rfl⟩
def f_consumeDeadlinesAt_5 : Nat → Int32 → Int64 → Int32 → St → Option (Int64 × St)
  | 0 => fun _ _ _ _ => none
  | n + 1 => g_consumeDeadlinesAt_5 (f_consumeDeadlinesAt_5 n) n
theorem ok29_5 (l : Launch) (Z : State) (a0 : Array Value) (hw : HW a0 Z) (n0 : Nat) : ∀ (n : Nat) (v1 : Int32) (v2 : Int64) (v4 : Int32) (s : St) (r : Int64 × St), f_consumeDeadlinesAt_5 n v1 v2 v4 s = some r → W29 l Z n0 (P29 r) 0 0 5 [.val (.ref 0), .val (.int v1), .val (.long v2), .second, .val (.int v4)] [] (Hb 0 s)
  | 0, v1, v2, v4, s, r, h => nomatch (show none = some r from h)
  | n + 1, v1, v2, v4, s, r, h => okg29_5 l Z a0 hw n0 _ (ok29_5 l Z a0 hw n0 n) n v1 v2 v4 s r h
def f_consumeDeadlinesAt (n : Nat) (p1 : Int32) (s : St) : Option (Int64 × St) :=
  f_consumeDeadlinesAt_5 n p1 (0 : Int64) (0 : Int32) s
set_option maxRecDepth 65536 in
set_option maxHeartbeats 4000000 in
theorem ok29 (l : Launch) (Z : State) (a0 : Array Value) (hw : HW a0 Z) (n : Nat) (p1 : Int32) (s : St) (r : Int64 × St) (h : f_consumeDeadlinesAt n p1 s = some r) : CS l Z CN lay y29 prog_1_method_32_code 5 (some FieldType.long) R29 0 [.ref 0, .int p1] (Hb 0 s) (P29 r) := by
  refine CS.of_wp pn_cls (leb rfl) fun n0 => ?_
  show W29 l Z n0 (P29 r) 0 0 0 [.val (.ref 0), .val (.int p1), .unset, .unset, .unset] [] (Hb 0 s)
  unfold f_consumeDeadlinesAt at h
  refine WP.lconst (0 : Int64) d29_0 rfl ?_
  refine WP.lstoreN (L' := [.val (.ref 0), .val (.int p1), .val (.long (0 : Int64)), .second, .unset]) d29_1 (leb rfl) rfl ?_
  refine WP.iconst (0 : Int32) d29_2 rfl ?_
  refine WP.istore (L' := [.val (.ref 0), .val (.int p1), .val (.long (0 : Int64)), .second, .val (.int (0 : Int32))]) d29_3 (leb rfl) rfl ?_
  exact WP.weak (L' := [.val (.ref 0), .val (.int p1), .val (.long (0 : Int64)), .second, .val (.int (0 : Int32))]) ⟨rfl, rfl, rfl, rfl, rfl, trivial⟩ (ok29_5 l Z a0 hw n0 n p1 (0 : Int64) (0 : Int32) s _ h)
theorem d27_0 : dc prog_1_method_30_code 0 (.iconst 0) 1 := by decide +kernel
theorem d27_1 : dc prog_1_method_30_code 1 (.istore_n 2) 1 := by decide +kernel
theorem d27_2 : dc prog_1_method_30_code 2 (.iload_n 2) 1 := by decide +kernel
theorem d27_3 : dc prog_1_method_30_code 3 (.aload_n 0) 1 := by decide +kernel
theorem d27_4 : dc prog_1_method_30_code 4 (.getfield 85) 3 := by decide +kernel
theorem d27_7 : dc prog_1_method_30_code 7 (.if_icmp .ge 21) 3 := by decide +kernel
theorem d27_10 : dc prog_1_method_30_code 10 (.aload_n 0) 1 := by decide +kernel
theorem d27_11 : dc prog_1_method_30_code 11 (.getfield 37) 3 := by decide +kernel
theorem d27_14 : dc prog_1_method_30_code 14 (.iload_n 2) 1 := by decide +kernel
theorem d27_15 : dc prog_1_method_30_code 15 (.aload_n 0) 1 := by decide +kernel
theorem d27_16 : dc prog_1_method_30_code 16 (.getfield 31) 3 := by decide +kernel
theorem d27_19 : dc prog_1_method_30_code 19 (.iload_n 2) 1 := by decide +kernel
theorem d27_20 : dc prog_1_method_30_code 20 (.iaload) 1 := by decide +kernel
theorem d27_21 : dc prog_1_method_30_code 21 (.iastore) 1 := by decide +kernel
theorem d27_22 : dc prog_1_method_30_code 22 (.iinc 2 1) 3 := by decide +kernel
theorem d27_25 : dc prog_1_method_30_code 25 (.goto (-23)) 3 := by decide +kernel
theorem d27_28 : dc prog_1_method_30_code 28 (.lconst 0) 1 := by decide +kernel
theorem d27_29 : dc prog_1_method_30_code 29 (.lstore_n 2) 1 := by decide +kernel
theorem d27_30 : dc prog_1_method_30_code 30 (.iconst 0) 1 := by decide +kernel
theorem d27_31 : dc prog_1_method_30_code 31 (.istore 4) 2 := by decide +kernel
theorem d27_33 : dc prog_1_method_30_code 33 (.iload 4) 2 := by decide +kernel
theorem d27_35 : dc prog_1_method_30_code 35 (.sipush 2049) 3 := by decide +kernel
theorem d27_38 : dc prog_1_method_30_code 38 (.if_icmp .gt 43) 3 := by decide +kernel
theorem d27_41 : dc prog_1_method_30_code 41 (.aload_n 0) 1 := by decide +kernel
theorem d27_42 : dc prog_1_method_30_code 42 (.invokevirtual 136) 3 := by decide +kernel
theorem d27_45 : dc prog_1_method_30_code 45 (.istore 5) 2 := by decide +kernel
theorem d27_47 : dc prog_1_method_30_code 47 (.iload 5) 2 := by decide +kernel
theorem d27_49 : dc prog_1_method_30_code 49 (.iload_n 1) 1 := by decide +kernel
theorem d27_50 : dc prog_1_method_30_code 50 (.if_icmp .le 5) 3 := by decide +kernel
theorem d27_53 : dc prog_1_method_30_code 53 (.iconst 0) 1 := by decide +kernel
theorem d27_54 : dc prog_1_method_30_code 54 (.ireturn) 1 := by decide +kernel
theorem d27_55 : dc prog_1_method_30_code 55 (.lload_n 2) 1 := by decide +kernel
theorem d27_56 : dc prog_1_method_30_code 56 (.aload_n 0) 1 := by decide +kernel
theorem d27_57 : dc prog_1_method_30_code 57 (.iload 5) 2 := by decide +kernel
theorem d27_59 : dc prog_1_method_30_code 59 (.invokevirtual 140) 3 := by decide +kernel
theorem d27_62 : dc prog_1_method_30_code 62 (.ladd) 1 := by decide +kernel
theorem d27_63 : dc prog_1_method_30_code 63 (.lstore_n 2) 1 := by decide +kernel
theorem d27_64 : dc prog_1_method_30_code 64 (.lload_n 2) 1 := by decide +kernel
theorem d27_65 : dc prog_1_method_30_code 65 (.iload 5) 2 := by decide +kernel
theorem d27_67 : dc prog_1_method_30_code 67 (.i2l) 1 := by decide +kernel
theorem d27_68 : dc prog_1_method_30_code 68 (.lcmp) 1 := by decide +kernel
theorem d27_69 : dc prog_1_method_30_code 69 (.ifCond .le 6) 3 := by decide +kernel
theorem d27_72 : dc prog_1_method_30_code 72 (.iload 5) 2 := by decide +kernel
theorem d27_74 : dc prog_1_method_30_code 74 (.ireturn) 1 := by decide +kernel
theorem d27_75 : dc prog_1_method_30_code 75 (.iinc 4 1) 3 := by decide +kernel
theorem d27_78 : dc prog_1_method_30_code 78 (.goto (-45)) 3 := by decide +kernel
theorem d27_81 : dc prog_1_method_30_code 81 (.iconst 0) 1 := by decide +kernel
theorem d27_82 : dc prog_1_method_30_code 82 (.ireturn) 1 := by decide +kernel
abbrev y27 : MethodName := ⟨"DemandGate", "scanDeadlinePoints", "(I)I"⟩
theorem hy27 : y27.cls ≠ "java/lang/invoke/MethodHandle" ∧ y27.cls ≠ "java/lang/invoke/VarHandle" := by decide
theorem pd27 : parseMethodDescriptor y27.desc = some ⟨[.int], some .int⟩ := by decide +kernel
abbrev R27 : Room := { frames := 1, cells := 0, slots := 0, locals := 18 }
abbrev P27 (r : Int32 × St) : Option Value → List OwnC → Prop := fun v H' => v = some (.int r.1) ∧ H' = (Hb 0 r.2)
abbrev W27 (l : Launch) (Z : State) (n0 : Nat) (Q : Option Value → List OwnC → Prop) (k n pc : Nat) (L : List Slot) (S : List Value) (H : List OwnC) : Prop := WP l Z CN lay "DemandGate" "scanDeadlinePoints" prog_1_method_30_code 6 (some FieldType.int) R27 n0 0 Q k n pc L S H
def g_scanDeadlinePoints_33 (k33 : Int32 → Int64 → Int32 → St → Option (Int32 × St)) (n : Nat) (v1 : Int32) (v2 : Int64) (v4 : Int32) (s : St) : Option (Int32 × St) :=
  if (2049 : Int32) < v4 then
    some ((0 : Int32), s)
  else
    (f_earliestNextDeadline n s).bind fun c2 =>
    if v1 < c2 then
      some ((0 : Int32), s)
    else
      (f_consumeDeadlinesAt n c2 s).bind fun c4 =>
      lt (v2 + c4.1) fun x5 =>
      if c2.toInt64 < x5 then
        some (c2, c4.2)
      else
        lt (v4 + (1 : Int32)) fun x7 =>
        k33 v1 x5 x7 c4.2
set_option maxRecDepth 65536 in
set_option maxHeartbeats 4000000 in
theorem okg27_33 (l : Launch) (Z : State) (a0 : Array Value) (hw : HW a0 Z) (n0 : Nat) (k33 : Int32 → Int64 → Int32 → St → Option (Int32 × St)) (hk33 : ∀ (v1 : Int32) (v2 : Int64) (v4 : Int32) (s : St) (r : Int32 × St), k33 v1 v2 v4 s = some r → W27 l Z n0 (P27 r) 0 0 33 [.val (.ref 0), .val (.int v1), .val (.long v2), .second, .val (.int v4), .unset] [] (Hb 0 s)) (n : Nat) (v1 : Int32) (v2 : Int64) (v4 : Int32) (s : St) (r : Int32 × St) (h : g_scanDeadlinePoints_33 k33 n v1 v2 v4 s = some r) : W27 l Z n0 (P27 r) 0 0 33 [.val (.ref 0), .val (.int v1), .val (.long v2), .second, .val (.int v4), .unset] [] (Hb 0 s) := by
  unfold g_scanDeadlinePoints_33 at h
  refine WP.iload d27_33 rfl ?_
  refine WP.sipush (2049 : Int32) d27_35 rfl ?_
  rcases ite_e h with ⟨hc1, h⟩ | ⟨hc1, h⟩
  ·
    refine WP.icmpY (pc' := 81) d27_38 (XT.ii_gt_t hc1) (by decide) rfl ?_
    refine WP.iconst (0 : Int32) d27_81 rfl ?_
    cases h
    exact WP.ireturn d27_82 rfl (leb rfl) (leb rfl) ⟨rfl, rfl⟩
  ·
    refine WP.icmpN d27_38 (XT.ii_gt_f hc1) ?_
    refine WP.aloadN d27_41 rfl ?_
    obtain ⟨c2, hc2, h⟩ := Option.bind_eq_some_iff.mp h
    refine WP.callP (i := 0) (y := y28) (as := []) (S := []) d27_42 (hw _ m_166) (hw _ m_168) (hw _ m_12) (hw _ m_167) (hw _ m_169) (hw _ m_13) hy28 rfl (ok28 l Z a0 hw n s _ hc2) rfl (lenOf pd28 rfl) (leb rfl) (leb rfl) (leb rfl) (leb rfl) ?_
    rintro _ _ ⟨rfl, rfl⟩
    show W27 l Z n0 (P27 r) 0 0 45 [.val (.ref 0), .val (.int v1), .val (.long v2), .second, .val (.int v4), .unset] [.int c2] (Hb 0 s)
    refine WP.istore (L' := [.val (.ref 0), .val (.int v1), .val (.long v2), .second, .val (.int v4), .val (.int c2)]) d27_45 (leb rfl) rfl ?_
    refine WP.iload d27_47 rfl ?_
    refine WP.iloadN d27_49 rfl ?_
    rcases ite_e h with ⟨hc3, h⟩ | ⟨hc3, h⟩
    ·
      refine WP.icmpN d27_50 (XT.ii_le_f hc3) ?_
      refine WP.iconst (0 : Int32) d27_53 rfl ?_
      cases h
      exact WP.ireturn d27_54 rfl (leb rfl) (leb rfl) ⟨rfl, rfl⟩
    ·
      refine WP.icmpY (pc' := 55) d27_50 (XT.ii_le_t hc3) (by decide) rfl ?_
      refine WP.lloadN d27_55 rfl ?_
      refine WP.aloadN d27_56 rfl ?_
      refine WP.iload d27_57 rfl ?_
      obtain ⟨c4, hc4, h⟩ := Option.bind_eq_some_iff.mp h
      refine WP.callP (i := 0) (y := y29) (as := [.int c2]) (S := [.long v2]) d27_59 (hw _ m_171) (hw _ m_173) (hw _ m_12) (hw _ m_172) (hw _ m_174) (hw _ m_13) hy29 rfl (ok29 l Z a0 hw n c2 s _ hc4) rfl (lenOf pd29 rfl) (leb rfl) (leb rfl) (leb rfl) (leb rfl) ?_
      rintro _ _ ⟨rfl, rfl⟩
      show W27 l Z n0 (P27 r) 0 0 62 [.val (.ref 0), .val (.int v1), .val (.long v2), .second, .val (.int v4), .val (.int c2)] [.long c4.1, .long v2] (Hb 0 c4.2)
      refine WP.ladd d27_62 ?_
      obtain ⟨x5, ex5, h⟩ := lt_e h
      refine WP.lstoreN (L' := [.val (.ref 0), .val (.int v1), .val (.long x5), .second, .val (.int v4), .val (.int c2)]) d27_63 (leb rfl) (by subst ex5; rfl) ?_
      refine WP.lloadN d27_64 rfl ?_
      refine WP.iload d27_65 rfl ?_
      refine WP.i2l d27_67 ?_
      refine WP.lcmp d27_68 ?_
      rcases ite_e h with ⟨hc6, h⟩ | ⟨hc6, h⟩
      ·
        refine WP.ifN d27_69 (XT.ll_le_f hc6) ?_
        refine WP.iload d27_72 rfl ?_
        cases h
        exact WP.ireturn d27_74 rfl (leb rfl) (leb rfl) ⟨rfl, rfl⟩
      ·
        refine WP.ifY (pc' := 75) d27_69 (XT.ll_le_t hc6) (by decide) rfl ?_
        obtain ⟨x7, ex7, h⟩ := lt_e h
        refine WP.iinc (L' := [.val (.ref 0), .val (.int v1), .val (.long x5), .second, .val (.int x7), .val (.int c2)]) (1 : Int32) d27_75 rfl rfl (by subst ex7; rfl) ?_
        refine WP.goto (pc' := 33) d27_78 (by decide) rfl ?_
        exact WP.weak (L' := [.val (.ref 0), .val (.int v1), .val (.long x5), .second, .val (.int x7), .unset]) ⟨rfl, rfl, rfl, rfl, rfl, trivial⟩ (hk33 v1 x5 x7 c4.2 _ h)
def f_scanDeadlinePoints_33 : Nat → Int32 → Int64 → Int32 → St → Option (Int32 × St)
  | 0 => fun _ _ _ _ => none
  | n + 1 => g_scanDeadlinePoints_33 (f_scanDeadlinePoints_33 n) n
theorem ok27_33 (l : Launch) (Z : State) (a0 : Array Value) (hw : HW a0 Z) (n0 : Nat) : ∀ (n : Nat) (v1 : Int32) (v2 : Int64) (v4 : Int32) (s : St) (r : Int32 × St), f_scanDeadlinePoints_33 n v1 v2 v4 s = some r → W27 l Z n0 (P27 r) 0 0 33 [.val (.ref 0), .val (.int v1), .val (.long v2), .second, .val (.int v4), .unset] [] (Hb 0 s)
  | 0, v1, v2, v4, s, r, h => nomatch (show none = some r from h)
  | n + 1, v1, v2, v4, s, r, h => okg27_33 l Z a0 hw n0 _ (ok27_33 l Z a0 hw n0 n) n v1 v2 v4 s r h
def g_scanDeadlinePoints_2 (k2 : Int32 → Int32 → St → Option (Int32 × St)) (n : Nat) (v1 : Int32) (v2 : Int32) (s : St) : Option (Int32 × St) :=
  if v2 < (gI s 11) then
    (rd (gA s 7) v2).bind fun x2 =>
    (wrA s 9 v2 x2).bind fun s3 =>
    lt (v2 + (1 : Int32)) fun x4 =>
    k2 v1 x4 s3
  else
    f_scanDeadlinePoints_33 n v1 (0 : Int64) (0 : Int32) s
set_option maxRecDepth 65536 in
set_option maxHeartbeats 4000000 in
theorem okg27_2 (l : Launch) (Z : State) (a0 : Array Value) (hw : HW a0 Z) (n0 : Nat) (k2 : Int32 → Int32 → St → Option (Int32 × St)) (hk2 : ∀ (v1 : Int32) (v2 : Int32) (s : St) (r : Int32 × St), k2 v1 v2 s = some r → W27 l Z n0 (P27 r) 0 0 2 [.val (.ref 0), .val (.int v1), .val (.int v2), .unset, .unset, .unset] [] (Hb 0 s)) (n : Nat) (v1 : Int32) (v2 : Int32) (s : St) (r : Int32 × St) (h : g_scanDeadlinePoints_2 k2 n v1 v2 s = some r) : W27 l Z n0 (P27 r) 0 0 2 [.val (.ref 0), .val (.int v1), .val (.int v2), .unset, .unset, .unset] [] (Hb 0 s) := by
  unfold g_scanDeadlinePoints_2 at h
  refine WP.iloadN d27_2 rfl ?_
  refine WP.aloadN d27_3 rfl ?_
  refine WP.getfield (i := 0) (j := 20) d27_4 (hw _ m_71) rfl rfl rfl ?_
  rcases ite_e h with ⟨hc1, h⟩ | ⟨hc1, h⟩
  ·
    refine WP.icmpN d27_7 (XT.ii_ge_f hc1) ?_
    refine WP.aloadN d27_10 rfl ?_
    refine WP.getfield (i := 0) (j := 21) d27_11 (hw _ m_39) rfl rfl rfl ?_
    refine WP.iloadN d27_14 rfl ?_
    refine WP.aloadN d27_15 rfl ?_
    refine WP.getfield (i := 0) (j := 18) d27_16 (hw _ m_35) rfl rfl rfl ?_
    refine WP.iloadN d27_19 rfl ?_
    obtain ⟨x2, hx2, h⟩ := Option.bind_eq_some_iff.mp h
    refine WP.iaload (i := 8) d27_20 rfl hx2 ?_
    obtain ⟨s3, hs3, h⟩ := Option.bind_eq_some_iff.mp h
    obtain ⟨ys3, gs3, es3⟩ := wrA_e hs3
    refine WP.iastore (i := 10) (xs := gA s 9) (H' := (Hb 0 s3)) d27_21 rfl (leb rfl) gs3 (by subst es3; rfl) ?_
    obtain ⟨x4, ex4, h⟩ := lt_e h
    refine WP.iinc (L' := [.val (.ref 0), .val (.int v1), .val (.int x4), .unset, .unset, .unset]) (1 : Int32) d27_22 rfl rfl (by subst ex4; rfl) ?_
    refine WP.goto (pc' := 2) d27_25 (by decide) rfl ?_
    exact WP.weak (L' := [.val (.ref 0), .val (.int v1), .val (.int x4), .unset, .unset, .unset]) ⟨rfl, rfl, rfl, trivial⟩ (hk2 v1 x4 s3 _ h)
  ·
    refine WP.icmpY (pc' := 28) d27_7 (XT.ii_ge_t hc1) (by decide) rfl ?_
    refine WP.lconst (0 : Int64) d27_28 rfl ?_
    refine WP.lstoreN (L' := [.val (.ref 0), .val (.int v1), .val (.long (0 : Int64)), .second, .unset, .unset]) d27_29 (leb rfl) rfl ?_
    refine WP.iconst (0 : Int32) d27_30 rfl ?_
    refine WP.istore (L' := [.val (.ref 0), .val (.int v1), .val (.long (0 : Int64)), .second, .val (.int (0 : Int32)), .unset]) d27_31 (leb rfl) rfl ?_
    exact WP.weak (L' := [.val (.ref 0), .val (.int v1), .val (.long (0 : Int64)), .second, .val (.int (0 : Int32)), .unset]) ⟨rfl, rfl, rfl, rfl, rfl, trivial⟩ (ok27_33 l Z a0 hw n0 n v1 (0 : Int64) (0 : Int32) s _ h)
def f_scanDeadlinePoints_2 : Nat → Int32 → Int32 → St → Option (Int32 × St)
  | 0 => fun _ _ _ => none
  | n + 1 => g_scanDeadlinePoints_2 (f_scanDeadlinePoints_2 n) n
theorem ok27_2 (l : Launch) (Z : State) (a0 : Array Value) (hw : HW a0 Z) (n0 : Nat) : ∀ (n : Nat) (v1 : Int32) (v2 : Int32) (s : St) (r : Int32 × St), f_scanDeadlinePoints_2 n v1 v2 s = some r → W27 l Z n0 (P27 r) 0 0 2 [.val (.ref 0), .val (.int v1), .val (.int v2), .unset, .unset, .unset] [] (Hb 0 s)
  | 0, v1, v2, s, r, h => nomatch (show none = some r from h)
  | n + 1, v1, v2, s, r, h => okg27_2 l Z a0 hw n0 _ (ok27_2 l Z a0 hw n0 n) n v1 v2 s r h
def f_scanDeadlinePoints (n : Nat) (p1 : Int32) (s : St) : Option (Int32 × St) :=
  f_scanDeadlinePoints_2 n p1 (0 : Int32) s
set_option maxRecDepth 65536 in
set_option maxHeartbeats 4000000 in
theorem ok27 (l : Launch) (Z : State) (a0 : Array Value) (hw : HW a0 Z) (n : Nat) (p1 : Int32) (s : St) (r : Int32 × St) (h : f_scanDeadlinePoints n p1 s = some r) : CS l Z CN lay y27 prog_1_method_30_code 6 (some FieldType.int) R27 0 [.ref 0, .int p1] (Hb 0 s) (P27 r) := by
  refine CS.of_wp pn_cls (leb rfl) fun n0 => ?_
  show W27 l Z n0 (P27 r) 0 0 0 [.val (.ref 0), .val (.int p1), .unset, .unset, .unset, .unset] [] (Hb 0 s)
  unfold f_scanDeadlinePoints at h
  refine WP.iconst (0 : Int32) d27_0 rfl ?_
  refine WP.istoreN (L' := [.val (.ref 0), .val (.int p1), .val (.int (0 : Int32)), .unset, .unset, .unset]) d27_1 (leb rfl) rfl ?_
  exact WP.weak (L' := [.val (.ref 0), .val (.int p1), .val (.int (0 : Int32)), .unset, .unset, .unset]) ⟨rfl, rfl, rfl, trivial⟩ (ok27_2 l Z a0 hw n0 n p1 (0 : Int32) s _ h)
theorem d23_0 : dc prog_1_method_28_code 0 (.aload_n 0) 1 := by decide +kernel
theorem d23_1 : dc prog_1_method_28_code 1 (.iload_n 1) 1 := by decide +kernel
theorem d23_2 : dc prog_1_method_28_code 2 (.invokevirtual 129) 3 := by decide +kernel
theorem d23_5 : dc prog_1_method_28_code 5 (.ifCond .eq 5) 3 := by decide +kernel
theorem d23_8 : dc prog_1_method_28_code 8 (.iconst 0) 1 := by decide +kernel
theorem d23_9 : dc prog_1_method_28_code 9 (.ireturn) 1 := by decide +kernel
theorem d23_10 : dc prog_1_method_28_code 10 (.aload_n 0) 1 := by decide +kernel
theorem d23_11 : dc prog_1_method_28_code 11 (.iload_n 1) 1 := by decide +kernel
theorem d23_12 : dc prog_1_method_28_code 12 (.invokevirtual 133) 3 := by decide +kernel
theorem d23_15 : dc prog_1_method_28_code 15 (.ireturn) 1 := by decide +kernel
abbrev y23 : MethodName := ⟨"DemandGate", "overloadOfWork", "(I)I"⟩
theorem hy23 : y23.cls ≠ "java/lang/invoke/MethodHandle" ∧ y23.cls ≠ "java/lang/invoke/VarHandle" := by decide
theorem pd23 : parseMethodDescriptor y23.desc = some ⟨[.int], some .int⟩ := by decide +kernel
abbrev R23 : Room := { frames := 2, cells := 0, slots := 0, locals := 35 }
abbrev P23 (r : Int32 × St) : Option Value → List OwnC → Prop := fun v H' => v = some (.int r.1) ∧ H' = (Hb 0 r.2)
abbrev W23 (l : Launch) (Z : State) (n0 : Nat) (Q : Option Value → List OwnC → Prop) (k n pc : Nat) (L : List Slot) (S : List Value) (H : List OwnC) : Prop := WP l Z CN lay "DemandGate" "overloadOfWork" prog_1_method_28_code 2 (some FieldType.int) R23 n0 0 Q k n pc L S H
def f_overloadOfWork (n : Nat) (p1 : Int32) (s : St) : Option (Int32 × St) :=
  (f_implicitWithinCapacity n p1 s).bind fun c1 =>
  if c1 = 0 then
    (f_scanDeadlinePoints n p1 s).bind fun c3 =>
    some (c3.1, c3.2)
  else
    some ((0 : Int32), s)
set_option maxRecDepth 65536 in
set_option maxHeartbeats 4000000 in
theorem ok23 (l : Launch) (Z : State) (a0 : Array Value) (hw : HW a0 Z) (n : Nat) (p1 : Int32) (s : St) (r : Int32 × St) (h : f_overloadOfWork n p1 s = some r) : CS l Z CN lay y23 prog_1_method_28_code 2 (some FieldType.int) R23 0 [.ref 0, .int p1] (Hb 0 s) (P23 r) := by
  refine CS.of_wp pn_cls (leb rfl) fun n0 => ?_
  show W23 l Z n0 (P23 r) 0 0 0 [.val (.ref 0), .val (.int p1)] [] (Hb 0 s)
  unfold f_overloadOfWork at h
  refine WP.aloadN d23_0 rfl ?_
  refine WP.iloadN d23_1 rfl ?_
  obtain ⟨c1, hc1, h⟩ := Option.bind_eq_some_iff.mp h
  refine WP.callP (i := 0) (y := y24) (as := [.int p1]) (S := []) d23_2 (hw _ m_150) (hw _ m_152) (hw _ m_12) (hw _ m_151) (hw _ m_153) (hw _ m_13) hy24 rfl (ok24 l Z a0 hw n p1 s _ hc1) rfl (lenOf pd24 rfl) (leb rfl) (leb rfl) (leb rfl) (leb rfl) ?_
  rintro _ _ ⟨rfl, rfl⟩
  show W23 l Z n0 (P23 r) 0 0 5 [.val (.ref 0), .val (.int p1)] [.int c1] (Hb 0 s)
  rcases ite_e h with ⟨hc2, h⟩ | ⟨hc2, h⟩
  ·
    refine WP.ifY (pc' := 10) d23_5 (XT.i0_eq_t hc2) (by decide) rfl ?_
    refine WP.aloadN d23_10 rfl ?_
    refine WP.iloadN d23_11 rfl ?_
    obtain ⟨c3, hc3, h⟩ := Option.bind_eq_some_iff.mp h
    refine WP.callP (i := 0) (y := y27) (as := [.int p1]) (S := []) d23_12 (hw _ m_162) (hw _ m_164) (hw _ m_12) (hw _ m_163) (hw _ m_165) (hw _ m_13) hy27 rfl (ok27 l Z a0 hw n p1 s _ hc3) rfl (lenOf pd27 rfl) (leb rfl) (leb rfl) (leb rfl) (leb rfl) ?_
    rintro _ _ ⟨rfl, rfl⟩
    show W23 l Z n0 (P23 r) 0 0 15 [.val (.ref 0), .val (.int p1)] [.int c3.1] (Hb 0 c3.2)
    cases h
    exact WP.ireturn d23_15 rfl (leb rfl) (leb rfl) ⟨rfl, rfl⟩
  ·
    refine WP.ifN d23_5 (XT.i0_eq_f hc2) ?_
    refine WP.iconst (0 : Int32) d23_8 rfl ?_
    cases h
    exact WP.ireturn d23_9 rfl (leb rfl) (leb rfl) ⟨rfl, rfl⟩
theorem d25_0 : dc prog_1_method_24_code 0 (.aload_n 0) 1 := by decide +kernel
theorem d25_1 : dc prog_1_method_24_code 1 (.getfield 57) 3 := by decide +kernel
theorem d25_4 : dc prog_1_method_24_code 4 (.ifCond .lt 12) 3 := by decide +kernel
theorem d25_7 : dc prog_1_method_24_code 7 (.aload_n 0) 1 := by decide +kernel
theorem d25_8 : dc prog_1_method_24_code 8 (.getfield 57) 3 := by decide +kernel
theorem d25_11 : dc prog_1_method_24_code 11 (.bipush 12) 2 := by decide +kernel
theorem d25_13 : dc prog_1_method_24_code 13 (.if_icmp .lt 5) 3 := by decide +kernel
theorem d25_16 : dc prog_1_method_24_code 16 (.iconst (-1)) 1 := by decide +kernel
theorem d25_17 : dc prog_1_method_24_code 17 (.ireturn) 1 := by decide +kernel
theorem d25_18 : dc prog_1_method_24_code 18 (.aload_n 0) 1 := by decide +kernel
theorem d25_19 : dc prog_1_method_24_code 19 (.getfield 7) 3 := by decide +kernel
theorem d25_22 : dc prog_1_method_24_code 22 (.aload_n 0) 1 := by decide +kernel
theorem d25_23 : dc prog_1_method_24_code 23 (.getfield 57) 3 := by decide +kernel
theorem d25_26 : dc prog_1_method_24_code 26 (.iload_n 1) 1 := by decide +kernel
theorem d25_27 : dc prog_1_method_24_code 27 (.iastore) 1 := by decide +kernel
theorem d25_28 : dc prog_1_method_24_code 28 (.aload_n 0) 1 := by decide +kernel
theorem d25_29 : dc prog_1_method_24_code 29 (.getfield 13) 3 := by decide +kernel
theorem d25_32 : dc prog_1_method_24_code 32 (.aload_n 0) 1 := by decide +kernel
theorem d25_33 : dc prog_1_method_24_code 33 (.getfield 57) 3 := by decide +kernel
theorem d25_36 : dc prog_1_method_24_code 36 (.iload_n 2) 1 := by decide +kernel
theorem d25_37 : dc prog_1_method_24_code 37 (.iastore) 1 := by decide +kernel
theorem d25_38 : dc prog_1_method_24_code 38 (.aload_n 0) 1 := by decide +kernel
theorem d25_39 : dc prog_1_method_24_code 39 (.getfield 16) 3 := by decide +kernel
theorem d25_42 : dc prog_1_method_24_code 42 (.aload_n 0) 1 := by decide +kernel
theorem d25_43 : dc prog_1_method_24_code 43 (.getfield 57) 3 := by decide +kernel
theorem d25_46 : dc prog_1_method_24_code 46 (.iload_n 3) 1 := by decide +kernel
theorem d25_47 : dc prog_1_method_24_code 47 (.iastore) 1 := by decide +kernel
theorem d25_48 : dc prog_1_method_24_code 48 (.aload_n 0) 1 := by decide +kernel
theorem d25_49 : dc prog_1_method_24_code 49 (.dup) 1 := by decide +kernel
theorem d25_50 : dc prog_1_method_24_code 50 (.getfield 57) 3 := by decide +kernel
theorem d25_53 : dc prog_1_method_24_code 53 (.iconst 1) 1 := by decide +kernel
theorem d25_54 : dc prog_1_method_24_code 54 (.iadd) 1 := by decide +kernel
theorem d25_55 : dc prog_1_method_24_code 55 (.putfield 57) 3 := by decide +kernel
theorem d25_58 : dc prog_1_method_24_code 58 (.aload_n 0) 1 := by decide +kernel
theorem d25_59 : dc prog_1_method_24_code 59 (.getfield 57) 3 := by decide +kernel
theorem d25_62 : dc prog_1_method_24_code 62 (.iconst 1) 1 := by decide +kernel
theorem d25_63 : dc prog_1_method_24_code 63 (.isub) 1 := by decide +kernel
theorem d25_64 : dc prog_1_method_24_code 64 (.ireturn) 1 := by decide +kernel
abbrev y25 : MethodName := ⟨"DemandGate", "admitTask", "(III)I"⟩
theorem hy25 : y25.cls ≠ "java/lang/invoke/MethodHandle" ∧ y25.cls ≠ "java/lang/invoke/VarHandle" := by decide
theorem pd25 : parseMethodDescriptor y25.desc = some ⟨[.int, .int, .int], some .int⟩ := by decide +kernel
abbrev R25 : Room := { frames := 0, cells := 0, slots := 0, locals := 0 }
abbrev P25 (r : Int32 × St) : Option Value → List OwnC → Prop := fun v H' => v = some (.int r.1) ∧ H' = (Hb 0 r.2)
abbrev W25 (l : Launch) (Z : State) (n0 : Nat) (Q : Option Value → List OwnC → Prop) (k n pc : Nat) (L : List Slot) (S : List Value) (H : List OwnC) : Prop := WP l Z CN lay "DemandGate" "admitTask" prog_1_method_24_code 4 (some FieldType.int) R25 n0 0 Q k n pc L S H
def f_admitTask_16 (s : St) : Option (Int32 × St) :=
  some ((-1 : Int32), s)
set_option maxRecDepth 65536 in
set_option maxHeartbeats 4000000 in
theorem ok25_16 (l : Launch) (Z : State) (a0 : Array Value) (hw : HW a0 Z) (n0 : Nat) (s : St) (r : Int32 × St) (h : f_admitTask_16 s = some r) : W25 l Z n0 (P25 r) 0 0 16 [.unset, .unset, .unset, .unset] [] (Hb 0 s) := by
  unfold f_admitTask_16 at h
  refine WP.iconst (-1 : Int32) d25_16 rfl ?_
  cases h
  exact WP.ireturn d25_17 rfl (leb rfl) (leb rfl) ⟨rfl, rfl⟩
def f_admitTask (p1 : Int32) (p2 : Int32) (p3 : Int32) (s : St) : Option (Int32 × St) :=
  if (gI s 2) < 0 then
    f_admitTask_16 s
  else
    if (gI s 2) < (12 : Int32) then
      (wrA s 0 (gI s 2) p1).bind fun s3 =>
      (wrA s3 1 (gI s3 2) p2).bind fun s4 =>
      (wrA s4 2 (gI s4 2) p3).bind fun s5 =>
      lt (sI s5 2 ((gI s5 2) + (1 : Int32))) fun s6 =>
      some ((gI s6 2) - (1 : Int32), s6)
    else
      f_admitTask_16 s
set_option maxRecDepth 65536 in
set_option maxHeartbeats 4000000 in
theorem ok25 (l : Launch) (Z : State) (a0 : Array Value) (hw : HW a0 Z) (p1 : Int32) (p2 : Int32) (p3 : Int32) (s : St) (r : Int32 × St) (h : f_admitTask p1 p2 p3 s = some r) : CS l Z CN lay y25 prog_1_method_24_code 4 (some FieldType.int) R25 0 [.ref 0, .int p1, .int p2, .int p3] (Hb 0 s) (P25 r) := by
  refine CS.of_wp pn_cls (leb rfl) fun n0 => ?_
  show W25 l Z n0 (P25 r) 0 0 0 [.val (.ref 0), .val (.int p1), .val (.int p2), .val (.int p3)] [] (Hb 0 s)
  unfold f_admitTask at h
  refine WP.aloadN d25_0 rfl ?_
  refine WP.getfield (i := 0) (j := 5) d25_1 (hw _ m_53) rfl rfl rfl ?_
  rcases ite_e h with ⟨hc1, h⟩ | ⟨hc1, h⟩
  ·
    refine WP.ifY (pc' := 16) d25_4 (XT.i0_lt_t hc1) (by decide) rfl ?_
    exact WP.weak (L' := [.unset, .unset, .unset, .unset]) trivial (ok25_16 l Z a0 hw n0 s _ h)
  ·
    refine WP.ifN d25_4 (XT.i0_lt_f hc1) ?_
    refine WP.aloadN d25_7 rfl ?_
    refine WP.getfield (i := 0) (j := 5) d25_8 (hw _ m_53) rfl rfl rfl ?_
    refine WP.bipush (12 : Int32) d25_11 rfl ?_
    rcases ite_e h with ⟨hc2, h⟩ | ⟨hc2, h⟩
    ·
      refine WP.icmpY (pc' := 18) d25_13 (XT.ii_lt_t hc2) (by decide) rfl ?_
      refine WP.aloadN d25_18 rfl ?_
      refine WP.getfield (i := 0) (j := 2) d25_19 (hw _ m_21) rfl rfl rfl ?_
      refine WP.aloadN d25_22 rfl ?_
      refine WP.getfield (i := 0) (j := 5) d25_23 (hw _ m_53) rfl rfl rfl ?_
      refine WP.iloadN d25_26 rfl ?_
      obtain ⟨s3, hs3, h⟩ := Option.bind_eq_some_iff.mp h
      obtain ⟨ys3, gs3, es3⟩ := wrA_e hs3
      refine WP.iastore (i := 1) (xs := gA s 0) (H' := (Hb 0 s3)) d25_27 rfl (leb rfl) gs3 (by subst es3; rfl) ?_
      refine WP.aloadN d25_28 rfl ?_
      refine WP.getfield (i := 0) (j := 3) d25_29 (hw _ m_23) rfl rfl rfl ?_
      refine WP.aloadN d25_32 rfl ?_
      refine WP.getfield (i := 0) (j := 5) d25_33 (hw _ m_53) rfl rfl rfl ?_
      refine WP.iloadN d25_36 rfl ?_
      obtain ⟨s4, hs4, h⟩ := Option.bind_eq_some_iff.mp h
      obtain ⟨ys4, gs4, es4⟩ := wrA_e hs4
      refine WP.iastore (i := 2) (xs := gA s3 1) (H' := (Hb 0 s4)) d25_37 rfl (leb rfl) gs4 (by subst es4; rfl) ?_
      refine WP.aloadN d25_38 rfl ?_
      refine WP.getfield (i := 0) (j := 4) d25_39 (hw _ m_25) rfl rfl rfl ?_
      refine WP.aloadN d25_42 rfl ?_
      refine WP.getfield (i := 0) (j := 5) d25_43 (hw _ m_53) rfl rfl rfl ?_
      refine WP.iloadN d25_46 rfl ?_
      obtain ⟨s5, hs5, h⟩ := Option.bind_eq_some_iff.mp h
      obtain ⟨ys5, gs5, es5⟩ := wrA_e hs5
      refine WP.iastore (i := 3) (xs := gA s4 2) (H' := (Hb 0 s5)) d25_47 rfl (leb rfl) gs5 (by subst es5; rfl) ?_
      refine WP.aloadN d25_48 rfl ?_
      refine WP.dup d25_49 rfl ?_
      refine WP.getfield (i := 0) (j := 5) d25_50 (hw _ m_53) rfl rfl rfl ?_
      refine WP.iconst (1 : Int32) d25_53 rfl ?_
      refine WP.iadd d25_54 ?_
      obtain ⟨s6, es6, h⟩ := lt_e h
      refine WP.putI (i := 0) (j := 5) (H' := (Hb 0 s6)) d25_55 (hw _ m_53) (Or.inl (hw _ m_54)) (hw _ m_12) (hlay hw) rfl rfl rfl (leb rfl) (by subst es6; rfl) ?_
      refine WP.aloadN d25_58 rfl ?_
      refine WP.getfield (i := 0) (j := 5) d25_59 (hw _ m_53) rfl rfl rfl ?_
      refine WP.iconst (1 : Int32) d25_62 rfl ?_
      refine WP.isub d25_63 ?_
      cases h
      exact WP.ireturn d25_64 rfl (leb rfl) (leb rfl) ⟨rfl, rfl⟩
    ·
      refine WP.icmpN d25_13 (XT.ii_lt_f hc2) ?_
      exact WP.weak (L' := [.unset, .unset, .unset, .unset]) trivial (ok25_16 l Z a0 hw n0 s _ h)
theorem d17_0 : dc prog_1_method_2_code 0 (.aload_n 0) 1 := by decide +kernel
theorem d17_1 : dc prog_1_method_2_code 1 (.getfield 57) 3 := by decide +kernel
theorem d17_4 : dc prog_1_method_2_code 4 (.aload_n 0) 1 := by decide +kernel
theorem d17_5 : dc prog_1_method_2_code 5 (.getfield 50) 3 := by decide +kernel
theorem d17_8 : dc prog_1_method_2_code 8 (.if_icmp .lt 5) 3 := by decide +kernel
theorem d17_11 : dc prog_1_method_2_code 11 (.iconst (-1)) 1 := by decide +kernel
theorem d17_12 : dc prog_1_method_2_code 12 (.ireturn) 1 := by decide +kernel
theorem d17_13 : dc prog_1_method_2_code 13 (.aload_n 0) 1 := by decide +kernel
theorem d17_14 : dc prog_1_method_2_code 14 (.iload_n 1) 1 := by decide +kernel
theorem d17_15 : dc prog_1_method_2_code 15 (.iload_n 2) 1 := by decide +kernel
theorem d17_16 : dc prog_1_method_2_code 16 (.iload_n 3) 1 := by decide +kernel
theorem d17_17 : dc prog_1_method_2_code 17 (.invokevirtual 88) 3 := by decide +kernel
theorem d17_20 : dc prog_1_method_2_code 20 (.ifCond .ne 6) 3 := by decide +kernel
theorem d17_23 : dc prog_1_method_2_code 23 (.bipush (-2)) 2 := by decide +kernel
theorem d17_25 : dc prog_1_method_2_code 25 (.ireturn) 1 := by decide +kernel
theorem d17_26 : dc prog_1_method_2_code 26 (.aload_n 0) 1 := by decide +kernel
theorem d17_27 : dc prog_1_method_2_code 27 (.invokevirtual 92) 3 := by decide +kernel
theorem d17_30 : dc prog_1_method_2_code 30 (.aload_n 0) 1 := by decide +kernel
theorem d17_31 : dc prog_1_method_2_code 31 (.iload_n 1) 1 := by decide +kernel
theorem d17_32 : dc prog_1_method_2_code 32 (.iload_n 2) 1 := by decide +kernel
theorem d17_33 : dc prog_1_method_2_code 33 (.iload_n 3) 1 := by decide +kernel
theorem d17_34 : dc prog_1_method_2_code 34 (.invokevirtual 95) 3 := by decide +kernel
theorem d17_37 : dc prog_1_method_2_code 37 (.pop) 1 := by decide +kernel
theorem d17_38 : dc prog_1_method_2_code 38 (.aload_n 0) 1 := by decide +kernel
theorem d17_39 : dc prog_1_method_2_code 39 (.aload_n 0) 1 := by decide +kernel
theorem d17_40 : dc prog_1_method_2_code 40 (.getfield 54) 3 := by decide +kernel
theorem d17_43 : dc prog_1_method_2_code 43 (.invokevirtual 98) 3 := by decide +kernel
theorem d17_46 : dc prog_1_method_2_code 46 (.istore 4) 2 := by decide +kernel
theorem d17_48 : dc prog_1_method_2_code 48 (.iload 4) 2 := by decide +kernel
theorem d17_50 : dc prog_1_method_2_code 50 (.aload_n 0) 1 := by decide +kernel
theorem d17_51 : dc prog_1_method_2_code 51 (.getfield 54) 3 := by decide +kernel
theorem d17_54 : dc prog_1_method_2_code 54 (.if_icmp .le 21) 3 := by decide +kernel
theorem d17_57 : dc prog_1_method_2_code 57 (.aload_n 0) 1 := by decide +kernel
theorem d17_58 : dc prog_1_method_2_code 58 (.iconst 0) 1 := by decide +kernel
theorem d17_59 : dc prog_1_method_2_code 59 (.putfield 63) 3 := by decide +kernel
theorem d17_62 : dc prog_1_method_2_code 62 (.aload_n 0) 1 := by decide +kernel
theorem d17_63 : dc prog_1_method_2_code 63 (.iconst 0) 1 := by decide +kernel
theorem d17_64 : dc prog_1_method_2_code 64 (.putfield 73) 3 := by decide +kernel
theorem d17_67 : dc prog_1_method_2_code 67 (.aload_n 0) 1 := by decide +kernel
theorem d17_68 : dc prog_1_method_2_code 68 (.iconst 0) 1 := by decide +kernel
theorem d17_69 : dc prog_1_method_2_code 69 (.putfield 70) 3 := by decide +kernel
theorem d17_72 : dc prog_1_method_2_code 72 (.bipush (-3)) 2 := by decide +kernel
theorem d17_74 : dc prog_1_method_2_code 74 (.ireturn) 1 := by decide +kernel
theorem d17_75 : dc prog_1_method_2_code 75 (.aload_n 0) 1 := by decide +kernel
theorem d17_76 : dc prog_1_method_2_code 76 (.iload 4) 2 := by decide +kernel
theorem d17_78 : dc prog_1_method_2_code 78 (.invokevirtual 102) 3 := by decide +kernel
theorem d17_81 : dc prog_1_method_2_code 81 (.aload_n 0) 1 := by decide +kernel
theorem d17_82 : dc prog_1_method_2_code 82 (.iload 4) 2 := by decide +kernel
theorem d17_84 : dc prog_1_method_2_code 84 (.putfield 73) 3 := by decide +kernel
theorem d17_87 : dc prog_1_method_2_code 87 (.aload_n 0) 1 := by decide +kernel
theorem d17_88 : dc prog_1_method_2_code 88 (.aload_n 0) 1 := by decide +kernel
theorem d17_89 : dc prog_1_method_2_code 89 (.iload 4) 2 := by decide +kernel
theorem d17_91 : dc prog_1_method_2_code 91 (.invokevirtual 106) 3 := by decide +kernel
theorem d17_94 : dc prog_1_method_2_code 94 (.putfield 70) 3 := by decide +kernel
theorem d17_97 : dc prog_1_method_2_code 97 (.aload_n 0) 1 := by decide +kernel
theorem d17_98 : dc prog_1_method_2_code 98 (.getfield 70) 3 := by decide +kernel
theorem d17_101 : dc prog_1_method_2_code 101 (.ifCond .eq 6) 3 := by decide +kernel
theorem d17_104 : dc prog_1_method_2_code 104 (.bipush (-4)) 2 := by decide +kernel
theorem d17_106 : dc prog_1_method_2_code 106 (.ireturn) 1 := by decide +kernel
theorem d17_107 : dc prog_1_method_2_code 107 (.aload_n 0) 1 := by decide +kernel
theorem d17_108 : dc prog_1_method_2_code 108 (.iload_n 1) 1 := by decide +kernel
theorem d17_109 : dc prog_1_method_2_code 109 (.iload_n 2) 1 := by decide +kernel
theorem d17_110 : dc prog_1_method_2_code 110 (.iload_n 3) 1 := by decide +kernel
theorem d17_111 : dc prog_1_method_2_code 111 (.invokevirtual 109) 3 := by decide +kernel
theorem d17_114 : dc prog_1_method_2_code 114 (.ireturn) 1 := by decide +kernel
abbrev y17 : MethodName := ⟨"DemandGate", "propose", "(III)I"⟩
theorem hy17 : y17.cls ≠ "java/lang/invoke/MethodHandle" ∧ y17.cls ≠ "java/lang/invoke/VarHandle" := by decide
theorem pd17 : parseMethodDescriptor y17.desc = some ⟨[.int, .int, .int], some .int⟩ := by decide +kernel
abbrev R17 : Room := { frames := 3, cells := 0, slots := 0, locals := 57 }
abbrev P17 (r : Int32 × St) : Option Value → List OwnC → Prop := fun v H' => v = some (.int r.1) ∧ H' = (Hb 0 r.2)
abbrev W17 (l : Launch) (Z : State) (n0 : Nat) (Q : Option Value → List OwnC → Prop) (k n pc : Nat) (L : List Slot) (S : List Value) (H : List OwnC) : Prop := WP l Z CN lay "DemandGate" "propose" prog_1_method_2_code 5 (some FieldType.int) R17 n0 0 Q k n pc L S H
def f_propose (n : Nat) (p1 : Int32) (p2 : Int32) (p3 : Int32) (s : St) : Option (Int32 × St) :=
  if (gI s 2) < (gI s 0) then
    (f_validParams p1 p2 p3 s).bind fun c2 =>
    if c2 = 0 then
      some ((-2 : Int32), s)
    else
      (f_loadAdmitted n s).bind fun c4 =>
      (f_appendWork p1 p2 p3 c4).bind fun c5 =>
      (f_workHyper n (gI c5.2 1) c5.2).bind fun c6 =>
      if (gI c5.2 1) < c6 then
        lt (sI c5.2 4 (0 : Int32)) fun s8 =>
        lt (sI s8 7 (0 : Int32)) fun s9 =>
        lt (sI s9 6 (0 : Int32)) fun s10 =>
        some ((-3 : Int32), s10)
      else
        (f_storeCandidate n c6 c5.2).bind fun c11 =>
        lt (sI c11 7 c6) fun s12 =>
        (f_overloadOfWork n c6 s12).bind fun c13 =>
        lt (sI c13.2 6 c13.1) fun s14 =>
        if (gI s14 6) = 0 then
          (f_admitTask p1 p2 p3 s14).bind fun c16 =>
          some (c16.1, c16.2)
        else
          some ((-4 : Int32), s14)
  else
    some ((-1 : Int32), s)
set_option maxRecDepth 65536 in
set_option maxHeartbeats 4000000 in
theorem ok17 (l : Launch) (Z : State) (a0 : Array Value) (hw : HW a0 Z) (n : Nat) (p1 : Int32) (p2 : Int32) (p3 : Int32) (s : St) (r : Int32 × St) (h : f_propose n p1 p2 p3 s = some r) : CS l Z CN lay y17 prog_1_method_2_code 5 (some FieldType.int) R17 0 [.ref 0, .int p1, .int p2, .int p3] (Hb 0 s) (P17 r) := by
  refine CS.of_wp pn_cls (leb rfl) fun n0 => ?_
  show W17 l Z n0 (P17 r) 0 0 0 [.val (.ref 0), .val (.int p1), .val (.int p2), .val (.int p3), .unset] [] (Hb 0 s)
  unfold f_propose at h
  refine WP.aloadN d17_0 rfl ?_
  refine WP.getfield (i := 0) (j := 5) d17_1 (hw _ m_53) rfl rfl rfl ?_
  refine WP.aloadN d17_4 rfl ?_
  refine WP.getfield (i := 0) (j := 0) d17_5 (hw _ m_49) rfl rfl rfl ?_
  rcases ite_e h with ⟨hc1, h⟩ | ⟨hc1, h⟩
  ·
    refine WP.icmpY (pc' := 13) d17_8 (XT.ii_lt_t hc1) (by decide) rfl ?_
    refine WP.aloadN d17_13 rfl ?_
    refine WP.iloadN d17_14 rfl ?_
    refine WP.iloadN d17_15 rfl ?_
    refine WP.iloadN d17_16 rfl ?_
    obtain ⟨c2, hc2, h⟩ := Option.bind_eq_some_iff.mp h
    refine WP.callP (i := 0) (y := y18) (as := [.int p1, .int p2, .int p3]) (S := []) d17_17 (hw _ m_126) (hw _ m_128) (hw _ m_12) (hw _ m_127) (hw _ m_129) (hw _ m_13) hy18 rfl (ok18 l Z a0 hw p1 p2 p3 s _ hc2) rfl (lenOf pd18 rfl) (leb rfl) (leb rfl) (leb rfl) (leb rfl) ?_
    rintro _ _ ⟨rfl, rfl⟩
    show W17 l Z n0 (P17 r) 0 0 20 [.val (.ref 0), .val (.int p1), .val (.int p2), .val (.int p3), .unset] [.int c2] (Hb 0 s)
    rcases ite_e h with ⟨hc3, h⟩ | ⟨hc3, h⟩
    ·
      refine WP.ifN d17_20 (XT.i0_ne_f hc3) ?_
      refine WP.bipush (-2 : Int32) d17_23 rfl ?_
      cases h
      exact WP.ireturn d17_25 rfl (leb rfl) (leb rfl) ⟨rfl, rfl⟩
    ·
      refine WP.ifY (pc' := 26) d17_20 (XT.i0_ne_t hc3) (by decide) rfl ?_
      refine WP.aloadN d17_26 rfl ?_
      obtain ⟨c4, hc4, h⟩ := Option.bind_eq_some_iff.mp h
      refine WP.callP (i := 0) (y := y6) (as := []) (S := []) d17_27 (hw _ m_78) (hw _ m_80) (hw _ m_12) (hw _ m_79) (hw _ m_81) (hw _ m_13) hy6 rfl (ok6 l Z a0 hw n s _ hc4) rfl (lenOf pd6 rfl) (leb rfl) (leb rfl) (leb rfl) (leb rfl) ?_
      rintro _ _ ⟨rfl, rfl⟩
      show W17 l Z n0 (P17 r) 0 0 30 [.val (.ref 0), .val (.int p1), .val (.int p2), .val (.int p3), .unset] [] (Hb 0 c4)
      refine WP.aloadN d17_30 rfl ?_
      refine WP.iloadN d17_31 rfl ?_
      refine WP.iloadN d17_32 rfl ?_
      refine WP.iloadN d17_33 rfl ?_
      obtain ⟨c5, hc5, h⟩ := Option.bind_eq_some_iff.mp h
      refine WP.callP (i := 0) (y := y19) (as := [.int p1, .int p2, .int p3]) (S := []) d17_34 (hw _ m_130) (hw _ m_132) (hw _ m_12) (hw _ m_131) (hw _ m_133) (hw _ m_13) hy19 rfl (ok19 l Z a0 hw p1 p2 p3 c4 _ hc5) rfl (lenOf pd19 rfl) (leb rfl) (leb rfl) (leb rfl) (leb rfl) ?_
      rintro _ _ ⟨rfl, rfl⟩
      show W17 l Z n0 (P17 r) 0 0 37 [.val (.ref 0), .val (.int p1), .val (.int p2), .val (.int p3), .unset] [.int c5.1] (Hb 0 c5.2)
      refine WP.pop d17_37 rfl ?_
      refine WP.aloadN d17_38 rfl ?_
      refine WP.aloadN d17_39 rfl ?_
      refine WP.getfield (i := 0) (j := 1) d17_40 (hw _ m_51) rfl rfl rfl ?_
      obtain ⟨c6, hc6, h⟩ := Option.bind_eq_some_iff.mp h
      refine WP.callP (i := 0) (y := y7) (as := [.int (gI c5.2 1)]) (S := []) d17_43 (hw _ m_82) (hw _ m_84) (hw _ m_12) (hw _ m_83) (hw _ m_85) (hw _ m_13) hy7 rfl (ok7 l Z a0 hw n (gI c5.2 1) c5.2 _ hc6) rfl (lenOf pd7 rfl) (leb rfl) (leb rfl) (leb rfl) (leb rfl) ?_
      rintro _ _ ⟨rfl, rfl⟩
      show W17 l Z n0 (P17 r) 0 0 46 [.val (.ref 0), .val (.int p1), .val (.int p2), .val (.int p3), .unset] [.int c6] (Hb 0 c5.2)
      refine WP.istore (L' := [.val (.ref 0), .val (.int p1), .val (.int p2), .val (.int p3), .val (.int c6)]) d17_46 (leb rfl) rfl ?_
      refine WP.iload d17_48 rfl ?_
      refine WP.aloadN d17_50 rfl ?_
      refine WP.getfield (i := 0) (j := 1) d17_51 (hw _ m_51) rfl rfl rfl ?_
      rcases ite_e h with ⟨hc7, h⟩ | ⟨hc7, h⟩
      ·
        refine WP.icmpN d17_54 (XT.ii_le_f hc7) ?_
        refine WP.aloadN d17_57 rfl ?_
        refine WP.iconst (0 : Int32) d17_58 rfl ?_
        obtain ⟨s8, es8, h⟩ := lt_e h
        refine WP.putZ (i := 0) (j := 10) (H' := (Hb 0 s8)) d17_59 (hw _ m_57) (Or.inl (hw _ m_58)) (hw _ m_12) (hlay hw) rfl rfl rfl (leb rfl) (by subst es8; rfl) ?_
        refine WP.aloadN d17_62 rfl ?_
        refine WP.iconst (0 : Int32) d17_63 rfl ?_
        obtain ⟨s9, es9, h⟩ := lt_e h
        refine WP.putI (i := 0) (j := 13) (H' := (Hb 0 s9)) d17_64 (hw _ m_63) (Or.inl (hw _ m_64)) (hw _ m_12) (hlay hw) rfl rfl rfl (leb rfl) (by subst es9; rfl) ?_
        refine WP.aloadN d17_67 rfl ?_
        refine WP.iconst (0 : Int32) d17_68 rfl ?_
        obtain ⟨s10, es10, h⟩ := lt_e h
        refine WP.putI (i := 0) (j := 12) (H' := (Hb 0 s10)) d17_69 (hw _ m_61) (Or.inl (hw _ m_62)) (hw _ m_12) (hlay hw) rfl rfl rfl (leb rfl) (by subst es10; rfl) ?_
        refine WP.bipush (-3 : Int32) d17_72 rfl ?_
        cases h
        exact WP.ireturn d17_74 rfl (leb rfl) (leb rfl) ⟨rfl, rfl⟩
      ·
        refine WP.icmpY (pc' := 75) d17_54 (XT.ii_le_t hc7) (by decide) rfl ?_
        refine WP.aloadN d17_75 rfl ?_
        refine WP.iload d17_76 rfl ?_
        obtain ⟨c11, hc11, h⟩ := Option.bind_eq_some_iff.mp h
        refine WP.callP (i := 0) (y := y22) (as := [.int c6]) (S := []) d17_78 (hw _ m_142) (hw _ m_144) (hw _ m_12) (hw _ m_143) (hw _ m_145) (hw _ m_13) hy22 rfl (ok22 l Z a0 hw n c6 c5.2 _ hc11) rfl (lenOf pd22 rfl) (leb rfl) (leb rfl) (leb rfl) (leb rfl) ?_
        rintro _ _ ⟨rfl, rfl⟩
        show W17 l Z n0 (P17 r) 0 0 81 [.val (.ref 0), .val (.int p1), .val (.int p2), .val (.int p3), .val (.int c6)] [] (Hb 0 c11)
        refine WP.aloadN d17_81 rfl ?_
        refine WP.iload d17_82 rfl ?_
        obtain ⟨s12, es12, h⟩ := lt_e h
        refine WP.putI (i := 0) (j := 13) (H' := (Hb 0 s12)) d17_84 (hw _ m_63) (Or.inl (hw _ m_64)) (hw _ m_12) (hlay hw) rfl rfl rfl (leb rfl) (by subst es12; rfl) ?_
        refine WP.aloadN d17_87 rfl ?_
        refine WP.aloadN d17_88 rfl ?_
        refine WP.iload d17_89 rfl ?_
        obtain ⟨c13, hc13, h⟩ := Option.bind_eq_some_iff.mp h
        refine WP.callP (i := 0) (y := y23) (as := [.int c6]) (S := [.ref 0]) d17_91 (hw _ m_146) (hw _ m_148) (hw _ m_12) (hw _ m_147) (hw _ m_149) (hw _ m_13) hy23 rfl (ok23 l Z a0 hw n c6 s12 _ hc13) rfl (lenOf pd23 rfl) (leb rfl) (leb rfl) (leb rfl) (leb rfl) ?_
        rintro _ _ ⟨rfl, rfl⟩
        show W17 l Z n0 (P17 r) 0 0 94 [.val (.ref 0), .val (.int p1), .val (.int p2), .val (.int p3), .val (.int c6)] [.int c13.1, .ref 0] (Hb 0 c13.2)
        obtain ⟨s14, es14, h⟩ := lt_e h
        refine WP.putI (i := 0) (j := 12) (H' := (Hb 0 s14)) d17_94 (hw _ m_61) (Or.inl (hw _ m_62)) (hw _ m_12) (hlay hw) rfl rfl rfl (leb rfl) (by subst es14; rfl) ?_
        refine WP.aloadN d17_97 rfl ?_
        refine WP.getfield (i := 0) (j := 12) d17_98 (hw _ m_61) rfl rfl rfl ?_
        rcases ite_e h with ⟨hc15, h⟩ | ⟨hc15, h⟩
        ·
          refine WP.ifY (pc' := 107) d17_101 (XT.i0_eq_t hc15) (by decide) rfl ?_
          refine WP.aloadN d17_107 rfl ?_
          refine WP.iloadN d17_108 rfl ?_
          refine WP.iloadN d17_109 rfl ?_
          refine WP.iloadN d17_110 rfl ?_
          obtain ⟨c16, hc16, h⟩ := Option.bind_eq_some_iff.mp h
          refine WP.callP (i := 0) (y := y25) (as := [.int p1, .int p2, .int p3]) (S := []) d17_111 (hw _ m_154) (hw _ m_156) (hw _ m_12) (hw _ m_155) (hw _ m_157) (hw _ m_13) hy25 rfl (ok25 l Z a0 hw p1 p2 p3 s14 _ hc16) rfl (lenOf pd25 rfl) (leb rfl) (leb rfl) (leb rfl) (leb rfl) ?_
          rintro _ _ ⟨rfl, rfl⟩
          show W17 l Z n0 (P17 r) 0 0 114 [.val (.ref 0), .val (.int p1), .val (.int p2), .val (.int p3), .val (.int c6)] [.int c16.1] (Hb 0 c16.2)
          cases h
          exact WP.ireturn d17_114 rfl (leb rfl) (leb rfl) ⟨rfl, rfl⟩
        ·
          refine WP.ifN d17_101 (XT.i0_eq_f hc15) ?_
          refine WP.bipush (-4 : Int32) d17_104 rfl ?_
          cases h
          exact WP.ireturn d17_106 rfl (leb rfl) (leb rfl) ⟨rfl, rfl⟩
  ·
    refine WP.icmpN d17_8 (XT.ii_lt_f hc1) ?_
    refine WP.iconst (-1 : Int32) d17_11 rfl ?_
    cases h
    exact WP.ireturn d17_12 rfl (leb rfl) (leb rfl) ⟨rfl, rfl⟩
theorem d30_0 : dc prog_1_method_3_code 0 (.iload_n 1) 1 := by decide +kernel
theorem d30_1 : dc prog_1_method_3_code 1 (.ifCond .lt 11) 3 := by decide +kernel
theorem d30_4 : dc prog_1_method_3_code 4 (.iload_n 1) 1 := by decide +kernel
theorem d30_5 : dc prog_1_method_3_code 5 (.aload_n 0) 1 := by decide +kernel
theorem d30_6 : dc prog_1_method_3_code 6 (.getfield 57) 3 := by decide +kernel
theorem d30_9 : dc prog_1_method_3_code 9 (.if_icmp .lt 5) 3 := by decide +kernel
theorem d30_12 : dc prog_1_method_3_code 12 (.iconst 0) 1 := by decide +kernel
theorem d30_13 : dc prog_1_method_3_code 13 (.ireturn) 1 := by decide +kernel
theorem d30_14 : dc prog_1_method_3_code 14 (.iload_n 1) 1 := by decide +kernel
theorem d30_15 : dc prog_1_method_3_code 15 (.istore_n 2) 1 := by decide +kernel
theorem d30_16 : dc prog_1_method_3_code 16 (.iload_n 2) 1 := by decide +kernel
theorem d30_17 : dc prog_1_method_3_code 17 (.iconst 1) 1 := by decide +kernel
theorem d30_18 : dc prog_1_method_3_code 18 (.iadd) 1 := by decide +kernel
theorem d30_19 : dc prog_1_method_3_code 19 (.aload_n 0) 1 := by decide +kernel
theorem d30_20 : dc prog_1_method_3_code 20 (.getfield 57) 3 := by decide +kernel
theorem d30_23 : dc prog_1_method_3_code 23 (.if_icmp .ge 59) 3 := by decide +kernel
theorem d30_26 : dc prog_1_method_3_code 26 (.iload_n 2) 1 := by decide +kernel
theorem d30_27 : dc prog_1_method_3_code 27 (.iconst 1) 1 := by decide +kernel
theorem d30_28 : dc prog_1_method_3_code 28 (.iadd) 1 := by decide +kernel
theorem d30_29 : dc prog_1_method_3_code 29 (.bipush 12) 2 := by decide +kernel
theorem d30_31 : dc prog_1_method_3_code 31 (.if_icmp .ge 51) 3 := by decide +kernel
theorem d30_34 : dc prog_1_method_3_code 34 (.aload_n 0) 1 := by decide +kernel
theorem d30_35 : dc prog_1_method_3_code 35 (.getfield 7) 3 := by decide +kernel
theorem d30_38 : dc prog_1_method_3_code 38 (.iload_n 2) 1 := by decide +kernel
theorem d30_39 : dc prog_1_method_3_code 39 (.aload_n 0) 1 := by decide +kernel
theorem d30_40 : dc prog_1_method_3_code 40 (.getfield 7) 3 := by decide +kernel
theorem d30_43 : dc prog_1_method_3_code 43 (.iload_n 2) 1 := by decide +kernel
theorem d30_44 : dc prog_1_method_3_code 44 (.iconst 1) 1 := by decide +kernel
theorem d30_45 : dc prog_1_method_3_code 45 (.iadd) 1 := by decide +kernel
theorem d30_46 : dc prog_1_method_3_code 46 (.iaload) 1 := by decide +kernel
theorem d30_47 : dc prog_1_method_3_code 47 (.iastore) 1 := by decide +kernel
theorem d30_48 : dc prog_1_method_3_code 48 (.aload_n 0) 1 := by decide +kernel
theorem d30_49 : dc prog_1_method_3_code 49 (.getfield 13) 3 := by decide +kernel
theorem d30_52 : dc prog_1_method_3_code 52 (.iload_n 2) 1 := by decide +kernel
theorem d30_53 : dc prog_1_method_3_code 53 (.aload_n 0) 1 := by decide +kernel
theorem d30_54 : dc prog_1_method_3_code 54 (.getfield 13) 3 := by decide +kernel
theorem d30_57 : dc prog_1_method_3_code 57 (.iload_n 2) 1 := by decide +kernel
theorem d30_58 : dc prog_1_method_3_code 58 (.iconst 1) 1 := by decide +kernel
theorem d30_59 : dc prog_1_method_3_code 59 (.iadd) 1 := by decide +kernel
theorem d30_60 : dc prog_1_method_3_code 60 (.iaload) 1 := by decide +kernel
theorem d30_61 : dc prog_1_method_3_code 61 (.iastore) 1 := by decide +kernel
theorem d30_62 : dc prog_1_method_3_code 62 (.aload_n 0) 1 := by decide +kernel
theorem d30_63 : dc prog_1_method_3_code 63 (.getfield 16) 3 := by decide +kernel
theorem d30_66 : dc prog_1_method_3_code 66 (.iload_n 2) 1 := by decide +kernel
theorem d30_67 : dc prog_1_method_3_code 67 (.aload_n 0) 1 := by decide +kernel
theorem d30_68 : dc prog_1_method_3_code 68 (.getfield 16) 3 := by decide +kernel
theorem d30_71 : dc prog_1_method_3_code 71 (.iload_n 2) 1 := by decide +kernel
theorem d30_72 : dc prog_1_method_3_code 72 (.iconst 1) 1 := by decide +kernel
theorem d30_73 : dc prog_1_method_3_code 73 (.iadd) 1 := by decide +kernel
theorem d30_74 : dc prog_1_method_3_code 74 (.iaload) 1 := by decide +kernel
theorem d30_75 : dc prog_1_method_3_code 75 (.iastore) 1 := by decide +kernel
theorem d30_76 : dc prog_1_method_3_code 76 (.iinc 2 1) 3 := by decide +kernel
theorem d30_79 : dc prog_1_method_3_code 79 (.goto (-63)) 3 := by decide +kernel
theorem d30_82 : dc prog_1_method_3_code 82 (.aload_n 0) 1 := by decide +kernel
theorem d30_83 : dc prog_1_method_3_code 83 (.dup) 1 := by decide +kernel
theorem d30_84 : dc prog_1_method_3_code 84 (.getfield 57) 3 := by decide +kernel
theorem d30_87 : dc prog_1_method_3_code 87 (.iconst 1) 1 := by decide +kernel
theorem d30_88 : dc prog_1_method_3_code 88 (.isub) 1 := by decide +kernel
theorem d30_89 : dc prog_1_method_3_code 89 (.putfield 57) 3 := by decide +kernel
theorem d30_92 : dc prog_1_method_3_code 92 (.iconst 1) 1 := by decide +kernel
theorem d30_93 : dc prog_1_method_3_code 93 (.ireturn) 1 := by decide +kernel
abbrev y30 : MethodName := ⟨"DemandGate", "remove", "(I)Z"⟩
theorem hy30 : y30.cls ≠ "java/lang/invoke/MethodHandle" ∧ y30.cls ≠ "java/lang/invoke/VarHandle" := by decide
theorem pd30 : parseMethodDescriptor y30.desc = some ⟨[.int], some .boolean⟩ := by decide +kernel
abbrev R30 : Room := { frames := 0, cells := 0, slots := 0, locals := 0 }
abbrev P30 (r : Int32 × St) : Option Value → List OwnC → Prop := fun v H' => v = some (.int r.1) ∧ H' = (Hb 0 r.2)
abbrev W30 (l : Launch) (Z : State) (n0 : Nat) (Q : Option Value → List OwnC → Prop) (k n pc : Nat) (L : List Slot) (S : List Value) (H : List OwnC) : Prop := WP l Z CN lay "DemandGate" "remove" prog_1_method_3_code 3 (some FieldType.boolean) R30 n0 0 Q k n pc L S H
def f_remove_12 (n : Nat) (s : St) : Option (Int32 × St) :=
  some ((0 : Int32), s)
set_option maxRecDepth 65536 in
set_option maxHeartbeats 4000000 in
theorem ok30_12 (l : Launch) (Z : State) (a0 : Array Value) (hw : HW a0 Z) (n0 : Nat) (n : Nat) (s : St) (r : Int32 × St) (h : f_remove_12 n s = some r) : W30 l Z n0 (P30 r) 0 0 12 [.unset, .unset, .unset] [] (Hb 0 s) := by
  unfold f_remove_12 at h
  refine WP.iconst (0 : Int32) d30_12 rfl ?_
  cases h
  exact WP.zreturn d30_13 rfl (leb rfl) (leb rfl) ⟨rfl, rfl⟩
def f_remove_82 (n : Nat) (s : St) : Option (Int32 × St) :=
  lt (sI s 2 ((gI s 2) - (1 : Int32))) fun s1 =>
  some ((1 : Int32), s1)
set_option maxRecDepth 65536 in
set_option maxHeartbeats 4000000 in
theorem ok30_82 (l : Launch) (Z : State) (a0 : Array Value) (hw : HW a0 Z) (n0 : Nat) (n : Nat) (s : St) (r : Int32 × St) (h : f_remove_82 n s = some r) : W30 l Z n0 (P30 r) 0 0 82 [.val (.ref 0), .unset, .unset] [] (Hb 0 s) := by
  unfold f_remove_82 at h
  refine WP.aloadN d30_82 rfl ?_
  refine WP.dup d30_83 rfl ?_
  refine WP.getfield (i := 0) (j := 5) d30_84 (hw _ m_53) rfl rfl rfl ?_
  refine WP.iconst (1 : Int32) d30_87 rfl ?_
  refine WP.isub d30_88 ?_
  obtain ⟨s1, es1, h⟩ := lt_e h
  refine WP.putI (i := 0) (j := 5) (H' := (Hb 0 s1)) d30_89 (hw _ m_53) (Or.inl (hw _ m_54)) (hw _ m_12) (hlay hw) rfl rfl rfl (leb rfl) (by subst es1; rfl) ?_
  refine WP.iconst (1 : Int32) d30_92 rfl ?_
  cases h
  exact WP.zreturn d30_93 rfl (leb rfl) (leb rfl) ⟨rfl, rfl⟩
def g_remove_16 (k16 : Int32 → St → Option (Int32 × St)) (n : Nat) (v2 : Int32) (s : St) : Option (Int32 × St) :=
  if (v2 + (1 : Int32)) < (gI s 2) then
    if (v2 + (1 : Int32)) < (12 : Int32) then
      (rd (gA s 0) (v2 + (1 : Int32))).bind fun x3 =>
      (wrA s 0 v2 x3).bind fun s4 =>
      (rd (gA s4 1) (v2 + (1 : Int32))).bind fun x5 =>
      (wrA s4 1 v2 x5).bind fun s6 =>
      (rd (gA s6 2) (v2 + (1 : Int32))).bind fun x7 =>
      (wrA s6 2 v2 x7).bind fun s8 =>
      lt (v2 + (1 : Int32)) fun x9 =>
      k16 x9 s8
    else
      f_remove_82 n s
  else
    f_remove_82 n s
set_option maxRecDepth 65536 in
set_option maxHeartbeats 4000000 in
theorem okg30_16 (l : Launch) (Z : State) (a0 : Array Value) (hw : HW a0 Z) (n0 : Nat) (k16 : Int32 → St → Option (Int32 × St)) (hk16 : ∀ (v2 : Int32) (s : St) (r : Int32 × St), k16 v2 s = some r → W30 l Z n0 (P30 r) 0 0 16 [.val (.ref 0), .unset, .val (.int v2)] [] (Hb 0 s)) (n : Nat) (v2 : Int32) (s : St) (r : Int32 × St) (h : g_remove_16 k16 n v2 s = some r) : W30 l Z n0 (P30 r) 0 0 16 [.val (.ref 0), .unset, .val (.int v2)] [] (Hb 0 s) := by
  unfold g_remove_16 at h
  refine WP.iloadN d30_16 rfl ?_
  refine WP.iconst (1 : Int32) d30_17 rfl ?_
  refine WP.iadd d30_18 ?_
  refine WP.aloadN d30_19 rfl ?_
  refine WP.getfield (i := 0) (j := 5) d30_20 (hw _ m_53) rfl rfl rfl ?_
  rcases ite_e h with ⟨hc1, h⟩ | ⟨hc1, h⟩
  ·
    refine WP.icmpN d30_23 (XT.ii_ge_f hc1) ?_
    refine WP.iloadN d30_26 rfl ?_
    refine WP.iconst (1 : Int32) d30_27 rfl ?_
    refine WP.iadd d30_28 ?_
    refine WP.bipush (12 : Int32) d30_29 rfl ?_
    rcases ite_e h with ⟨hc2, h⟩ | ⟨hc2, h⟩
    ·
      refine WP.icmpN d30_31 (XT.ii_ge_f hc2) ?_
      refine WP.aloadN d30_34 rfl ?_
      refine WP.getfield (i := 0) (j := 2) d30_35 (hw _ m_21) rfl rfl rfl ?_
      refine WP.iloadN d30_38 rfl ?_
      refine WP.aloadN d30_39 rfl ?_
      refine WP.getfield (i := 0) (j := 2) d30_40 (hw _ m_21) rfl rfl rfl ?_
      refine WP.iloadN d30_43 rfl ?_
      refine WP.iconst (1 : Int32) d30_44 rfl ?_
      refine WP.iadd d30_45 ?_
      obtain ⟨x3, hx3, h⟩ := Option.bind_eq_some_iff.mp h
      refine WP.iaload (i := 1) d30_46 rfl hx3 ?_
      obtain ⟨s4, hs4, h⟩ := Option.bind_eq_some_iff.mp h
      obtain ⟨ys4, gs4, es4⟩ := wrA_e hs4
      refine WP.iastore (i := 1) (xs := gA s 0) (H' := (Hb 0 s4)) d30_47 rfl (leb rfl) gs4 (by subst es4; rfl) ?_
      refine WP.aloadN d30_48 rfl ?_
      refine WP.getfield (i := 0) (j := 3) d30_49 (hw _ m_23) rfl rfl rfl ?_
      refine WP.iloadN d30_52 rfl ?_
      refine WP.aloadN d30_53 rfl ?_
      refine WP.getfield (i := 0) (j := 3) d30_54 (hw _ m_23) rfl rfl rfl ?_
      refine WP.iloadN d30_57 rfl ?_
      refine WP.iconst (1 : Int32) d30_58 rfl ?_
      refine WP.iadd d30_59 ?_
      obtain ⟨x5, hx5, h⟩ := Option.bind_eq_some_iff.mp h
      refine WP.iaload (i := 2) d30_60 rfl hx5 ?_
      obtain ⟨s6, hs6, h⟩ := Option.bind_eq_some_iff.mp h
      obtain ⟨ys6, gs6, es6⟩ := wrA_e hs6
      refine WP.iastore (i := 2) (xs := gA s4 1) (H' := (Hb 0 s6)) d30_61 rfl (leb rfl) gs6 (by subst es6; rfl) ?_
      refine WP.aloadN d30_62 rfl ?_
      refine WP.getfield (i := 0) (j := 4) d30_63 (hw _ m_25) rfl rfl rfl ?_
      refine WP.iloadN d30_66 rfl ?_
      refine WP.aloadN d30_67 rfl ?_
      refine WP.getfield (i := 0) (j := 4) d30_68 (hw _ m_25) rfl rfl rfl ?_
      refine WP.iloadN d30_71 rfl ?_
      refine WP.iconst (1 : Int32) d30_72 rfl ?_
      refine WP.iadd d30_73 ?_
      obtain ⟨x7, hx7, h⟩ := Option.bind_eq_some_iff.mp h
      refine WP.iaload (i := 3) d30_74 rfl hx7 ?_
      obtain ⟨s8, hs8, h⟩ := Option.bind_eq_some_iff.mp h
      obtain ⟨ys8, gs8, es8⟩ := wrA_e hs8
      refine WP.iastore (i := 3) (xs := gA s6 2) (H' := (Hb 0 s8)) d30_75 rfl (leb rfl) gs8 (by subst es8; rfl) ?_
      obtain ⟨x9, ex9, h⟩ := lt_e h
      refine WP.iinc (L' := [.val (.ref 0), .unset, .val (.int x9)]) (1 : Int32) d30_76 rfl rfl (by subst ex9; rfl) ?_
      refine WP.goto (pc' := 16) d30_79 (by decide) rfl ?_
      exact WP.weak (L' := [.val (.ref 0), .unset, .val (.int x9)]) ⟨rfl, rfl, trivial⟩ (hk16 x9 s8 _ h)
    ·
      refine WP.icmpY (pc' := 82) d30_31 (XT.ii_ge_t hc2) (by decide) rfl ?_
      exact WP.weak (L' := [.val (.ref 0), .unset, .unset]) ⟨rfl, trivial⟩ (ok30_82 l Z a0 hw n0 n s _ h)
  ·
    refine WP.icmpY (pc' := 82) d30_23 (XT.ii_ge_t hc1) (by decide) rfl ?_
    exact WP.weak (L' := [.val (.ref 0), .unset, .unset]) ⟨rfl, trivial⟩ (ok30_82 l Z a0 hw n0 n s _ h)
def f_remove_16 : Nat → Int32 → St → Option (Int32 × St)
  | 0 => fun _ _ => none
  | n + 1 => g_remove_16 (f_remove_16 n) n
theorem ok30_16 (l : Launch) (Z : State) (a0 : Array Value) (hw : HW a0 Z) (n0 : Nat) : ∀ (n : Nat) (v2 : Int32) (s : St) (r : Int32 × St), f_remove_16 n v2 s = some r → W30 l Z n0 (P30 r) 0 0 16 [.val (.ref 0), .unset, .val (.int v2)] [] (Hb 0 s)
  | 0, v2, s, r, h => nomatch (show none = some r from h)
  | n + 1, v2, s, r, h => okg30_16 l Z a0 hw n0 _ (ok30_16 l Z a0 hw n0 n) n v2 s r h
def f_remove (n : Nat) (p1 : Int32) (s : St) : Option (Int32 × St) :=
  if p1 < 0 then
    f_remove_12 n s
  else
    if p1 < (gI s 2) then
      f_remove_16 n p1 s
    else
      f_remove_12 n s
set_option maxRecDepth 65536 in
set_option maxHeartbeats 4000000 in
theorem ok30 (l : Launch) (Z : State) (a0 : Array Value) (hw : HW a0 Z) (n : Nat) (p1 : Int32) (s : St) (r : Int32 × St) (h : f_remove n p1 s = some r) : CS l Z CN lay y30 prog_1_method_3_code 3 (some FieldType.boolean) R30 0 [.ref 0, .int p1] (Hb 0 s) (P30 r) := by
  refine CS.of_wp pn_cls (leb rfl) fun n0 => ?_
  show W30 l Z n0 (P30 r) 0 0 0 [.val (.ref 0), .val (.int p1), .unset] [] (Hb 0 s)
  unfold f_remove at h
  refine WP.iloadN d30_0 rfl ?_
  rcases ite_e h with ⟨hc1, h⟩ | ⟨hc1, h⟩
  ·
    refine WP.ifY (pc' := 12) d30_1 (XT.i0_lt_t hc1) (by decide) rfl ?_
    exact WP.weak (L' := [.unset, .unset, .unset]) trivial (ok30_12 l Z a0 hw n0 n s _ h)
  ·
    refine WP.ifN d30_1 (XT.i0_lt_f hc1) ?_
    refine WP.iloadN d30_4 rfl ?_
    refine WP.aloadN d30_5 rfl ?_
    refine WP.getfield (i := 0) (j := 5) d30_6 (hw _ m_53) rfl rfl rfl ?_
    rcases ite_e h with ⟨hc2, h⟩ | ⟨hc2, h⟩
    ·
      refine WP.icmpY (pc' := 14) d30_9 (XT.ii_lt_t hc2) (by decide) rfl ?_
      refine WP.iloadN d30_14 rfl ?_
      refine WP.istoreN (L' := [.val (.ref 0), .val (.int p1), .val (.int p1)]) d30_15 (leb rfl) rfl ?_
      exact WP.weak (L' := [.val (.ref 0), .unset, .val (.int p1)]) ⟨rfl, rfl, trivial⟩ (ok30_16 l Z a0 hw n0 n p1 s _ h)
    ·
      refine WP.icmpN d30_9 (XT.ii_lt_f hc2) ?_
      exact WP.weak (L' := [.unset, .unset, .unset]) trivial (ok30_12 l Z a0 hw n0 n s _ h)
theorem d31_0 : dc prog_1_method_4_code 0 (.aload_n 0) 1 := by decide +kernel
theorem d31_1 : dc prog_1_method_4_code 1 (.iconst 0) 1 := by decide +kernel
theorem d31_2 : dc prog_1_method_4_code 2 (.putfield 57) 3 := by decide +kernel
theorem d31_5 : dc prog_1_method_4_code 5 (.return_) 1 := by decide +kernel
abbrev y31 : MethodName := ⟨"DemandGate", "clear", "()V"⟩
theorem hy31 : y31.cls ≠ "java/lang/invoke/MethodHandle" ∧ y31.cls ≠ "java/lang/invoke/VarHandle" := by decide
theorem pd31 : parseMethodDescriptor y31.desc = some ⟨[], none⟩ := by decide +kernel
abbrev R31 : Room := { frames := 0, cells := 0, slots := 0, locals := 0 }
abbrev P31 (r : St) : Option Value → List OwnC → Prop := fun v H' => v = none ∧ H' = (Hb 0 r)
abbrev W31 (l : Launch) (Z : State) (n0 : Nat) (Q : Option Value → List OwnC → Prop) (k n pc : Nat) (L : List Slot) (S : List Value) (H : List OwnC) : Prop := WP l Z CN lay "DemandGate" "clear" prog_1_method_4_code 1 (none) R31 n0 0 Q k n pc L S H
def f_clear (s : St) : Option (St) :=
  lt (sI s 2 (0 : Int32)) fun s1 =>
  some s1
set_option maxRecDepth 65536 in
set_option maxHeartbeats 4000000 in
theorem ok31 (l : Launch) (Z : State) (a0 : Array Value) (hw : HW a0 Z) (s : St) (r : St) (h : f_clear s = some r) : CS l Z CN lay y31 prog_1_method_4_code 1 (none) R31 0 [.ref 0] (Hb 0 s) (P31 r) := by
  refine CS.of_wp pn_cls (leb rfl) fun n0 => ?_
  show W31 l Z n0 (P31 r) 0 0 0 [.val (.ref 0)] [] (Hb 0 s)
  unfold f_clear at h
  refine WP.aloadN d31_0 rfl ?_
  refine WP.iconst (0 : Int32) d31_1 rfl ?_
  obtain ⟨s1, es1, h⟩ := lt_e h
  refine WP.putI (i := 0) (j := 5) (H' := (Hb 0 s1)) d31_2 (hw _ m_53) (Or.inl (hw _ m_54)) (hw _ m_12) (hlay hw) rfl rfl rfl (leb rfl) (by subst es1; rfl) ?_
  cases h
  exact WP.vreturn d31_5 rfl (leb rfl) (leb rfl) ⟨rfl, rfl⟩
def fr0_f : List Nat := [0]
theorem fr0_c (x0 : List Int32) (x1 : St) : fr0_f.map (fun i => ([cI x0] ++ Hb 1 x1)[i]?) = ([cI x0]).map (fun c => some (rnC (ro1 fr0_f ([cI x0] ++ Hb 1 x1).length) c)) := rfl
theorem fr0_l (x0 : List Int32) (x1 : St) : ∀ x ∈ fr0_f, x < ([cI x0] ++ Hb 1 x1).length := by show ∀ x ∈ fr0_f, x < 14; decide
theorem fr0_p (x0 : List Int32) (x1 : St) : patch (ro1 fr0_f ([cI x0] ++ Hb 1 x1).length) fr0_f ([cI x0]) ([cI x0] ++ Hb 1 x1) = ([cI x0] ++ Hb 1 x1) := by
  have h := patch_seg (ro1 fr0_f ([cI x0] ++ Hb 1 x1).length) ([cI x0]) ([cI x0]) ([] : List OwnC) (Hb 1 x1) rfl
  rw [show List.range' ([] : List OwnC).length ([cI x0]).length = fr0_f from rfl, show ([cI x0]).map (rnC (ro1 fr0_f ([cI x0] ++ Hb 1 x1).length)) = ([cI x0]) from rfl] at h
  simpa only [List.append_assoc, List.append_nil, List.nil_append] using h
def fr1_f : List Nat := []
theorem fr1_c (x0 : List Int32) (x1 : St) : fr1_f.map (fun i => ([cI x0] ++ Hb 1 x1)[i]?) = ([] : List OwnC).map (fun c => some (rnC (ro1 fr1_f ([cI x0] ++ Hb 1 x1).length) c)) := rfl
theorem fr1_l (x0 : List Int32) (x1 : St) : ∀ x ∈ fr1_f, x < ([cI x0] ++ Hb 1 x1).length := by show ∀ x ∈ fr1_f, x < 14; decide
theorem fr1_p (x0 : List Int32) (x1 : St) : patch (ro1 fr1_f ([cI x0] ++ Hb 1 x1).length) fr1_f ([] : List OwnC) ([cI x0] ++ Hb 1 x1) = ([cI x0] ++ Hb 1 x1) := rfl
def fr2_f : List Nat := [1, 2, 3, 4, 5, 6, 7, 8, 9, 10, 11, 12, 13]
theorem fr2_c (x0 : List Int32) (x1 : St) : fr2_f.map (fun i => ([cI x0] ++ Hb 1 x1)[i]?) = (Hb 0 x1).map (fun c => some (rnC (ro1 fr2_f ([cI x0] ++ Hb 1 x1).length) c)) := rfl
theorem fr2_l (x0 : List Int32) (x1 : St) : ∀ x ∈ fr2_f, x < ([cI x0] ++ Hb 1 x1).length := by show ∀ x ∈ fr2_f, x < 14; decide
theorem fr2_p (x0 : List Int32) (x1 : St) (y1 : St) : patch (ro1 fr2_f ([cI x0] ++ Hb 1 x1).length) fr2_f (Hb 0 y1) ([cI x0] ++ Hb 1 x1) = ([cI x0] ++ Hb 1 y1) := by
  have h := patch_seg (ro1 fr2_f ([cI x0] ++ Hb 1 x1).length) (Hb 0 y1) (Hb 1 x1) ([cI x0]) ([] : List OwnC) rfl
  rw [show List.range' ([cI x0]).length (Hb 0 y1).length = fr2_f from rfl, show (Hb 0 y1).map (rnC (ro1 fr2_f ([cI x0] ++ Hb 1 x1).length)) = (Hb 1 y1) from rfl] at h
  simpa only [List.append_assoc, List.append_nil, List.nil_append] using h
def fr3_f : List Nat := []
theorem fr3_c (x0 : List Int32) : fr3_f.map (fun i => ([cI x0])[i]?) = ([] : List OwnC).map (fun c => some (rnC (ro1 fr3_f ([cI x0]).length) c)) := rfl
theorem fr3_l (x0 : List Int32) : ∀ x ∈ fr3_f, x < ([cI x0]).length := by show ∀ x ∈ fr3_f, x < 1; decide
theorem fr3_p (x0 : List Int32) : patch (ro1 fr3_f ([cI x0]).length) fr3_f ([] : List OwnC) ([cI x0]) = ([cI x0]) := rfl
def fr4_f : List Nat := [1]
theorem fr4_c (x0 : List Int32) : fr4_f.map (fun i => ([cI x0] ++ [cO vs0])[i]?) = ([cO vs0]).map (fun c => some (rnC (ro1 fr4_f ([cI x0] ++ [cO vs0]).length) c)) := rfl
theorem fr4_l (x0 : List Int32) : ∀ x ∈ fr4_f, x < ([cI x0] ++ [cO vs0]).length := by show ∀ x ∈ fr4_f, x < 2; decide
theorem fr4_p (x0 : List Int32) (y1 : St) : patch (ro1 fr4_f ([cI x0] ++ [cO vs0]).length) fr4_f (Hb 0 y1) ([cI x0] ++ [cO vs0]) = ([cI x0] ++ Hb 1 y1) := rfl
abbrev PLAW (r : Int32) : Option Value → List OwnC → Prop := fun v _ => v = some (.int r)
abbrev WLAW (l : Launch) (Z : State) (n0 : Nat) (Q : Option Value → List OwnC → Prop) (k n pc : Nat) (L : List Slot) (S : List Value) (H : List OwnC) : Prop := WP l Z CN lay "DemandGateOwnLaw" "law" code maxLocals ret room_1 n0 1 Q k n pc L S H
def f_law_256 (k47 : Int32 → List Int32 → St → Option (Int32)) (n : Nat) (v4 : Int32) (a : List Int32) (s0 : St) : Option (Int32) :=
  (f_simulate n (0 : Int32) s0).bind fun c1 =>
  if c1.1 = (2 : Int32) then
    some (0 : Int32)
  else
    lt (v4 + (4 : Int32)) fun x3 =>
    k47 x3 a c1.2
set_option maxRecDepth 65536 in
set_option maxHeartbeats 4000000 in
theorem okLAW_256 (l : Launch) (Z : State) (a0 : Array Value) (hw : HW a0 Z) (n0 : Nat) (k47 : Int32 → List Int32 → St → Option (Int32)) (hk47 : ∀ (v4 : Int32) (a : List Int32) (s0 : St) (r : Int32), k47 v4 a s0 = some r → WLAW l Z n0 (PLAW r) 13 168 47 [.val (.ref 0), .unset, .unset, .val (.ref 1), .val (.int v4), .unset, .unset, .unset, .unset, .unset, .unset] [] ([cI a] ++ Hb 1 s0)) (n : Nat) (v4 : Int32) (a : List Int32) (s0 : St) (r : Int32) (h : f_law_256 k47 n v4 a s0 = some r) : WLAW l Z n0 (PLAW r) 13 168 256 [.val (.ref 0), .unset, .unset, .val (.ref 1), .val (.int v4), .unset, .unset, .unset, .unset, .unset, .unset] [] ([cI a] ++ Hb 1 s0) := by
  unfold f_law_256 at h
  refine WP.aloadN at_256 rfl ?_
  refine WP.iconst (0 : Int32) at_257 rfl ?_
  obtain ⟨c1, hc1, h⟩ := Option.bind_eq_some_iff.mp h
  refine WP.callV (i := 1) (y := y5) (as := [.int (0 : Int32)]) (S := []) at_258 (hw _ m_73) (hw _ m_74) (hw _ m_76) (hw _ m_75) (hw _ m_77) (hw _ m_13) hy5 rfl (CS.frame (ro := 1) (H := ([cI a] ++ Hb 1 s0)) (as := [.ref 1, .int (0 : Int32)]) fr2_f (ok5 l Z a0 hw n (0 : Int32) s0 _ hc1) rfl (by decide) (fr2_l a s0) (fr2_c a s0) (by decide) rfl) rfl (lenOf pd5 rfl) (leb rfl) (leb rfl) (leb rfl) (leb rfl) ?_
  rintro _ _ ⟨_, _, ⟨rfl, rfl⟩, rfl, rfl⟩
  rw [fr2_p a s0 c1.2]
  show WLAW l Z n0 (PLAW r) 13 168 261 [.val (.ref 0), .unset, .unset, .val (.ref 1), .val (.int v4), .unset, .unset, .unset, .unset, .unset, .unset] [.int c1.1] ([cI a] ++ Hb 1 c1.2)
  refine WP.iconst (2 : Int32) at_261 rfl ?_
  rcases ite_e h with ⟨hc2, h⟩ | ⟨hc2, h⟩
  ·
    refine WP.icmpN at_262 (XT.ii_ne_f hc2) ?_
    refine WP.iconst (0 : Int32) at_265 rfl ?_
    cases h
    exact WP.zreturn at_266 rfl (leb rfl) (leb rfl) rfl
  ·
    refine WP.icmpY (pc' := 267) at_262 (XT.ii_ne_t hc2) (by decide) rfl ?_
    obtain ⟨x3, ex3, h⟩ := lt_e h
    refine WP.iinc (L' := [.val (.ref 0), .unset, .unset, .val (.ref 1), .val (.int x3), .unset, .unset, .unset, .unset, .unset, .unset]) (4 : Int32) at_267 rfl rfl (by subst ex3; rfl) ?_
    refine WP.goto (pc' := 47) at_270 (by decide) rfl ?_
    exact WP.weak (L' := [.val (.ref 0), .unset, .unset, .val (.ref 1), .val (.int x3), .unset, .unset, .unset, .unset, .unset, .unset]) ⟨rfl, rfl, rfl, trivial⟩ (hk47 x3 a c1.2 _ h)
def f_law_179 (k47 : Int32 → List Int32 → St → Option (Int32)) (n : Nat) (v4 : Int32) (a : List Int32) (s0 : St) : Option (Int32) :=
  f_law_256 k47 n v4 a s0
set_option maxRecDepth 65536 in
set_option maxHeartbeats 4000000 in
theorem okLAW_179 (l : Launch) (Z : State) (a0 : Array Value) (hw : HW a0 Z) (n0 : Nat) (k47 : Int32 → List Int32 → St → Option (Int32)) (hk47 : ∀ (v4 : Int32) (a : List Int32) (s0 : St) (r : Int32), k47 v4 a s0 = some r → WLAW l Z n0 (PLAW r) 13 168 47 [.val (.ref 0), .unset, .unset, .val (.ref 1), .val (.int v4), .unset, .unset, .unset, .unset, .unset, .unset] [] ([cI a] ++ Hb 1 s0)) (n : Nat) (v4 : Int32) (a : List Int32) (s0 : St) (r : Int32) (h : f_law_179 k47 n v4 a s0 = some r) : WLAW l Z n0 (PLAW r) 13 168 179 [.val (.ref 0), .unset, .unset, .val (.ref 1), .val (.int v4), .unset, .unset, .unset, .unset, .unset, .unset] [] ([cI a] ++ Hb 1 s0) := by
  unfold f_law_179 at h
  refine WP.goto (pc' := 256) at_179 (by decide) rfl ?_
  exact WP.weak (L' := [.val (.ref 0), .unset, .unset, .val (.ref 1), .val (.int v4), .unset, .unset, .unset, .unset, .unset, .unset]) ⟨rfl, rfl, rfl, trivial⟩ (okLAW_256 l Z a0 hw n0 _ hk47 n v4 a s0 _ h)
def f_law_164 (k47 : Int32 → List Int32 → St → Option (Int32)) (n : Nat) (v4 : Int32) (v9 : Int32) (v10 : Int32) (a : List Int32) (s0 : St) : Option (Int32) :=
  if v9 = (-4 : Int32) then
    if v10 = (2 : Int32) then
      f_law_179 k47 n v4 a s0
    else
      some (0 : Int32)
  else
    f_law_179 k47 n v4 a s0
set_option maxRecDepth 65536 in
set_option maxHeartbeats 4000000 in
theorem okLAW_164 (l : Launch) (Z : State) (a0 : Array Value) (hw : HW a0 Z) (n0 : Nat) (k47 : Int32 → List Int32 → St → Option (Int32)) (hk47 : ∀ (v4 : Int32) (a : List Int32) (s0 : St) (r : Int32), k47 v4 a s0 = some r → WLAW l Z n0 (PLAW r) 13 168 47 [.val (.ref 0), .unset, .unset, .val (.ref 1), .val (.int v4), .unset, .unset, .unset, .unset, .unset, .unset] [] ([cI a] ++ Hb 1 s0)) (n : Nat) (v4 : Int32) (v9 : Int32) (v10 : Int32) (a : List Int32) (s0 : St) (r : Int32) (h : f_law_164 k47 n v4 v9 v10 a s0 = some r) : WLAW l Z n0 (PLAW r) 13 168 164 [.val (.ref 0), .unset, .unset, .val (.ref 1), .val (.int v4), .unset, .unset, .unset, .unset, .val (.int v9), .val (.int v10)] [] ([cI a] ++ Hb 1 s0) := by
  unfold f_law_164 at h
  refine WP.iload at_164 rfl ?_
  refine WP.bipush (-4 : Int32) at_166 rfl ?_
  rcases ite_e h with ⟨hc1, h⟩ | ⟨hc1, h⟩
  ·
    refine WP.icmpN at_168 (XT.ii_ne_f hc1) ?_
    refine WP.iload at_171 rfl ?_
    refine WP.iconst (2 : Int32) at_173 rfl ?_
    rcases ite_e h with ⟨hc2, h⟩ | ⟨hc2, h⟩
    ·
      refine WP.icmpY (pc' := 179) at_174 (XT.ii_eq_t hc2) (by decide) rfl ?_
      exact WP.weak (L' := [.val (.ref 0), .unset, .unset, .val (.ref 1), .val (.int v4), .unset, .unset, .unset, .unset, .unset, .unset]) ⟨rfl, rfl, rfl, trivial⟩ (okLAW_179 l Z a0 hw n0 _ hk47 n v4 a s0 _ h)
    ·
      refine WP.icmpN at_174 (XT.ii_eq_f hc2) ?_
      refine WP.iconst (0 : Int32) at_177 rfl ?_
      cases h
      exact WP.zreturn at_178 rfl (leb rfl) (leb rfl) rfl
  ·
    refine WP.icmpY (pc' := 179) at_168 (XT.ii_ne_t hc1) (by decide) rfl ?_
    exact WP.weak (L' := [.val (.ref 0), .unset, .unset, .val (.ref 1), .val (.int v4), .unset, .unset, .unset, .unset, .unset, .unset]) ⟨rfl, rfl, rfl, trivial⟩ (okLAW_179 l Z a0 hw n0 _ hk47 n v4 a s0 _ h)
def f_law_144 (k47 : Int32 → List Int32 → St → Option (Int32)) (n : Nat) (v4 : Int32) (v9 : Int32) (a : List Int32) (s0 : St) : Option (Int32) :=
  (f_simulate n (1 : Int32) s0).bind fun c1 =>
  if v9 < 0 then
    f_law_164 k47 n v4 v9 c1.1 a c1.2
  else
    if c1.1 = (1 : Int32) then
      f_law_164 k47 n v4 v9 c1.1 a c1.2
    else
      some (0 : Int32)
set_option maxRecDepth 65536 in
set_option maxHeartbeats 4000000 in
theorem okLAW_144 (l : Launch) (Z : State) (a0 : Array Value) (hw : HW a0 Z) (n0 : Nat) (k47 : Int32 → List Int32 → St → Option (Int32)) (hk47 : ∀ (v4 : Int32) (a : List Int32) (s0 : St) (r : Int32), k47 v4 a s0 = some r → WLAW l Z n0 (PLAW r) 13 168 47 [.val (.ref 0), .unset, .unset, .val (.ref 1), .val (.int v4), .unset, .unset, .unset, .unset, .unset, .unset] [] ([cI a] ++ Hb 1 s0)) (n : Nat) (v4 : Int32) (v9 : Int32) (a : List Int32) (s0 : St) (r : Int32) (h : f_law_144 k47 n v4 v9 a s0 = some r) : WLAW l Z n0 (PLAW r) 13 168 144 [.val (.ref 0), .unset, .unset, .val (.ref 1), .val (.int v4), .unset, .unset, .unset, .unset, .val (.int v9), .unset] [] ([cI a] ++ Hb 1 s0) := by
  unfold f_law_144 at h
  refine WP.aloadN at_144 rfl ?_
  refine WP.iconst (1 : Int32) at_145 rfl ?_
  obtain ⟨c1, hc1, h⟩ := Option.bind_eq_some_iff.mp h
  refine WP.callV (i := 1) (y := y5) (as := [.int (1 : Int32)]) (S := []) at_146 (hw _ m_73) (hw _ m_74) (hw _ m_76) (hw _ m_75) (hw _ m_77) (hw _ m_13) hy5 rfl (CS.frame (ro := 1) (H := ([cI a] ++ Hb 1 s0)) (as := [.ref 1, .int (1 : Int32)]) fr2_f (ok5 l Z a0 hw n (1 : Int32) s0 _ hc1) rfl (by decide) (fr2_l a s0) (fr2_c a s0) (by decide) rfl) rfl (lenOf pd5 rfl) (leb rfl) (leb rfl) (leb rfl) (leb rfl) ?_
  rintro _ _ ⟨_, _, ⟨rfl, rfl⟩, rfl, rfl⟩
  rw [fr2_p a s0 c1.2]
  show WLAW l Z n0 (PLAW r) 13 168 149 [.val (.ref 0), .unset, .unset, .val (.ref 1), .val (.int v4), .unset, .unset, .unset, .unset, .val (.int v9), .unset] [.int c1.1] ([cI a] ++ Hb 1 c1.2)
  refine WP.istore (L' := [.val (.ref 0), .unset, .unset, .val (.ref 1), .val (.int v4), .unset, .unset, .unset, .unset, .val (.int v9), .val (.int c1.1)]) at_149 (leb rfl) rfl ?_
  refine WP.iload at_151 rfl ?_
  rcases ite_e h with ⟨hc2, h⟩ | ⟨hc2, h⟩
  ·
    refine WP.ifY (pc' := 164) at_153 (XT.i0_lt_t hc2) (by decide) rfl ?_
    exact WP.weak (L' := [.val (.ref 0), .unset, .unset, .val (.ref 1), .val (.int v4), .unset, .unset, .unset, .unset, .val (.int v9), .val (.int c1.1)]) ⟨rfl, rfl, rfl, rfl, rfl, trivial⟩ (okLAW_164 l Z a0 hw n0 _ hk47 n v4 v9 c1.1 a c1.2 _ h)
  ·
    refine WP.ifN at_153 (XT.i0_lt_f hc2) ?_
    refine WP.iload at_156 rfl ?_
    refine WP.iconst (1 : Int32) at_158 rfl ?_
    rcases ite_e h with ⟨hc3, h⟩ | ⟨hc3, h⟩
    ·
      refine WP.icmpY (pc' := 164) at_159 (XT.ii_eq_t hc3) (by decide) rfl ?_
      exact WP.weak (L' := [.val (.ref 0), .unset, .unset, .val (.ref 1), .val (.int v4), .unset, .unset, .unset, .unset, .val (.int v9), .val (.int c1.1)]) ⟨rfl, rfl, rfl, rfl, rfl, trivial⟩ (okLAW_164 l Z a0 hw n0 _ hk47 n v4 v9 c1.1 a c1.2 _ h)
    ·
      refine WP.icmpN at_159 (XT.ii_eq_f hc3) ?_
      refine WP.iconst (0 : Int32) at_162 rfl ?_
      cases h
      exact WP.zreturn at_163 rfl (leb rfl) (leb rfl) rfl
def g_law_47 (k47 : Int32 → List Int32 → St → Option (Int32)) (n : Nat) (v4 : Int32) (a : List Int32) (s0 : St) : Option (Int32) :=
  if v4 < a.length.toInt32 then
    (f_L_cell v4 a).bind fun c2 =>
    lt (c2 &&& (7 : Int32)) fun x3 =>
    if (4 : Int32) < x3 then
      if x3 = (5 : Int32) then
        (f_L_cell (v4 + (1 : Int32)) a).bind fun c6 =>
        (f_L_nz c6).bind fun c7 =>
        (f_remove n (c7 % (13 : Int32)) s0).bind fun c8 =>
        f_law_256 k47 n v4 a c8.2
      else
        if x3 = (6 : Int32) then
          (f_L_cell (v4 + (1 : Int32)) a).bind fun c10 =>
          if (c10 &&& (3 : Int32)) = 0 then
            (f_clear s0).bind fun c12 =>
            f_law_256 k47 n v4 a c12
          else
            (f_L_cell (v4 + (2 : Int32)) a).bind fun c13 =>
            (f_L_nz c13).bind fun c14 =>
            (f_remove n (c14 % (13 : Int32)) s0).bind fun c15 =>
            f_law_256 k47 n v4 a c15.2
        else
          f_law_256 k47 n v4 a s0
    else
      (f_L_cell (v4 + (1 : Int32)) a).bind fun c16 =>
      (f_L_period c16).bind fun c17 =>
      (f_L_cell (v4 + (2 : Int32)) a).bind fun c18 =>
      (f_L_nz c18).bind fun c19 =>
      if c17 = 0 then none else
      lt ((1 : Int32) + (c19 % c17)) fun x21 =>
      (f_L_cell (v4 + (3 : Int32)) a).bind fun c22 =>
      (f_L_nz c22).bind fun c23 =>
      if c17 = 0 then none else
      lt ((1 : Int32) + (c23 % c17)) fun x25 =>
      (f_propose n x21 x25 c17 s0).bind fun c26 =>
      if c26.1 < 0 then
        if c26.1 = (-4 : Int32) then
          f_law_144 k47 n v4 c26.1 a c26.2
        else
          f_law_179 k47 n v4 a c26.2
      else
        f_law_144 k47 n v4 c26.1 a c26.2
  else
    some (1 : Int32)
set_option maxRecDepth 65536 in
set_option maxHeartbeats 4000000 in
theorem okgLAW_47 (l : Launch) (Z : State) (a0 : Array Value) (hw : HW a0 Z) (n0 : Nat) (k47 : Int32 → List Int32 → St → Option (Int32)) (hk47 : ∀ (v4 : Int32) (a : List Int32) (s0 : St) (r : Int32), k47 v4 a s0 = some r → WLAW l Z n0 (PLAW r) 13 168 47 [.val (.ref 0), .unset, .unset, .val (.ref 1), .val (.int v4), .unset, .unset, .unset, .unset, .unset, .unset] [] ([cI a] ++ Hb 1 s0)) (n : Nat) (v4 : Int32) (a : List Int32) (s0 : St) (r : Int32) (h : g_law_47 k47 n v4 a s0 = some r) : WLAW l Z n0 (PLAW r) 13 168 47 [.val (.ref 0), .unset, .unset, .val (.ref 1), .val (.int v4), .unset, .unset, .unset, .unset, .unset, .unset] [] ([cI a] ++ Hb 1 s0) := by
  unfold g_law_47 at h
  refine WP.iload at_47 rfl ?_
  refine WP.aloadN at_49 rfl ?_
  refine WP.arraylength (i := 0) (xs := a) at_50 rfl ?_
  rcases ite_e h with ⟨hc1, h⟩ | ⟨hc1, h⟩
  ·
    refine WP.icmpN at_51 (XT.ii_ge_f hc1) ?_
    refine WP.aloadN at_54 rfl ?_
    refine WP.iload at_55 rfl ?_
    obtain ⟨c2, hc2, h⟩ := Option.bind_eq_some_iff.mp h
    refine WP.callS (y := y0) (as := [.ref 0, .int v4]) (S := []) at_57 (hw _ m_0) (hw _ m_1) (hw _ m_2) (hw _ m_3) hy0 (CS.frame (ro := 1) (H := ([cI a] ++ Hb 1 s0)) (as := [.ref 0, .int v4]) fr0_f (ok0 l Z a0 hw v4 a _ hc2) rfl (by decide) (fr0_l a s0) (fr0_c a s0) (by decide) rfl) rfl (lenOf pd0 rfl) (leb rfl) (leb rfl) (leb rfl) (leb rfl) ?_
    rintro _ _ ⟨_, _, ⟨rfl, rfl⟩, rfl, rfl⟩
    rw [fr0_p a s0]
    show WLAW l Z n0 (PLAW r) 13 168 60 [.val (.ref 0), .unset, .unset, .val (.ref 1), .val (.int v4), .unset, .unset, .unset, .unset, .unset, .unset] [.int c2] ([cI a] ++ Hb 1 s0)
    refine WP.bipush (7 : Int32) at_60 rfl ?_
    refine WP.iand at_62 ?_
    obtain ⟨x3, ex3, h⟩ := lt_e h
    refine WP.istore (L' := [.val (.ref 0), .unset, .unset, .val (.ref 1), .val (.int v4), .val (.int x3), .unset, .unset, .unset, .unset, .unset]) at_63 (leb rfl) (by subst ex3; rfl) ?_
    refine WP.iload at_65 rfl ?_
    refine WP.iconst (4 : Int32) at_67 rfl ?_
    rcases ite_e h with ⟨hc4, h⟩ | ⟨hc4, h⟩
    ·
      refine WP.icmpY (pc' := 182) at_68 (XT.ii_gt_t hc4) (by decide) rfl ?_
      refine WP.iload at_182 rfl ?_
      refine WP.iconst (5 : Int32) at_184 rfl ?_
      rcases ite_e h with ⟨hc5, h⟩ | ⟨hc5, h⟩
      ·
        refine WP.icmpN at_185 (XT.ii_ne_f hc5) ?_
        refine WP.aloadN at_188 rfl ?_
        refine WP.aloadN at_189 rfl ?_
        refine WP.iload at_190 rfl ?_
        refine WP.iconst (1 : Int32) at_192 rfl ?_
        refine WP.iadd at_193 ?_
        obtain ⟨c6, hc6, h⟩ := Option.bind_eq_some_iff.mp h
        refine WP.callS (y := y0) (as := [.ref 0, .int (v4 + (1 : Int32))]) (S := [.ref 1]) at_194 (hw _ m_0) (hw _ m_1) (hw _ m_2) (hw _ m_3) hy0 (CS.frame (ro := 1) (H := ([cI a] ++ Hb 1 s0)) (as := [.ref 0, .int (v4 + (1 : Int32))]) fr0_f (ok0 l Z a0 hw (v4 + (1 : Int32)) a _ hc6) rfl (by decide) (fr0_l a s0) (fr0_c a s0) (by decide) rfl) rfl (lenOf pd0 rfl) (leb rfl) (leb rfl) (leb rfl) (leb rfl) ?_
        rintro _ _ ⟨_, _, ⟨rfl, rfl⟩, rfl, rfl⟩
        rw [fr0_p a s0]
        show WLAW l Z n0 (PLAW r) 13 168 197 [.val (.ref 0), .unset, .unset, .val (.ref 1), .val (.int v4), .val (.int x3), .unset, .unset, .unset, .unset, .unset] [.int c6, .ref 1] ([cI a] ++ Hb 1 s0)
        obtain ⟨c7, hc7, h⟩ := Option.bind_eq_some_iff.mp h
        refine WP.callS (y := y1) (as := [.int c6]) (S := [.ref 1]) at_197 (hw _ m_4) (hw _ m_5) (hw _ m_2) (hw _ m_6) hy1 (CS.frame (ro := 1) (H := ([cI a] ++ Hb 1 s0)) (as := [.int c6]) fr1_f (ok1 l Z a0 hw c6 _ hc7) rfl (by decide) (fr1_l a s0) (fr1_c a s0) (by decide) rfl) rfl (lenOf pd1 rfl) (leb rfl) (leb rfl) (leb rfl) (leb rfl) ?_
        rintro _ _ ⟨_, _, ⟨rfl, rfl⟩, rfl, rfl⟩
        rw [fr1_p a s0]
        show WLAW l Z n0 (PLAW r) 13 168 200 [.val (.ref 0), .unset, .unset, .val (.ref 1), .val (.int v4), .val (.int x3), .unset, .unset, .unset, .unset, .unset] [.int c7, .ref 1] ([cI a] ++ Hb 1 s0)
        refine WP.bipush (13 : Int32) at_200 rfl ?_
        refine WP.irem at_202 (by decide) ?_
        obtain ⟨c8, hc8, h⟩ := Option.bind_eq_some_iff.mp h
        refine WP.callV (i := 1) (y := y30) (as := [.int (c7 % (13 : Int32))]) (S := []) at_203 (hw _ m_175) (hw _ m_176) (hw _ m_178) (hw _ m_177) (hw _ m_179) (hw _ m_13) hy30 rfl (CS.frame (ro := 1) (H := ([cI a] ++ Hb 1 s0)) (as := [.ref 1, .int (c7 % (13 : Int32))]) fr2_f (ok30 l Z a0 hw n (c7 % (13 : Int32)) s0 _ hc8) rfl (by decide) (fr2_l a s0) (fr2_c a s0) (by decide) rfl) rfl (lenOf pd30 rfl) (leb rfl) (leb rfl) (leb rfl) (leb rfl) ?_
        rintro _ _ ⟨_, _, ⟨rfl, rfl⟩, rfl, rfl⟩
        rw [fr2_p a s0 c8.2]
        show WLAW l Z n0 (PLAW r) 13 168 206 [.val (.ref 0), .unset, .unset, .val (.ref 1), .val (.int v4), .val (.int x3), .unset, .unset, .unset, .unset, .unset] [.int c8.1] ([cI a] ++ Hb 1 c8.2)
        refine WP.pop at_206 rfl ?_
        refine WP.goto (pc' := 256) at_207 (by decide) rfl ?_
        exact WP.weak (L' := [.val (.ref 0), .unset, .unset, .val (.ref 1), .val (.int v4), .unset, .unset, .unset, .unset, .unset, .unset]) ⟨rfl, rfl, rfl, trivial⟩ (okLAW_256 l Z a0 hw n0 _ hk47 n v4 a c8.2 _ h)
      ·
        refine WP.icmpY (pc' := 210) at_185 (XT.ii_ne_t hc5) (by decide) rfl ?_
        refine WP.iload at_210 rfl ?_
        refine WP.bipush (6 : Int32) at_212 rfl ?_
        rcases ite_e h with ⟨hc9, h⟩ | ⟨hc9, h⟩
        ·
          refine WP.icmpN at_214 (XT.ii_ne_f hc9) ?_
          refine WP.aloadN at_217 rfl ?_
          refine WP.iload at_218 rfl ?_
          refine WP.iconst (1 : Int32) at_220 rfl ?_
          refine WP.iadd at_221 ?_
          obtain ⟨c10, hc10, h⟩ := Option.bind_eq_some_iff.mp h
          refine WP.callS (y := y0) (as := [.ref 0, .int (v4 + (1 : Int32))]) (S := []) at_222 (hw _ m_0) (hw _ m_1) (hw _ m_2) (hw _ m_3) hy0 (CS.frame (ro := 1) (H := ([cI a] ++ Hb 1 s0)) (as := [.ref 0, .int (v4 + (1 : Int32))]) fr0_f (ok0 l Z a0 hw (v4 + (1 : Int32)) a _ hc10) rfl (by decide) (fr0_l a s0) (fr0_c a s0) (by decide) rfl) rfl (lenOf pd0 rfl) (leb rfl) (leb rfl) (leb rfl) (leb rfl) ?_
          rintro _ _ ⟨_, _, ⟨rfl, rfl⟩, rfl, rfl⟩
          rw [fr0_p a s0]
          show WLAW l Z n0 (PLAW r) 13 168 225 [.val (.ref 0), .unset, .unset, .val (.ref 1), .val (.int v4), .val (.int x3), .unset, .unset, .unset, .unset, .unset] [.int c10] ([cI a] ++ Hb 1 s0)
          refine WP.iconst (3 : Int32) at_225 rfl ?_
          refine WP.iand at_226 ?_
          rcases ite_e h with ⟨hc11, h⟩ | ⟨hc11, h⟩
          ·
            refine WP.ifN at_227 (XT.i0_ne_f hc11) ?_
            refine WP.aloadN at_230 rfl ?_
            obtain ⟨c12, hc12, h⟩ := Option.bind_eq_some_iff.mp h
            refine WP.callV (i := 1) (y := y31) (as := []) (S := []) at_231 (hw _ m_180) (hw _ m_181) (hw _ m_183) (hw _ m_182) (hw _ m_184) (hw _ m_13) hy31 rfl (CS.frame (ro := 1) (H := ([cI a] ++ Hb 1 s0)) (as := [.ref 1]) fr2_f (ok31 l Z a0 hw s0 _ hc12) rfl (by decide) (fr2_l a s0) (fr2_c a s0) (by decide) rfl) rfl (lenOf pd31 rfl) (leb rfl) (leb rfl) (leb rfl) (leb rfl) ?_
            rintro _ _ ⟨_, _, ⟨rfl, rfl⟩, rfl, rfl⟩
            rw [fr2_p a s0 c12]
            show WLAW l Z n0 (PLAW r) 13 168 234 [.val (.ref 0), .unset, .unset, .val (.ref 1), .val (.int v4), .val (.int x3), .unset, .unset, .unset, .unset, .unset] [] ([cI a] ++ Hb 1 c12)
            refine WP.goto (pc' := 256) at_234 (by decide) rfl ?_
            exact WP.weak (L' := [.val (.ref 0), .unset, .unset, .val (.ref 1), .val (.int v4), .unset, .unset, .unset, .unset, .unset, .unset]) ⟨rfl, rfl, rfl, trivial⟩ (okLAW_256 l Z a0 hw n0 _ hk47 n v4 a c12 _ h)
          ·
            refine WP.ifY (pc' := 237) at_227 (XT.i0_ne_t hc11) (by decide) rfl ?_
            refine WP.aloadN at_237 rfl ?_
            refine WP.aloadN at_238 rfl ?_
            refine WP.iload at_239 rfl ?_
            refine WP.iconst (2 : Int32) at_241 rfl ?_
            refine WP.iadd at_242 ?_
            obtain ⟨c13, hc13, h⟩ := Option.bind_eq_some_iff.mp h
            refine WP.callS (y := y0) (as := [.ref 0, .int (v4 + (2 : Int32))]) (S := [.ref 1]) at_243 (hw _ m_0) (hw _ m_1) (hw _ m_2) (hw _ m_3) hy0 (CS.frame (ro := 1) (H := ([cI a] ++ Hb 1 s0)) (as := [.ref 0, .int (v4 + (2 : Int32))]) fr0_f (ok0 l Z a0 hw (v4 + (2 : Int32)) a _ hc13) rfl (by decide) (fr0_l a s0) (fr0_c a s0) (by decide) rfl) rfl (lenOf pd0 rfl) (leb rfl) (leb rfl) (leb rfl) (leb rfl) ?_
            rintro _ _ ⟨_, _, ⟨rfl, rfl⟩, rfl, rfl⟩
            rw [fr0_p a s0]
            show WLAW l Z n0 (PLAW r) 13 168 246 [.val (.ref 0), .unset, .unset, .val (.ref 1), .val (.int v4), .val (.int x3), .unset, .unset, .unset, .unset, .unset] [.int c13, .ref 1] ([cI a] ++ Hb 1 s0)
            obtain ⟨c14, hc14, h⟩ := Option.bind_eq_some_iff.mp h
            refine WP.callS (y := y1) (as := [.int c13]) (S := [.ref 1]) at_246 (hw _ m_4) (hw _ m_5) (hw _ m_2) (hw _ m_6) hy1 (CS.frame (ro := 1) (H := ([cI a] ++ Hb 1 s0)) (as := [.int c13]) fr1_f (ok1 l Z a0 hw c13 _ hc14) rfl (by decide) (fr1_l a s0) (fr1_c a s0) (by decide) rfl) rfl (lenOf pd1 rfl) (leb rfl) (leb rfl) (leb rfl) (leb rfl) ?_
            rintro _ _ ⟨_, _, ⟨rfl, rfl⟩, rfl, rfl⟩
            rw [fr1_p a s0]
            show WLAW l Z n0 (PLAW r) 13 168 249 [.val (.ref 0), .unset, .unset, .val (.ref 1), .val (.int v4), .val (.int x3), .unset, .unset, .unset, .unset, .unset] [.int c14, .ref 1] ([cI a] ++ Hb 1 s0)
            refine WP.bipush (13 : Int32) at_249 rfl ?_
            refine WP.irem at_251 (by decide) ?_
            obtain ⟨c15, hc15, h⟩ := Option.bind_eq_some_iff.mp h
            refine WP.callV (i := 1) (y := y30) (as := [.int (c14 % (13 : Int32))]) (S := []) at_252 (hw _ m_175) (hw _ m_176) (hw _ m_178) (hw _ m_177) (hw _ m_179) (hw _ m_13) hy30 rfl (CS.frame (ro := 1) (H := ([cI a] ++ Hb 1 s0)) (as := [.ref 1, .int (c14 % (13 : Int32))]) fr2_f (ok30 l Z a0 hw n (c14 % (13 : Int32)) s0 _ hc15) rfl (by decide) (fr2_l a s0) (fr2_c a s0) (by decide) rfl) rfl (lenOf pd30 rfl) (leb rfl) (leb rfl) (leb rfl) (leb rfl) ?_
            rintro _ _ ⟨_, _, ⟨rfl, rfl⟩, rfl, rfl⟩
            rw [fr2_p a s0 c15.2]
            show WLAW l Z n0 (PLAW r) 13 168 255 [.val (.ref 0), .unset, .unset, .val (.ref 1), .val (.int v4), .val (.int x3), .unset, .unset, .unset, .unset, .unset] [.int c15.1] ([cI a] ++ Hb 1 c15.2)
            refine WP.pop at_255 rfl ?_
            exact WP.weak (L' := [.val (.ref 0), .unset, .unset, .val (.ref 1), .val (.int v4), .unset, .unset, .unset, .unset, .unset, .unset]) ⟨rfl, rfl, rfl, trivial⟩ (okLAW_256 l Z a0 hw n0 _ hk47 n v4 a c15.2 _ h)
        ·
          refine WP.icmpY (pc' := 256) at_214 (XT.ii_ne_t hc9) (by decide) rfl ?_
          exact WP.weak (L' := [.val (.ref 0), .unset, .unset, .val (.ref 1), .val (.int v4), .unset, .unset, .unset, .unset, .unset, .unset]) ⟨rfl, rfl, rfl, trivial⟩ (okLAW_256 l Z a0 hw n0 _ hk47 n v4 a s0 _ h)
    ·
      refine WP.icmpN at_68 (XT.ii_gt_f hc4) ?_
      refine WP.aloadN at_71 rfl ?_
      refine WP.iload at_72 rfl ?_
      refine WP.iconst (1 : Int32) at_74 rfl ?_
      refine WP.iadd at_75 ?_
      obtain ⟨c16, hc16, h⟩ := Option.bind_eq_some_iff.mp h
      refine WP.callS (y := y0) (as := [.ref 0, .int (v4 + (1 : Int32))]) (S := []) at_76 (hw _ m_0) (hw _ m_1) (hw _ m_2) (hw _ m_3) hy0 (CS.frame (ro := 1) (H := ([cI a] ++ Hb 1 s0)) (as := [.ref 0, .int (v4 + (1 : Int32))]) fr0_f (ok0 l Z a0 hw (v4 + (1 : Int32)) a _ hc16) rfl (by decide) (fr0_l a s0) (fr0_c a s0) (by decide) rfl) rfl (lenOf pd0 rfl) (leb rfl) (leb rfl) (leb rfl) (leb rfl) ?_
      rintro _ _ ⟨_, _, ⟨rfl, rfl⟩, rfl, rfl⟩
      rw [fr0_p a s0]
      show WLAW l Z n0 (PLAW r) 13 168 79 [.val (.ref 0), .unset, .unset, .val (.ref 1), .val (.int v4), .val (.int x3), .unset, .unset, .unset, .unset, .unset] [.int c16] ([cI a] ++ Hb 1 s0)
      obtain ⟨c17, hc17, h⟩ := Option.bind_eq_some_iff.mp h
      refine WP.callS (y := y16) (as := [.int c16]) (S := []) at_79 (hw _ m_118) (hw _ m_119) (hw _ m_2) (hw _ m_120) hy16 (CS.frame (ro := 1) (H := ([cI a] ++ Hb 1 s0)) (as := [.int c16]) fr1_f (ok16 l Z a0 hw c16 _ hc17) rfl (by decide) (fr1_l a s0) (fr1_c a s0) (by decide) rfl) rfl (lenOf pd16 rfl) (leb rfl) (leb rfl) (leb rfl) (leb rfl) ?_
      rintro _ _ ⟨_, _, ⟨rfl, rfl⟩, rfl, rfl⟩
      rw [fr1_p a s0]
      show WLAW l Z n0 (PLAW r) 13 168 82 [.val (.ref 0), .unset, .unset, .val (.ref 1), .val (.int v4), .val (.int x3), .unset, .unset, .unset, .unset, .unset] [.int c17] ([cI a] ++ Hb 1 s0)
      refine WP.istore (L' := [.val (.ref 0), .unset, .unset, .val (.ref 1), .val (.int v4), .val (.int x3), .val (.int c17), .unset, .unset, .unset, .unset]) at_82 (leb rfl) rfl ?_
      refine WP.iconst (1 : Int32) at_84 rfl ?_
      refine WP.aloadN at_85 rfl ?_
      refine WP.iload at_86 rfl ?_
      refine WP.iconst (2 : Int32) at_88 rfl ?_
      refine WP.iadd at_89 ?_
      obtain ⟨c18, hc18, h⟩ := Option.bind_eq_some_iff.mp h
      refine WP.callS (y := y0) (as := [.ref 0, .int (v4 + (2 : Int32))]) (S := [.int (1 : Int32)]) at_90 (hw _ m_0) (hw _ m_1) (hw _ m_2) (hw _ m_3) hy0 (CS.frame (ro := 1) (H := ([cI a] ++ Hb 1 s0)) (as := [.ref 0, .int (v4 + (2 : Int32))]) fr0_f (ok0 l Z a0 hw (v4 + (2 : Int32)) a _ hc18) rfl (by decide) (fr0_l a s0) (fr0_c a s0) (by decide) rfl) rfl (lenOf pd0 rfl) (leb rfl) (leb rfl) (leb rfl) (leb rfl) ?_
      rintro _ _ ⟨_, _, ⟨rfl, rfl⟩, rfl, rfl⟩
      rw [fr0_p a s0]
      show WLAW l Z n0 (PLAW r) 13 168 93 [.val (.ref 0), .unset, .unset, .val (.ref 1), .val (.int v4), .val (.int x3), .val (.int c17), .unset, .unset, .unset, .unset] [.int c18, .int (1 : Int32)] ([cI a] ++ Hb 1 s0)
      obtain ⟨c19, hc19, h⟩ := Option.bind_eq_some_iff.mp h
      refine WP.callS (y := y1) (as := [.int c18]) (S := [.int (1 : Int32)]) at_93 (hw _ m_4) (hw _ m_5) (hw _ m_2) (hw _ m_6) hy1 (CS.frame (ro := 1) (H := ([cI a] ++ Hb 1 s0)) (as := [.int c18]) fr1_f (ok1 l Z a0 hw c18 _ hc19) rfl (by decide) (fr1_l a s0) (fr1_c a s0) (by decide) rfl) rfl (lenOf pd1 rfl) (leb rfl) (leb rfl) (leb rfl) (leb rfl) ?_
      rintro _ _ ⟨_, _, ⟨rfl, rfl⟩, rfl, rfl⟩
      rw [fr1_p a s0]
      show WLAW l Z n0 (PLAW r) 13 168 96 [.val (.ref 0), .unset, .unset, .val (.ref 1), .val (.int v4), .val (.int x3), .val (.int c17), .unset, .unset, .unset, .unset] [.int c19, .int (1 : Int32)] ([cI a] ++ Hb 1 s0)
      refine WP.iload at_96 rfl ?_
      obtain ⟨hz20, h⟩ := nz_e h
      refine WP.irem at_98 hz20 ?_
      refine WP.iadd at_99 ?_
      obtain ⟨x21, ex21, h⟩ := lt_e h
      refine WP.istore (L' := [.val (.ref 0), .unset, .unset, .val (.ref 1), .val (.int v4), .val (.int x3), .val (.int c17), .val (.int x21), .unset, .unset, .unset]) at_100 (leb rfl) (by subst ex21; rfl) ?_
      refine WP.iconst (1 : Int32) at_102 rfl ?_
      refine WP.aloadN at_103 rfl ?_
      refine WP.iload at_104 rfl ?_
      refine WP.iconst (3 : Int32) at_106 rfl ?_
      refine WP.iadd at_107 ?_
      obtain ⟨c22, hc22, h⟩ := Option.bind_eq_some_iff.mp h
      refine WP.callS (y := y0) (as := [.ref 0, .int (v4 + (3 : Int32))]) (S := [.int (1 : Int32)]) at_108 (hw _ m_0) (hw _ m_1) (hw _ m_2) (hw _ m_3) hy0 (CS.frame (ro := 1) (H := ([cI a] ++ Hb 1 s0)) (as := [.ref 0, .int (v4 + (3 : Int32))]) fr0_f (ok0 l Z a0 hw (v4 + (3 : Int32)) a _ hc22) rfl (by decide) (fr0_l a s0) (fr0_c a s0) (by decide) rfl) rfl (lenOf pd0 rfl) (leb rfl) (leb rfl) (leb rfl) (leb rfl) ?_
      rintro _ _ ⟨_, _, ⟨rfl, rfl⟩, rfl, rfl⟩
      rw [fr0_p a s0]
      show WLAW l Z n0 (PLAW r) 13 168 111 [.val (.ref 0), .unset, .unset, .val (.ref 1), .val (.int v4), .val (.int x3), .val (.int c17), .val (.int x21), .unset, .unset, .unset] [.int c22, .int (1 : Int32)] ([cI a] ++ Hb 1 s0)
      obtain ⟨c23, hc23, h⟩ := Option.bind_eq_some_iff.mp h
      refine WP.callS (y := y1) (as := [.int c22]) (S := [.int (1 : Int32)]) at_111 (hw _ m_4) (hw _ m_5) (hw _ m_2) (hw _ m_6) hy1 (CS.frame (ro := 1) (H := ([cI a] ++ Hb 1 s0)) (as := [.int c22]) fr1_f (ok1 l Z a0 hw c22 _ hc23) rfl (by decide) (fr1_l a s0) (fr1_c a s0) (by decide) rfl) rfl (lenOf pd1 rfl) (leb rfl) (leb rfl) (leb rfl) (leb rfl) ?_
      rintro _ _ ⟨_, _, ⟨rfl, rfl⟩, rfl, rfl⟩
      rw [fr1_p a s0]
      show WLAW l Z n0 (PLAW r) 13 168 114 [.val (.ref 0), .unset, .unset, .val (.ref 1), .val (.int v4), .val (.int x3), .val (.int c17), .val (.int x21), .unset, .unset, .unset] [.int c23, .int (1 : Int32)] ([cI a] ++ Hb 1 s0)
      refine WP.iload at_114 rfl ?_
      obtain ⟨hz24, h⟩ := nz_e h
      refine WP.irem at_116 hz24 ?_
      refine WP.iadd at_117 ?_
      obtain ⟨x25, ex25, h⟩ := lt_e h
      refine WP.istore (L' := [.val (.ref 0), .unset, .unset, .val (.ref 1), .val (.int v4), .val (.int x3), .val (.int c17), .val (.int x21), .val (.int x25), .unset, .unset]) at_118 (leb rfl) (by subst ex25; rfl) ?_
      refine WP.aloadN at_120 rfl ?_
      refine WP.iload at_121 rfl ?_
      refine WP.iload at_123 rfl ?_
      refine WP.iload at_125 rfl ?_
      obtain ⟨c26, hc26, h⟩ := Option.bind_eq_some_iff.mp h
      refine WP.callV (i := 1) (y := y17) (as := [.int x21, .int x25, .int c17]) (S := []) at_127 (hw _ m_121) (hw _ m_122) (hw _ m_124) (hw _ m_123) (hw _ m_125) (hw _ m_13) hy17 rfl (CS.frame (ro := 1) (H := ([cI a] ++ Hb 1 s0)) (as := [.ref 1, .int x21, .int x25, .int c17]) fr2_f (ok17 l Z a0 hw n x21 x25 c17 s0 _ hc26) rfl (by decide) (fr2_l a s0) (fr2_c a s0) (by decide) rfl) rfl (lenOf pd17 rfl) (leb rfl) (leb rfl) (leb rfl) (leb rfl) ?_
      rintro _ _ ⟨_, _, ⟨rfl, rfl⟩, rfl, rfl⟩
      rw [fr2_p a s0 c26.2]
      show WLAW l Z n0 (PLAW r) 13 168 130 [.val (.ref 0), .unset, .unset, .val (.ref 1), .val (.int v4), .val (.int x3), .val (.int c17), .val (.int x21), .val (.int x25), .unset, .unset] [.int c26.1] ([cI a] ++ Hb 1 c26.2)
      refine WP.istore (L' := [.val (.ref 0), .unset, .unset, .val (.ref 1), .val (.int v4), .val (.int x3), .val (.int c17), .val (.int x21), .val (.int x25), .val (.int c26.1), .unset]) at_130 (leb rfl) rfl ?_
      refine WP.iload at_132 rfl ?_
      rcases ite_e h with ⟨hc27, h⟩ | ⟨hc27, h⟩
      ·
        refine WP.ifN at_134 (XT.i0_ge_f hc27) ?_
        refine WP.iload at_137 rfl ?_
        refine WP.bipush (-4 : Int32) at_139 rfl ?_
        rcases ite_e h with ⟨hc28, h⟩ | ⟨hc28, h⟩
        ·
          refine WP.icmpN at_141 (XT.ii_ne_f hc28) ?_
          exact WP.weak (L' := [.val (.ref 0), .unset, .unset, .val (.ref 1), .val (.int v4), .unset, .unset, .unset, .unset, .val (.int c26.1), .unset]) ⟨rfl, rfl, rfl, rfl, trivial⟩ (okLAW_144 l Z a0 hw n0 _ hk47 n v4 c26.1 a c26.2 _ h)
        ·
          refine WP.icmpY (pc' := 179) at_141 (XT.ii_ne_t hc28) (by decide) rfl ?_
          exact WP.weak (L' := [.val (.ref 0), .unset, .unset, .val (.ref 1), .val (.int v4), .unset, .unset, .unset, .unset, .unset, .unset]) ⟨rfl, rfl, rfl, trivial⟩ (okLAW_179 l Z a0 hw n0 _ hk47 n v4 a c26.2 _ h)
      ·
        refine WP.ifY (pc' := 144) at_134 (XT.i0_ge_t hc27) (by decide) rfl ?_
        exact WP.weak (L' := [.val (.ref 0), .unset, .unset, .val (.ref 1), .val (.int v4), .unset, .unset, .unset, .unset, .val (.int c26.1), .unset]) ⟨rfl, rfl, rfl, rfl, trivial⟩ (okLAW_144 l Z a0 hw n0 _ hk47 n v4 c26.1 a c26.2 _ h)
  ·
    refine WP.icmpY (pc' := 273) at_51 (XT.ii_ge_t hc1) (by decide) rfl ?_
    refine WP.iconst (1 : Int32) at_273 rfl ?_
    cases h
    exact WP.zreturn at_274 rfl (leb rfl) (leb rfl) rfl
def f_law_47 : Nat → Int32 → List Int32 → St → Option (Int32)
  | 0 => fun _ _ _ => none
  | n + 1 => g_law_47 (f_law_47 n) n
theorem okLAW_47 (l : Launch) (Z : State) (a0 : Array Value) (hw : HW a0 Z) (n0 : Nat) : ∀ (n : Nat) (v4 : Int32) (a : List Int32) (s0 : St) (r : Int32), f_law_47 n v4 a s0 = some r → WLAW l Z n0 (PLAW r) 13 168 47 [.val (.ref 0), .unset, .unset, .val (.ref 1), .val (.int v4), .unset, .unset, .unset, .unset, .unset, .unset] [] ([cI a] ++ Hb 1 s0)
  | 0, v4, a, s0, r, h => nomatch (show none = some r from h)
  | n + 1, v4, a, s0, r, h => okgLAW_47 l Z a0 hw n0 _ (okLAW_47 l Z a0 hw n0 n) n v4 a s0 r h
def f_law (n : Nat) (a : List Int32) : Option (Int32) :=
  (f_L_cell (0 : Int32) a).bind fun c1 =>
  (f_L_nz c1).bind fun c2 =>
  lt ((1 : Int32) + (c2 % (12 : Int32))) fun x3 =>
  (f_L_cell (1 : Int32) a).bind fun c4 =>
  (f_L_hyperChoice c4).bind fun c5 =>
  (f_init x3 c5).bind fun c6 =>
  (f_simulate n (0 : Int32) c6).bind fun c7 =>
  if c7.1 = (2 : Int32) then
    some (0 : Int32)
  else
    f_law_47 n (2 : Int32) a c7.2
set_option maxRecDepth 65536 in
set_option maxHeartbeats 4000000 in
theorem okLAW (l : Launch) (Z : State) (a0 : Array Value) (hw : HW a0 Z) (n : Nat) (a : List Int32) (r : Int32) (h : f_law n a = some r) : CS l Z CN lay x code maxLocals ret room_1 1 [.ref 0] ([cI a]) (PLAW r) := by
  refine CS.of_wp pn_law (leb rfl) fun n0 => ?_
  show WLAW l Z n0 (PLAW r) 0 0 0 [.val (.ref 0), .unset, .unset, .unset, .unset, .unset, .unset, .unset, .unset, .unset, .unset] [] ([cI a])
  unfold f_law at h
  refine WP.iconst (1 : Int32) at_0 rfl ?_
  refine WP.aloadN at_1 rfl ?_
  refine WP.iconst (0 : Int32) at_2 rfl ?_
  obtain ⟨c1, hc1, h⟩ := Option.bind_eq_some_iff.mp h
  refine WP.callS (y := y0) (as := [.ref 0, .int (0 : Int32)]) (S := [.int (1 : Int32)]) at_3 (hw _ m_0) (hw _ m_1) (hw _ m_2) (hw _ m_3) hy0 (ok0 l Z a0 hw (0 : Int32) a _ hc1) rfl (lenOf pd0 rfl) (leb rfl) (leb rfl) (leb rfl) (leb rfl) ?_
  rintro _ _ ⟨rfl, rfl⟩
  show WLAW l Z n0 (PLAW r) 0 0 6 [.val (.ref 0), .unset, .unset, .unset, .unset, .unset, .unset, .unset, .unset, .unset, .unset] [.int c1, .int (1 : Int32)] ([cI a])
  obtain ⟨c2, hc2, h⟩ := Option.bind_eq_some_iff.mp h
  refine WP.callS (y := y1) (as := [.int c1]) (S := [.int (1 : Int32)]) at_6 (hw _ m_4) (hw _ m_5) (hw _ m_2) (hw _ m_6) hy1 (CS.frame (ro := 1) (H := ([cI a])) (as := [.int c1]) fr3_f (ok1 l Z a0 hw c1 _ hc2) rfl (by decide) (fr3_l a) (fr3_c a) (by decide) rfl) rfl (lenOf pd1 rfl) (leb rfl) (leb rfl) (leb rfl) (leb rfl) ?_
  rintro _ _ ⟨_, _, ⟨rfl, rfl⟩, rfl, rfl⟩
  rw [fr3_p a]
  show WLAW l Z n0 (PLAW r) 0 0 9 [.val (.ref 0), .unset, .unset, .unset, .unset, .unset, .unset, .unset, .unset, .unset, .unset] [.int c2, .int (1 : Int32)] ([cI a])
  refine WP.bipush (12 : Int32) at_9 rfl ?_
  refine WP.irem at_11 (by decide) ?_
  refine WP.iadd at_12 ?_
  obtain ⟨x3, ex3, h⟩ := lt_e h
  refine WP.istoreN (L' := [.val (.ref 0), .val (.int x3), .unset, .unset, .unset, .unset, .unset, .unset, .unset, .unset, .unset]) at_13 (leb rfl) (by subst ex3; rfl) ?_
  refine WP.aloadN at_14 rfl ?_
  refine WP.iconst (1 : Int32) at_15 rfl ?_
  obtain ⟨c4, hc4, h⟩ := Option.bind_eq_some_iff.mp h
  refine WP.callS (y := y0) (as := [.ref 0, .int (1 : Int32)]) (S := []) at_16 (hw _ m_0) (hw _ m_1) (hw _ m_2) (hw _ m_3) hy0 (ok0 l Z a0 hw (1 : Int32) a _ hc4) rfl (lenOf pd0 rfl) (leb rfl) (leb rfl) (leb rfl) (leb rfl) ?_
  rintro _ _ ⟨rfl, rfl⟩
  show WLAW l Z n0 (PLAW r) 0 0 19 [.val (.ref 0), .val (.int x3), .unset, .unset, .unset, .unset, .unset, .unset, .unset, .unset, .unset] [.int c4] ([cI a])
  obtain ⟨c5, hc5, h⟩ := Option.bind_eq_some_iff.mp h
  refine WP.callS (y := y2) (as := [.int c4]) (S := []) at_19 (hw _ m_8) (hw _ m_9) (hw _ m_2) (hw _ m_10) hy2 (CS.frame (ro := 1) (H := ([cI a])) (as := [.int c4]) fr3_f (ok2 l Z a0 hw c4 _ hc5) rfl (by decide) (fr3_l a) (fr3_c a) (by decide) rfl) rfl (lenOf pd2 rfl) (leb rfl) (leb rfl) (leb rfl) (leb rfl) ?_
  rintro _ _ ⟨_, _, ⟨rfl, rfl⟩, rfl, rfl⟩
  rw [fr3_p a]
  show WLAW l Z n0 (PLAW r) 0 0 22 [.val (.ref 0), .val (.int x3), .unset, .unset, .unset, .unset, .unset, .unset, .unset, .unset, .unset] [.int c5] ([cI a])
  refine WP.istoreN (L' := [.val (.ref 0), .val (.int x3), .val (.int c5), .unset, .unset, .unset, .unset, .unset, .unset, .unset, .unset]) at_22 (leb rfl) rfl ?_
  refine WP.new (vs := vs0) at_23 (hw _ m_11) (hw _ m_12) (hw _ m_13) (leb rfl) (leb rfl) (vs0_ok hw) ?_
  show WLAW l Z n0 (PLAW r) 1 24 26 [.val (.ref 0), .val (.int x3), .val (.int c5), .unset, .unset, .unset, .unset, .unset, .unset, .unset, .unset] [.ref 1] ([cI a] ++ [cO vs0])
  refine WP.dup at_26 rfl ?_
  refine WP.iloadN at_27 rfl ?_
  refine WP.iloadN at_28 rfl ?_
  obtain ⟨c6, hc6, h⟩ := Option.bind_eq_some_iff.mp h
  refine WP.callI (i := 1) (y := y3) (as := [.int x3, .int c5]) (S := [.ref 1]) at_29 rfl (hw _ m_14) (hw _ m_15) (hw _ m_16) (hw _ m_13) hy3 (CS.frame (ro := 1) (H := ([cI a] ++ [cO vs0])) (as := [.ref 1, .int x3, .int c5]) fr4_f (ok3 l Z a0 hw x3 c5 _ hc6) rfl (by decide) (fr4_l a) (fr4_c a) (by decide) rfl) rfl (lenOf pd3 rfl) (leb rfl) (leb rfl) (leb rfl) (leb rfl) ?_
  rintro _ _ ⟨_, _, ⟨rfl, rfl⟩, rfl, rfl⟩
  rw [fr4_p a c6]
  show WLAW l Z n0 (PLAW r) 13 168 32 [.val (.ref 0), .val (.int x3), .val (.int c5), .unset, .unset, .unset, .unset, .unset, .unset, .unset, .unset] [.ref 1] ([cI a] ++ Hb 1 c6)
  refine WP.astoreN (L' := [.val (.ref 0), .val (.int x3), .val (.int c5), .val (.ref 1), .unset, .unset, .unset, .unset, .unset, .unset, .unset]) at_32 (leb rfl) rfl ?_
  refine WP.aloadN at_33 rfl ?_
  refine WP.iconst (0 : Int32) at_34 rfl ?_
  obtain ⟨c7, hc7, h⟩ := Option.bind_eq_some_iff.mp h
  refine WP.callV (i := 1) (y := y5) (as := [.int (0 : Int32)]) (S := []) at_35 (hw _ m_73) (hw _ m_74) (hw _ m_76) (hw _ m_75) (hw _ m_77) (hw _ m_13) hy5 rfl (CS.frame (ro := 1) (H := ([cI a] ++ Hb 1 c6)) (as := [.ref 1, .int (0 : Int32)]) fr2_f (ok5 l Z a0 hw n (0 : Int32) c6 _ hc7) rfl (by decide) (fr2_l a c6) (fr2_c a c6) (by decide) rfl) rfl (lenOf pd5 rfl) (leb rfl) (leb rfl) (leb rfl) (leb rfl) ?_
  rintro _ _ ⟨_, _, ⟨rfl, rfl⟩, rfl, rfl⟩
  rw [fr2_p a c6 c7.2]
  show WLAW l Z n0 (PLAW r) 13 168 38 [.val (.ref 0), .val (.int x3), .val (.int c5), .val (.ref 1), .unset, .unset, .unset, .unset, .unset, .unset, .unset] [.int c7.1] ([cI a] ++ Hb 1 c7.2)
  refine WP.iconst (2 : Int32) at_38 rfl ?_
  rcases ite_e h with ⟨hc8, h⟩ | ⟨hc8, h⟩
  ·
    refine WP.icmpN at_39 (XT.ii_ne_f hc8) ?_
    refine WP.iconst (0 : Int32) at_42 rfl ?_
    cases h
    exact WP.zreturn at_43 rfl (leb rfl) (leb rfl) rfl
  ·
    refine WP.icmpY (pc' := 44) at_39 (XT.ii_ne_t hc8) (by decide) rfl ?_
    refine WP.iconst (2 : Int32) at_44 rfl ?_
    refine WP.istore (L' := [.val (.ref 0), .val (.int x3), .val (.int c5), .val (.ref 1), .val (.int (2 : Int32)), .unset, .unset, .unset, .unset, .unset, .unset]) at_45 (leb rfl) rfl ?_
    exact WP.weak (L' := [.val (.ref 0), .unset, .unset, .val (.ref 1), .val (.int (2 : Int32)), .unset, .unset, .unset, .unset, .unset, .unset]) ⟨rfl, rfl, rfl, trivial⟩ (okLAW_47 l Z a0 hw n0 n (2 : Int32) a c7.2 _ h)
/-! a call that comes to an end, and what it leaves -/
def own_Ok {α : Type} (f : Nat → Option α) (P : α → Prop) : Prop := ∃ r, Ev f r ∧ P r
theorem own_Ok.step {α : Type} {f g : Nat → Option α} {P : α → Prop} (e : ∀ n, f (n + 1) = g n) (h : own_Ok g P) : own_Ok f P := by
  obtain ⟨r, h1, h2⟩ := h
  exact ⟨r, Ev.step e h1, h2⟩
theorem own_Ok.congr {α : Type} {f g : Nat → Option α} {P : α → Prop} (e : ∀ n, f n = g n) (h : own_Ok g P) : own_Ok f P := by
  obtain ⟨r, h1, h2⟩ := h
  exact ⟨r, Ev.congr e h1, h2⟩
theorem own_Ok.ret {α : Type} {r : α} {P : α → Prop} (h : P r) : own_Ok (fun _ => some r) P := ⟨r, Ev.const rfl, h⟩
theorem own_Ok.mono {α : Type} {f : Nat → Option α} {P Q : α → Prop} (h : own_Ok f P) (k : ∀ r, P r → Q r) : own_Ok f Q := by
  obtain ⟨r, h1, h2⟩ := h
  exact ⟨r, h1, k r h2⟩
theorem own_Ok.bind {α β : Type} {f : Nat → Option β} {g : Nat → β → Option α} {Q : β → Prop} {P : α → Prop} (h : own_Ok f Q) (k : ∀ c, Q c → own_Ok (fun n => g n c) P) : own_Ok (fun n => (f n).bind (g n)) P := by
  obtain ⟨c, h1, h2⟩ := h
  obtain ⟨r, k1, k2⟩ := k c h2
  exact ⟨r, Ev.bind h1 k1, k2⟩
theorem own_Ok.ite {α : Type} {c : Prop} [Decidable c] {f g : Nat → Option α} {P : α → Prop} (h : c → own_Ok f P) (k : ¬ c → own_Ok g P) : own_Ok (fun n => if c then f n else g n) P := by
  by_cases q : c
  · exact own_Ok.congr (fun n => if_pos q) (h q)
  · exact own_Ok.congr (fun n => if_neg q) (k q)
theorem own_Ok.some_bind {α β : Type} {x : β} {g : Nat → β → Option α} {P : α → Prop} (h : own_Ok (fun n => g n x) P) : own_Ok (fun n => (some x).bind (g n)) P := own_Ok.congr (fun _ => rfl) h
def own_L (s : St) : Prop := ∀ j, j < 12 → (gA s j).length = 12
theorem own_Ok.rd {α : Type} {s : St} {j k : Nat} {G : Nat → Int32 → Option α} {P : α → Prop} (hL : own_L s) (hj : j < 12) (hk : k < 12) (h : ∀ x, (gA s j)[k]? = some x → own_Ok (fun n => G n x) P) : own_Ok (fun n => (rd (gA s j) (Int32.ofNat k)).bind (G n)) P := by
  have hl := hL j hj
  have hx : (gA s j)[k]? = some ((gA s j)[k]'(by omega)) := List.getElem?_eq_getElem _
  refine own_Ok.congr (fun n => ?_) (h _ hx)
  rw [rd_at (by omega) hx]; rfl
theorem own_Ok.wr {α : Type} {s : St} {j k : Nat} {x : Int32} {G : Nat → St → Option α} {P : α → Prop} (hL : own_L s) (hj : j < 12) (hk : k < 12) (h : own_Ok (fun n => G n (sA s j ((gA s j).set k x))) P) : own_Ok (fun n => (wrA s j (Int32.ofNat k) x).bind (G n)) P := by
  have hl := hL j hj
  refine own_Ok.congr (fun n => ?_) h
  rw [wrA_of (k := k) x (ofN_int (by omega)) (by omega)]; rfl
theorem own_L.wr {s : St} (h : own_L s) (j k : Nat) (x : Int32) : own_L (sA s j ((gA s j).set k x)) := fun i hi => by
  rw [gA_sA]
  by_cases c : i = j
  · subst c; rw [if_pos rfl, List.length_set]; exact h i hi
  · rw [if_neg c]; exact h i hi
theorem own_L.sI {s : St} (h : own_L s) (j : Nat) (x : Int32) : own_L (sI s j x) := h
/-- t is s but for the arrays and the ints named -/
def own_Fr (as is : List Nat) (s t : St) : Prop := own_L t ∧ (∀ j, j ∉ as → gA t j = gA s j) ∧ (∀ j, j ∉ is → gI t j = gI s j)
theorem own_Fr.refl {as is : List Nat} {s : St} (h : own_L s) : own_Fr as is s s := ⟨h, fun _ _ => rfl, fun _ _ => rfl⟩
theorem own_Fr.trans {as is : List Nat} {s t u : St} (h : own_Fr as is s t) (k : own_Fr as is t u) : own_Fr as is s u := ⟨k.1, fun j hj => (k.2.1 j hj).trans (h.2.1 j hj), fun j hj => (k.2.2 j hj).trans (h.2.2 j hj)⟩
theorem own_Fr.mono {as is as' is' : List Nat} {s t : St} (h : own_Fr as is s t) (ha : ∀ j ∈ as, j ∈ as') (hi : ∀ j ∈ is, j ∈ is') : own_Fr as' is' s t := ⟨h.1, fun j hj => h.2.1 j fun q => hj (ha j q), fun j hj => h.2.2 j fun q => hj (hi j q)⟩
theorem own_Fr.wr {as is : List Nat} {s t : St} (h : own_Fr as is s t) (j k : Nat) (x : Int32) (hj : j ∈ as) : own_Fr as is s (sA t j ((gA t j).set k x)) := ⟨h.1.wr j k x, fun i hi => by
  rw [gA_sA, if_neg (fun e : i = j => hi (by rw [e]; exact hj))]; exact h.2.1 i hi, h.2.2⟩
theorem own_Fr.sI {as is : List Nat} {s t : St} (h : own_Fr as is s t) (j : Nat) (x : Int32) (hj : j ∈ is) : own_Fr as is s (sI t j x) := ⟨h.1, h.2.1, fun i hi => by
  rw [gI_sI, if_neg (fun e : i = j => hi (by rw [e]; exact hj))]; exact h.2.2 i hi⟩
theorem own_ltN {i m : Nat} (hi : i ≤ 3000) (hm : m ≤ 3000) : Int32.ofNat i < Int32.ofNat m ↔ i < m := ofN_lt (by omega) (by omega)

/-! the working list -/
theorem own_app {s : St} (hL : own_L s) {w : Nat} (hw : gI s 11 = Int32.ofNat w) (hw2 : w < 12) (a b c : Int32) : ∃ t, f_appendWork a b c s = some (1, t) ∧ own_Fr [6, 7, 8] [11] s t ∧ gI t 11 = Int32.ofNat (w + 1) ∧ gA t 6 = (gA s 6).set w a ∧ gA t 7 = (gA s 7).set w b ∧ gA t 8 = (gA s 8).set w c := by
  refine ⟨sI (sA (sA (sA s 6 ((gA s 6).set w a)) 7 ((gA s 7).set w b)) 8 ((gA s 8).set w c)) 11 (Int32.ofNat (w + 1)), ?_, ?_, rfl, rfl, rfl, rfl⟩
  · unfold f_appendWork
    have l6 := hL 6 (by decide)
    have l7 := hL 7 (by decide)
    have l8 := hL 8 (by decide)
    rw [hw, if_neg (ofN_nn (by omega)), if_pos ((ofN_ltL (m := 12) (by omega) (by decide)).mpr hw2), wrA_of (s := s) (k := w) a (ofN_int (by omega)) (by omega), Option.bind_some]
    rw [show gI (sA s 6 ((gA s 6).set w a)) 11 = Int32.ofNat w from hw, wrA_of (s := sA s 6 ((gA s 6).set w a)) (f := 7) (k := w) b (ofN_int (by omega)) (show w < (gA s 7).length by omega), Option.bind_some]
    rw [show gI (sA (sA s 6 ((gA s 6).set w a)) 7 ((gA (sA s 6 ((gA s 6).set w a)) 7).set w b)) 11 = Int32.ofNat w from hw, wrA_of (s := sA (sA s 6 ((gA s 6).set w a)) 7 ((gA (sA s 6 ((gA s 6).set w a)) 7).set w b)) (f := 8) (k := w) c (ofN_int (by omega)) (show w < (gA s 8).length by omega), Option.bind_some]
    unfold lt
    rw [show gI (sA (sA (sA s 6 ((gA s 6).set w a)) 7 ((gA (sA s 6 ((gA s 6).set w a)) 7).set w b)) 8 ((gA (sA (sA s 6 ((gA s 6).set w a)) 7 ((gA (sA s 6 ((gA s 6).set w a)) 7).set w b)) 8).set w c)) 11 = Int32.ofNat w from hw, ofN_succ]; rfl
  · have h1 : own_Fr [6, 7, 8] [11] s s := own_Fr.refl hL
    have h2 := h1.wr 6 w a (by decide)
    have h3 := h2.wr 7 w b (by decide)
    have h4 := h3.wr 8 w c (by decide)
    exact h4.sI 11 _ (by decide)
/-- w of t holds the first n of the lists b, b + 1, b + 2 of s -/
def own_Ld (b : Nat) (s t : St) (n : Nat) : Prop := own_Fr [6, 7, 8] [11] s t ∧ gI t 11 = Int32.ofNat n ∧ ∀ k, k < n → (gA t 6)[k]? = (gA s b)[k]? ∧ (gA t 7)[k]? = (gA s (b + 1))[k]? ∧ (gA t 8)[k]? = (gA s (b + 2))[k]?
theorem own_ldS {b : Nat} (hb : b ≤ 3) {s t : St} {i : Nat} (hi : i < 12) (h : own_Ld b s t i) : ∃ x y z t', rd (gA t b) (Int32.ofNat i) = some x ∧ rd (gA t (b + 1)) (Int32.ofNat i) = some y ∧ rd (gA t (b + 2)) (Int32.ofNat i) = some z ∧ f_appendWork x y z t = some (1, t') ∧ own_Ld b s t' (i + 1) := by
  obtain ⟨hF, h11, hk⟩ := h
  have eb : ∀ c, c ≤ 5 → gA t c = gA s c := fun c hc => hF.2.1 c (by simp only [List.mem_cons, List.not_mem_nil, or_false]; omega)
  have l0 := hF.1 b (by omega)
  have l1 := hF.1 (b + 1) (by omega)
  have l2 := hF.1 (b + 2) (by omega)
  have l6 := hF.1 6 (by omega)
  have l7 := hF.1 7 (by omega)
  have l8 := hF.1 8 (by omega)
  have x0 : (gA t b)[i]? = some ((gA t b)[i]'(by omega)) := List.getElem?_eq_getElem _
  have x1 : (gA t (b + 1))[i]? = some ((gA t (b + 1))[i]'(by omega)) := List.getElem?_eq_getElem _
  have x2 : (gA t (b + 2))[i]? = some ((gA t (b + 2))[i]'(by omega)) := List.getElem?_eq_getElem _
  obtain ⟨t', e, f, g11, g6, g7, g8⟩ := own_app hF.1 h11 hi ((gA t b)[i]'(by omega)) ((gA t (b + 1))[i]'(by omega)) ((gA t (b + 2))[i]'(by omega))
  refine ⟨_, _, _, t', rd_at (by omega) x0, rd_at (by omega) x1, rd_at (by omega) x2, e, hF.trans f, g11, fun k hk2 => ?_⟩
  by_cases c : k = i
  · subst c
    rw [g6, g7, g8, get_set_self _ (by omega), get_set_self _ (by omega), get_set_self _ (by omega), ← eb b (by omega), ← eb (b + 1) (by omega), ← eb (b + 2) (by omega)]
    exact ⟨x0.symm, x1.symm, x2.symm⟩
  · rw [g6, g7, g8, get_set_ne _ (Ne.symm c), get_set_ne _ (Ne.symm c), get_set_ne _ (Ne.symm c)]
    exact hk k (by omega)
theorem own_ld0 {b : Nat} {s : St} (hL : own_L s) : own_Ld b s (sI s 11 0) 0 := ⟨(own_Fr.refl hL).sI 11 0 (by decide), rfl, fun k hk => by omega⟩
theorem own_loadA {s : St} (hL : own_L s) {a : Nat} (ha : gI s 2 = Int32.ofNat a) (ha2 : a ≤ 12) : own_Ok (fun n => f_loadAdmitted n s) (fun t => own_Ld 0 s t a) := by
  have key : ∀ (k i : Nat) (t : St), i + k = a → own_Ld 0 s t i → own_Ok (fun n => f_loadAdmitted_7 n (Int32.ofNat i) t) (fun t => own_Ld 0 s t a) := by
    intro k
    induction k with
    | zero =>
      intro i t hi h
      obtain rfl : i = a := by omega
      refine own_Ok.step (g := fun _ => some t) (fun n => ?_) (own_Ok.ret h)
      show g_loadAdmitted_7 (f_loadAdmitted_7 n) n _ _ = _
      unfold g_loadAdmitted_7 f_loadAdmitted_50
      rw [show gI t 2 = gI s 2 from h.1.2.2 2 (by decide), ha, if_neg (fun q => by have := (own_ltN (by omega) (by omega)).mp q; omega)]
    | succ k ih =>
      intro i t hi h
      obtain ⟨x, y, z, t', e1, e2, e3, e4, h'⟩ := own_ldS (b := 0) (by decide) (by omega) h
      refine own_Ok.step (g := fun n => f_loadAdmitted_7 n (Int32.ofNat (i + 1)) t') (fun n => ?_) (ih (i + 1) t' (by omega) h')
      show g_loadAdmitted_7 (f_loadAdmitted_7 n) n _ _ = _
      unfold g_loadAdmitted_7 lt
      rw [show gI t 2 = gI s 2 from h.1.2.2 2 (by decide), ha, if_pos ((own_ltN (by omega) (by omega)).mpr (by omega)), if_pos ((ofN_ltL (m := 12) (by omega) (by decide)).mpr (by omega)), e1, Option.bind_some, e2, Option.bind_some, e3, Option.bind_some, e4, Option.bind_some]
      dsimp only
      rw [ofN_succ]
  exact key a 0 _ (by omega) (own_ld0 hL)
theorem own_loadC {s : St} (hL : own_L s) {a : Nat} (ha : gI s 3 = Int32.ofNat a) (ha2 : a ≤ 12) : own_Ok (fun n => f_loadCandidate n s) (fun t => own_Ld 3 s t a) := by
  have key : ∀ (k i : Nat) (t : St), i + k = a → own_Ld 3 s t i → own_Ok (fun n => f_loadCandidate_7 n (Int32.ofNat i) t) (fun t => own_Ld 3 s t a) := by
    intro k
    induction k with
    | zero =>
      intro i t hi h
      obtain rfl : i = a := by omega
      refine own_Ok.step (g := fun _ => some t) (fun n => ?_) (own_Ok.ret h)
      show g_loadCandidate_7 (f_loadCandidate_7 n) n _ _ = _
      unfold g_loadCandidate_7 f_loadCandidate_50
      rw [show gI t 3 = gI s 3 from h.1.2.2 3 (by decide), ha, if_neg (fun q => by have := (own_ltN (by omega) (by omega)).mp q; omega)]
    | succ k ih =>
      intro i t hi h
      obtain ⟨x, y, z, t', e1, e2, e3, e4, h'⟩ := own_ldS (b := 3) (by decide) (by omega) h
      refine own_Ok.step (g := fun n => f_loadCandidate_7 n (Int32.ofNat (i + 1)) t') (fun n => ?_) (ih (i + 1) t' (by omega) h')
      show g_loadCandidate_7 (f_loadCandidate_7 n) n _ _ = _
      unfold g_loadCandidate_7 lt
      rw [show gI t 3 = gI s 3 from h.1.2.2 3 (by decide), ha, if_pos ((own_ltN (by omega) (by omega)).mpr (by omega)), if_pos ((ofN_ltL (m := 12) (by omega) (by decide)).mpr (by omega)), e1, Option.bind_some, e2, Option.bind_some, e3, Option.bind_some, e4, Option.bind_some]
      dsimp only
      rw [ofN_succ]
  exact key a 0 _ (by omega) (own_ld0 hL)
/-! the hyperperiod -/
/-- after the reset both are bare -/
theorem own_resV {s : St} (hL : own_L s) : own_Ok (fun n => f_resetJobs n s) (fun t => own_Fr [10, 11] [] s t ∧ ∀ k, k < 12 → (gA t 10)[k]? = some 0 ∧ (gA t 11)[k]? = some 0) := by
  have key : ∀ (k i : Nat) (t : St), i + k = 12 → own_Fr [10, 11] [] s t → (∀ k, k < i → (gA t 10)[k]? = some 0 ∧ (gA t 11)[k]? = some 0) → own_Ok (fun n => f_resetJobs_2 n (Int32.ofNat i) t) (fun t => own_Fr [10, 11] [] s t ∧ ∀ k, k < 12 → (gA t 10)[k]? = some 0 ∧ (gA t 11)[k]? = some 0) := by
    intro k
    induction k with
    | zero =>
      intro i t hi hF hz
      obtain rfl : i = 12 := by omega
      refine own_Ok.step (g := fun n => g_resetJobs_2 (f_resetJobs_2 n) n (Int32.ofNat 12) t) (fun n => rfl) ?_
      unfold g_resetJobs_2
      exact own_Ok.ite (fun q => absurd q (by decide)) (fun _ => own_Ok.ret ⟨hF, hz⟩)
    | succ k ih =>
      intro i t hi hF hz
      refine own_Ok.step (g := fun n => g_resetJobs_2 (f_resetJobs_2 n) n (Int32.ofNat i) t) (fun n => rfl) ?_
      have l10 := hF.1 10 (by decide)
      have l11 := hF.1 11 (by decide)
      unfold g_resetJobs_2 lt
      refine own_Ok.ite (fun _ => ?_) (fun q => absurd ((ofN_ltL (m := 12) (by omega) (by decide)).mpr (by omega)) q)
      refine own_Ok.wr hF.1 (by decide) (by omega) ?_
      have f1 := hF.wr 10 i 0 (by decide)
      refine own_Ok.wr f1.1 (by decide) (by omega) ?_
      have f2 := f1.wr 11 i 0 (by decide)
      dsimp only
      rw [ofN_succ]
      refine ih (i + 1) _ (by omega) f2 fun j hj => ?_
      show ((gA t 10).set i 0)[j]? = some 0 ∧ ((gA t 11).set i 0)[j]? = some 0
      by_cases z : j = i
      · subst z; rw [get_set_self _ (by omega), get_set_self _ (by omega)]; exact ⟨rfl, rfl⟩
      · rw [get_set_ne _ (Ne.symm z), get_set_ne _ (Ne.symm z)]; exact hz j (by omega)
  exact key 12 0 s rfl (own_Fr.refl hL) fun k hk => absurd hk (Nat.not_lt_zero _)

/-! the demand, in numbers -/
def own_ns (g : Nat → Nat) : Nat → Nat
  | 0 => 0
  | i + 1 => own_ns g i + g i
theorem own_ns_congr {g h : Nat → Nat} : ∀ {n : Nat}, (∀ i, i < n → g i = h i) → own_ns g n = own_ns h n
  | 0, _ => rfl
  | n + 1, e => by
    show own_ns g n + g n = own_ns h n + h n
    rw [own_ns_congr fun i hi => e i (by omega), e n (by omega)]
theorem own_ns_le {g h : Nat → Nat} : ∀ {n : Nat}, (∀ i, i < n → g i ≤ h i) → own_ns g n ≤ own_ns h n
  | 0, _ => Nat.le_refl _
  | n + 1, e => by
    have h1 := own_ns_le (n := n) fun i hi => e i (by omega)
    have h2 := e n (by omega)
    show own_ns g n + g n ≤ own_ns h n + h n
    omega
theorem own_ns_mul (g : Nat → Nat) (k : Nat) : ∀ n, own_ns (fun i => k * g i) n = k * own_ns g n
  | 0 => rfl
  | n + 1 => by
    show own_ns (fun i => k * g i) n + k * g n = k * (own_ns g n + g n)
    rw [own_ns_mul g k n, Nat.mul_add]
/-- one of the terms left out -/
theorem own_ns_skip (g : Nat → Nat) (q : Nat) : ∀ n, q ≤ n → own_ns (fun k => g (if k < q then k else k + 1)) n ≤ own_ns g (n + 1)
  | 0, hq => by
    obtain rfl : q = 0 := by omega
    exact Nat.zero_le _
  | n + 1, hq => by
    show own_ns (fun k => g (if k < q then k else k + 1)) n + g (if n < q then n else n + 1) ≤ own_ns g (n + 1) + g (n + 1)
    by_cases c : n < q
    · have e : own_ns (fun k => g (if k < q then k else k + 1)) n = own_ns g n := own_ns_congr fun i hi => by
        show g (if i < q then i else i + 1) = g i
        rw [if_pos (by omega)]
      rw [e, if_pos c]
      show own_ns g n + g n ≤ own_ns g n + g n + g (n + 1)
      omega
    · rw [if_neg c]
      have := own_ns_skip g q n (by omega)
      omega
/-- the deadlines up to x -/
def own_ct (d t x : Nat) : Nat := if d ≤ x then (x - d) / t + 1 else 0
theorem own_t16 {P : Nat → Prop} (h : P 1 ∧ P 2 ∧ P 3 ∧ P 4 ∧ P 5 ∧ P 6 ∧ P 7 ∧ P 8 ∧ P 9 ∧ P 10 ∧ P 11 ∧ P 12 ∧ P 13 ∧ P 14 ∧ P 15 ∧ P 16) {t : Nat} (h1 : 1 ≤ t) (h2 : t ≤ 16) : P t := by
  have : t = 1 ∨ t = 2 ∨ t = 3 ∨ t = 4 ∨ t = 5 ∨ t = 6 ∨ t = 7 ∨ t = 8 ∨ t = 9 ∨ t = 10 ∨ t = 11 ∨ t = 12 ∨ t = 13 ∨ t = 14 ∨ t = 15 ∨ t = 16 := by omega
  obtain ⟨a1, a2, a3, a4, a5, a6, a7, a8, a9, a10, a11, a12, a13, a14, a15, a16⟩ := h
  rcases this with rfl | rfl | rfl | rfl | rfl | rfl | rfl | rfl | rfl | rfl | rfl | rfl | rfl | rfl | rfl | rfl <;> assumption
theorem own_ctL {d t x : Nat} (h1 : 1 ≤ t) (h2 : t ≤ 16) : x < d + t * own_ct d t x := by
  refine own_t16 (P := fun t => x < d + t * own_ct d t x) ⟨?_, ?_, ?_, ?_, ?_, ?_, ?_, ?_, ?_, ?_, ?_, ?_, ?_, ?_, ?_, ?_⟩ h1 h2 <;> (unfold own_ct; split <;> omega)
theorem own_ctE {d t x m : Nat} (h1 : 1 ≤ t) (h2 : t ≤ 16) (hx : x < d + t * m) (hm : m = 0 ∨ d + t * m ≤ x + t) : own_ct d t x = m := by
  revert hx hm
  refine own_t16 (P := fun t => x < d + t * m → (m = 0 ∨ d + t * m ≤ x + t) → own_ct d t x = m) ⟨?_, ?_, ?_, ?_, ?_, ?_, ?_, ?_, ?_, ?_, ?_, ?_, ?_, ?_, ?_, ?_⟩ h1 h2 <;> (intro hx hm; unfold own_ct; split <;> omega)
theorem own_ctU {d t x : Nat} (h1 : 1 ≤ t) (h2 : t ≤ 16) : own_ct d t x = 0 ∨ d + t * own_ct d t x ≤ x + t := by
  refine own_t16 (P := fun t => own_ct d t x = 0 ∨ d + t * own_ct d t x ≤ x + t) ⟨?_, ?_, ?_, ?_, ?_, ?_, ?_, ?_, ?_, ?_, ?_, ?_, ?_, ?_, ?_, ?_⟩ h1 h2 <;> (unfold own_ct; split <;> omega)
theorem own_ctb {d t x : Nat} : own_ct d t x ≤ x + 1 := by
  unfold own_ct
  split
  · have := Nat.div_le_self (x - d) t
    omega
  · omega
def own_db (c d t : Nat → Nat) (n x : Nat) : Nat := own_ns (fun i => own_ct (d i) (t i) x * c i) n
/-- tasks that may be proposed -/
def own_Vd (c d t : Nat → Nat) (n : Nat) : Prop := ∀ i, i < n → (1 ≤ c i ∧ c i ≤ 16) ∧ 1 ≤ d i ∧ d i ≤ t i ∧ 1 ≤ t i ∧ t i ≤ 16
def own_lm (t : Nat → Nat) : Nat → Nat
  | 0 => 1
  | i + 1 => Nat.lcm (own_lm t i) (t i)
theorem own_lm_congr {t u : Nat → Nat} : ∀ {n : Nat}, (∀ i, i < n → t i = u i) → own_lm t n = own_lm u n
  | 0, _ => rfl
  | n + 1, e => by
    show Nat.lcm (own_lm t n) (t n) = Nat.lcm (own_lm u n) (u n)
    rw [own_lm_congr fun i hi => e i (by omega), e n (by omega)]
theorem own_lmP {t : Nat → Nat} : ∀ {n : Nat}, (∀ i, i < n → 1 ≤ t i) → 1 ≤ own_lm t n
  | 0, _ => Nat.le_refl _
  | n + 1, h => Nat.lcm_pos (own_lmP fun i hi => h i (by omega)) (h n (by omega))
theorem own_lmS (t : Nat → Nat) (n : Nat) : own_lm t n ∣ own_lm t (n + 1) := Nat.dvd_lcm_left _ _
theorem own_lmM (t : Nat → Nat) (n : Nat) : ∀ m, n ≤ m → own_lm t n ∣ own_lm t m
  | 0, h => by
    obtain rfl : n = 0 := by omega
    exact Nat.dvd_refl _
  | m + 1, h => by
    by_cases c : n = m + 1
    · rw [c]; exact Nat.dvd_refl _
    · exact Nat.dvd_trans (own_lmM t n m (by omega)) (own_lmS t m)
theorem own_lmD (t : Nat → Nat) (n i : Nat) (hi : i < n) : t i ∣ own_lm t n :=
  Nat.dvd_trans (Nat.dvd_lcm_right (own_lm t i) (t i)) (own_lmM t (i + 1) n (by omega))
theorem own_lmK {t : Nat → Nat} {k : Nat} : ∀ {n : Nat}, (∀ i, i < n → t i ∣ k) → own_lm t n ∣ k
  | 0, _ => Nat.one_dvd _
  | n + 1, h => Nat.lcm_dvd (own_lmK fun i hi => h i (by omega)) (h n (by omega))
/-- a set that the test takes -/
def own_Fit (hyp : Nat) (c d t : Nat → Nat) (n : Nat) : Prop := own_lm t n ≤ hyp ∧ ∀ x, 1 ≤ x → x ≤ own_lm t n → own_db c d t n x ≤ x
theorem own_Fit.skip {hyp : Nat} {c d t : Nat → Nat} {n q : Nat} (hv : own_Vd c d t (n + 1)) (h : own_Fit hyp c d t (n + 1)) (hq : q ≤ n) : own_Fit hyp (fun k => c (if k < q then k else k + 1)) (fun k => d (if k < q then k else k + 1)) (fun k => t (if k < q then k else k + 1)) n := by
  have dv : own_lm (fun k => t (if k < q then k else k + 1)) n ∣ own_lm t (n + 1) := own_lmK fun i hi => by
    show t (if i < q then i else i + 1) ∣ _
    refine own_lmD t (n + 1) _ ?_
    split <;> omega
  have le := Nat.le_of_dvd (own_lmP fun i hi => (hv i hi).2.2.2.1) dv
  refine ⟨Nat.le_trans le h.1, fun x h1 h2 => Nat.le_trans ?_ (h.2 x h1 (by omega))⟩
  exact own_ns_skip (fun i => own_ct (d i) (t i) x * c i) q n hq
/-- deadlines at the periods -/
theorem own_impl {c d t : Nat → Nat} {n h : Nat} (hv : own_Vd c d t n) (hd : ∀ i, i < n → d i = t i) (hh : ∀ i, i < n → t i ∣ h) (h1 : 1 ≤ h) (hl : own_ns (fun i => c i * (h / t i)) n ≤ h) (x : Nat) : own_db c d t n x ≤ x := by
  have key : h * own_db c d t n x ≤ x * own_ns (fun i => c i * (h / t i)) n := by
    unfold own_db
    rw [← own_ns_mul, ← own_ns_mul]
    refine own_ns_le fun i hi => ?_
    obtain ⟨-, -, -, t1, t2⟩ := hv i hi
    obtain ⟨k, hk⟩ := hh i hi
    have e1 : own_ct (d i) (t i) x = x / t i := by
      rw [hd i hi]
      refine own_t16 (P := fun t => own_ct t t x = x / t) ⟨?_, ?_, ?_, ?_, ?_, ?_, ?_, ?_, ?_, ?_, ?_, ?_, ?_, ?_, ?_, ?_⟩ t1 t2 <;> (unfold own_ct; split <;> omega)
    have e2 : h / t i = k := by rw [hk]; exact Nat.mul_div_cancel_left _ (by omega)
    show h * (own_ct (d i) (t i) x * c i) ≤ x * (c i * (h / t i))
    rw [e1, e2, hk]
    have m : x / t i * t i ≤ x := Nat.div_mul_le_self _ _
    calc t i * k * (x / t i * c i) = (x / t i * t i) * (c i * k) := by
          simp only [Nat.mul_assoc, Nat.mul_comm, Nat.mul_left_comm]
      _ ≤ x * (c i * k) := Nat.mul_le_mul_right _ m
  have k2 : h * own_db c d t n x ≤ h * x := by
    refine Nat.le_trans key ?_
    rw [Nat.mul_comm h x]
    exact Nat.mul_le_mul_left _ hl
  exact Nat.le_of_mul_le_mul_left k2 (by omega)

/-! numbers in longs -/
theorem own_li (x : Nat) (h : x < 4611686018427387904) : (Int64.ofNat x).toInt = x := Int64.toInt_ofNat_of_lt (by omega)
theorem own_le {x y : Nat} (hx : x < 4611686018427387904) (hy : y < 4611686018427387904) : Int64.ofNat x = Int64.ofNat y ↔ x = y := by
  rw [x64_eq, own_li x hx, own_li y hy]; omega
theorem own_ll {x y : Nat} (hx : x < 4611686018427387904) (hy : y < 4611686018427387904) : Int64.ofNat x < Int64.ofNat y ↔ x < y := by
  rw [x64_lt, own_li x hx, own_li y hy]; omega
theorem own_l32 (x : Nat) (h : x < 2147483648) : (Int32.ofNat x).toInt64 = Int64.ofNat x := by
  rw [x64_eq, Int32.toInt_toInt64, ofN_int h, own_li x (by omega)]
theorem own_32l (x : Nat) (h : x < 2147483648) : (Int64.ofNat x).toInt32 = Int32.ofNat x := by
  rw [x32_eq, Int64.toInt_toInt32, own_li x (by omega), ofN_int h]
  exact Int.bmod_eq_of_le (by omega) (by omega)
theorem own_lmo (x y : Nat) (hx : x < 4611686018427387904) (hy : y < 4611686018427387904) : Int64.ofNat x % Int64.ofNat y = Int64.ofNat (x % y) := by
  have : x % y ≤ x := Nat.mod_le _ _
  rw [x64_eq, Int64.toInt_mod, own_li x hx, own_li y hy, own_li _ (by omega), Int.tmod_eq_emod_of_nonneg (by omega)]; rfl
theorem own_ldv (x y : Nat) (hx : x < 4611686018427387904) (hy : y < 4611686018427387904) (h0 : 0 < y) : Int64.ofNat x / Int64.ofNat y = Int64.ofNat (x / y) := by
  have : x / y ≤ x := Nat.div_le_self _ _
  have ne : Int64.ofNat y ≠ -1 := fun e => by
    have := congrArg Int64.toInt e
    rw [own_li y hy] at this
    have o : (-1 : Int64).toInt = -1 := by decide
    omega
  rw [x64_eq, Int64.toInt_div_of_ne_right _ _ ne, own_li x hx, own_li y hy, own_li _ (by omega), Int.tdiv_eq_ediv_of_nonneg (by omega)]; rfl
theorem own_lml (x y : Nat) : Int64.ofNat x * Int64.ofNat y = Int64.ofNat (x * y) := (Int64.ofNat_mul x y).symm
theorem own_lad (x y : Nat) : Int64.ofNat x + Int64.ofNat y = Int64.ofNat (x + y) := (Int64.ofNat_add x y).symm
theorem own_gcdV (s : St) (y : Nat) : ∀ x i, x < 100000 → y < 100000 → i + y ≤ 127 → own_Ok (fun n => f_gcd_9 n (Int64.ofNat x) (Int64.ofNat y) (Int32.ofNat i) s) (· = Int64.ofNat (Nat.gcd x y)) := by
  induction y using Nat.strongRecOn with
  | _ y ih =>
    intro x i hx hy hi
    refine own_Ok.step (g := fun n => g_gcd_9 (f_gcd_9 n) n (Int64.ofNat x) (Int64.ofNat y) (Int32.ofNat i) s) (fun n => rfl) ?_
    unfold g_gcd_9 f_gcd_45 lt
    refine own_Ok.ite (fun _ => ?_) fun q => absurd ((ofN_ltL (m := 128) (by omega) (by decide)).mpr (by omega)) q
    have ez : Int64.ofNat y = 0 ↔ y = 0 := own_le (x := y) (y := 0) (by omega) (by decide)
    refine own_Ok.ite (fun q => ?_) fun q => ?_
    · have q := ez.mp q
      subst q
      exact own_Ok.ret (by rw [Nat.gcd_zero_right])
    · refine own_Ok.ite (fun q' => absurd q' q) fun _ => ?_
      have y0 : ¬ y = 0 := fun e => q (ez.mpr e)
      rw [own_lmo x y (by omega) (by omega), ofN_succ]
      have lt := Nat.mod_lt x (show y > 0 by omega)
      have g := ih (x % y) lt y (i + 1) (by omega) (by omega) (by omega)
      rw [show Nat.gcd x y = Nat.gcd y (x % y) by rw [Nat.gcd_comm x y, Nat.gcd_rec y x, Nat.gcd_comm]]
      exact g
theorem own_lcmV (s : St) (x y : Nat) (hx : 1 ≤ x) (hx2 : x ≤ 2048) (hy : 1 ≤ y) (hy2 : y ≤ 16) : own_Ok (fun n => f_lcm n (Int64.ofNat x) (Int64.ofNat y) s) (· = Int64.ofNat (Nat.lcm x y)) := by
  unfold f_lcm f_gcd f_lcm_18
  refine own_Ok.bind (own_gcdV s y x 0 (by omega) (by omega) (by omega)) fun g hg => ?_
  subst hg
  have gp := Nat.gcd_pos_of_pos_left y hx
  have gl := Nat.gcd_le_left y hx
  have k1 : (1 : Int64) = Int64.ofNat 1 := rfl
  have k0 : (0 : Int64) = Int64.ofNat 0 := rfl
  refine own_Ok.ite (fun q => ?_) fun _ => ?_
  · rw [k1, own_ll (by omega) (by omega)] at q; omega
  refine own_Ok.ite (fun q => ?_) fun _ => ?_
  · rw [k0, own_le (by omega) (by omega)] at q; omega
  refine own_Ok.ret ?_
  rw [own_ldv x _ (by omega) (by omega) gp, own_lml]
  congr 1
  show x / Nat.gcd x y * y = x * y / Nat.gcd x y
  obtain ⟨q, hq⟩ := Nat.gcd_dvd_left x y
  generalize Nat.gcd x y = g at *
  subst hq
  rw [Nat.mul_div_cancel_left _ gp, Nat.mul_assoc, Nat.mul_div_cancel_left _ gp]
theorem own_lcm8 {x y : Nat} (hx : x ≤ 2048) (hy : y ≤ 16) : Nat.lcm x y ≤ 32768 := by
  have : Nat.lcm x y ≤ x * y := Nat.div_le_self _ _
  have : x * y ≤ 2048 * 16 := Nat.mul_le_mul hx hy
  omega
def own_Tk (b : Nat) (s : St) (n : Nat) (c d t : Nat → Nat) : Prop := ∀ k, k < n → (gA s b)[k]? = some (Int32.ofNat (c k)) ∧ (gA s (b + 1))[k]? = some (Int32.ofNat (d k)) ∧ (gA s (b + 2))[k]? = some (Int32.ofNat (t k))
theorem own_whV {s : St} (hL : own_L s) {w : Nat} (hw : gI s 11 = Int32.ofNat w) (hw2 : w ≤ 12) {c d t : Nat → Nat} (hk : own_Tk 6 s w c d t) (hv : own_Vd c d t w) (hyp : Nat) (hy1 : 1 ≤ hyp) (hy2 : hyp ≤ 2048) : own_Ok (fun n => f_workHyper n (Int32.ofNat hyp) s) (· = if own_lm t w ≤ hyp then Int32.ofNat (own_lm t w) else Int32.ofNat (hyp + 1)) := by
  have key : ∀ (k i : Nat), i + k = w → own_lm t i ≤ hyp → own_Ok (fun n => f_workHyper_5 n (Int32.ofNat hyp) (Int64.ofNat (own_lm t i)) (Int32.ofNat i) s) (· = if own_lm t w ≤ hyp then Int32.ofNat (own_lm t w) else Int32.ofNat (hyp + 1)) := by
    intro k
    induction k with
    | zero =>
      intro i hi h240
      obtain rfl : i = w := by omega
      refine own_Ok.step (g := fun n => g_workHyper_5 (f_workHyper_5 n) n (Int32.ofNat hyp) (Int64.ofNat (own_lm t i)) (Int32.ofNat i) s) (fun n => rfl) ?_
      unfold g_workHyper_5
      rw [hw]
      refine own_Ok.ite (fun q => by have := (own_ltN (by omega) (by omega)).mp q; omega) fun _ => own_Ok.ret ?_
      rw [own_32l _ (by omega), if_pos h240]
    | succ k ih =>
      intro i hi h240
      refine own_Ok.step (g := fun n => g_workHyper_5 (f_workHyper_5 n) n (Int32.ofNat hyp) (Int64.ofNat (own_lm t i)) (Int32.ofNat i) s) (fun n => rfl) ?_
      have ti := (hk i (by omega)).2.2
      obtain ⟨-, -, -, t1, t2⟩ := hv i (by omega)
      unfold g_workHyper_5 lt
      rw [hw]
      refine own_Ok.ite (fun _ => ?_) fun q => absurd ((own_ltN (by omega) (by omega)).mpr (by omega)) q
      refine own_Ok.rd hL (by decide) (by omega) fun x ex => ?_
      obtain rfl : x = Int32.ofNat (t i) := Option.some.inj (ex.symm.trans ti)
      refine own_Ok.ite (fun q => by have := (ofN_ltL (m := 1) (by omega) (by decide)).mp q; omega) fun _ => ?_
      refine own_Ok.rd hL (by decide) (by omega) fun x ex => ?_
      obtain rfl : x = Int32.ofNat (t i) := Option.some.inj (ex.symm.trans ti)
      rw [own_l32 _ (by omega)]
      refine own_Ok.bind (own_lcmV s _ _ (own_lmP fun j hj => (hv j (by omega)).2.2.2.1) (by omega) t1 t2) fun r hr => ?_
      subst hr
      have l8 := own_lcm8 (show own_lm t i ≤ 2048 by omega) t2
      have e240 : (Int32.ofNat hyp).toInt64 = Int64.ofNat hyp := own_l32 hyp (by omega)
      rw [e240]
      refine own_Ok.ite (fun q => ?_) fun q => ?_
      · rw [own_ll (by omega) (by omega)] at q
        refine own_Ok.ret ?_
        have dv := own_lmM t (i + 1) w (by omega)
        have le := Nat.le_of_dvd (own_lmP fun j hj => (hv j hj).2.2.2.1) dv
        have q : hyp < own_lm t (i + 1) := q
        rw [if_neg (by omega), ofN_succ]
      · rw [own_ll (by omega) (by omega)] at q
        rw [ofN_succ]
        exact ih (i + 1) (by omega) (show own_lm t (i + 1) ≤ hyp from by
          show Nat.lcm (own_lm t i) (t i) ≤ hyp
          omega)
  unfold f_workHyper
  exact key w 0 (by omega) (show 1 ≤ hyp from hy1)
theorem own_hdiv (h t : Nat) (hh : h ≤ 2048) (t1 : 1 ≤ t) (t2 : t ≤ 16) : Int32.ofNat h / Int32.ofNat t = Int32.ofNat (h / t) := by
  have : h / t ≤ h := Nat.div_le_self _ _
  have ne : Int32.ofNat t ≠ -1 := fun e => by
    have := congrArg Int32.toInt e
    rw [ofN_int (by omega)] at this
    have o : (-1 : Int32).toInt = -1 := by decide
    omega
  rw [x32_eq, Int32.toInt_div_of_ne_right _ _ ne, ofN_int (by omega), ofN_int (by omega), ofN_int (by omega), Int.tdiv_eq_ediv_of_nonneg (by omega)]; rfl
theorem own_nsb {g : Nat → Nat} {B : Nat} : ∀ {n : Nat}, (∀ i, i < n → g i ≤ B) → own_ns g n ≤ n * B
  | 0, _ => Nat.zero_le _
  | n + 1, h => by
    have h1 := own_nsb (n := n) fun i hi => h i (by omega)
    have h2 := h n (by omega)
    show own_ns g n + g n ≤ (n + 1) * B
    rw [Nat.succ_mul]; omega
theorem own_impV {s : St} (hL : own_L s) {w : Nat} (hw : gI s 11 = Int32.ofNat w) (hw2 : w ≤ 12) {c d t : Nat → Nat} (hk : own_Tk 6 s w c d t) (hv : own_Vd c d t w) (h : Nat) (hh : h ≤ 2048) : own_Ok (fun n => f_implicitWithinCapacity n (Int32.ofNat h) s) (fun r => ¬ r = 0 → (∀ i, i < w → d i = t i) ∧ own_ns (fun i => c i * (h / t i)) w ≤ h) := by
  have tb : ∀ i, i < w → c i * (h / t i) ≤ 32768 := fun i hi => by
    have h1 := (hv i hi).1.2
    have h2 : h / t i ≤ 2048 := Nat.le_trans (Nat.div_le_self _ _) hh
    have := Nat.mul_le_mul h1 h2
    omega
  have key : ∀ (k i : Nat), i + k = w → (∀ j, j < i → d j = t j) → own_Ok (fun n => f_implicitWithinCapacity_5 n (Int32.ofNat h) (Int64.ofNat (own_ns (fun i => c i * (h / t i)) i)) (Int32.ofNat i) s) (fun r => ¬ r = 0 → (∀ i, i < w → d i = t i) ∧ own_ns (fun i => c i * (h / t i)) w ≤ h) := by
    intro k
    induction k with
    | zero =>
      intro i hi hd
      obtain rfl : i = w := by omega
      refine own_Ok.step (g := fun n => g_implicitWithinCapacity_5 (f_implicitWithinCapacity_5 n) n (Int32.ofNat h) _ (Int32.ofNat i) s) (fun n => rfl) ?_
      have sb := own_nsb (n := i) tb
      unfold g_implicitWithinCapacity_5 f_implicitWithinCapacity_84
      rw [hw]
      refine own_Ok.ite (fun q => by have := (own_ltN (by omega) (by omega)).mp q; omega) fun _ => ?_
      rw [own_l32 _ (by omega)]
      refine own_Ok.ite (fun _ => own_Ok.ret fun q => absurd (by decide) q) fun q => own_Ok.ret fun _ => ⟨hd, ?_⟩
      rw [own_ll (by omega) (by omega)] at q
      omega
    | succ k ih =>
      intro i hi hd
      refine own_Ok.step (g := fun n => g_implicitWithinCapacity_5 (f_implicitWithinCapacity_5 n) n (Int32.ofNat h) _ (Int32.ofNat i) s) (fun n => rfl) ?_
      obtain ⟨ci, di, ti⟩ := hk i (by omega)
      obtain ⟨⟨c1, c2⟩, d1, d2, t1, t2⟩ := hv i (by omega)
      unfold g_implicitWithinCapacity_5 f_implicitWithinCapacity_42 lt
      rw [hw]
      refine own_Ok.ite (fun _ => ?_) fun q => absurd ((own_ltN (by omega) (by omega)).mpr (by omega)) q
      refine own_Ok.rd hL (by decide) (by omega) fun x ex => ?_
      refine own_Ok.ite (fun _ => own_Ok.ret fun q => absurd rfl q) fun _ => ?_
      refine own_Ok.rd hL (by decide) (by omega) fun x ex => ?_
      obtain rfl : x = Int32.ofNat (d i) := Option.some.inj (ex.symm.trans di)
      refine own_Ok.rd hL (by decide) (by omega) fun x ex => ?_
      obtain rfl : x = Int32.ofNat (t i) := Option.some.inj (ex.symm.trans ti)
      refine own_Ok.ite (fun q => ?_) fun _ => own_Ok.ret fun q => absurd rfl q
      have q := (ofN_eq (by omega) (by omega)).mp q
      refine own_Ok.rd hL (by decide) (by omega) fun x ex => ?_
      obtain rfl : x = Int32.ofNat (c i) := Option.some.inj (ex.symm.trans ci)
      refine own_Ok.rd hL (by decide) (by omega) fun x ex => ?_
      obtain rfl : x = Int32.ofNat (t i) := Option.some.inj (ex.symm.trans ti)
      refine own_Ok.ite (fun q => by have := (ofN_eqL (m := 0) (by omega) (by decide)).mp q; omega) fun _ => ?_
      have hb : h / t i ≤ h := Nat.div_le_self _ _
      rw [own_hdiv h (t i) hh t1 t2, own_l32 _ (by omega), own_l32 _ (by omega), own_lml, own_lad, ofN_succ]
      refine ih (i + 1) (by omega) fun j hj => ?_
      by_cases z : j = i
      · rw [z]; exact q
      · exact hd j (by omega)
  unfold f_implicitWithinCapacity
  exact key w 0 (by omega) fun j hj => absurd hj (Nat.not_lt_zero _)
/-! the scan -/
theorem own_endV {s : St} (hL : own_L s) {w : Nat} (hw : gI s 11 = Int32.ofNat w) (hw2 : w ≤ 12) (w1 : 1 ≤ w) {nx : Nat → Nat} (hn : ∀ k, k < w → (gA s 9)[k]? = some (Int32.ofNat (nx k)) ∧ nx k < 3000) : own_Ok (fun n => f_earliestNextDeadline n s) (fun r => ∃ p, p < 3000 ∧ r = Int32.ofNat p ∧ (∀ k, k < w → p ≤ nx k) ∧ ∃ k, k < w ∧ p = nx k) := by
  have key : ∀ (k i : Nat) (v : Int32), i + k = w → ((i = 0 ∧ v = 2147483647) ∨ ∃ p, p < 3000 ∧ v = Int32.ofNat p ∧ (∀ k, k < i → p ≤ nx k) ∧ ∃ k, k < i ∧ p = nx k) → own_Ok (fun n => f_earliestNextDeadline_5 n v (Int32.ofNat i) s) (fun r => ∃ p, p < 3000 ∧ r = Int32.ofNat p ∧ (∀ k, k < w → p ≤ nx k) ∧ ∃ k, k < w ∧ p = nx k) := by
    intro k
    induction k with
    | zero =>
      intro i v hi h
      obtain rfl : i = w := by omega
      refine own_Ok.step (g := fun n => g_earliestNextDeadline_5 (f_earliestNextDeadline_5 n) n v (Int32.ofNat i) s) (fun n => rfl) ?_
      unfold g_earliestNextDeadline_5
      rw [hw]
      refine own_Ok.ite (fun q => by have := (own_ltN (by omega) (by omega)).mp q; omega) fun _ => own_Ok.ret ?_
      rcases h with h | h
      · omega
      · exact h
    | succ k ih =>
      intro i v hi h
      refine own_Ok.step (g := fun n => g_earliestNextDeadline_5 (f_earliestNextDeadline_5 n) n v (Int32.ofNat i) s) (fun n => rfl) ?_
      obtain ⟨ni, nb⟩ := hn i (by omega)
      unfold g_earliestNextDeadline_5 f_earliestNextDeadline_30 lt
      rw [hw]
      refine own_Ok.ite (fun _ => ?_) fun q => absurd ((own_ltN (by omega) (by omega)).mpr (by omega)) q
      refine own_Ok.rd hL (by decide) (by omega) fun x ex => ?_
      obtain rfl : x = Int32.ofNat (nx i) := Option.some.inj (ex.symm.trans ni)
      rw [ofN_succ]
      refine own_Ok.ite (fun q => ?_) fun q => ?_
      · refine own_Ok.rd hL (by decide) (by omega) fun x ex => ?_
        obtain rfl : x = Int32.ofNat (nx i) := Option.some.inj (ex.symm.trans ni)
        refine ih (i + 1) _ (by omega) (Or.inr ⟨nx i, nb, rfl, fun j hj => ?_, i, by omega, rfl⟩)
        by_cases z : j = i
        · rw [z]; exact Nat.le_refl _
        · rcases h with h | ⟨p, pb, rfl, h1, h2⟩
          · omega
          · have q := (ofN_lt (by omega) (by omega)).mp q
            have := h1 j (by omega)
            omega
      · refine ih (i + 1) _ (by omega) ?_
        rcases h with ⟨-, rfl⟩ | ⟨p, pb, rfl, h1, k, h2, h3⟩
        · refine absurd ?_ q
          exact (ofN_ltL (m := 2147483647) (by omega) (by decide)).mpr (by omega)
        · have q : ¬ nx i < p := fun e => q ((ofN_lt (by omega) (by omega)).mpr e)
          refine Or.inr ⟨p, pb, rfl, fun j hj => ?_, k, by omega, h3⟩
          by_cases z : j = i
          · rw [z]; omega
          · exact h1 j (by omega)
  unfold f_earliestNextDeadline
  exact key w 0 _ (by omega) (Or.inl ⟨rfl, rfl⟩)
theorem own_consV {s : St} (hL : own_L s) {w : Nat} (hw : gI s 11 = Int32.ofNat w) (hw2 : w ≤ 12) {c d t nx : Nat → Nat} (hk : own_Tk 6 s w c d t) (hv : own_Vd c d t w) (hn : ∀ k, k < w → (gA s 9)[k]? = some (Int32.ofNat (nx k)) ∧ nx k < 3000) (p : Nat) (hp : p < 3000) : own_Ok (fun n => f_consumeDeadlinesAt n (Int32.ofNat p) s) (fun r => own_Fr [9] [] s r.2 ∧ r.1 = Int64.ofNat (own_ns (fun k => if nx k = p then c k else 0) w) ∧ ∀ k, k < w → (gA r.2 9)[k]? = some (Int32.ofNat (nx k + if nx k = p then t k else 0))) := by
  have key : ∀ (k i : Nat) (u : St), i + k = w → own_Fr [9] [] s u → (∀ k, k < w → (gA u 9)[k]? = some (Int32.ofNat (nx k + if k < i ∧ nx k = p then t k else 0))) → own_Ok (fun n => f_consumeDeadlinesAt_5 n (Int32.ofNat p) (Int64.ofNat (own_ns (fun k => if nx k = p then c k else 0) i)) (Int32.ofNat i) u) (fun r => own_Fr [9] [] s r.2 ∧ r.1 = Int64.ofNat (own_ns (fun k => if nx k = p then c k else 0) w) ∧ ∀ k, k < w → (gA r.2 9)[k]? = some (Int32.ofNat (nx k + if nx k = p then t k else 0))) := by
    intro k
    induction k with
    | zero =>
      intro i u hi hF hu
      obtain rfl : i = w := by omega
      refine own_Ok.step (g := fun n => g_consumeDeadlinesAt_5 (f_consumeDeadlinesAt_5 n) n (Int32.ofNat p) _ (Int32.ofNat i) u) (fun n => rfl) ?_
      unfold g_consumeDeadlinesAt_5
      rw [show gI u 11 = Int32.ofNat i from (hF.2.2 11 (by decide)).trans hw]
      refine own_Ok.ite (fun q => by have := (own_ltN (by omega) (by omega)).mp q; omega) fun _ => own_Ok.ret ⟨hF, rfl, fun k hk => ?_⟩
      rw [hu k hk]
      by_cases z : nx k = p
      · rw [if_pos ⟨hk, z⟩, if_pos z]
      · rw [if_neg (fun e => z e.2), if_neg z]
    | succ k ih =>
      intro i u hi hF hu
      refine own_Ok.step (g := fun n => g_consumeDeadlinesAt_5 (f_consumeDeadlinesAt_5 n) n (Int32.ofNat p) _ (Int32.ofNat i) u) (fun n => rfl) ?_
      obtain ⟨ci, di, ti⟩ := hk i (by omega)
      obtain ⟨⟨c1, c2⟩, d1, d2, t1, t2⟩ := hv i (by omega)
      have nb := (hn i (by omega)).2
      have ui := hu i (by omega)
      rw [if_neg (fun e => Nat.lt_irrefl _ e.1), Nat.add_zero] at ui
      have l9 := hF.1 9 (by decide)
      unfold g_consumeDeadlinesAt_5 f_consumeDeadlinesAt_58 lt
      rw [show gI u 11 = Int32.ofNat w from (hF.2.2 11 (by decide)).trans hw]
      refine own_Ok.ite (fun _ => ?_) fun q => absurd ((own_ltN (by omega) (by omega)).mpr (by omega)) q
      refine own_Ok.rd hF.1 (by decide) (by omega) fun x ex => ?_
      obtain rfl : x = Int32.ofNat (nx i) := Option.some.inj (ex.symm.trans ui)
      refine own_Ok.ite (fun q => ?_) fun q => ?_
      · have q := (ofN_eq (by omega) (by omega)).mp q
        refine own_Ok.rd hF.1 (by decide) (by omega) fun x ex => ?_
        rw [hF.2.1 6 (by decide)] at ex
        obtain rfl : x = Int32.ofNat (c i) := Option.some.inj (ex.symm.trans ci)
        refine own_Ok.rd hF.1 (by decide) (by omega) fun x ex => ?_
        obtain rfl : x = Int32.ofNat (nx i) := Option.some.inj (ex.symm.trans ui)
        refine own_Ok.rd hF.1 (by decide) (by omega) fun x ex => ?_
        rw [hF.2.1 8 (by decide)] at ex
        obtain rfl : x = Int32.ofNat (t i) := Option.some.inj (ex.symm.trans ti)
        refine own_Ok.wr hF.1 (by decide) (by omega) ?_
        have f1 := hF.wr 9 i (Int32.ofNat (nx i) + Int32.ofNat (t i)) (by decide)
        rw [ofN_succ, own_l32 _ (by omega), own_lad, show own_ns (fun k => if nx k = p then c k else 0) i + c i = own_ns (fun k => if nx k = p then c k else 0) (i + 1) from by
          show _ = own_ns (fun k => if nx k = p then c k else 0) i + (if nx i = p then c i else 0)
          rw [if_pos q]]
        refine ih (i + 1) _ (by omega) f1 fun j hj => ?_
        show ((gA u 9).set i _)[j]? = _
        by_cases z : j = i
        · subst z
          rw [get_set_self _ (by omega), if_pos ⟨by omega, q⟩, ← Int32.ofNat_add]
        · rw [get_set_ne _ (Ne.symm z), hu j hj]
          by_cases y : j < i ∧ nx j = p
          · rw [if_pos y, if_pos (show j < i + 1 ∧ nx j = p from ⟨by omega, y.2⟩)]
          · rw [if_neg y, if_neg (show ¬ (j < i + 1 ∧ nx j = p) from fun e => y ⟨by omega, e.2⟩)]
      · have q : ¬ nx i = p := fun e => q ((ofN_eq (by omega) (by omega)).mpr e)
        rw [ofN_succ, show own_ns (fun k => if nx k = p then c k else 0) i = own_ns (fun k => if nx k = p then c k else 0) (i + 1) from by
          show _ = own_ns (fun k => if nx k = p then c k else 0) i + (if nx i = p then c i else 0)
          rw [if_neg q, Nat.add_zero]]
        refine ih (i + 1) u (by omega) hF fun j hj => ?_
        rw [hu j hj]
        by_cases y : j < i ∧ nx j = p
        · rw [if_pos y, if_pos (show j < i + 1 ∧ nx j = p from ⟨by omega, y.2⟩)]
        · rw [if_neg y, if_neg (show ¬ (j < i + 1 ∧ nx j = p) from fun e => y ⟨by
            have e1 := e.1
            by_cases z : j = i
            · exact absurd (by rw [← z]; exact e.2) q
            · omega, e.2⟩)]
  unfold f_consumeDeadlinesAt
  exact key w 0 s (by omega) (own_Fr.refl hL) fun k hk => by
    rw [if_neg (fun e => Nat.not_lt_zero _ e.1), Nat.add_zero]; exact (hn k hk).1
theorem own_ns_add (g h : Nat → Nat) : ∀ n, own_ns (fun i => g i + h i) n = own_ns g n + own_ns h n
  | 0 => rfl
  | n + 1 => by
    show own_ns (fun i => g i + h i) n + (g n + h n) = own_ns g n + g n + (own_ns h n + h n)
    rw [own_ns_add g h n]; omega
theorem own_ctS {d t P p : Nat} (h1 : 1 ≤ t) (h2 : t ≤ 16) (hp : P < p) (hn : p ≤ d + t * own_ct d t P) : own_ct d t p = own_ct d t P + (if d + t * own_ct d t P = p then 1 else 0) := by
  have u := own_ctU (d := d) (x := P) h1 h2
  by_cases z : d + t * own_ct d t P = p
  · rw [if_pos z]
    have e : t * (own_ct d t P + 1) = t * own_ct d t P + t := Nat.mul_succ _ _
    exact own_ctE h1 h2 (by omega) (by omega)
  · rw [if_neg z, Nat.add_zero]
    refine own_ctE h1 h2 (by omega) ?_
    rcases u with u | u
    · exact Or.inl u
    · exact Or.inr (by omega)
theorem own_scanV {s : St} (hL : own_L s) {w : Nat} (hw : gI s 11 = Int32.ofNat w) (hw2 : w ≤ 12) (w1 : 1 ≤ w) {c d t : Nat → Nat} (hk : own_Tk 6 s w c d t) (hv : own_Vd c d t w) (h : Nat) (hh : h ≤ 2048) : own_Ok (fun n => f_scanDeadlinePoints n (Int32.ofNat h) s) (fun r => own_Fr [9] [] s r.2 ∧ ((r.1 = 0 ∧ ∀ x, 1 ≤ x → x ≤ h → own_db c d t w x ≤ x) ∨ ∃ p, 1 ≤ p ∧ p ≤ h ∧ r.1 = Int32.ofNat p ∧ p < own_db c d t w p ∧ ∀ x, 1 ≤ x → x < p → own_db c d t w x ≤ x)) := by
  have dbb : ∀ x, x ≤ 3000 → own_db c d t w x ≤ 600000 := fun x hx => by
    have := own_nsb (g := fun i => own_ct (d i) (t i) x * c i) (B := 48016) (n := w) fun i hi => by
      have h1 := own_ctb (d := d i) (t := t i) (x := x)
      have h2 := (hv i hi).1.2
      have := Nat.mul_le_mul (show own_ct (d i) (t i) x ≤ 3001 by omega) h2
      omega
    have : w * 48016 ≤ 12 * 48016 := Nat.mul_le_mul_right _ hw2
    unfold own_db; omega
  have k33 : ∀ (k P i : Nat) (u : St), P + k = h + 1 → i ≤ P → own_Fr [9] [] s u → (∀ k, k < w → (gA u 9)[k]? = some (Int32.ofNat (d k + t k * own_ct (d k) (t k) P))) → (∀ x, 1 ≤ x → x ≤ P → own_db c d t w x ≤ x) → P ≤ h → own_Ok (fun n => f_scanDeadlinePoints_33 n (Int32.ofNat h) (Int64.ofNat (own_db c d t w P)) (Int32.ofNat i) u) (fun r => own_Fr [9] [] s r.2 ∧ ((r.1 = 0 ∧ ∀ x, 1 ≤ x → x ≤ h → own_db c d t w x ≤ x) ∨ ∃ p, 1 ≤ p ∧ p ≤ h ∧ r.1 = Int32.ofNat p ∧ p < own_db c d t w p ∧ ∀ x, 1 ≤ x → x < p → own_db c d t w x ≤ x)) := by
    intro k
    induction k using Nat.strongRecOn with
    | _ k ih =>
      intro P i u hP hi hF hu hok hPh
      refine own_Ok.step (g := fun n => g_scanDeadlinePoints_33 (f_scanDeadlinePoints_33 n) n (Int32.ofNat h) _ (Int32.ofNat i) u) (fun n => rfl) ?_
      have wu : gI u 11 = Int32.ofNat w := (hF.2.2 11 (by decide)).trans hw
      have hku : own_Tk 6 u w c d t := fun k hk' => by
        rw [hF.2.1 6 (by decide), hF.2.1 (6 + 1) (by decide), hF.2.1 (6 + 2) (by decide)]; exact hk k hk'
      have nxb : ∀ k, k < w → (gA u 9)[k]? = some (Int32.ofNat (d k + t k * own_ct (d k) (t k) P)) ∧ d k + t k * own_ct (d k) (t k) P < 3000 := fun k hk' => by
        refine ⟨hu k hk', ?_⟩
        obtain ⟨-, d1, d2, t1, t2⟩ := hv k hk'
        rcases own_ctU (d := d k) (x := P) t1 t2 with z | z
        · rw [z, Nat.mul_zero]; omega
        · omega
      have gtP : ∀ k, k < w → P < d k + t k * own_ct (d k) (t k) P := fun k hk' => own_ctL (hv k hk').2.2.2.1 (hv k hk').2.2.2.2
      unfold g_scanDeadlinePoints_33 lt
      refine own_Ok.ite (fun q => by have := (ofN_gtL (m := 2049) (by omega) (by decide)).mp q; omega) fun _ => ?_
      refine own_Ok.bind (own_endV hF.1 wu hw2 w1 nxb) fun r hr => ?_
      obtain ⟨p, pb, rfl, pl, k0, k0w, pe⟩ := hr
      have Pp : P < p := by rw [pe]; exact gtP k0 k0w
      have flat : ∀ x, P ≤ x → x < p → own_db c d t w x = own_db c d t w P := fun x h1 h2 => own_ns_congr fun i hi => by
        obtain ⟨-, d1, d2, t1, t2⟩ := hv i hi
        have u := own_ctU (d := d i) (x := P) t1 t2
        have lp := pl i hi
        have e : own_ct (d i) (t i) x = own_ct (d i) (t i) P := own_ctE t1 t2 (by omega) (by
          rcases u with u | u
          · exact Or.inl u
          · exact Or.inr (by omega))
        show own_ct (d i) (t i) x * c i = own_ct (d i) (t i) P * c i
        rw [e]
      have db0 : own_db c d t w 0 = 0 := by
        have : own_db c d t w 0 = own_ns (fun _ => 0) w := own_ns_congr fun i hi => by
          obtain ⟨-, d1, -⟩ := hv i hi
          show own_ct (d i) (t i) 0 * c i = 0
          unfold own_ct
          rw [if_neg (by omega), Nat.zero_mul]
        rw [this]
        have z : ∀ n, own_ns (fun _ => 0) n = 0 := fun n => by
          induction n with
          | zero => rfl
          | succ n ih => show own_ns (fun _ => 0) n + 0 = 0; rw [ih]
        exact z w
      have okx : ∀ x, 1 ≤ x → x < p → own_db c d t w x ≤ x := fun x h1 h2 => by
        by_cases z : x ≤ P
        · exact hok x h1 z
        · rw [flat x (by omega) h2]
          by_cases y : P = 0
          · rw [y, db0]; omega
          · have := hok P (by omega) (Nat.le_refl _)
            omega
      refine own_Ok.ite (fun q => ?_) fun q => ?_
      · have q := (ofN_lt (by omega) (by omega)).mp q
        exact own_Ok.ret ⟨hF, Or.inl ⟨rfl, fun x h1 h2 => okx x h1 (by omega)⟩⟩
      have q : ¬ h < p := fun e => q ((ofN_lt (by omega) (by omega)).mpr e)
      refine own_Ok.bind (own_consV hF.1 wu hw2 hku hv nxb p pb) fun r hr => ?_
      obtain ⟨f1, r1, r9⟩ := hr
      have dbp : own_db c d t w P + own_ns (fun k => if d k + t k * own_ct (d k) (t k) P = p then c k else 0) w = own_db c d t w p := by
        unfold own_db
        rw [← own_ns_add]
        refine own_ns_congr fun i hi => ?_
        obtain ⟨-, d1, d2, t1, t2⟩ := hv i hi
        show own_ct (d i) (t i) P * c i + (if d i + t i * own_ct (d i) (t i) P = p then c i else 0) = own_ct (d i) (t i) p * c i
        rw [own_ctS t1 t2 Pp (pl i hi), Nat.add_mul]
        by_cases z : d i + t i * own_ct (d i) (t i) P = p
        · rw [if_pos z, if_pos z, Nat.one_mul]
        · rw [if_neg z, if_neg z, Nat.zero_mul]
      rw [r1, own_lad, dbp, own_l32 _ (by omega)]
      have b2 := dbb p (by omega)
      refine own_Ok.ite (fun z => ?_) fun z => ?_
      · rw [own_ll (by omega) (by omega)] at z
        exact own_Ok.ret ⟨hF.trans f1, Or.inr ⟨p, by omega, by omega, rfl, z, okx⟩⟩
      · rw [own_ll (by omega) (by omega)] at z
        rw [ofN_succ]
        refine ih (h + 1 - p) (by omega) p (i + 1) r.2 (by omega) (by omega) (hF.trans f1) (fun j hj => ?_) (fun x h1 h2 => ?_) (by omega)
        · rw [r9 j hj]
          obtain ⟨-, d1, d2, t1, t2⟩ := hv j hj
          rw [own_ctS t1 t2 Pp (pl j hj)]
          congr 2
          by_cases y : d j + t j * own_ct (d j) (t j) P = p
          · rw [if_pos y, if_pos y, Nat.mul_add, Nat.mul_one]; omega
          · rw [if_neg y, if_neg y, Nat.add_zero, Nat.add_zero]
        · by_cases y : x = p
          · rw [y]; omega
          · exact okx x h1 (by omega)
  have k2 : ∀ (k i : Nat) (u : St), i + k = w → own_Fr [9] [] s u → (∀ k, k < i → (gA u 9)[k]? = some (Int32.ofNat (d k))) → own_Ok (fun n => f_scanDeadlinePoints_2 n (Int32.ofNat h) (Int32.ofNat i) u) (fun r => own_Fr [9] [] s r.2 ∧ ((r.1 = 0 ∧ ∀ x, 1 ≤ x → x ≤ h → own_db c d t w x ≤ x) ∨ ∃ p, 1 ≤ p ∧ p ≤ h ∧ r.1 = Int32.ofNat p ∧ p < own_db c d t w p ∧ ∀ x, 1 ≤ x → x < p → own_db c d t w x ≤ x)) := by
    intro k
    induction k with
    | zero =>
      intro i u hi hF hu
      obtain rfl : i = w := by omega
      refine own_Ok.step (g := fun n => g_scanDeadlinePoints_2 (f_scanDeadlinePoints_2 n) n (Int32.ofNat h) (Int32.ofNat i) u) (fun n => rfl) ?_
      unfold g_scanDeadlinePoints_2
      rw [show gI u 11 = Int32.ofNat i from (hF.2.2 11 (by decide)).trans hw]
      refine own_Ok.ite (fun q => by have := (own_ltN (by omega) (by omega)).mp q; omega) fun _ => ?_
      have db0 : own_db c d t i 0 = 0 := by
        have : own_db c d t i 0 = own_ns (fun _ => 0) i := own_ns_congr fun j hj => by
          obtain ⟨-, d1, -⟩ := hv j hj
          show own_ct (d j) (t j) 0 * c j = 0
          unfold own_ct
          rw [if_neg (by omega), Nat.zero_mul]
        rw [this]
        have z : ∀ n, own_ns (fun _ => 0) n = 0 := fun n => by
          induction n with
          | zero => rfl
          | succ n ih => show own_ns (fun _ => 0) n + 0 = 0; rw [ih]
        exact z i
      have := k33 (h + 1) 0 0 u (by omega) (by omega) hF (fun k hk' => by
        rw [hu k hk']
        obtain ⟨-, d1, -⟩ := hv k hk'
        unfold own_ct
        rw [if_neg (by omega), Nat.mul_zero, Nat.add_zero]) (fun x h1 h2 => by omega) (by omega)
      rw [db0] at this
      exact this
    | succ k ih =>
      intro i u hi hF hu
      refine own_Ok.step (g := fun n => g_scanDeadlinePoints_2 (f_scanDeadlinePoints_2 n) n (Int32.ofNat h) (Int32.ofNat i) u) (fun n => rfl) ?_
      have l9 := hF.1 9 (by decide)
      unfold g_scanDeadlinePoints_2 lt
      rw [show gI u 11 = Int32.ofNat w from (hF.2.2 11 (by decide)).trans hw]
      refine own_Ok.ite (fun _ => ?_) fun q => absurd ((own_ltN (by omega) (by omega)).mpr (by omega)) q
      refine own_Ok.rd hF.1 (by decide) (by omega) fun x ex => ?_
      rw [hF.2.1 7 (by decide)] at ex
      obtain rfl : x = Int32.ofNat (d i) := Option.some.inj (ex.symm.trans (hk i (by omega)).2.1)
      refine own_Ok.wr hF.1 (by decide) (by omega) ?_
      rw [ofN_succ]
      refine ih (i + 1) _ (by omega) (hF.wr 9 i _ (by decide)) fun j hj => ?_
      show ((gA u 9).set i _)[j]? = _
      by_cases z : j = i
      · subst z; rw [get_set_self _ (by omega)]
      · rw [get_set_ne _ (Ne.symm z)]; exact hu j (by omega)
  unfold f_scanDeadlinePoints
  exact k2 w 0 s (by omega) (own_Fr.refl hL) fun k hk' => absurd hk' (Nat.not_lt_zero _)
/-- the test -/
theorem own_overV {s : St} (hL : own_L s) {w : Nat} (hw : gI s 11 = Int32.ofNat w) (hw2 : w ≤ 12) (w1 : 1 ≤ w) {c d t : Nat → Nat} (hk : own_Tk 6 s w c d t) (hv : own_Vd c d t w) (hyp : Nat) (hh : own_lm t w ≤ hyp) (hy2 : hyp ≤ 2048) : own_Ok (fun n => f_overloadOfWork n (Int32.ofNat (own_lm t w)) s) (fun r => own_Fr [9] [] s r.2 ∧ ((r.1 = 0 ∧ own_Fit hyp c d t w) ∨ ∃ p, 1 ≤ p ∧ p ≤ own_lm t w ∧ r.1 = Int32.ofNat p ∧ p < own_db c d t w p ∧ ∀ x, 1 ≤ x → x < p → own_db c d t w x ≤ x)) := by
  unfold f_overloadOfWork
  refine own_Ok.bind (own_impV hL hw hw2 hk hv _ (by omega)) fun r hr => ?_
  refine own_Ok.ite (fun _ => ?_) fun q => ?_
  · refine own_Ok.bind (own_scanV hL hw hw2 w1 hk hv _ (by omega)) fun r hr => own_Ok.ret ⟨hr.1, ?_⟩
    rcases hr.2 with ⟨e, f⟩ | f
    · exact Or.inl ⟨e, hh, f⟩
    · exact Or.inr f
  · obtain ⟨h1, h2⟩ := hr q
    exact own_Ok.ret ⟨own_Fr.refl hL, Or.inl ⟨rfl, hh, fun x _ _ => own_impl hv h1 (fun i hi => own_lmD t w i hi) (own_lmP fun i hi => (hv i hi).2.2.2.1) h2 x⟩⟩

theorem own_storeV {s : St} (hL : own_L s) {w : Nat} (hw : gI s 11 = Int32.ofNat w) (hw2 : w ≤ 12) (h : Int32) : own_Ok (fun n => f_storeCandidate n h s) (fun t => own_Fr [3, 4, 5] [3, 4, 5] s t ∧ gI t 3 = Int32.ofNat w ∧ gI t 4 = 1 ∧ gI t 5 = h ∧ ∀ k, k < w → (gA t 3)[k]? = (gA s 6)[k]? ∧ (gA t 4)[k]? = (gA s 7)[k]? ∧ (gA t 5)[k]? = (gA s 8)[k]?) := by
  have key : ∀ (k i : Nat) (t : St), i + k = w → own_Fr [3, 4, 5] [3, 4, 5] s t → gI t 3 = Int32.ofNat i → (∀ k, k < i → (gA t 3)[k]? = (gA s 6)[k]? ∧ (gA t 4)[k]? = (gA s 7)[k]? ∧ (gA t 5)[k]? = (gA s 8)[k]?) → own_Ok (fun n => f_storeCandidate_7 n h (Int32.ofNat i) t) (fun t => own_Fr [3, 4, 5] [3, 4, 5] s t ∧ gI t 3 = Int32.ofNat w ∧ gI t 4 = 1 ∧ gI t 5 = h ∧ ∀ k, k < w → (gA t 3)[k]? = (gA s 6)[k]? ∧ (gA t 4)[k]? = (gA s 7)[k]? ∧ (gA t 5)[k]? = (gA s 8)[k]?) := by
    intro k
    induction k with
    | zero =>
      intro i t hi hF h3 hc
      obtain rfl : i = w := by omega
      refine own_Ok.step (g := fun _ => some (sI (sI t 4 1) 5 h)) (fun n => ?_) (own_Ok.ret ⟨(hF.sI 4 1 (by decide)).sI 5 h (by decide), h3, rfl, rfl, hc⟩)
      show g_storeCandidate_7 (f_storeCandidate_7 n) n _ _ _ = _
      unfold g_storeCandidate_7 f_storeCandidate_73 lt
      rw [show gI t 11 = gI s 11 from hF.2.2 11 (by decide), hw, if_neg (fun q => by have := (own_ltN (by omega) (by omega)).mp q; omega)]
    | succ k ih =>
      intro i t hi hF h3 hc
      refine own_Ok.step (g := fun n => g_storeCandidate_7 (f_storeCandidate_7 n) n h (Int32.ofNat i) t) (fun n => rfl) ?_
      unfold g_storeCandidate_7 lt
      have e11 : gI t 11 = Int32.ofNat w := (hF.2.2 11 (by decide)).trans hw
      have l3 := hF.1 3 (by decide)
      have l4 := hF.1 4 (by decide)
      have l5 := hF.1 5 (by decide)
      rw [e11]
      refine own_Ok.ite (fun _ => ?_) (fun q => absurd ((own_ltN (by omega) (by omega)).mpr (by omega)) q)
      refine own_Ok.ite (fun _ => ?_) (fun q => absurd ((ofN_ltL (m := 12) (by omega) (by decide)).mpr (by omega)) q)
      refine own_Ok.rd hF.1 (by decide) (by omega) fun x ex => ?_
      refine own_Ok.wr hF.1 (by decide) (by omega) ?_
      have f1 := hF.wr 3 i x (by decide)
      refine own_Ok.rd f1.1 (by decide) (by omega) fun y ey => ?_
      refine own_Ok.wr f1.1 (by decide) (by omega) ?_
      have f2 := f1.wr 4 i y (by decide)
      refine own_Ok.rd f2.1 (by decide) (by omega) fun z ez => ?_
      refine own_Ok.wr f2.1 (by decide) (by omega) ?_
      have f3 := f2.wr 5 i z (by decide)
      have g3 : gA (sA (sA (sA t 3 ((gA t 3).set i x)) 4 ((gA (sA t 3 ((gA t 3).set i x)) 4).set i y)) 5 ((gA (sA (sA t 3 ((gA t 3).set i x)) 4 ((gA (sA t 3 ((gA t 3).set i x)) 4).set i y)) 5).set i z)) 3 = (gA t 3).set i x := rfl
      have g4 : gA (sA (sA (sA t 3 ((gA t 3).set i x)) 4 ((gA (sA t 3 ((gA t 3).set i x)) 4).set i y)) 5 ((gA (sA (sA t 3 ((gA t 3).set i x)) 4 ((gA (sA t 3 ((gA t 3).set i x)) 4).set i y)) 5).set i z)) 4 = (gA t 4).set i y := rfl
      have g5 : gA (sA (sA (sA t 3 ((gA t 3).set i x)) 4 ((gA (sA t 3 ((gA t 3).set i x)) 4).set i y)) 5 ((gA (sA (sA t 3 ((gA t 3).set i x)) 4 ((gA (sA t 3 ((gA t 3).set i x)) 4).set i y)) 5).set i z)) 5 = (gA t 5).set i z := rfl
      have ey : (gA t 7)[i]? = some y := ey
      have ez : (gA t 8)[i]? = some z := ez
      generalize hu : sA (sA (sA t 3 ((gA t 3).set i x)) 4 ((gA (sA t 3 ((gA t 3).set i x)) 4).set i y)) 5 ((gA (sA (sA t 3 ((gA t 3).set i x)) 4 ((gA (sA t 3 ((gA t 3).set i x)) 4).set i y)) 5).set i z) = u at f3 g3 g4 g5 ⊢
      have u3 : gI u 3 = Int32.ofNat i := by subst hu; exact h3
      rw [u3]
      dsimp only
      rw [ofN_succ]
      refine ih (i + 1) _ (by omega) (f3.sI 3 _ (by decide)) rfl fun j hj => ?_
      show (gA u 3)[j]? = _ ∧ (gA u 4)[j]? = _ ∧ (gA u 5)[j]? = _
      rw [g3, g4, g5]
      by_cases q : j = i
      · subst q
        rw [get_set_self _ (by omega), get_set_self _ (by omega), get_set_self _ (by omega), ← ex, ← ey, ← ez, hF.2.1 6 (by decide), hF.2.1 7 (by decide), hF.2.1 8 (by decide)]
        exact ⟨rfl, rfl, rfl⟩
      · rw [get_set_ne _ (Ne.symm q), get_set_ne _ (Ne.symm q), get_set_ne _ (Ne.symm q)]
        exact hc j (by omega)
  have f0 : own_Fr [3, 4, 5] [3, 4, 5] s (sI s 3 0) := (own_Fr.refl hL).sI 3 0 (by decide)
  exact key w 0 _ (by omega) f0 rfl fun k hk => absurd hk (Nat.not_lt_zero _)
def own_ap (f : Nat → Nat) (n x : Nat) (k : Nat) : Nat := if k = n then x else f k
def own_Iv (cap hyp : Nat) (s : St) (n : Nat) (c d t : Nat → Nat) : Prop := own_L s ∧ gI s 0 = Int32.ofNat cap ∧ gI s 1 = Int32.ofNat hyp ∧ gI s 2 = Int32.ofNat n ∧ (n ≤ cap ∧ cap ≤ 12 ∧ 1 ≤ hyp ∧ hyp ≤ 2048) ∧ own_Tk 0 s n c d t ∧ own_Vd c d t n ∧ (1 ≤ n → own_Fit hyp c d t n) ∧ ∃ m, m ≤ 12 ∧ gI s 3 = Int32.ofNat m
theorem own_Iv.fr {cap hyp : Nat} {s u : St} {n : Nat} {c d t : Nat → Nat} {as is : List Nat} (h : own_Iv cap hyp s n c d t) (f : own_Fr as is s u) (h0 : 0 ∉ as) (h1 : 1 ∉ as) (h2 : 2 ∉ as) (i0 : 0 ∉ is) (i1 : 1 ∉ is) (i2 : 2 ∉ is) (h3 : ∃ m, m ≤ 12 ∧ gI u 3 = Int32.ofNat m) : own_Iv cap hyp u n c d t := by
  obtain ⟨q1, q2, q3, q4, q5, q6, q7, q8, -⟩ := h
  exact ⟨f.1, (f.2.2 0 i0).trans q2, (f.2.2 1 i1).trans q3, (f.2.2 2 i2).trans q4, q5, fun k hk => by rw [f.2.1 0 h0, f.2.1 (0 + 1) h1, f.2.1 (0 + 2) h2]; exact q6 k hk, q7, q8, h3⟩
/-- what a proposal of a valid task leaves -/
def own_Pr (hyp : Nat) (s : St) (n : Nat) (c d t : Nat → Nat) (x y z : Nat) (r : Int32 × St) : Prop :=
  (hyp < own_lm (own_ap t n z) (n + 1) ∧ r.1 = -3 ∧ own_Fr [6, 7, 8] [11, 4, 6, 7] s r.2 ∧ gI r.2 4 = 0 ∧ gI r.2 6 = 0 ∧ gI r.2 7 = 0) ∨
  (own_lm (own_ap t n z) (n + 1) ≤ hyp ∧ own_Tk 3 r.2 (n + 1) (own_ap c n x) (own_ap d n y) (own_ap t n z) ∧ gI r.2 3 = Int32.ofNat (n + 1) ∧ gI r.2 4 = 1 ∧ gI r.2 5 = Int32.ofNat (own_lm (own_ap t n z) (n + 1)) ∧ gI r.2 7 = Int32.ofNat (own_lm (own_ap t n z) (n + 1)) ∧
    ((∃ p, 1 ≤ p ∧ p ≤ own_lm (own_ap t n z) (n + 1) ∧ p < own_db (own_ap c n x) (own_ap d n y) (own_ap t n z) (n + 1) p ∧ (∀ x', 1 ≤ x' → x' < p → own_db (own_ap c n x) (own_ap d n y) (own_ap t n z) (n + 1) x' ≤ x') ∧ gI r.2 6 = Int32.ofNat p ∧ r.1 = -4 ∧ own_Fr [3, 4, 5, 6, 7, 8, 9] [3, 4, 5, 6, 7, 11] s r.2) ∨
     (own_Fit hyp (own_ap c n x) (own_ap d n y) (own_ap t n z) (n + 1) ∧ gI r.2 6 = 0 ∧ r.1 = Int32.ofNat n ∧ own_Fr [0, 1, 2, 3, 4, 5, 6, 7, 8, 9] [2, 3, 4, 5, 6, 7, 11] s r.2 ∧ gI r.2 2 = Int32.ofNat (n + 1) ∧ gA r.2 0 = (gA s 0).set n (Int32.ofNat x) ∧ gA r.2 1 = (gA s 1).set n (Int32.ofNat y) ∧ gA r.2 2 = (gA s 2).set n (Int32.ofNat z))))
theorem own_vpV (x y z : Nat) (hx : x ≤ 2048) (hy : y ≤ 2048) (hz : z ≤ 2048) (s : St) : f_validParams (Int32.ofNat x) (Int32.ofNat y) (Int32.ofNat z) s = some (if 1 ≤ x ∧ 1 ≤ z ∧ 1 ≤ y ∧ y ≤ z then 1 else 0) := by
  unfold f_validParams f_validParams_12 f_validParams_26 f_validParams_42 f_validParams_43
  by_cases a : x < 1
  · rw [if_pos ((ofN_ltL (m := 1) (by omega) (by decide)).mpr a), if_neg (by omega)]
  rw [if_neg (fun q => a ((ofN_ltL (m := 1) (by omega) (by decide)).mp q)), if_neg (fun q => by have := (ofN_gtL (m := 2048) (by omega) (by decide)).mp q; omega)]
  by_cases b : z < 1
  · rw [if_pos ((ofN_ltL (m := 1) (by omega) (by decide)).mpr b), if_neg (by omega)]
  rw [if_neg (fun q => b ((ofN_ltL (m := 1) (by omega) (by decide)).mp q)), if_neg (fun q => by have := (ofN_gtL (m := 2048) (by omega) (by decide)).mp q; omega)]
  by_cases e : y < 1
  · rw [if_pos ((ofN_ltL (m := 1) (by omega) (by decide)).mpr e), if_neg (by omega)]; rfl
  rw [if_neg (fun q => e ((ofN_ltL (m := 1) (by omega) (by decide)).mp q))]
  by_cases f : z < y
  · rw [if_pos ((ofN_lt (by omega) (by omega)).mpr f), if_neg (by omega)]; rfl
  · rw [if_neg (fun q => f ((ofN_lt (by omega) (by omega)).mp q)), if_pos (by omega)]; rfl
theorem own_VdA {c d t : Nat → Nat} {n x y z : Nat} (hv : own_Vd c d t n) (hx : 1 ≤ x ∧ x ≤ 16) (hy : 1 ≤ y ∧ y ≤ z) (hz : 1 ≤ z ∧ z ≤ 16) : own_Vd (own_ap c n x) (own_ap d n y) (own_ap t n z) (n + 1) := fun i hi => by
  unfold own_ap
  by_cases q : i = n
  · rw [if_pos q, if_pos q, if_pos q]; exact ⟨hx, hy.1, hy.2, hz.1, hz.2⟩
  · rw [if_neg q, if_neg q, if_neg q]; exact hv i (by omega)
theorem own_prpV {cap hyp : Nat} {s : St} {n : Nat} {c d t : Nat → Nat} (h : own_Iv cap hyp s n c d t) (hn : n < cap) (x y z : Nat) (hx : 1 ≤ x ∧ x ≤ 16) (hy : 1 ≤ y ∧ y ≤ z) (hz : 1 ≤ z ∧ z ≤ 16) : own_Ok (fun N => f_propose N (Int32.ofNat x) (Int32.ofNat y) (Int32.ofNat z) s) (own_Pr hyp s n c d t x y z) := by
  obtain ⟨hL, h0, h1, h2, hn5, hk, hv, hfit, m, hm, h3⟩ := h
  have hv' := own_VdA hv hx hy hz
  unfold f_propose
  rw [h2, h0]
  refine own_Ok.ite (fun _ => ?_) fun q => absurd ((own_ltN (by omega) (by omega)).mpr hn) q
  rw [own_vpV x y z (by omega) (by omega) (by omega), if_pos (by omega)]
  refine own_Ok.some_bind ?_
  refine own_Ok.ite (fun q => absurd q (by decide)) fun _ => ?_
  refine own_Ok.bind (own_loadA hL h2 (by omega)) fun t1 ht1 => ?_
  obtain ⟨t2, e2, f2, w2, g6, g7, g8⟩ := own_app ht1.1.1 ht1.2.1 (by omega) (Int32.ofNat x) (Int32.ofNat y) (Int32.ofNat z)
  rw [e2]
  refine own_Ok.some_bind ?_
  dsimp only
  have F2 : own_Fr [6, 7, 8] [11] s t2 := ht1.1.trans f2
  have l6 := ht1.1.1 6 (by decide)
  have l7 := ht1.1.1 7 (by decide)
  have l8 := ht1.1.1 8 (by decide)
  have K2 : own_Tk 6 t2 (n + 1) (own_ap c n x) (own_ap d n y) (own_ap t n z) := fun k hk' => by
    unfold own_ap
    rw [g6, show gA t2 (6 + 1) = (gA t1 7).set n (Int32.ofNat y) from g7, show gA t2 (6 + 2) = (gA t1 8).set n (Int32.ofNat z) from g8]
    by_cases q : k = n
    · rw [if_pos q, if_pos q, if_pos q, q, get_set_self _ (by omega), get_set_self _ (by omega), get_set_self _ (by omega)]; exact ⟨rfl, rfl, rfl⟩
    · rw [if_neg q, if_neg q, if_neg q, get_set_ne _ (Ne.symm q), get_set_ne _ (Ne.symm q), get_set_ne _ (Ne.symm q)]
      obtain ⟨a1, a2, a3⟩ := ht1.2.2 k (by omega)
      rw [a1, a2, a3]; exact hk k (by omega)
  rw [show gI t2 1 = Int32.ofNat hyp from (F2.2.2 1 (by decide)).trans h1]
  refine own_Ok.bind (own_whV F2.1 w2 (by omega) K2 hv' hyp (by omega) (by omega)) fun H hH => ?_
  by_cases c240 : own_lm (own_ap t n z) (n + 1) ≤ hyp
  rotate_left
  · rw [if_neg c240] at hH
    subst hH
    refine own_Ok.ite (fun _ => ?_) fun q => absurd ((own_ltN (by omega) (by omega)).mpr (by omega)) q
    unfold lt
    have F3 : own_Fr [6, 7, 8] [11, 4, 6, 7] s (sI (sI (sI t2 4 0) 7 0) 6 0) := (((F2.mono (by decide) (by decide)).sI 4 0 (by decide)).sI 7 0 (by decide)).sI 6 0 (by decide)
    exact own_Ok.ret (Or.inl ⟨by omega, rfl, F3, rfl, rfl, rfl⟩)
  rw [if_pos c240] at hH
  subst hH
  refine own_Ok.ite (fun q => by have := (own_ltN (by omega) (by omega)).mp q; omega) fun _ => ?_
  refine own_Ok.bind (own_storeV F2.1 w2 (by omega) _) fun t3 ht3 => ?_
  obtain ⟨f3, c3, c4, c5, cc⟩ := ht3
  unfold lt
  have F3 : own_Fr [3, 4, 5, 6, 7, 8, 9] [3, 4, 5, 6, 7, 11] s (sI t3 7 (Int32.ofNat (own_lm (own_ap t n z) (n + 1)))) := ((F2.mono (by decide) (by decide)).trans (f3.mono (by decide) (by decide))).sI 7 _ (by decide)
  have w3 : gI (sI t3 7 (Int32.ofNat (own_lm (own_ap t n z) (n + 1)))) 11 = Int32.ofNat (n + 1) := (f3.2.2 11 (by decide)).trans w2
  have K3 : own_Tk 6 (sI t3 7 (Int32.ofNat (own_lm (own_ap t n z) (n + 1)))) (n + 1) (own_ap c n x) (own_ap d n y) (own_ap t n z) := fun k hk' => by
    show (gA t3 6)[k]? = _ ∧ (gA t3 (6 + 1))[k]? = _ ∧ (gA t3 (6 + 2))[k]? = _
    rw [f3.2.1 6 (by decide), f3.2.1 (6 + 1) (by decide), f3.2.1 (6 + 2) (by decide)]; exact K2 k hk'
  have C3 : own_Tk 3 t3 (n + 1) (own_ap c n x) (own_ap d n y) (own_ap t n z) := fun k hk' => by
    obtain ⟨a1, a2, a3⟩ := cc k hk'
    show (gA t3 3)[k]? = _ ∧ (gA t3 4)[k]? = _ ∧ (gA t3 5)[k]? = _
    rw [a1, a2, a3]; exact K2 k hk'
  refine own_Ok.bind (own_overV F3.1 w3 (by omega) (by omega) K3 hv' hyp c240 (by omega)) fun r hr => ?_
  dsimp only
  obtain ⟨f4, hr⟩ := hr
  have F4 : own_Fr [3, 4, 5, 6, 7, 8, 9] [3, 4, 5, 6, 7, 11] s (sI r.2 6 r.1) := (F3.trans (f4.mono (by decide) (by decide))).sI 6 r.1 (by decide)
  have d3 : gI (sI r.2 6 r.1) 3 = Int32.ofNat (n + 1) := (f4.2.2 3 (by decide)).trans c3
  have d4 : gI (sI r.2 6 r.1) 4 = 1 := (f4.2.2 4 (by decide)).trans c4
  have d5 : gI (sI r.2 6 r.1) 5 = Int32.ofNat (own_lm (own_ap t n z) (n + 1)) := (f4.2.2 5 (by decide)).trans c5
  have d7 : gI (sI r.2 6 r.1) 7 = Int32.ofNat (own_lm (own_ap t n z) (n + 1)) := f4.2.2 7 (by decide)
  have d6 : gI (sI r.2 6 r.1) 6 = r.1 := rfl
  have C4 : own_Tk 3 (sI r.2 6 r.1) (n + 1) (own_ap c n x) (own_ap d n y) (own_ap t n z) := fun k hk' => by
    show (gA r.2 3)[k]? = _ ∧ (gA r.2 (3 + 1))[k]? = _ ∧ (gA r.2 (3 + 2))[k]? = _
    rw [f4.2.1 3 (by decide), f4.2.1 (3 + 1) (by decide), f4.2.1 (3 + 2) (by decide)]; exact C3 k hk'
  generalize sI r.2 6 r.1 = t4 at F4 d3 d4 d5 d6 d7 C4 ⊢
  have a4 : gI t4 2 = Int32.ofNat n := (F4.2.2 2 (by decide)).trans h2
  refine own_Ok.ite (fun q => ?_) fun q => ?_
  · rw [d6] at q
    have fit : own_Fit hyp (own_ap c n x) (own_ap d n y) (own_ap t n z) (n + 1) := by
      rcases hr with ⟨-, f⟩ | ⟨p, p1, p2, ep, -⟩
      · exact f
      · rw [ep] at q
        have := (ofN_eqL (m := 0) (by omega) (by decide)).mp q
        omega
    have l0 := F4.1 0 (by decide)
    have l1 := F4.1 1 (by decide)
    have l2 := F4.1 2 (by decide)
    obtain ⟨t5, ht5⟩ : ∃ t5, t5 = sI (sA (sA (sA t4 0 ((gA t4 0).set n (Int32.ofNat x))) 1 ((gA t4 1).set n (Int32.ofNat y))) 2 ((gA t4 2).set n (Int32.ofNat z))) 2 (Int32.ofNat (n + 1)) := ⟨_, rfl⟩
    have e5 : f_admitTask (Int32.ofNat x) (Int32.ofNat y) (Int32.ofNat z) t4 = some (Int32.ofNat n, t5) := by
      generalize Int32.ofNat x = x at ht5 ⊢
      generalize Int32.ofNat y = y at ht5 ⊢
      generalize Int32.ofNat z = z at ht5 ⊢
      unfold f_admitTask
      rw [a4, if_neg (ofN_nn (by omega)), if_pos ((ofN_ltL (m := 12) (by omega) (by decide)).mpr (by omega)), wrA_of (s := t4) (k := n) x (ofN_int (by omega)) (by omega), Option.bind_some]
      rw [show gI (sA t4 0 ((gA t4 0).set n x)) 2 = Int32.ofNat n from a4, wrA_of (s := sA t4 0 ((gA t4 0).set n x)) (f := 1) (k := n) y (ofN_int (by omega)) (show n < (gA t4 1).length by omega), Option.bind_some]
      rw [show gI (sA (sA t4 0 ((gA t4 0).set n x)) 1 ((gA (sA t4 0 ((gA t4 0).set n x)) 1).set n y)) 2 = Int32.ofNat n from a4, wrA_of (s := sA (sA t4 0 ((gA t4 0).set n x)) 1 ((gA (sA t4 0 ((gA t4 0).set n x)) 1).set n y)) (f := 2) (k := n) z (ofN_int (by omega)) (show n < (gA t4 2).length by omega), Option.bind_some]
      unfold lt
      rw [show gI (sA (sA (sA t4 0 ((gA t4 0).set n x)) 1 ((gA (sA t4 0 ((gA t4 0).set n x)) 1).set n y)) 2 ((gA (sA (sA t4 0 ((gA t4 0).set n x)) 1 ((gA (sA t4 0 ((gA t4 0).set n x)) 1).set n y)) 2).set n z)) 2 = Int32.ofNat n from a4, ofN_succ]
      have e1 : Int32.ofNat (n + 1) - 1 = Int32.ofNat n := by rw [← ofN_succ, Int32.add_sub_cancel]
      rw [ht5]
      show some (Int32.ofNat (n + 1) - 1, _) = some (Int32.ofNat n, _)
      rw [e1]; rfl
    rw [e5]
    refine own_Ok.some_bind ?_
    dsimp only
    have gi : ∀ j, j ≠ 2 → gI t5 j = gI t4 j := fun j hj => by subst ht5; rw [gI_sI, if_neg hj]; rfl
    have ga : ∀ j, j ≠ 0 → j ≠ 1 → j ≠ 2 → gA t5 j = gA t4 j := fun j j0 j1 j2 => by
      subst ht5
      show gA (sA (sA (sA t4 0 _) 1 _) 2 _) j = _
      rw [gA_sA, if_neg j2, gA_sA, if_neg j1, gA_sA, if_neg j0]
    have gL : own_L t5 := by subst ht5; exact ((F4.1.wr 0 n _).wr 1 n _).wr 2 n _
    refine own_Ok.ret (Or.inr ⟨c240, fun k hk' => ?_, (gi 3 (by decide)).trans d3, (gi 4 (by decide)).trans d4, (gi 5 (by decide)).trans d5, (gi 7 (by decide)).trans d7, Or.inr ⟨fit, ?_, rfl, ⟨gL, fun j hj => ?_, fun j hj => ?_⟩, by subst ht5; rfl, ?_, ?_, ?_⟩⟩)
    · rw [ga 3 (by decide) (by decide) (by decide), ga (3 + 1) (by decide) (by decide) (by decide), ga (3 + 2) (by decide) (by decide) (by decide)]; exact C4 k hk'
    · rw [gi 6 (by decide), d6, q]
    · simp only [List.mem_cons, List.not_mem_nil, or_false, not_or] at hj
      rw [ga j (by omega) (by omega) (by omega)]
      exact F4.2.1 j (by simp only [List.mem_cons, List.not_mem_nil, or_false, not_or]; omega)
    · simp only [List.mem_cons, List.not_mem_nil, or_false, not_or] at hj
      rw [gi j (by omega)]
      exact F4.2.2 j (by simp only [List.mem_cons, List.not_mem_nil, or_false, not_or]; omega)
    · have : gA t5 0 = (gA t4 0).set n (Int32.ofNat x) := by subst ht5; rfl
      rw [this, F4.2.1 0 (by decide)]
    · have : gA t5 1 = (gA t4 1).set n (Int32.ofNat y) := by subst ht5; rfl
      rw [this, F4.2.1 1 (by decide)]
    · have : gA t5 2 = (gA t4 2).set n (Int32.ofNat z) := by subst ht5; rfl
      rw [this, F4.2.1 2 (by decide)]
  · rw [d6] at q
    refine own_Ok.ret (Or.inr ⟨c240, C4, d3, d4, d5, d7, Or.inl ?_⟩)
    rcases hr with ⟨e, -⟩ | ⟨p, p1, p2, ep, pd, pm⟩
    · exact absurd e q
    · exact ⟨p, p1, p2, pd, pm, d6.trans ep, rfl, F4⟩
theorem own_Pr.iv {cap hyp : Nat} {s : St} {n : Nat} {c d t : Nat → Nat} {x y z : Nat} {r : Int32 × St} (h : own_Iv cap hyp s n c d t) (hn : n < cap) (hx : 1 ≤ x ∧ x ≤ 16) (hy : 1 ≤ y ∧ y ≤ z) (hz : 1 ≤ z ∧ z ≤ 16) (p : own_Pr hyp s n c d t x y z r) : own_Iv cap hyp r.2 n c d t ∨ (r.1 = Int32.ofNat n ∧ own_Iv cap hyp r.2 (n + 1) (own_ap c n x) (own_ap d n y) (own_ap t n z)) := by
  obtain ⟨m, hm, h3⟩ := h.2.2.2.2.2.2.2.2
  obtain ⟨hb1, hb2, -⟩ := h.2.2.2.2.1
  rcases p with ⟨-, -, f, -⟩ | ⟨c240, ck, d3, d4, d5, d7, ⟨p, p1, p2, pd, pm, d6, r1, f⟩ | ⟨fit, d6, r1, f, e2, g0, g1, g2⟩⟩
  · exact Or.inl (h.fr f (by decide) (by decide) (by decide) (by decide) (by decide) (by decide) ⟨m, hm, (f.2.2 3 (by decide)).trans h3⟩)
  · exact Or.inl (h.fr f (by decide) (by decide) (by decide) (by decide) (by decide) (by decide) ⟨n + 1, by omega, d3⟩)
  · obtain ⟨hL, h0, h1, h2, hn5, hk, hv, hfit, -⟩ := h
    refine Or.inr ⟨r1, f.1, (f.2.2 0 (by decide)).trans h0, (f.2.2 1 (by decide)).trans h1, e2, by omega, fun k hk' => ?_, own_VdA hv hx hy hz, fun _ => fit, n + 1, by omega, d3⟩
    have l0 := hL 0 (by decide)
    have l1 := hL 1 (by decide)
    have l2 := hL 2 (by decide)
    show (gA r.2 0)[k]? = _ ∧ (gA r.2 1)[k]? = _ ∧ (gA r.2 2)[k]? = _
    rw [g0, g1, g2]
    unfold own_ap
    by_cases q : k = n
    · rw [if_pos q, if_pos q, if_pos q, q, get_set_self _ (by omega), get_set_self _ (by omega), get_set_self _ (by omega)]; exact ⟨rfl, rfl, rfl⟩
    · rw [if_neg q, if_neg q, if_neg q, get_set_ne _ (Ne.symm q), get_set_ne _ (Ne.symm q), get_set_ne _ (Ne.symm q)]; exact hk k (by omega)
/-- any proposal whose numbers are small -/
theorem own_prpG {cap hyp : Nat} {s : St} {n : Nat} {c d t : Nat → Nat} (h : own_Iv cap hyp s n c d t) (x y z : Nat) (hx : x ≤ 16) (hy : y ≤ 100) (hz : z ≤ 16) : own_Ok (fun N => f_propose N (Int32.ofNat x) (Int32.ofNat y) (Int32.ofNat z) s) (fun r => (n = cap ∧ r = (-1, s)) ∨ (n < cap ∧ ¬ (1 ≤ x ∧ 1 ≤ z ∧ 1 ≤ y ∧ y ≤ z) ∧ r = (-2, s)) ∨ (n < cap ∧ (1 ≤ x ∧ 1 ≤ z ∧ 1 ≤ y ∧ y ≤ z) ∧ own_Pr hyp s n c d t x y z r)) := by
  by_cases q5 : n < cap
  · by_cases qv : 1 ≤ x ∧ 1 ≤ z ∧ 1 ≤ y ∧ y ≤ z
    · exact (own_prpV h q5 x y z (by omega) (by omega) (by omega)).mono fun r hr => Or.inr (Or.inr ⟨q5, qv, hr⟩)
    · obtain ⟨hL, h0, h1, h2, hn5, -⟩ := h
      unfold f_propose
      rw [h2, h0]
      refine own_Ok.ite (fun _ => ?_) fun q => absurd ((own_ltN (by omega) (by omega)).mpr q5) q
      rw [own_vpV x y z (by omega) (by omega) (by omega), if_neg qv]
      refine own_Ok.some_bind ?_
      exact own_Ok.ite (fun _ => own_Ok.ret (Or.inr (Or.inl ⟨q5, qv, rfl⟩))) fun q => absurd rfl q
  · obtain ⟨hL, h0, h1, h2, hn5, -⟩ := h
    unfold f_propose
    rw [h2, h0]
    refine own_Ok.ite (fun q => absurd ((own_ltN (by omega) (by omega)).mp q) (by omega)) fun _ => own_Ok.ret (Or.inl ⟨by omega, rfl⟩)
/-- a task taken out -/
theorem own_rmV {cap hyp : Nat} {s : St} {m : Nat} {c d t : Nat → Nat} (h : own_Iv cap hyp s (m + 1) c d t) (q : Nat) (hq : q ≤ m) : own_Ok (fun N => f_remove N (Int32.ofNat q) s) (fun r => r.1 = 1 ∧ own_Fr [0, 1, 2] [2] s r.2 ∧ own_Iv cap hyp r.2 m (fun k => c (if k < q then k else k + 1)) (fun k => d (if k < q then k else k + 1)) (fun k => t (if k < q then k else k + 1))) := by
  obtain ⟨hL, h0, h1, h2, hn5, hk, hv, hfit, m3, hm3, h3⟩ := h
  have key : ∀ (k i : Nat) (u : St), i + k = m → q ≤ i → own_Fr [0, 1, 2] [] s u → (∀ b, b ≤ 2 → ∀ j, j ≤ m → (gA u b)[j]? = (gA s b)[if q ≤ j ∧ j < i then j + 1 else j]?) → own_Ok (fun N => f_remove_16 N (Int32.ofNat i) u) (fun r => r.1 = 1 ∧ own_Fr [0, 1, 2] [2] s r.2 ∧ own_Iv cap hyp r.2 m (fun k => c (if k < q then k else k + 1)) (fun k => d (if k < q then k else k + 1)) (fun k => t (if k < q then k else k + 1))) := by
    intro k
    induction k with
    | zero =>
      intro i u hi hqi hF hc
      obtain rfl : i = m := by omega
      refine own_Ok.step (g := fun n => g_remove_16 (f_remove_16 n) n (Int32.ofNat i) u) (fun n => rfl) ?_
      unfold g_remove_16 f_remove_82 lt
      have e2 : gI u 2 = Int32.ofNat (i + 1) := (hF.2.2 2 (by decide)).trans h2
      rw [ofN_succ, e2]
      refine own_Ok.ite (fun z => by have := (own_ltN (by omega) (by omega)).mp z; omega) fun _ => ?_
      have e3 : Int32.ofNat (i + 1) - 1 = Int32.ofNat i := by rw [← ofN_succ, Int32.add_sub_cancel]
      rw [e3]
      have F : own_Fr [0, 1, 2] [2] s (sI u 2 (Int32.ofNat i)) := (hF.mono (by decide) (by decide)).sI 2 _ (by decide)
      refine own_Ok.ret ⟨rfl, F, F.1, (F.2.2 0 (by decide)).trans h0, (F.2.2 1 (by decide)).trans h1, rfl, by omega, fun k hk' => ?_, fun k hk' => ?_, fun _ => own_Fit.skip hv (hfit (by omega)) hq, m3, hm3, (F.2.2 3 (by decide)).trans h3⟩
      · show (gA u 0)[k]? = _ ∧ (gA u 1)[k]? = _ ∧ (gA u 2)[k]? = _
        rw [hc 0 (by decide) k (by omega), hc 1 (by decide) k (by omega), hc 2 (by decide) k (by omega)]
        have e : (if q ≤ k ∧ k < i then k + 1 else k) = if k < q then k else k + 1 := by
          by_cases z : k < q
          · rw [if_neg (by omega), if_pos z]
          · rw [if_pos (by omega), if_neg z]
        rw [e]
        exact hk _ (by split <;> omega)
      · exact hv _ (by split <;> omega)
    | succ k ih =>
      intro i u hi hqi hF hc
      refine own_Ok.step (g := fun n => g_remove_16 (f_remove_16 n) n (Int32.ofNat i) u) (fun n => rfl) ?_
      unfold g_remove_16 lt
      have e2 : gI u 2 = Int32.ofNat (m + 1) := (hF.2.2 2 (by decide)).trans h2
      have l0 := hF.1 0 (by decide)
      have l1 := hF.1 1 (by decide)
      have l2 := hF.1 2 (by decide)
      rw [ofN_succ, e2]
      refine own_Ok.ite (fun _ => ?_) fun z => absurd ((own_ltN (by omega) (by omega)).mpr (by omega)) z
      refine own_Ok.ite (fun _ => ?_) fun z => absurd ((ofN_ltL (m := 12) (by omega) (by decide)).mpr (by omega)) z
      refine own_Ok.rd hF.1 (by decide) (by omega) fun x ex => ?_
      refine own_Ok.wr hF.1 (by decide) (by omega) ?_
      have f1 := hF.wr 0 i x (by decide)
      refine own_Ok.rd f1.1 (by decide) (by omega) fun y ey => ?_
      refine own_Ok.wr f1.1 (by decide) (by omega) ?_
      have f2 := f1.wr 1 i y (by decide)
      refine own_Ok.rd f2.1 (by decide) (by omega) fun z ez => ?_
      refine own_Ok.wr f2.1 (by decide) (by omega) ?_
      have f3 := f2.wr 2 i z (by decide)
      have g0 : gA (sA (sA (sA u 0 ((gA u 0).set i x)) 1 ((gA (sA u 0 ((gA u 0).set i x)) 1).set i y)) 2 ((gA (sA (sA u 0 ((gA u 0).set i x)) 1 ((gA (sA u 0 ((gA u 0).set i x)) 1).set i y)) 2).set i z)) 0 = (gA u 0).set i x := rfl
      have g1 : gA (sA (sA (sA u 0 ((gA u 0).set i x)) 1 ((gA (sA u 0 ((gA u 0).set i x)) 1).set i y)) 2 ((gA (sA (sA u 0 ((gA u 0).set i x)) 1 ((gA (sA u 0 ((gA u 0).set i x)) 1).set i y)) 2).set i z)) 1 = (gA u 1).set i y := rfl
      have g2 : gA (sA (sA (sA u 0 ((gA u 0).set i x)) 1 ((gA (sA u 0 ((gA u 0).set i x)) 1).set i y)) 2 ((gA (sA (sA u 0 ((gA u 0).set i x)) 1 ((gA (sA u 0 ((gA u 0).set i x)) 1).set i y)) 2).set i z)) 2 = (gA u 2).set i z := rfl
      have ey : (gA u 1)[i + 1]? = some y := ey
      have ez : (gA u 2)[i + 1]? = some z := ez
      refine ih (i + 1) _ (by omega) (by omega) f3 fun b hb j hj => ?_
      have fin : ∀ b v, b ≤ 2 → (gA u b).length = 12 → (gA u b)[i + 1]? = some v → ((gA u b).set i v)[j]? = (gA s b)[if q ≤ j ∧ j < i + 1 then j + 1 else j]? := fun b v hb lb ev => by
        by_cases zz : j = i
        · subst zz
          rw [get_set_self _ (by omega), if_pos (by omega), ← ev, hc b hb (j + 1) (by omega), if_neg (by omega)]
        · rw [get_set_ne _ (Ne.symm zz), hc b hb j hj]
          by_cases y1 : q ≤ j ∧ j < i
          · rw [if_pos y1, if_pos (show q ≤ j ∧ j < i + 1 by omega)]
          · rw [if_neg y1, if_neg (show ¬ (q ≤ j ∧ j < i + 1) by omega)]
      have hb3 : b = 0 ∨ b = 1 ∨ b = 2 := by omega
      rcases hb3 with rfl | rfl | rfl
      · rw [g0]; exact fin 0 x (by omega) l0 ex
      · rw [g1]; exact fin 1 y (by omega) l1 ey
      · rw [g2]; exact fin 2 z (by omega) l2 ez
  unfold f_remove
  refine own_Ok.ite (fun z => absurd z (ofN_nn (by omega))) fun _ => ?_
  rw [h2]
  refine own_Ok.ite (fun _ => ?_) fun z => absurd ((own_ltN (by omega) (by omega)).mpr (by omega)) z
  exact key (m - q) q s (by omega) (Nat.le_refl _) (own_Fr.refl hL) fun b _ j _ => by rw [if_neg (by omega)]
theorem own_rm0 {cap hyp : Nat} {s : St} {n : Nat} {c d t : Nat → Nat} (h : own_Iv cap hyp s n c d t) (q : Nat) (hq : n ≤ q) (hq2 : q ≤ 100) (N : Nat) : f_remove N (Int32.ofNat q) s = some (0, s) := by
  have hn := h.2.2.2.2.1
  unfold f_remove f_remove_12
  rw [if_neg (ofN_nn (by omega)), h.2.2.2.1, if_neg (fun z => by have := (own_ltN (by omega) (by omega)).mp z; omega)]

/-! the run, in numbers -/
def own_mc (t x : Nat) : Nat := (x + t - 1) / t
theorem own_mc0 {t : Nat} (h1 : 1 ≤ t) (h2 : t ≤ 16) : own_mc t 0 = 0 := by
  refine own_t16 (P := fun t => own_mc t 0 = 0) ⟨?_, ?_, ?_, ?_, ?_, ?_, ?_, ?_, ?_, ?_, ?_, ?_, ?_, ?_, ?_, ?_⟩ h1 h2 <;> rfl
theorem own_mcS {t x : Nat} (h1 : 1 ≤ t) (h2 : t ≤ 16) : own_mc t (x + 1) = own_mc t x + (if x % t = 0 then 1 else 0) := by
  refine own_t16 (P := fun t => own_mc t (x + 1) = own_mc t x + (if x % t = 0 then 1 else 0)) ⟨?_, ?_, ?_, ?_, ?_, ?_, ?_, ?_, ?_, ?_, ?_, ?_, ?_, ?_, ?_, ?_⟩ h1 h2 <;> (unfold own_mc; split <;> omega)
theorem own_mcD {t x : Nat} (h1 : 1 ≤ t) (h2 : t ≤ 16) (h : x % t = 0) : own_mc t x * t = x ∧ own_mc t x = x / t := by
  revert h
  refine own_t16 (P := fun t => x % t = 0 → own_mc t x * t = x ∧ own_mc t x = x / t) ⟨?_, ?_, ?_, ?_, ?_, ?_, ?_, ?_, ?_, ?_, ?_, ?_, ?_, ?_, ?_, ?_⟩ h1 h2 <;> (intro h; unfold own_mc; omega)
theorem own_mcR {t x r : Nat} (h1 : 1 ≤ t) (h2 : t ≤ 16) (hx : x < r) (hr : r ≤ (x / t + 1) * t) : own_mc t r = own_mc t (x + 1) := by
  revert hr
  refine own_t16 (P := fun t => r ≤ (x / t + 1) * t → own_mc t r = own_mc t (x + 1)) ⟨?_, ?_, ?_, ?_, ?_, ?_, ?_, ?_, ?_, ?_, ?_, ?_, ?_, ?_, ?_, ?_⟩ h1 h2 <;> (intro hr; unfold own_mc; omega)
theorem own_mcB {t x : Nat} (h1 : 1 ≤ t) : own_mc t x ≤ x := by
  unfold own_mc
  by_cases c : x = 0
  · rw [c, Nat.zero_add, Nat.div_eq_of_lt (by omega)]; omega
  · have : (x + t - 1) / t ≤ x := by
      apply Nat.div_le_of_le_mul
      have : t * x ≥ x + t - 1 := by
        obtain ⟨k, rfl⟩ : ∃ k, t = k + 1 := ⟨t - 1, by omega⟩
        obtain ⟨j, rfl⟩ : ∃ j, x = j + 1 := ⟨x - 1, by omega⟩
        rw [Nat.succ_mul, Nat.mul_succ]; omega
      omega
    exact this
/-- the jobs -/
def own_Jb (u : St) (w : Nat) (rm ad : Nat → Nat) : Prop := ∀ i, i < w → (gA u 10)[i]? = some (Int32.ofNat (rm i)) ∧ (gA u 11)[i]? = some (Int32.ofNat (ad i)) ∧ rm i ≤ 16 ∧ ad i < 3000
theorem own_fmV {u : St} (hL : own_L u) {w : Nat} (hw : gI u 11 = Int32.ofNat w) (hw2 : w ≤ 12) {rm ad : Nat → Nat} (hj : own_Jb u w rm ad) (x : Nat) (hx : x < 3000) : own_Ok (fun n => f_firstMissAt n (Int32.ofNat x) u) (fun r => (r = -1 ∧ ∀ i, i < w → ¬ (0 < rm i ∧ ad i = x)) ∨ ∃ i, i < w ∧ r = Int32.ofNat i ∧ 0 < rm i ∧ ad i = x) := by
  have key : ∀ (k i : Nat), i + k = w → (∀ j, j < i → ¬ (0 < rm j ∧ ad j = x)) → own_Ok (fun n => f_firstMissAt_2 n (Int32.ofNat x) (Int32.ofNat i) u) (fun r => (r = -1 ∧ ∀ i, i < w → ¬ (0 < rm i ∧ ad i = x)) ∨ ∃ i, i < w ∧ r = Int32.ofNat i ∧ 0 < rm i ∧ ad i = x) := by
    intro k
    induction k with
    | zero =>
      intro i hi h
      obtain rfl : i = w := by omega
      refine own_Ok.step (g := fun n => g_firstMissAt_2 (f_firstMissAt_2 n) n (Int32.ofNat x) (Int32.ofNat i) u) (fun n => rfl) ?_
      unfold g_firstMissAt_2
      rw [hw]
      exact own_Ok.ite (fun q => by have := (own_ltN (by omega) (by omega)).mp q; omega) fun _ => own_Ok.ret (Or.inl ⟨rfl, h⟩)
    | succ k ih =>
      intro i hi h
      refine own_Ok.step (g := fun n => g_firstMissAt_2 (f_firstMissAt_2 n) n (Int32.ofNat x) (Int32.ofNat i) u) (fun n => rfl) ?_
      obtain ⟨j10, j11, b1, b2⟩ := hj i (by omega)
      unfold g_firstMissAt_2 f_firstMissAt_31 lt
      rw [hw, ofN_succ]
      refine own_Ok.ite (fun _ => ?_) fun q => absurd ((own_ltN (by omega) (by omega)).mpr (by omega)) q
      have nx : ¬ (0 < rm i ∧ ad i = x) → own_Ok (fun n => f_firstMissAt_2 n (Int32.ofNat x) (Int32.ofNat (i + 1)) u) (fun r => (r = -1 ∧ ∀ i, i < w → ¬ (0 < rm i ∧ ad i = x)) ∨ ∃ i, i < w ∧ r = Int32.ofNat i ∧ 0 < rm i ∧ ad i = x) := fun q => ih (i + 1) (by omega) fun j hj' => by
        by_cases z : j = i
        · rw [z]; exact q
        · exact h j (by omega)
      refine own_Ok.rd hL (by decide) (by omega) fun y ey => ?_
      obtain rfl : y = Int32.ofNat (rm i) := Option.some.inj (ey.symm.trans j10)
      refine own_Ok.ite (fun q => ?_) fun q => nx fun e => q ((ofN_gtL (m := 0) (by omega) (by decide)).mpr e.1)
      have q := (ofN_gtL (m := 0) (by omega) (by decide)).mp q
      refine own_Ok.rd hL (by decide) (by omega) fun y ey => ?_
      obtain rfl : y = Int32.ofNat (ad i) := Option.some.inj (ey.symm.trans j11)
      refine own_Ok.ite (fun z => ?_) fun z => nx fun e => z (by rw [e.2])
      have z := (ofN_eq (by omega) (by omega)).mp z
      exact own_Ok.ret (Or.inr ⟨i, by omega, rfl, q, z⟩)
  unfold f_firstMissAt
  exact key w 0 (by omega) fun j hj' => absurd hj' (Nat.not_lt_zero _)
theorem own_relV {s : St} (hL : own_L s) {w : Nat} (hw : gI s 11 = Int32.ofNat w) (hw2 : w ≤ 12) {c d t rm ad : Nat → Nat} (hk : own_Tk 6 s w c d t) (hv : own_Vd c d t w) (hj : own_Jb s w rm ad) (x : Nat) (hx : x ≤ 2048) : own_Ok (fun n => f_releaseAt n (Int32.ofNat x) s) (fun u => own_Fr [10, 11] [] s u ∧ own_Jb u w (fun i => if x % t i = 0 then c i else rm i) (fun i => if x % t i = 0 then x + d i else ad i)) := by
  have key : ∀ (k i : Nat) (u : St), i + k = w → own_Fr [10, 11] [] s u → own_Jb u w (fun j => if j < i ∧ x % t j = 0 then c j else rm j) (fun j => if j < i ∧ x % t j = 0 then x + d j else ad j) → own_Ok (fun n => f_releaseAt_2 n (Int32.ofNat x) (Int32.ofNat i) u) (fun u => own_Fr [10, 11] [] s u ∧ own_Jb u w (fun i => if x % t i = 0 then c i else rm i) (fun i => if x % t i = 0 then x + d i else ad i)) := by
    intro k
    induction k with
    | zero =>
      intro i u hi hF h
      obtain rfl : i = w := by omega
      refine own_Ok.step (g := fun n => g_releaseAt_2 (f_releaseAt_2 n) n (Int32.ofNat x) (Int32.ofNat i) u) (fun n => rfl) ?_
      unfold g_releaseAt_2
      rw [show gI u 11 = Int32.ofNat i from (hF.2.2 11 (by decide)).trans hw]
      refine own_Ok.ite (fun q => by have := (own_ltN (by omega) (by omega)).mp q; omega) fun _ => own_Ok.ret ⟨hF, fun j hj' => ?_⟩
      have := h j hj'
      dsimp only at this ⊢
      by_cases z : x % t j = 0
      · rw [if_pos ⟨hj', z⟩, if_pos ⟨hj', z⟩] at this
        rw [if_pos z, if_pos z]; exact this
      · rw [if_neg (fun e => z e.2), if_neg (fun e => z e.2)] at this
        rw [if_neg z, if_neg z]; exact this
    | succ k ih =>
      intro i u hi hF h
      refine own_Ok.step (g := fun n => g_releaseAt_2 (f_releaseAt_2 n) n (Int32.ofNat x) (Int32.ofNat i) u) (fun n => rfl) ?_
      obtain ⟨ci, di, ti⟩ := hk i (by omega)
      obtain ⟨⟨c1, c2⟩, d1, d2, t1, t2⟩ := hv i (by omega)
      have l10 := hF.1 10 (by decide)
      have l11 := hF.1 11 (by decide)
      unfold g_releaseAt_2 f_releaseAt_56 lt
      rw [show gI u 11 = Int32.ofNat w from (hF.2.2 11 (by decide)).trans hw, ofN_succ]
      refine own_Ok.ite (fun _ => ?_) fun q => absurd ((own_ltN (by omega) (by omega)).mpr (by omega)) q
      refine own_Ok.rd hF.1 (by decide) (by omega) fun y ey => ?_
      rw [hF.2.1 8 (by decide)] at ey
      obtain rfl : y = Int32.ofNat (t i) := Option.some.inj (ey.symm.trans ti)
      refine own_Ok.ite (fun _ => ?_) fun q => absurd ((ofN_gtL (m := 0) (by omega) (by decide)).mpr (by omega)) q
      refine own_Ok.rd hF.1 (by decide) (by omega) fun y ey => ?_
      rw [hF.2.1 8 (by decide)] at ey
      obtain rfl : y = Int32.ofNat (t i) := Option.some.inj (ey.symm.trans ti)
      refine own_Ok.ite (fun q => by have := (ofN_eqL (m := 0) (by omega) (by decide)).mp q; omega) fun _ => ?_
      have em : Int32.ofNat x % Int32.ofNat (t i) = Int32.ofNat (x % t i) := by
        have : x % t i < t i := Nat.mod_lt _ (by omega)
        rw [x32_eq, Int32.toInt_mod, ofN_int (by omega), ofN_int (by omega), ofN_int (by omega), Int.tmod_eq_emod_of_nonneg (by omega)]; rfl
      have ml : x % t i < t i := Nat.mod_lt _ (by omega)
      rw [em]
      refine own_Ok.ite (fun q => ?_) fun q => ?_
      · have q := (ofN_eqL (m := 0) (by omega) (by decide)).mp q
        refine own_Ok.rd hF.1 (by decide) (by omega) fun y ey => ?_
        rw [hF.2.1 6 (by decide)] at ey
        obtain rfl : y = Int32.ofNat (c i) := Option.some.inj (ey.symm.trans ci)
        refine own_Ok.wr hF.1 (by decide) (by omega) ?_
        have f1 := hF.wr 10 i (Int32.ofNat (c i)) (by decide)
        refine own_Ok.rd f1.1 (by decide) (by omega) fun y ey => ?_
        have ey : (gA u 7)[i]? = some y := ey
        rw [hF.2.1 7 (by decide)] at ey
        obtain rfl : y = Int32.ofNat (d i) := Option.some.inj (ey.symm.trans di)
        refine own_Ok.wr f1.1 (by decide) (by omega) ?_
        have f2 := f1.wr 11 i (Int32.ofNat x + Int32.ofNat (d i)) (by decide)
        refine ih (i + 1) _ (by omega) f2 fun j hj' => ?_
        show ((gA u 10).set i _)[j]? = _ ∧ ((gA u 11).set i _)[j]? = _ ∧ _
        dsimp only
        by_cases z : j = i
        · subst z
          rw [get_set_self _ (by omega), get_set_self _ (by omega), if_pos ⟨by omega, q⟩, if_pos ⟨by omega, q⟩, ← Int32.ofNat_add]
          exact ⟨rfl, rfl, by omega, by omega⟩
        · rw [get_set_ne _ (Ne.symm z), get_set_ne _ (Ne.symm z)]
          have := h j hj'
          dsimp only at this
          by_cases y : j < i ∧ x % t j = 0
          · rw [if_pos y, if_pos y] at this
            rw [if_pos (show j < i + 1 ∧ x % t j = 0 from ⟨by omega, y.2⟩), if_pos (show j < i + 1 ∧ x % t j = 0 from ⟨by omega, y.2⟩)]; exact this
          · rw [if_neg y, if_neg y] at this
            rw [if_neg (show ¬ (j < i + 1 ∧ x % t j = 0) from fun e => y ⟨by omega, e.2⟩), if_neg (show ¬ (j < i + 1 ∧ x % t j = 0) from fun e => y ⟨by omega, e.2⟩)]; exact this
      · have q : ¬ x % t i = 0 := fun e => q ((ofN_eqL (m := 0) (by omega) (by decide)).mpr e)
        refine ih (i + 1) u (by omega) hF fun j hj' => ?_
        have := h j hj'
        dsimp only at this ⊢
        by_cases y : j < i ∧ x % t j = 0
        · rw [if_pos y, if_pos y] at this
          rw [if_pos (show j < i + 1 ∧ x % t j = 0 from ⟨by omega, y.2⟩), if_pos (show j < i + 1 ∧ x % t j = 0 from ⟨by omega, y.2⟩)]; exact this
        · have nn : ¬ (j < i + 1 ∧ x % t j = 0) := fun e => y ⟨by
            have e1 := e.1
            by_cases z : j = i
            · exact absurd (by rw [← z]; exact e.2) q
            · omega, e.2⟩
          rw [if_neg y, if_neg y] at this
          rw [if_neg nn, if_neg nn]; exact this
  unfold f_releaseAt
  refine key w 0 s (by omega) (own_Fr.refl hL) fun j hj' => ?_
  dsimp only
  rw [if_neg (fun e => Nat.not_lt_zero _ e.1), if_neg (fun e => Nat.not_lt_zero _ e.1)]; exact hj j hj'
theorem own_ns_dec {g : Nat → Nat} {b : Nat} (hb : 0 < g b) : ∀ {n : Nat}, b < n → own_ns (fun i => if i = b then g i - 1 else g i) n + 1 = own_ns g n
  | 0, h => absurd h (Nat.not_lt_zero _)
  | n + 1, h => by
    show own_ns (fun i => if i = b then g i - 1 else g i) n + (if n = b then g n - 1 else g n) + 1 = own_ns g n + g n
    by_cases z : n = b
    · subst z
      rw [if_pos rfl, own_ns_congr (h := g) fun i hi => if_neg (show ¬ i = n by omega)]
      omega
    · rw [if_neg z]
      have := own_ns_dec (n := n) hb (by omega)
      omega
theorem own_disV {s : St} (hL : own_L s) {w : Nat} (hw : gI s 11 = Int32.ofNat w) (hw2 : w ≤ 12) {rm ad : Nat → Nat} (hj : own_Jb s w rm ad) : own_Ok (fun n => f_dispatchSlot n s) (fun r => own_Fr [10, 11] [] s r.2 ∧ ((r.1 = 0 ∧ own_Jb r.2 w rm ad ∧ ∀ i, i < w → rm i = 0) ∨ (r.1 = 1 ∧ ∃ b, b < w ∧ 0 < rm b ∧ own_Jb r.2 w (fun i => if i = b then rm i - 1 else rm i) ad))) := by
  have key : ∀ (k i : Nat) (v : Int32), i + k = w → ((v = -1 ∧ ∀ j, j < i → rm j = 0) ∨ ∃ b, b < w ∧ v = Int32.ofNat b ∧ 0 < rm b) → own_Ok (fun n => f_dispatchSlot_4 n v (Int32.ofNat i) s) (fun r => own_Fr [10, 11] [] s r.2 ∧ ((r.1 = 0 ∧ own_Jb r.2 w rm ad ∧ ∀ i, i < w → rm i = 0) ∨ (r.1 = 1 ∧ ∃ b, b < w ∧ 0 < rm b ∧ own_Jb r.2 w (fun i => if i = b then rm i - 1 else rm i) ad))) := by
    intro k
    induction k with
    | zero =>
      intro i v hi h
      obtain rfl : i = w := by omega
      refine own_Ok.step (g := fun n => g_dispatchSlot_4 (f_dispatchSlot_4 n) n v (Int32.ofNat i) s) (fun n => rfl) ?_
      unfold g_dispatchSlot_4
      rw [hw]
      refine own_Ok.ite (fun q => by have := (own_ltN (by omega) (by omega)).mp q; omega) fun _ => ?_
      rcases h with ⟨rfl, h⟩ | ⟨b, hb, rfl, h⟩
      · exact own_Ok.ite (fun _ => own_Ok.ret ⟨own_Fr.refl hL, Or.inl ⟨rfl, hj, h⟩⟩) fun q => absurd (by decide) q
      · refine own_Ok.ite (fun q => absurd q (ofN_nn (by omega))) fun _ => ?_
        obtain ⟨j10, j11, b1, b2⟩ := hj b hb
        have l10 := hL 10 (by decide)
        refine own_Ok.rd hL (by decide) (by omega) fun y ey => ?_
        obtain rfl : y = Int32.ofNat (rm b) := Option.some.inj (ey.symm.trans j10)
        refine own_Ok.wr hL (by decide) (by omega) ?_
        refine own_Ok.ret ⟨(own_Fr.refl hL).wr 10 b _ (by decide), Or.inr ⟨rfl, b, hb, h, fun j hj' => ?_⟩⟩
        obtain ⟨a1, a2, a3, a4⟩ := hj j hj'
        show ((gA s 10).set b _)[j]? = _ ∧ (gA s 11)[j]? = _ ∧ _
        dsimp only
        by_cases z : j = b
        · subst z
          rw [get_set_self _ (by omega), if_pos rfl]
          refine ⟨?_, a2, by omega, a4⟩
          obtain ⟨q, hq⟩ : ∃ q, rm j = q + 1 := ⟨rm j - 1, by omega⟩
          rw [hq, ← ofN_succ, Int32.add_sub_cancel, Nat.add_sub_cancel]
        · rw [get_set_ne _ (Ne.symm z), if_neg z]; exact ⟨a1, a2, a3, a4⟩
    | succ k ih =>
      intro i v hi h
      refine own_Ok.step (g := fun n => g_dispatchSlot_4 (f_dispatchSlot_4 n) n v (Int32.ofNat i) s) (fun n => rfl) ?_
      obtain ⟨j10, j11, b1, b2⟩ := hj i (by omega)
      unfold g_dispatchSlot_4 f_dispatchSlot_40 f_dispatchSlot_42 lt
      rw [hw, ofN_succ]
      refine own_Ok.ite (fun _ => ?_) fun q => absurd ((own_ltN (by omega) (by omega)).mpr (by omega)) q
      refine own_Ok.rd hL (by decide) (by omega) fun y ey => ?_
      obtain rfl : y = Int32.ofNat (rm i) := Option.some.inj (ey.symm.trans j10)
      refine own_Ok.ite (fun q => ?_) fun q => ?_
      · have q := (ofN_gtL (m := 0) (by omega) (by decide)).mp q
        have tk := ih (i + 1) (Int32.ofNat i) (by omega) (Or.inr ⟨i, by omega, rfl, q⟩)
        rcases h with ⟨rfl, h⟩ | ⟨b, hb, rfl, h⟩
        · exact own_Ok.ite (fun _ => tk) fun q => absurd (by decide) q
        · refine own_Ok.ite (fun q => absurd q (ofN_nn (by omega))) fun _ => ?_
          refine own_Ok.rd hL (by decide) (by omega) fun y ey => ?_
          refine own_Ok.rd hL (by decide) (by omega) fun y ey => ?_
          exact own_Ok.ite (fun _ => tk) fun _ => ih (i + 1) _ (by omega) (Or.inr ⟨b, hb, rfl, h⟩)
      · have q : ¬ 0 < rm i := fun e => q ((ofN_gtL (m := 0) (by omega) (by decide)).mpr e)
        refine ih (i + 1) v (by omega) ?_
        rcases h with ⟨e, h⟩ | h
        · refine Or.inl ⟨e, fun j hj' => ?_⟩
          by_cases z : j = i
          · rw [z]; omega
          · exact h j (by omega)
        · exact Or.inr h
  unfold f_dispatchSlot
  exact key w 0 (-1) (by omega) (Or.inl ⟨rfl, fun j hj' => absurd hj' (Nat.not_lt_zero _)⟩)
theorem own_anyV {s : St} (hL : own_L s) {w : Nat} (hw : gI s 11 = Int32.ofNat w) (hw2 : w ≤ 12) {rm ad : Nat → Nat} (hj : own_Jb s w rm ad) : own_Ok (fun n => f_anyPending n s) (fun r => (r = 0 ∧ ∀ i, i < w → rm i = 0) ∨ r = 1) := by
  have key : ∀ (k i : Nat), i + k = w → (∀ j, j < i → rm j = 0) → own_Ok (fun n => f_anyPending_2 n (Int32.ofNat i) s) (fun r => (r = 0 ∧ ∀ i, i < w → rm i = 0) ∨ r = 1) := by
    intro k
    induction k with
    | zero =>
      intro i hi h
      obtain rfl : i = w := by omega
      refine own_Ok.step (g := fun n => g_anyPending_2 (f_anyPending_2 n) n (Int32.ofNat i) s) (fun n => rfl) ?_
      unfold g_anyPending_2
      rw [hw]
      exact own_Ok.ite (fun q => by have := (own_ltN (by omega) (by omega)).mp q; omega) fun _ => own_Ok.ret (Or.inl ⟨rfl, h⟩)
    | succ k ih =>
      intro i hi h
      refine own_Ok.step (g := fun n => g_anyPending_2 (f_anyPending_2 n) n (Int32.ofNat i) s) (fun n => rfl) ?_
      obtain ⟨j10, j11, b1, b2⟩ := hj i (by omega)
      unfold g_anyPending_2 lt
      rw [hw, ofN_succ]
      refine own_Ok.ite (fun _ => ?_) fun q => absurd ((own_ltN (by omega) (by omega)).mpr (by omega)) q
      refine own_Ok.rd hL (by decide) (by omega) fun y ey => ?_
      obtain rfl : y = Int32.ofNat (rm i) := Option.some.inj (ey.symm.trans j10)
      refine own_Ok.ite (fun _ => own_Ok.ret (Or.inr rfl)) fun q => ?_
      have q : ¬ 0 < rm i := fun e => q ((ofN_gtL (m := 0) (by omega) (by decide)).mpr e)
      refine ih (i + 1) (by omega) fun j hj' => ?_
      by_cases z : j = i
      · rw [z]; omega
      · exact h j (by omega)
  unfold f_anyPending
  exact key w 0 (by omega) fun j hj' => absurd hj' (Nat.not_lt_zero _)
theorem own_nraV {s : St} (hL : own_L s) {w : Nat} (hw : gI s 11 = Int32.ofNat w) (hw2 : w ≤ 12) {c d t : Nat → Nat} (hk : own_Tk 6 s w c d t) (hv : own_Vd c d t w) (x h : Nat) (hx : x < h) (hh : h ≤ 2048) : own_Ok (fun n => f_nextReleaseAfter n (Int32.ofNat x) (Int32.ofNat h) s) (fun v => ∃ r, v = Int32.ofNat r ∧ x < r ∧ r ≤ h ∧ ∀ i, i < w → r ≤ (x / t i + 1) * t i) := by
  have key : ∀ (k i r : Nat), i + k = w → x < r → r ≤ h → (∀ j, j < i → r ≤ (x / t j + 1) * t j) → own_Ok (fun n => f_nextReleaseAfter_5 n (Int32.ofNat x) (Int32.ofNat r) (Int32.ofNat i) s) (fun v => ∃ r, v = Int32.ofNat r ∧ x < r ∧ r ≤ h ∧ ∀ i, i < w → r ≤ (x / t i + 1) * t i) := by
    intro k
    induction k with
    | zero =>
      intro i r hi h1 h2 h3
      obtain rfl : i = w := by omega
      refine own_Ok.step (g := fun n => g_nextReleaseAfter_5 (f_nextReleaseAfter_5 n) n (Int32.ofNat x) (Int32.ofNat r) (Int32.ofNat i) s) (fun n => rfl) ?_
      unfold g_nextReleaseAfter_5 f_nextReleaseAfter_69
      rw [hw]
      refine own_Ok.ite (fun q => by have := (own_ltN (by omega) (by omega)).mp q; omega) fun _ => ?_
      exact own_Ok.ite (fun _ => own_Ok.ret ⟨r, rfl, h1, h2, h3⟩) fun q => absurd ((ofN_lt (by omega) (by omega)).mpr h1) q
    | succ k ih =>
      intro i r hi h1 h2 h3
      refine own_Ok.step (g := fun n => g_nextReleaseAfter_5 (f_nextReleaseAfter_5 n) n (Int32.ofNat x) (Int32.ofNat r) (Int32.ofNat i) s) (fun n => rfl) ?_
      have ti := (hk i (by omega)).2.2
      obtain ⟨-, -, -, t1, t2⟩ := hv i (by omega)
      unfold g_nextReleaseAfter_5 f_nextReleaseAfter_54 lt
      rw [hw, ofN_succ]
      refine own_Ok.ite (fun _ => ?_) fun q => absurd ((own_ltN (by omega) (by omega)).mpr (by omega)) q
      refine own_Ok.rd hL (by decide) (by omega) fun y ey => ?_
      obtain rfl : y = Int32.ofNat (t i) := Option.some.inj (ey.symm.trans ti)
      refine own_Ok.ite (fun _ => ?_) fun q => absurd ((ofN_gtL (m := 0) (by omega) (by decide)).mpr (by omega)) q
      refine own_Ok.rd hL (by decide) (by omega) fun y ey => ?_
      obtain rfl : y = Int32.ofNat (t i) := Option.some.inj (ey.symm.trans ti)
      refine own_Ok.ite (fun q => by have := (ofN_eqL (m := 0) (by omega) (by decide)).mp q; omega) fun _ => ?_
      refine own_Ok.rd hL (by decide) (by omega) fun y ey => ?_
      obtain rfl : y = Int32.ofNat (t i) := Option.some.inj (ey.symm.trans ti)
      have xb : x / t i ≤ x := Nat.div_le_self _ _
      have pb : (x / t i + 1) * t i ≤ 2049 * 16 := Nat.mul_le_mul (by omega) t2
      have xl : x < (x / t i + 1) * t i := by
        have := Nat.div_add_mod x (t i)
        have := Nat.mod_lt x (show t i > 0 by omega)
        rw [Nat.succ_mul, Nat.mul_comm]; omega
      rw [own_hdiv x (t i) (by omega) t1 t2, ofN_succ, ← Int32.ofNat_mul]
      refine own_Ok.ite (fun q => ?_) fun q => ?_
      · have q := (ofN_lt (by omega) (by omega)).mp q
        refine ih (i + 1) _ (by omega) xl (by omega) fun j hj' => ?_
        by_cases z : j = i
        · rw [z]; exact Nat.le_refl _
        · have := h3 j (by omega)
          omega
      · have q : ¬ (x / t i + 1) * t i < r := fun e => q ((ofN_lt (by omega) (by omega)).mpr e)
        refine ih (i + 1) r (by omega) h1 h2 fun j hj' => ?_
        by_cases z : j = i
        · rw [z]; omega
        · exact h3 j (by omega)
  unfold f_nextReleaseAfter
  exact key w 0 h (by omega) hx (Nat.le_refl _) fun j hj' => absurd hj' (Nat.not_lt_zero _)
theorem own_ns0 {g : Nat → Nat} : ∀ {n : Nat}, (∀ i, i < n → g i = 0) → own_ns g n = 0
  | 0, _ => rfl
  | n + 1, h => by
    show own_ns g n + g n = 0
    rw [own_ns0 fun i hi => h i (by omega), h n (by omega)]

/-! the earliest deadline first: it meets the deadlines when the test holds, and only then -/
theorem own_disM {s : St} (hL : own_L s) {w : Nat} (hw : gI s 11 = Int32.ofNat w) (hw2 : w ≤ 12) {rm ad : Nat → Nat} (hj : own_Jb s w rm ad) : own_Ok (fun n => f_dispatchSlot n s) (fun r => own_Fr [10, 11] [] s r.2 ∧ ((r.1 = 0 ∧ own_Jb r.2 w rm ad ∧ ∀ i, i < w → rm i = 0) ∨ (r.1 = 1 ∧ ∃ b, b < w ∧ 0 < rm b ∧ (∀ j, j < w → 0 < rm j → ad b ≤ ad j) ∧ own_Jb r.2 w (fun i => if i = b then rm i - 1 else rm i) ad))) := by
  have key : ∀ (k i : Nat) (v : Int32), i + k = w → ((v = -1 ∧ ∀ j, j < i → rm j = 0) ∨ ∃ b, b < w ∧ v = Int32.ofNat b ∧ 0 < rm b ∧ ∀ j, j < i → 0 < rm j → ad b ≤ ad j) → own_Ok (fun n => f_dispatchSlot_4 n v (Int32.ofNat i) s) (fun r => own_Fr [10, 11] [] s r.2 ∧ ((r.1 = 0 ∧ own_Jb r.2 w rm ad ∧ ∀ i, i < w → rm i = 0) ∨ (r.1 = 1 ∧ ∃ b, b < w ∧ 0 < rm b ∧ (∀ j, j < w → 0 < rm j → ad b ≤ ad j) ∧ own_Jb r.2 w (fun i => if i = b then rm i - 1 else rm i) ad))) := by
    intro k
    induction k with
    | zero =>
      intro i v hi h
      obtain rfl : i = w := by omega
      refine own_Ok.step (g := fun n => g_dispatchSlot_4 (f_dispatchSlot_4 n) n v (Int32.ofNat i) s) (fun n => rfl) ?_
      unfold g_dispatchSlot_4
      rw [hw]
      refine own_Ok.ite (fun q => by have := (own_ltN (by omega) (by omega)).mp q; omega) fun _ => ?_
      rcases h with ⟨rfl, h⟩ | ⟨b, hb, rfl, h, hm⟩
      · exact own_Ok.ite (fun _ => own_Ok.ret ⟨own_Fr.refl hL, Or.inl ⟨rfl, hj, h⟩⟩) fun q => absurd (by decide) q
      · refine own_Ok.ite (fun q => absurd q (ofN_nn (by omega))) fun _ => ?_
        obtain ⟨j10, j11, b1, b2⟩ := hj b hb
        have l10 := hL 10 (by decide)
        refine own_Ok.rd hL (by decide) (by omega) fun y ey => ?_
        obtain rfl : y = Int32.ofNat (rm b) := Option.some.inj (ey.symm.trans j10)
        refine own_Ok.wr hL (by decide) (by omega) ?_
        refine own_Ok.ret ⟨(own_Fr.refl hL).wr 10 b _ (by decide), Or.inr ⟨rfl, b, hb, h, hm, fun j hj' => ?_⟩⟩
        obtain ⟨a1, a2, a3, a4⟩ := hj j hj'
        show ((gA s 10).set b _)[j]? = _ ∧ (gA s 11)[j]? = _ ∧ _
        dsimp only
        by_cases z : j = b
        · subst z
          rw [get_set_self _ (by omega), if_pos rfl]
          refine ⟨?_, a2, by omega, a4⟩
          obtain ⟨q, hq⟩ : ∃ q, rm j = q + 1 := ⟨rm j - 1, by omega⟩
          rw [hq, ← ofN_succ, Int32.add_sub_cancel, Nat.add_sub_cancel]
        · rw [get_set_ne _ (Ne.symm z), if_neg z]; exact ⟨a1, a2, a3, a4⟩
    | succ k ih =>
      intro i v hi h
      refine own_Ok.step (g := fun n => g_dispatchSlot_4 (f_dispatchSlot_4 n) n v (Int32.ofNat i) s) (fun n => rfl) ?_
      obtain ⟨j10, j11, b1, b2⟩ := hj i (by omega)
      unfold g_dispatchSlot_4 f_dispatchSlot_40 f_dispatchSlot_42 lt
      rw [hw, ofN_succ]
      refine own_Ok.ite (fun _ => ?_) fun q => absurd ((own_ltN (by omega) (by omega)).mpr (by omega)) q
      refine own_Ok.rd hL (by decide) (by omega) fun y ey => ?_
      obtain rfl : y = Int32.ofNat (rm i) := Option.some.inj (ey.symm.trans j10)
      refine own_Ok.ite (fun q => ?_) fun q => ?_
      · have q := (ofN_gtL (m := 0) (by omega) (by decide)).mp q
        have tk : (∀ j, j < i + 1 → 0 < rm j → ad i ≤ ad j) → _ := fun hm => ih (i + 1) (Int32.ofNat i) (by omega) (Or.inr ⟨i, by omega, rfl, q, hm⟩)
        rcases h with ⟨rfl, h⟩ | ⟨b, hb, rfl, h, hm⟩
        · refine own_Ok.ite (fun _ => tk fun j hj' y => ?_) fun q => absurd (by decide) q
          by_cases z : j = i
          · rw [z]; exact Nat.le_refl _
          · have := h j (by omega); omega
        · refine own_Ok.ite (fun q => absurd q (ofN_nn (by omega))) fun _ => ?_
          obtain ⟨k10, k11, e1, e2⟩ := hj b hb
          refine own_Ok.rd hL (by decide) (by omega) fun y ey => ?_
          obtain rfl : y = Int32.ofNat (ad i) := Option.some.inj (ey.symm.trans j11)
          refine own_Ok.rd hL (by decide) (by omega) fun y ey => ?_
          obtain rfl : y = Int32.ofNat (ad b) := Option.some.inj (ey.symm.trans k11)
          refine own_Ok.ite (fun u => tk fun j hj' y => ?_) fun u => ih (i + 1) _ (by omega) (Or.inr ⟨b, hb, rfl, h, fun j hj' y => ?_⟩)
          · have u := (own_ltN (by omega) (by omega)).mp u
            by_cases z : j = i
            · rw [z]; exact Nat.le_refl _
            · have := hm j (by omega) y; omega
          · have u : ¬ ad i < ad b := fun e => u ((own_ltN (by omega) (by omega)).mpr e)
            by_cases z : j = i
            · rw [z]; omega
            · exact hm j (by omega) y
      · have q : ¬ 0 < rm i := fun e => q ((ofN_gtL (m := 0) (by omega) (by decide)).mpr e)
        refine ih (i + 1) v (by omega) ?_
        rcases h with ⟨e, h⟩ | ⟨b, hb, e, h, hm⟩
        · refine Or.inl ⟨e, fun j hj' => ?_⟩
          by_cases z : j = i
          · rw [z]; omega
          · exact h j (by omega)
        · refine Or.inr ⟨b, hb, e, h, fun j hj' y => ?_⟩
          by_cases z : j = i
          · rw [z] at y; omega
          · exact hm j (by omega) y
  unfold f_dispatchSlot
  exact key w 0 (-1) (by omega) (Or.inl ⟨rfl, fun j hj' => absurd hj' (Nat.not_lt_zero _)⟩)
/-- jobs of a task let go from y on and before x, due by D -/
def own_N (d t y x D : Nat) : Nat := min (own_mc t x) (own_ct d t D) - own_mc t y
theorem own_mcM {t x y : Nat} (h : x ≤ y) : own_mc t x ≤ own_mc t y := Nat.div_le_div_right (by omega)
theorem own_Nm {d t y x x' D : Nat} (h : x ≤ x') : own_N d t y x D ≤ own_N d t y x' D := by
  have := own_mcM (t := t) h
  unfold own_N; omega
theorem own_mcct {d t x D : Nat} (h1 : 1 ≤ t) (h2 : t ≤ 16) (hz : x % t = 0) (h : x + d ≤ D) : own_mc t x < own_ct d t D := by
  revert hz
  refine own_t16 (P := fun t => x % t = 0 → own_mc t x < own_ct d t D) ⟨?_, ?_, ?_, ?_, ?_, ?_, ?_, ?_, ?_, ?_, ?_, ?_, ?_, ?_, ?_, ?_⟩ h1 h2 <;> (intro hz; unfold own_mc own_ct; rw [if_pos (by omega)]; omega)
theorem own_NS {d t y x D : Nat} (h1 : 1 ≤ t) (h2 : t ≤ 16) (hy : y ≤ x) (hz : x % t = 0) (h : x + d ≤ D) : own_N d t y x D + 1 = own_N d t y (x + 1) D := by
  have a := own_mcct h1 h2 hz h
  have b := own_mcS (x := x) h1 h2
  rw [if_pos hz] at b
  have e := own_mcM (t := t) hy
  unfold own_N; omega
theorem own_Nct {d t y D : Nat} (h1 : 1 ≤ t) (h2 : t ≤ 16) (hy : y ≤ D) : own_N d t y D D ≤ own_ct d t (D - y) := by
  have : own_ct d t D - own_mc t y ≤ own_ct d t (D - y) := by
    refine own_t16 (P := fun t => own_ct d t D - own_mc t y ≤ own_ct d t (D - y)) ⟨?_, ?_, ?_, ?_, ?_, ?_, ?_, ?_, ?_, ?_, ?_, ?_, ?_, ?_, ?_, ?_⟩ h1 h2 <;> (unfold own_mc own_ct; split <;> split <;> omega)
  unfold own_N; omega
theorem own_ctmc {d t x : Nat} (h1 : 1 ≤ t) (h2 : t ≤ 16) (d1 : 1 ≤ d) : own_ct d t x ≤ own_mc t x := by
  refine own_t16 (P := fun t => own_ct d t x ≤ own_mc t x) ⟨?_, ?_, ?_, ?_, ?_, ?_, ?_, ?_, ?_, ?_, ?_, ?_, ?_, ?_, ?_, ?_⟩ h1 h2 <;> (unfold own_mc own_ct; split <;> omega)
theorem own_ctlt {d t x m : Nat} (h1 : 1 ≤ t) (h2 : t ≤ 16) (m1 : 1 ≤ m) (h : x + t < m * t + d) : own_ct d t x + 1 ≤ m := by
  revert h
  refine own_t16 (P := fun t => x + t < m * t + d → own_ct d t x + 1 ≤ m) ⟨?_, ?_, ?_, ?_, ?_, ?_, ?_, ?_, ?_, ?_, ?_, ?_, ?_, ?_, ?_, ?_⟩ h1 h2 <;> (intro h; unfold own_ct; split <;> omega)
theorem own_ns_ge {g : Nat → Nat} {i : Nat} : ∀ {n : Nat}, i < n → g i ≤ own_ns g n
  | 0, h => absurd h (Nat.not_lt_zero _)
  | n + 1, h => by
    show g i ≤ own_ns g n + g n
    by_cases z : i = n
    · rw [z]; omega
    · have := own_ns_ge (g := g) (n := n) (show i < n by omega)
      omega
theorem own_dbZ {c d t : Nat → Nat} {n : Nat} (hv : own_Vd c d t n) : own_db c d t n 0 = 0 := own_ns0 fun i hi => by
  obtain ⟨-, d1, d2, t1, t2⟩ := hv i hi
  show own_ct (d i) (t i) 0 * c i = 0
  unfold own_ct
  rw [if_neg (by omega), Nat.zero_mul]
def own_Rm (s : St) (w h : Nat) (c d t : Nat → Nat) (r : Int32 × St) : Prop := own_Fr [10, 11] [8, 9, 10] s r.2 ∧ ((r.1 = 1 ∧ ∀ p, 1 ≤ p → p ≤ h → own_db c d t w p ≤ p) ∨ (r.1 = 2 ∧ ∃ p, 1 ≤ p ∧ p ≤ h ∧ p < own_db c d t w p))
/-- the work that is left and due by D -/
def own_P (w : Nat) (rm ad : Nat → Nat) (D : Nat) : Nat := own_ns (fun i => if ad i ≤ D then rm i else 0) w
def own_E (w x : Nat) (c d t rm ad : Nat → Nat) : Prop := ∀ D, ∃ y, y ≤ x ∧ own_P w rm ad D + x ≤ own_ns (fun i => c i * own_N (d i) (t i) y x D) w + y
theorem own_runM {s : St} {w : Nat} (hw : gI s 11 = Int32.ofNat w) (hw2 : w ≤ 12) {c d t : Nat → Nat} (hk : own_Tk 6 s w c d t) (hv : own_Vd c d t w) (h : Nat) (hh1 : 1 ≤ h) (hh : h ≤ 2048) : ∀ (k x id : Nat) (u : St) (rm ad : Nat → Nat), x + k = h → own_Fr [10, 11] [8, 9, 10] s u → own_Jb u w rm ad → (∀ i, i < w → rm i ≤ c i ∧ (0 < rm i → x ≤ ad i ∧ 1 ≤ own_mc (t i) x ∧ ad i + t i = own_mc (t i) x * t i + d i)) → id + own_ns (fun i => c i * own_mc (t i) x) w = x + own_ns rm w → (∀ p, 1 ≤ p → p < x → own_db c d t w p ≤ p) → own_E w x c d t rm ad → own_Ok (fun n => f_runEdf_8 n (Int32.ofNat h) (Int32.ofNat id) (Int32.ofNat x) u) (own_Rm s w h c d t) := by
  intro k
  induction k using Nat.strongRecOn with
  | _ k ih =>
    intro x id u rm ad hx hF hJ hrm hid hdb hE
    refine own_Ok.step (g := fun n => g_runEdf_8 (f_runEdf_8 n) n (Int32.ofNat h) (Int32.ofNat id) (Int32.ofNat x) u) (fun n => rfl) ?_
    have wu : gI u 11 = Int32.ofNat w := (hF.2.2 11 (by decide)).trans hw
    have hku : own_Tk 6 u w c d t := fun j hj' => by
      rw [hF.2.1 6 (by decide), hF.2.1 (6 + 1) (by decide), hF.2.1 (6 + 2) (by decide)]; exact hk j hj'
    have rmle : own_ns rm w ≤ own_ns (fun i => c i * own_mc (t i) x) w := own_ns_le fun i hi => by
      obtain ⟨q1, q2⟩ := hrm i hi
      show rm i ≤ c i * own_mc (t i) x
      by_cases z : 0 < rm i
      · have := (q2 z).2.1
        have := Nat.mul_le_mul_left (c i) this
        omega
      · omega
    have idx : id ≤ x := by omega
    have rec1 : ∀ (t : St) (a b c : Int32), own_Fr [10, 11] [8, 9, 10] s t → own_Fr [10, 11] [8, 9, 10] s (sI (sI (sI t 8 a) 9 b) 10 c) := fun t a b c h => ((h.sI 8 a (by decide)).sI 9 b (by decide)).sI 10 c (by decide)
    unfold g_runEdf_8 f_runEdf_100 f_recordRun lt
    refine own_Ok.ite (fun q => by have := (ofN_lt (by omega) (by omega)).mp q; omega) fun _ => ?_
    refine own_Ok.ite (fun q => by have := (ofN_gtL (m := 2048) (by omega) (by decide)).mp q; omega) fun _ => ?_
    refine own_Ok.bind (own_fmV hF.1 wu hw2 hJ x (by omega)) fun v hvv => ?_
    rcases hvv with ⟨rfl, nm⟩ | ⟨i, hi, rfl, m1, m2⟩
    rotate_left
    · -- a deadline is missed: the demand of the busy stretch is too much
      refine own_Ok.ite (fun q => absurd q (ofN_nn (by omega))) fun _ => own_Ok.some_bind (own_Ok.ret ⟨rec1 u _ _ _ hF, Or.inr ⟨rfl, ?_⟩⟩)
      obtain ⟨y, hy, he⟩ := hE x
      have p1 : rm i ≤ own_P w rm ad x := by
        have := own_ns_ge (g := fun i => if ad i ≤ x then rm i else 0) hi
        rw [if_pos (by omega)] at this
        exact this
      have nn : own_ns (fun i => c i * own_N (d i) (t i) y x x) w ≤ own_db c d t w (x - y) := own_ns_le fun i hi => by
        obtain ⟨-, d1, d2, t1, t2⟩ := hv i hi
        show c i * own_N (d i) (t i) y x x ≤ own_ct (d i) (t i) (x - y) * c i
        rw [Nat.mul_comm]
        exact Nat.mul_le_mul_right _ (own_Nct t1 t2 hy)
      have z0 := own_dbZ hv
      refine ⟨x - y, ?_, by omega, by omega⟩
      by_cases z : x - y = 0
      · rw [z, z0] at nn; omega
      · omega
    refine own_Ok.ite (fun _ => ?_) fun q => absurd (by decide) q
    -- nothing is late at x
    have late : ∀ i, i < w → x % t i = 0 → rm i = 0 := fun i hi z => by
      obtain ⟨-, d1, d2, t1, t2⟩ := hv i hi
      by_cases y : 0 < rm i
      · obtain ⟨a1, a2, a3⟩ := (hrm i hi).2 y
        have := (own_mcD t1 t2 z).1
        have : ad i = x := by omega
        exact absurd ⟨y, this⟩ (nm i hi)
      · omega
    have dbx : own_db c d t w x ≤ x := by
      have : own_ns (fun i => own_ct (d i) (t i) x * c i + rm i) w ≤ own_ns (fun i => c i * own_mc (t i) x) w := own_ns_le fun i hi => by
        obtain ⟨-, d1, d2, t1, t2⟩ := hv i hi
        show own_ct (d i) (t i) x * c i + rm i ≤ c i * own_mc (t i) x
        obtain ⟨r1, r2⟩ := hrm i hi
        rw [Nat.mul_comm (c i)]
        by_cases y : 0 < rm i
        · obtain ⟨a1, a2, a3⟩ := r2 y
          have ne : ¬ ad i = x := fun e => nm i hi ⟨y, e⟩
          have l := own_ctlt (d := d i) (x := x) t1 t2 a2 (by omega)
          have := Nat.mul_le_mul_right (c i) l
          rw [Nat.succ_mul] at this
          omega
        · have := Nat.mul_le_mul_right (c i) (own_ctmc (x := x) t1 t2 d1)
          omega
      rw [own_ns_add] at this
      unfold own_db
      omega
    have hdb1 : ∀ p, 1 ≤ p → p < x + 1 → own_db c d t w p ≤ p := fun p p1 p2 => by
      by_cases z : p = x
      · rw [z]; exact dbx
      · exact hdb p p1 (by omega)
    refine own_Ok.ite (fun q => ?_) fun q => ?_
    · have q := (ofN_eq (by omega) (by omega)).mp q
      subst q
      exact own_Ok.some_bind (own_Ok.ret ⟨rec1 u _ _ _ hF, Or.inl ⟨rfl, fun p p1 p2 => hdb1 p p1 (by omega)⟩⟩)
    have q : ¬ x = h := fun e => q ((ofN_eq (by omega) (by omega)).mpr e)
    refine own_Ok.bind (own_relV hF.1 wu hw2 hku hv hJ x (by omega)) fun u1 hu1 => ?_
    obtain ⟨f1, J1⟩ := hu1
    have F1 : own_Fr [10, 11] [8, 9, 10] s u1 := hF.trans (f1.mono (by decide) (by decide))
    have w1 : gI u1 11 = Int32.ofNat w := (F1.2.2 11 (by decide)).trans hw
    -- the sums after the release
    have sum1 : id + own_ns (fun i => c i * own_mc (t i) (x + 1)) w = x + own_ns (fun i => if x % t i = 0 then c i else rm i) w := by
      have e1 : own_ns (fun i => c i * own_mc (t i) (x + 1)) w = own_ns (fun i => c i * own_mc (t i) x) w + own_ns (fun i => if x % t i = 0 then c i else 0) w := by
        rw [← own_ns_add]
        refine own_ns_congr fun i hi => ?_
        obtain ⟨-, d1, d2, t1, t2⟩ := hv i hi
        show c i * own_mc (t i) (x + 1) = c i * own_mc (t i) x + (if x % t i = 0 then c i else 0)
        rw [own_mcS t1 t2, Nat.mul_add]
        by_cases z : x % t i = 0
        · rw [if_pos z, if_pos z, Nat.mul_one]
        · rw [if_neg z, if_neg z, Nat.mul_zero]
      have e2 : own_ns (fun i => if x % t i = 0 then c i else rm i) w = own_ns rm w + own_ns (fun i => if x % t i = 0 then c i else 0) w := by
        rw [← own_ns_add]
        refine own_ns_congr fun i hi => ?_
        show (if x % t i = 0 then c i else rm i) = rm i + (if x % t i = 0 then c i else 0)
        by_cases z : x % t i = 0
        · rw [if_pos z, if_pos z, late i hi z, Nat.zero_add]
        · rw [if_neg z, if_neg z, Nat.add_zero]
      rw [e1, e2]; omega
    have job1 : ∀ i, i < w → (if x % t i = 0 then c i else rm i) ≤ c i ∧ (0 < (if x % t i = 0 then c i else rm i) → x + 1 ≤ (if x % t i = 0 then x + d i else ad i) ∧ 1 ≤ own_mc (t i) (x + 1) ∧ (if x % t i = 0 then x + d i else ad i) + t i = own_mc (t i) (x + 1) * t i + d i) := fun i hi => by
      obtain ⟨-, d1, d2, t1, t2⟩ := hv i hi
      rw [own_mcS t1 t2]
      by_cases z : x % t i = 0
      · rw [if_pos z, if_pos z, if_pos z]
        refine ⟨Nat.le_refl _, fun _ => ⟨by omega, by omega, ?_⟩⟩
        have := (own_mcD t1 t2 z).1
        rw [Nat.succ_mul]; omega
      · rw [if_neg z, if_neg z, if_neg z, Nat.add_zero]
        refine ⟨(hrm i hi).1, fun y => ?_⟩
        obtain ⟨a1, a2, a3⟩ := (hrm i hi).2 y
        refine ⟨?_, a2, a3⟩
        by_cases e : ad i = x
        · exact absurd ⟨y, e⟩ (nm i hi)
        · omega
    -- the busy stretches after the release
    have E1 : ∀ D, ∃ y, y ≤ x ∧ own_P w (fun i => if x % t i = 0 then c i else rm i) (fun i => if x % t i = 0 then x + d i else ad i) D + x ≤ own_ns (fun i => c i * own_N (d i) (t i) y (x + 1) D) w + y := fun D => by
      obtain ⟨y, hy, he⟩ := hE D
      refine ⟨y, hy, ?_⟩
      have : own_ns (fun i => (if (if x % t i = 0 then x + d i else ad i) ≤ D then (if x % t i = 0 then c i else rm i) else 0) + c i * own_N (d i) (t i) y x D) w ≤ own_ns (fun i => (if ad i ≤ D then rm i else 0) + c i * own_N (d i) (t i) y (x + 1) D) w := own_ns_le fun i hi => by
        obtain ⟨-, d1, d2, t1, t2⟩ := hv i hi
        show (if (if x % t i = 0 then x + d i else ad i) ≤ D then (if x % t i = 0 then c i else rm i) else 0) + c i * own_N (d i) (t i) y x D ≤ (if ad i ≤ D then rm i else 0) + c i * own_N (d i) (t i) y (x + 1) D
        have mono := Nat.mul_le_mul_left (c i) (own_Nm (d := d i) (t := t i) (y := y) (D := D) (Nat.le_succ x))
        by_cases z : x % t i = 0
        · rw [if_pos z, if_pos z]
          by_cases l : x + d i ≤ D
          · rw [if_pos l, ← own_NS t1 t2 hy z l, Nat.mul_add]; omega
          · rw [if_neg l]
            have : x.succ = x + 1 := rfl
            rw [this] at mono; omega
        · rw [if_neg z, if_neg z]
          have : x.succ = x + 1 := rfl
          rw [this] at mono; omega
      rw [own_ns_add, own_ns_add] at this
      unfold own_P at he ⊢
      dsimp only
      omega
    refine own_Ok.bind (own_disM F1.1 w1 hw2 J1) fun r hr => ?_
    obtain ⟨r1, u2⟩ := r
    obtain ⟨f2, hr⟩ := hr
    dsimp only at f2 hr ⊢
    have F2 : own_Fr [10, 11] [8, 9, 10] s u2 := F1.trans (f2.mono (by decide) (by decide))
    have w2 : gI u2 11 = Int32.ofNat w := (F2.2.2 11 (by decide)).trans hw
    have hk2 : own_Tk 6 u2 w c d t := fun j hj' => by
      rw [F2.2.1 6 (by decide), F2.2.1 (6 + 1) (by decide), F2.2.1 (6 + 2) (by decide)]; exact hk j hj'
    -- the next slot
    have go : ∀ (id' : Nat) (rm2 : Nat → Nat) (ad2 : Nat → Nat), own_Jb u2 w rm2 ad2 → (∀ i, i < w → rm2 i ≤ c i ∧ (0 < rm2 i → x + 1 ≤ ad2 i ∧ 1 ≤ own_mc (t i) (x + 1) ∧ ad2 i + t i = own_mc (t i) (x + 1) * t i + d i)) → id' + own_ns (fun i => c i * own_mc (t i) (x + 1)) w = x + 1 + own_ns rm2 w → own_E w (x + 1) c d t rm2 ad2 → own_Ok (fun n => f_runEdf_65 (f_runEdf_8 n) n (Int32.ofNat h) (Int32.ofNat id') (Int32.ofNat x) u2) (own_Rm s w h c d t) := fun id' rm2 ad2 J2 hr2 hid2 E2 => by
      unfold f_runEdf_65 f_runEdf_94 lt
      have rmle2 : own_ns rm2 w ≤ own_ns (fun i => c i * own_mc (t i) (x + 1)) w := own_ns_le fun i hi => by
        obtain ⟨q1, q2⟩ := hr2 i hi
        show rm2 i ≤ c i * own_mc (t i) (x + 1)
        by_cases z : 0 < rm2 i
        · have := (q2 z).2.1
          have := Nat.mul_le_mul_left (c i) this
          omega
        · omega
      have idb : id' ≤ x + 1 := by omega
      refine own_Ok.bind (own_anyV F2.1 w2 hw2 J2) fun v hvv => ?_
      rcases hvv with ⟨rfl, none⟩ | rfl
      · refine own_Ok.ite (fun _ => ?_) fun q => absurd rfl q
        refine own_Ok.bind (own_nraV F2.1 w2 hw2 hk2 hv x h (by omega) hh) fun v hvv => ?_
        obtain ⟨r, rfl, h1, h2, h3⟩ := hvv
        have e1 : Int32.ofNat r - Int32.ofNat x - 1 = Int32.ofNat (r - x - 1) := by
          rw [x32_eq]
          have a1 : (Int32.ofNat r - Int32.ofNat x).toInt = (r : Int) - x := by rw [x32_sub (by rw [ofN_int (by omega), ofN_int (by omega)]; omega) (by rw [ofN_int (by omega), ofN_int (by omega)]; omega), ofN_int (by omega), ofN_int (by omega)]
          have o1 : (1 : Int32).toInt = 1 := by decide
          rw [x32_sub (by omega) (by omega), a1, o1, ofN_int (by omega)]; omega
        have e2 : Int32.ofNat r - 1 + 1 = Int32.ofNat r := by rw [Int32.sub_add_cancel]
        dsimp only
        rw [e1, e2, ← Int32.ofNat_add]
        have mcr : ∀ p, x < p → p ≤ r → ∀ i, i < w → own_mc (t i) p = own_mc (t i) (x + 1) := fun p p1 p2 i hi => own_mcR (hv i hi).2.2.2.1 (hv i hi).2.2.2.2 p1 (Nat.le_trans p2 (h3 i hi))
        have z2 : own_ns rm2 w = 0 := own_ns0 none
        have smc : ∀ p, x < p → p ≤ r → own_ns (fun i => c i * own_mc (t i) p) w = own_ns (fun i => c i * own_mc (t i) (x + 1)) w := fun p p1 p2 => own_ns_congr fun i hi => by
          show c i * own_mc (t i) p = c i * own_mc (t i) (x + 1)
          rw [mcr p p1 p2 i hi]
        refine ih (h - r) (by omega) r (id' + (r - x - 1)) u2 rm2 ad2 (by omega) F2 J2 (fun i hi => ?_) ?_ (fun p p1 p2 => ?_) (fun D => ⟨r, Nat.le_refl _, ?_⟩)
        · refine ⟨(hr2 i hi).1, fun y => ?_⟩
          have := none i hi; omega
        · rw [smc r h1 (Nat.le_refl _)]
          omega
        · by_cases z : p < x + 1
          · exact hdb1 p p1 z
          · have e := smc p (by omega) (by omega)
            have : own_db c d t w p ≤ own_ns (fun i => c i * own_mc (t i) p) w := own_ns_le fun i hi => by
              obtain ⟨-, d1, d2, t1, t2⟩ := hv i hi
              show own_ct (d i) (t i) p * c i ≤ c i * own_mc (t i) p
              rw [Nat.mul_comm (c i)]
              exact Nat.mul_le_mul_right _ (own_ctmc t1 t2 d1)
            omega
        · have : own_P w rm2 ad2 D = 0 := own_ns0 fun i hi => by
            show (if ad2 i ≤ D then rm2 i else 0) = 0
            rw [none i hi]; split <;> rfl
          omega
      · refine own_Ok.ite (fun q => absurd q (by decide)) fun _ => ?_
        rw [ofN_succ]
        exact ih (h - (x + 1)) (by omega) (x + 1) id' u2 rm2 ad2 (by omega) F2 J2 hr2 (by omega) hdb1 E2
    rcases hr with ⟨rfl, J2, z⟩ | ⟨rfl, b, hb, b0, bm, J2⟩
    · refine own_Ok.ite (fun _ => ?_) fun q => absurd rfl q
      rw [ofN_succ]
      refine go (id + 1) _ _ J2 job1 ?_ fun D => ⟨x + 1, Nat.le_refl _, ?_⟩
      · omega
      · have : own_P w (fun i => if x % t i = 0 then c i else rm i) (fun i => if x % t i = 0 then x + d i else ad i) D = 0 := own_ns0 fun i hi => by
          have z := z i hi
          show (if (if x % t i = 0 then x + d i else ad i) ≤ D then (if x % t i = 0 then c i else rm i) else 0) = 0
          rw [z]; exact ite_self _
        omega
    · refine own_Ok.ite (fun q => absurd q (by decide)) fun _ => ?_
      refine go id _ _ J2 (fun i hi => ?_) ?_ fun D => ?_
      · have := job1 i hi
        by_cases y : i = b
        · rw [if_pos y]
          exact ⟨by omega, fun e => this.2 (by omega)⟩
        · rw [if_neg y]; exact this
      · have := own_ns_dec (g := fun i => if x % t i = 0 then c i else rm i) (b := b) b0 hb
        omega
      · generalize hrm1 : (fun i => if x % t i = 0 then c i else rm i) = rm1 at E1
        generalize had1 : (fun i => if x % t i = 0 then x + d i else ad i) = ad1 at E1
        have b0 : 0 < rm1 b := by rw [← hrm1]; exact b0
        have bm : ∀ j, j < w → 0 < rm1 j → ad1 b ≤ ad1 j := by rw [← hrm1, ← had1]; exact bm
        have er : (fun i => if i = b then (if x % t i = 0 then c i else rm i) - 1 else if x % t i = 0 then c i else rm i) = fun i => if i = b then rm1 i - 1 else rm1 i := by rw [← hrm1]
        rw [er]
        obtain ⟨y, hy, he⟩ := E1 D
        by_cases l : ad1 b ≤ D
        · refine ⟨y, by omega, ?_⟩
          have g0 : 0 < (fun i => if ad1 i ≤ D then rm1 i else 0) b := by
            show 0 < (if ad1 b ≤ D then rm1 b else 0)
            rw [if_pos l]; exact b0
          have : own_P w (fun i => if i = b then rm1 i - 1 else rm1 i) ad1 D + 1 = own_P w rm1 ad1 D := by
            refine Eq.trans (congrArg (· + 1) ?_) (own_ns_dec (g := fun i => if ad1 i ≤ D then rm1 i else 0) (b := b) g0 hb)
            refine own_ns_congr fun i hi => ?_
            show (if ad1 i ≤ D then (if i = b then rm1 i - 1 else rm1 i) else 0) = (if i = b then (if ad1 i ≤ D then rm1 i else 0) - 1 else (if ad1 i ≤ D then rm1 i else 0))
            by_cases e : i = b
            · rw [if_pos e, if_pos e, e, if_pos l, if_pos l]
            · rw [if_neg e, if_neg e]
          omega
        · refine ⟨x + 1, Nat.le_refl _, ?_⟩
          have : own_P w (fun i => if i = b then rm1 i - 1 else rm1 i) ad1 D = 0 := own_ns0 fun i hi => by
            show (if ad1 i ≤ D then (if i = b then rm1 i - 1 else rm1 i) else 0) = 0
            by_cases a : ad1 i ≤ D
            · have : rm1 i = 0 := by
                by_cases z : 0 < rm1 i
                · have := bm i hi z; omega
                · omega
              rw [if_pos a, this]; split <;> rfl
            · rw [if_neg a]
          omega
theorem own_edfM {s : St} (hL : own_L s) {w : Nat} (hw : gI s 11 = Int32.ofNat w) (hw2 : w ≤ 12) {c d t : Nat → Nat} (hk : own_Tk 6 s w c d t) (hv : own_Vd c d t w) (h : Nat) (hh1 : 1 ≤ h) (hh : h ≤ 2048) : own_Ok (fun n => f_runEdf n (Int32.ofNat h) s) (own_Rm s w h c d t) := by
  unfold f_runEdf
  refine own_Ok.bind (own_resV hL) fun u hu => ?_
  obtain ⟨hF, hz⟩ := hu
  have wu : gI u 11 = Int32.ofNat w := (hF.2.2 11 (by decide)).trans hw
  have hku : own_Tk 6 u w c d t := fun j hj' => by
    rw [hF.2.1 6 (by decide), hF.2.1 (6 + 1) (by decide), hF.2.1 (6 + 2) (by decide)]; exact hk j hj'
  have z2 : own_ns (fun _ => 0) w = 0 := own_ns0 fun _ _ => rfl
  have R := own_runM wu hw2 hku hv h hh1 hh h 0 0 u (fun _ => 0) (fun _ => 0) (by omega) (own_Fr.refl hF.1) (fun i hi => ⟨(hz i (by omega)).1, (hz i (by omega)).2, Nat.zero_le _, (by decide : 0 < 3000)⟩) (fun i hi => ⟨Nat.zero_le _, fun q => absurd q (by omega)⟩) (by
    have z1 : own_ns (fun i => c i * own_mc (t i) 0) w = 0 := own_ns0 fun i hi => by
      show c i * own_mc (t i) 0 = 0
      rw [own_mc0 (hv i hi).2.2.2.1 (hv i hi).2.2.2.2, Nat.mul_zero]
    rw [z1, z2]) (fun p p1 p2 => absurd p2 (by omega)) (fun D => ⟨0, Nat.le_refl _, by
      have : own_P w (fun _ => 0) (fun _ => 0) D = 0 := own_ns0 fun i hi => by
        show (if 0 ≤ D then 0 else 0) = 0
        split <;> rfl
      omega⟩)
  exact R.mono fun r hr => ⟨(hF.mono (by decide) (by decide)).trans hr.1, hr.2⟩

theorem own_modN (k m : Nat) (hk : k < 2147483648) (hm : 0 < m) (hm2 : m < 2147483648) : Int32.ofNat k % Int32.ofNat m = Int32.ofNat (k % m) := by
  have : k % m < m := Nat.mod_lt _ hm
  rw [x32_eq, Int32.toInt_mod, ofN_int hk, ofN_int hm2, ofN_int (by omega), Int.tmod_eq_emod_of_nonneg (by omega)]; rfl
theorem own_Iv.fit {cap hyp : Nat} {s : St} {n : Nat} {c d t : Nat → Nat} (h : own_Iv cap hyp s n c d t) : own_Fit hyp c d t n := by
  by_cases z : 1 ≤ n
  · exact h.2.2.2.2.2.2.2.1 z
  · obtain rfl : n = 0 := by omega
    exact ⟨h.2.2.2.2.1.2.2.1, fun x _ _ => Nat.zero_le _⟩
theorem own_i3 {cap hyp : Nat} {s u : St} {n : Nat} {c d t : Nat → Nat} {as is : List Nat} (h : own_Iv cap hyp s n c d t) (f : own_Fr as is s u) (i3 : 3 ∉ is) : ∃ m, m ≤ 12 ∧ gI u 3 = Int32.ofNat m := by
  obtain ⟨k, hk, e⟩ := h.2.2.2.2.2.2.2.2
  exact ⟨k, hk, (f.2.2 3 i3).trans e⟩
theorem own_sim1 {s : St} (hL : own_L s) {m H : Nat} (hm : m ≤ 12) {c d t : Nat → Nat} (c3 : gI s 3 = Int32.ofNat m) (c4 : gI s 4 = 1) (c5 : gI s 5 = Int32.ofNat H) (hH : 1 ≤ H) (hH2 : H ≤ 2048) (ck : own_Tk 3 s m c d t) (cv : own_Vd c d t m) : own_Ok (fun N => f_simulate N 1 s) (fun r => own_Fr [6, 7, 8, 10, 11] [8, 9, 10, 11] s r.2 ∧ ((r.1 = 1 ∧ ∀ p, 1 ≤ p → p ≤ H → own_db c d t m p ≤ p) ∨ (r.1 = 2 ∧ ∃ p, 1 ≤ p ∧ p ≤ H ∧ p < own_db c d t m p))) := by
  obtain ⟨u, eu, hu⟩ := own_loadC hL c3 hm
  have K : own_Tk 6 u m c d t := fun k hk' => by
    obtain ⟨a1, a2, a3⟩ := hu.2.2 k hk'
    show (gA u 6)[k]? = _ ∧ (gA u 7)[k]? = _ ∧ (gA u 8)[k]? = _
    rw [a1, a2, a3]; exact ck k hk'
  obtain ⟨r, er, fr, ro⟩ := own_edfM hu.1.1 hu.2.1 hm K cv H hH hH2
  refine ⟨r, ?_, (hu.1.mono (by decide) (by decide)).trans (fr.mono (by decide) (by decide)), ro⟩
  have u5 : gI u 5 = Int32.ofNat H := (hu.1.2.2 5 (by decide)).trans c5
  refine Ev.congr (g := fun N => (f_loadCandidate N s).bind fun c4 => f_simulate_54 N (gI c4 5) c4) (fun N => ?_) (Ev.bind eu ?_)
  · unfold f_simulate f_simulate_11 f_simulate_25 lt
    rw [if_neg (by decide), if_pos rfl, if_pos rfl, c4, if_neg (by decide), if_neg (by decide)]
  · refine Ev.congr (g := fun N => (f_runEdf N (Int32.ofNat H) u).bind fun c1 => some (c1.1, c1.2)) (fun N => ?_) (Ev.bind er (Ev.const rfl))
    unfold f_simulate_54 f_simulate_61
    rw [u5, if_neg (fun q => by have := (ofN_ltL (m := 1) (by omega) (by decide)).mp q; omega)]
theorem own_sim0 {cap hyp : Nat} {s : St} {n : Nat} {c d t : Nat → Nat} (h : own_Iv cap hyp s n c d t) : own_Ok (fun N => f_simulate N 0 s) (fun r => own_Fr [6, 7, 8, 10, 11] [8, 9, 10, 11] s r.2 ∧ r.1 = 1) := by
  obtain ⟨f1, f2⟩ := h.fit
  obtain ⟨hL, h0, h1, h2, ⟨hn, hc, y1, y2⟩, hk, hv, hfit, -⟩ := h
  obtain ⟨u, eu, hu⟩ := own_loadA hL h2 (by omega)
  have K : own_Tk 6 u n c d t := fun k hk' => by
    obtain ⟨a1, a2, a3⟩ := hu.2.2 k hk'
    show (gA u 6)[k]? = _ ∧ (gA u 7)[k]? = _ ∧ (gA u 8)[k]? = _
    rw [a1, a2, a3]; exact hk k hk'
  have lp := own_lmP (t := t) (n := n) fun i hi => (hv i hi).2.2.2.1
  have u1 : gI u 1 = Int32.ofNat hyp := (hu.1.2.2 1 (by decide)).trans h1
  obtain ⟨w, ew, hw⟩ := own_whV hu.1.1 hu.2.1 (by omega) K hv hyp y1 y2
  rw [if_pos f1] at hw
  subst hw
  obtain ⟨r, er, fr, ro⟩ := own_edfM hu.1.1 hu.2.1 (by omega) K hv (own_lm t n) lp (by omega)
  refine ⟨r, ?_, (hu.1.mono (by decide) (by decide)).trans (fr.mono (by decide) (by decide)), ?_⟩
  · refine Ev.congr (g := fun N => (f_loadAdmitted N s).bind fun c2 => (f_workHyper N (gI c2 1) c2).bind fun c3 => f_simulate_54 N c3 c2) (fun N => ?_) (Ev.bind eu ?_)
    · unfold f_simulate f_simulate_11 f_simulate_25
      rw [if_pos rfl, if_neg (by decide), if_pos rfl]
    · rw [u1]
      refine Ev.bind ew ?_
      refine Ev.congr (g := fun N => (f_runEdf N (Int32.ofNat (own_lm t n)) u).bind fun c1 => some (c1.1, c1.2)) (fun N => ?_) (Ev.bind er (Ev.const rfl))
      unfold f_simulate_54 f_simulate_61
      rw [if_neg (fun q => by have := (ofN_ltL (m := 1) (by omega) (by decide)).mp q; omega)]
  · rcases ro with ⟨e, -⟩ | ⟨-, p, p1, p2, p3⟩
    · exact e
    · have := f2 p p1 p2; omega
/-! the law -/
def own_Nx (cap hyp : Nat) (p : Int32) (a : List Int32) : Prop := ∀ s n c d t, own_Iv cap hyp s n c d t → own_Ok (fun N => f_law_47 N (p + 4) a s) (· = 1)
theorem own_e256 {cap hyp : Nat} {p : Int32} {a : List Int32} (nx : own_Nx cap hyp p a) {s : St} {n : Nat} {c d t : Nat → Nat} (h : own_Iv cap hyp s n c d t) : own_Ok (fun N => f_law_256 (f_law_47 N) N p a s) (· = 1) := by
  unfold f_law_256 lt
  refine own_Ok.bind (own_sim0 h) fun r hr => ?_
  obtain ⟨r1, u⟩ := r
  obtain ⟨f, e⟩ := hr
  dsimp only at f e ⊢
  subst e
  refine own_Ok.ite (fun q => absurd q (by decide)) fun _ => ?_
  exact nx _ _ _ _ _ (h.fr f (by decide) (by decide) (by decide) (by decide) (by decide) (by decide) (own_i3 h f (by decide)))
theorem own_cell (p : Nat) (hp : p ≤ 1000) (a : List Int32) (hl : a.length ≤ 260) : ∃ x, f_L_cell (Int32.ofNat p) a = some x := by
  have el : a.length.toInt32 = Int32.ofNat a.length := rfl
  unfold f_L_cell f_L_cell_13
  rw [el]
  by_cases q : p < a.length
  · rw [if_pos ((own_ltN (by omega) (by omega)).mpr q), rd_at (by omega) (List.getElem?_eq_getElem q)]
    exact ⟨_, rfl⟩
  · rw [if_neg (fun e => q ((own_ltN (by omega) (by omega)).mp e))]
    exact ⟨_, rfl⟩
theorem own_nzV (x : Int32) : ∃ k, k < 2147483648 ∧ f_L_nz x = some (Int32.ofNat k) := by
  obtain ⟨k, hk, e⟩ := and_natL x 2147483647 (by decide)
  have hk : k ≤ 2147483647 := hk
  have e : x &&& 2147483647 = Int32.ofNat k := e
  refine ⟨k, by omega, ?_⟩
  unfold f_L_nz
  rw [e]
theorem own_perV (x : Int32) : ∃ t, 1 ≤ t ∧ t ≤ 16 ∧ f_L_period x = some (Int32.ofNat t) := by
  obtain ⟨k, hk, e⟩ := own_nzV x
  unfold f_L_period lt
  rw [e, Option.bind_some]
  generalize Int32.ofNat k % 10 = y
  dsimp only
  by_cases c0 : y = 0
  · rw [if_pos c0]; exact ⟨1, by decide, by decide, rfl⟩
  rw [if_neg c0]
  by_cases c1 : y = 1
  · rw [if_pos c1]; exact ⟨2, by decide, by decide, rfl⟩
  rw [if_neg c1]
  by_cases c2 : y = 2
  · rw [if_pos c2]; exact ⟨3, by decide, by decide, rfl⟩
  rw [if_neg c2]
  by_cases c3 : y = 3
  · rw [if_pos c3]; exact ⟨4, by decide, by decide, rfl⟩
  rw [if_neg c3]
  by_cases c4 : y = 4
  · rw [if_pos c4]; exact ⟨5, by decide, by decide, rfl⟩
  rw [if_neg c4]
  by_cases c5 : y = 5
  · rw [if_pos c5]; exact ⟨6, by decide, by decide, rfl⟩
  rw [if_neg c5]
  by_cases c6 : y = 6
  · rw [if_pos c6]; exact ⟨8, by decide, by decide, rfl⟩
  rw [if_neg c6]
  by_cases c7 : y = 7
  · rw [if_pos c7]; exact ⟨10, by decide, by decide, rfl⟩
  rw [if_neg c7]
  by_cases c8 : y = 8
  · rw [if_pos c8]; exact ⟨12, by decide, by decide, rfl⟩
  rw [if_neg c8]
  exact ⟨16, by decide, by decide, rfl⟩
theorem own_remS {cap hyp : Nat} {s : St} {n : Nat} {c d t : Nat → Nat} (h : own_Iv cap hyp s n c d t) (k : Nat) (hk : k < 2147483648) : own_Ok (fun N => f_remove N (Int32.ofNat k % 13) s) (fun r => ∃ n c d t, own_Iv cap hyp r.2 n c d t) := by
  have e : Int32.ofNat k % 13 = Int32.ofNat (k % 13) := own_modN k 13 hk (by decide) (by decide)
  have m13 : k % 13 < 13 := Nat.mod_lt _ (by decide)
  have hb := h.2.2.2.2.1
  rw [e]
  by_cases z : k % 13 < n
  · obtain ⟨m, rfl⟩ : ∃ m, n = m + 1 := ⟨n - 1, by omega⟩
    exact (own_rmV h (k % 13) (by omega)).mono fun r hr => ⟨_, _, _, _, hr.2.2⟩
  · simp only [own_rm0 h (k % 13) (by omega) (by omega)]
    exact own_Ok.ret ⟨_, _, _, _, h⟩
theorem own_Ok.let {α β : Type} {x : β} {F : Nat → β → Option α} {P : α → Prop} (h : own_Ok (fun n => F n x) P) : own_Ok (fun n => lt x (F n)) P := h
theorem own_turn {cap hyp : Nat} {a : List Int32} (hl : a.length ≤ 260) (p : Nat) (hp : p ≤ 300) {s : St} {n : Nat} {c d t : Nat → Nat} (hI : own_Iv cap hyp s n c d t) (next : p < a.length → own_Nx cap hyp (Int32.ofNat p) a) : own_Ok (fun N => g_law_47 (f_law_47 N) N (Int32.ofNat p) a s) (· = 1) := by
  have el : a.length.toInt32 = Int32.ofNat a.length := rfl
  unfold g_law_47
  rw [el]
  refine own_Ok.ite (fun q => ?_) fun _ => own_Ok.ret rfl
  have q := (own_ltN (by omega) (by omega)).mp q
  have nx := next q
  obtain ⟨⟨hn, hc, y1, y2⟩, hk0, hv, -⟩ := hI.2.2.2.2
  obtain ⟨x0, e0⟩ := own_cell p (by omega) a hl
  obtain ⟨x1, e1⟩ := own_cell (p + 1) (by omega) a hl
  obtain ⟨x2, e2⟩ := own_cell (p + 2) (by omega) a hl
  obtain ⟨x3, e3⟩ := own_cell (p + 3) (by omega) a hl
  have q1 : Int32.ofNat p + 1 = Int32.ofNat (p + 1) := (Int32.ofNat_add p 1).symm
  have q2 : Int32.ofNat p + 2 = Int32.ofNat (p + 2) := (Int32.ofNat_add p 2).symm
  have q3 : Int32.ofNat p + 3 = Int32.ofNat (p + 3) := (Int32.ofNat_add p 3).symm
  rw [q1, q2, q3, e0, e1, e2, e3]
  refine own_Ok.some_bind ?_
  refine own_Ok.let ?_
  refine own_Ok.ite (fun _ => ?_) fun _ => ?_
  · refine own_Ok.ite (fun _ => ?_) fun _ => ?_
    · refine own_Ok.some_bind ?_
      obtain ⟨k, hk, ek⟩ := own_nzV x1
      rw [ek]
      refine own_Ok.some_bind ?_
      refine own_Ok.bind (own_remS hI k hk) fun r hr => ?_
      obtain ⟨n', c', d', t', I'⟩ := hr
      exact own_e256 nx I'
    · refine own_Ok.ite (fun _ => ?_) fun _ => own_e256 nx hI
      refine own_Ok.some_bind ?_
      refine own_Ok.ite (fun _ => ?_) fun _ => ?_
      · unfold f_clear lt
        refine own_Ok.some_bind ?_
        obtain ⟨z1, z2, z3, z4, z5, z6, z7, z8, z9⟩ := hI
        exact own_e256 nx (n := 0) (c := c) (d := d) (t := t) ⟨z1, z2, z3, rfl, ⟨by omega, hc, y1, y2⟩, fun k hk => absurd hk (Nat.not_lt_zero _), fun k hk => absurd hk (Nat.not_lt_zero _), fun h => absurd h (by omega), z9⟩
      · refine own_Ok.some_bind ?_
        obtain ⟨k, hk, ek⟩ := own_nzV x2
        rw [ek]
        refine own_Ok.some_bind ?_
        refine own_Ok.bind (own_remS hI k hk) fun r hr => ?_
        obtain ⟨n', c', d', t', I'⟩ := hr
        exact own_e256 nx I'
  refine own_Ok.some_bind ?_
  obtain ⟨z, z1, z2, ez⟩ := own_perV x1
  rw [ez]
  refine own_Ok.some_bind ?_
  refine own_Ok.some_bind ?_
  obtain ⟨k1, hk1, ek1⟩ := own_nzV x2
  obtain ⟨k2, hk2, ek2⟩ := own_nzV x3
  rw [ek1]
  refine own_Ok.some_bind ?_
  have nz : ¬ Int32.ofNat z = 0 := fun q => by have := (ofN_eqL (m := 0) (by omega) (by decide)).mp q; omega
  refine own_Ok.ite (fun q => absurd q nz) fun _ => ?_
  refine own_Ok.let ?_
  refine own_Ok.some_bind ?_
  rw [ek2]
  refine own_Ok.some_bind ?_
  refine own_Ok.ite (fun q => absurd q nz) fun _ => ?_
  refine own_Ok.let ?_
  rw [own_modN k1 z hk1 (by omega) (by omega), own_modN k2 z hk2 (by omega) (by omega)]
  have m1 : k1 % z < z := Nat.mod_lt _ (by omega)
  have m2 : k2 % z < z := Nat.mod_lt _ (by omega)
  have ex : (1 : Int32) + Int32.ofNat (k1 % z) = Int32.ofNat (1 + k1 % z) := (Int32.ofNat_add 1 _).symm
  have ey : (1 : Int32) + Int32.ofNat (k2 % z) = Int32.ofNat (1 + k2 % z) := (Int32.ofNat_add 1 _).symm
  rw [ex, ey]
  obtain ⟨x, hx⟩ : ∃ x, x = 1 + k1 % z := ⟨_, rfl⟩
  obtain ⟨y, hy⟩ : ∃ y, y = 1 + k2 % z := ⟨_, rfl⟩
  rw [← hx, ← hy]
  refine own_Ok.bind (own_prpG hI x y z (by omega) (by omega) (by omega)) fun r hr => ?_
  unfold f_law_144 f_law_164 f_law_179
  rcases hr with ⟨-, rfl⟩ | ⟨-, -, rfl⟩ | ⟨n5, hval, hr⟩
  · dsimp only
    refine own_Ok.ite (fun _ => ?_) fun q => absurd (by decide) q
    exact own_Ok.ite (fun q => absurd q (by decide)) fun _ => own_e256 nx hI
  · dsimp only
    refine own_Ok.ite (fun _ => ?_) fun q => absurd (by decide) q
    exact own_Ok.ite (fun q => absurd q (by decide)) fun _ => own_e256 nx hI
  have iv := own_Pr.iv hI n5 (by omega) (by omega) (by omega) hr
  have hva := own_VdA (n := n) hv (x := x) (y := y) (z := z) (by omega) (by omega) (by omega)
  have lpa := own_lmP (t := own_ap t n z) (n := n + 1) fun i hi => (hva i hi).2.2.2.1
  obtain ⟨r1, u⟩ := r
  rcases hr with ⟨big, e, f, -⟩ | ⟨small, ck, g3, g4, g5, g7, ov⟩
  · dsimp only at e f ⊢
    subst e
    refine own_Ok.ite (fun _ => ?_) fun q => absurd (by decide) q
    exact own_Ok.ite (fun q => absurd q (by decide)) fun _ => own_e256 nx (hI.fr f (by decide) (by decide) (by decide) (by decide) (by decide) (by decide) (own_i3 hI f (by decide)))
  dsimp only at ck g3 g4 g5 ov iv ⊢
  rcases ov with ⟨pp, p1, p2, pd, -, -, e, f⟩ | ⟨fit, -, e, f, g2, -⟩
  · subst e
    have I2 := hI.fr f (by decide) (by decide) (by decide) (by decide) (by decide) (by decide) ⟨n + 1, by omega, g3⟩
    refine own_Ok.ite (fun _ => ?_) fun q => absurd (by decide) q
    refine own_Ok.ite (fun _ => ?_) fun q => absurd rfl q
    refine own_Ok.bind (own_sim1 f.1 (by omega) g3 g4 g5 lpa (by omega) ck hva) fun r hr => ?_
    obtain ⟨w1, u1⟩ := r
    obtain ⟨f1, hr⟩ := hr
    dsimp only at f1 hr ⊢
    refine own_Ok.ite (fun _ => ?_) fun q => absurd (by decide) q
    refine own_Ok.ite (fun _ => ?_) fun q => absurd rfl q
    rcases hr with ⟨-, ok⟩ | ⟨e, -⟩
    · have := ok pp p1 p2; omega
    · subst e
      refine own_Ok.ite (fun _ => ?_) fun q => absurd rfl q
      exact own_e256 nx (I2.fr f1 (by decide) (by decide) (by decide) (by decide) (by decide) (by decide) (own_i3 I2 f1 (by decide)))
  · subst e
    have I2 : own_Iv cap hyp u (n + 1) (own_ap c n x) (own_ap d n y) (own_ap t n z) := by
      rcases iv with w | ⟨-, w⟩
      · have := w.2.2.2.1
        rw [g2] at this
        have := (ofN_eq (by omega) (by omega)).mp this
        omega
      · exact w
    refine own_Ok.ite (fun q => absurd q (ofN_nn (by omega))) fun _ => ?_
    refine own_Ok.bind (own_sim1 f.1 (by omega) g3 g4 g5 lpa (by omega) ck hva) fun r hr => ?_
    obtain ⟨w1, u1⟩ := r
    obtain ⟨f1, hr⟩ := hr
    dsimp only at f1 hr ⊢
    refine own_Ok.ite (fun q => absurd q (ofN_nn (by omega))) fun _ => ?_
    rcases hr with ⟨e, -⟩ | ⟨-, pp, p1, p2, pd⟩
    · subst e
      refine own_Ok.ite (fun _ => ?_) fun q => absurd rfl q
      refine own_Ok.ite (fun q => absurd (ofN_nn (i := n) (by omega)) (by rw [q]; decide)) fun _ => ?_
      exact own_e256 nx (I2.fr f1 (by decide) (by decide) (by decide) (by decide) (by decide) (by decide) (own_i3 I2 f1 (by decide)))
    · have := fit.2 pp p1 p2; omega
theorem own_loop {cap hyp : Nat} {a : List Int32} (hl : a.length ≤ 260) : ∀ (k p : Nat) (s : St) (n : Nat) (c d t : Nat → Nat), p ≤ 300 → 300 ≤ p + k → own_Iv cap hyp s n c d t → own_Ok (fun N => f_law_47 N (Int32.ofNat p) a s) (· = 1) := by
  intro k
  induction k with
  | zero =>
    intro p s n c d t hp hk hI
    refine own_Ok.step (g := fun N => g_law_47 (f_law_47 N) N (Int32.ofNat p) a s) (fun n => rfl) ?_
    exact own_turn hl p hp hI fun q => absurd q (by omega)
  | succ k ih =>
    intro p s n c d t hp hk hI
    refine own_Ok.step (g := fun N => g_law_47 (f_law_47 N) N (Int32.ofNat p) a s) (fun n => rfl) ?_
    refine own_turn hl p hp hI fun q s n c d t h => ?_
    rw [show Int32.ofNat p + 4 = Int32.ofNat (p + 4) from (Int32.ofNat_add p 4).symm]
    exact ih (p + 4) s n c d t (by omega) (by omega) h
theorem own_init (cap hyp : Nat) (c1 : 1 ≤ cap) (c2 : cap ≤ 12) (h1 : 1 ≤ hyp) (h2 : hyp ≤ 2048) : ∃ s, f_init (Int32.ofNat cap) (Int32.ofNat hyp) = some s ∧ own_Iv cap hyp s 0 (fun _ => 0) (fun _ => 0) (fun _ => 0) := by
  have e1 : ∀ s, f_clamp (Int32.ofNat cap) 1 12 s = some (Int32.ofNat cap) := fun s => by
    unfold f_clamp
    rw [if_neg (fun q => by have := (ofN_ltL (m := 1) (by omega) (by decide)).mp q; omega), if_neg (fun q => by have := (ofN_gtL (m := 12) (by omega) (by decide)).mp q; omega)]
  have e2 : ∀ s, f_clamp (Int32.ofNat hyp) 1 2048 s = some (Int32.ofNat hyp) := fun s => by
    unfold f_clamp
    rw [if_neg (fun q => by have := (ofN_ltL (m := 1) (by omega) (by decide)).mp q; omega), if_neg (fun q => by have := (ofN_gtL (m := 2048) (by omega) (by decide)).mp q; omega)]
  unfold f_init lt
  dsimp only
  rw [e1, Option.bind_some, e2, Option.bind_some]
  refine ⟨_, rfl, ?_, rfl, rfl, rfl, ⟨by omega, c2, h1, h2⟩, fun k hk => absurd hk (Nat.not_lt_zero _), fun k hk => absurd hk (Nat.not_lt_zero _), fun h => absurd h (by omega), 0, by omega, rfl⟩
  intro j hj
  have : j = 0 ∨ j = 1 ∨ j = 2 ∨ j = 3 ∨ j = 4 ∨ j = 5 ∨ j = 6 ∨ j = 7 ∨ j = 8 ∨ j = 9 ∨ j = 10 ∨ j = 11 := by omega
  rcases this with rfl | rfl | rfl | rfl | rfl | rfl | rfl | rfl | rfl | rfl | rfl | rfl <;> rfl
theorem own_hyp (x : Int32) : ∃ h, 1 ≤ h ∧ h ≤ 2048 ∧ f_L_hyperChoice x = some (Int32.ofNat h) := by
  unfold f_L_hyperChoice lt
  generalize x &&& 3 = y
  dsimp only
  by_cases c0 : y = 0
  · rw [if_pos c0]; exact ⟨12, by decide, by decide, rfl⟩
  rw [if_neg c0]
  by_cases c1 : y = 1
  · rw [if_pos c1]; exact ⟨48, by decide, by decide, rfl⟩
  rw [if_neg c1]
  by_cases c2 : y = 2
  · rw [if_pos c2]; exact ⟨240, by decide, by decide, rfl⟩
  rw [if_neg c2]
  exact ⟨2048, by decide, by decide, rfl⟩
theorem owed (a : List Int32) (hl : a.length ≤ 260) : ∃ fu, f_law fu a = some 1 := by
  suffices h : own_Ok (fun n => f_law n a) (· = 1) by
    obtain ⟨r, h1, rfl⟩ := h
    exact h1.get
  obtain ⟨x0, e0⟩ := own_cell 0 (by omega) a hl
  obtain ⟨x1, e1⟩ := own_cell 1 (by omega) a hl
  have e0 : f_L_cell 0 a = some x0 := e0
  have e1 : f_L_cell 1 a = some x1 := e1
  obtain ⟨k, hk, ek⟩ := own_nzV x0
  obtain ⟨hyp, h1, h2, eh⟩ := own_hyp x1
  have e12 : Int32.ofNat k % 12 = Int32.ofNat (k % 12) := own_modN k 12 hk (by decide) (by decide)
  have m12 : k % 12 < 12 := Nat.mod_lt _ (by decide)
  have ec : (1 : Int32) + Int32.ofNat (k % 12) = Int32.ofNat (1 + k % 12) := (Int32.ofNat_add 1 _).symm
  obtain ⟨s, es, hs⟩ := own_init (1 + k % 12) hyp (by omega) (by omega) h1 h2
  unfold f_law lt
  rw [e0, e1]
  refine own_Ok.some_bind ?_
  rw [ek]
  refine own_Ok.some_bind ?_
  refine own_Ok.some_bind ?_
  rw [eh]
  refine own_Ok.some_bind ?_
  rw [e12, ec, es]
  refine own_Ok.some_bind ?_
  refine own_Ok.bind (own_sim0 hs) fun r hr => ?_
  obtain ⟨r1, u⟩ := r
  obtain ⟨f, e⟩ := hr
  dsimp only at f e ⊢
  subst e
  refine own_Ok.ite (fun q => absurd q (by decide)) fun _ => ?_
  exact own_loop hl 300 2 u _ _ _ _ (by decide) (by decide) (hs.fr f (by decide) (by decide) (by decide) (by decide) (by decide) (by decide) (own_i3 hs f (by decide)))

set_option maxRecDepth 65536 in
set_option maxHeartbeats 40000000 in
theorem comes_1 {Post : Tables → Env → Array Value → State → Outcome → State → Prop} (hpost : ∀ tb e args s v u, (limb_1_1.after args s (.returned v) u = true ∧ limb_1_2.after args s (.returned v) u = true ∧ True) → FrameEnd s (.returned v) u (Jvm.fieldLocs frame_1_writes args s ++ Jvm.arrayLocs frame_1_arrays args s ++ Jvm.staticLocs frame_1_statics s) 40 448 → Post tb e args s (.returned v) u) :
    ArmFor flags0 classFile x code maxLocals ret World_1 tables_1 room_1 Calls_1 rest_1 Pre_1 Post := by
  intro l hfl _ _ p e ha hc hk s m args below hf hA hF happ hP
  obtain ⟨hcalls, hrest, hpre⟩ := hP
  obtain ⟨-, -, -, hnamed, -, -, -, hat⟩ := (Spec.applies_iff hf).mp happ
  obtain ⟨hg, hn⟩ := and_e (Cond.before_iff.mp (show (Jvm.Cond.and given_1 narrow_1).before args s = true from hpre))
  obtain ⟨g0, q0⟩ := and_e hg
  obtain ⟨w0, rfl⟩ : ∃ w0 : Value, args = #[w0] := by
    have hs : args.size = 1 := by simpa [Cond.value, given_1] using g0
    obtain ⟨L⟩ := args
    match L, hs with
    | [w0], _ => exact ⟨w0, rfl⟩
  have hw := fun d (hd : d ∈ tables_1) => atoms_spec (ws := Jvm.Cond.code x code maxLocals ret :: tables_1) hat d (List.mem_cons_of_mem _ hd)
  have hfit : Fit s := fun {y c} hc i hi => by
    obtain ⟨ha, rfl⟩ := Array.getElem?_eq_some_iff.mp hc
    have q := List.all_eq_true.mp ((Array.all_eq_true_iff_forall_mem.mp hF) _ (Array.getElem_mem ha)) i (List.mem_range.mpr hi)
    simpa [Array.getElem?_eq_getElem hi] using q
  obtain ⟨v0, e0, r0⟩ := isR_v q0
  obtain rfl : w0 = v0 := Option.some.inj e0
  obtain ⟨n1, n2⟩ := and_e hn
  obtain ⟨ra, rfl⟩ : ∃ ra, w0 = .ref ra := by
    rcases ref_cases r0 with rfl | ⟨ra, rfl⟩
    · exfalso
      simp only [Cond.value, e0] at n1
      split at n1 <;> cases n1
    · exact ⟨ra, rfl⟩
  obtain ⟨cl, Ar⟩ := Arr.start e0 n1
  obtain ⟨xs, hxs⟩ := script_ints hfit Ar
  have hlen : xs.length ≤ 260 := by
    have e1 : cl.slots.size = xs.length := by rw [← Array.length_toList, hxs, List.length_map]
    exact script_len e0 Ar e1 n2
  obtain ⟨fu, hfu⟩ := owed xs hlen
  obtain ⟨n, o, h1, h2, h3, _, L, rfl, ⟨w, H', rfl, hv, -, -, N⟩, hq⟩ := okLAW l s _ hw fu xs 1 hfu tables_1 s.heap.size (ad1 ra s.heap.size) s.heap (HR.start1 CN lay Ar hxs) p e ha hc hk s m _ below hf ((Spec.applies_iff_loose hf).mp happ).1 ⟨rfl, State.Warmed39.refl s, rfl⟩ trivial
  obtain rfl : w = some (.int 1) := hv
  refine ⟨n, _, h1, h2, h3, hpost _ _ _ _ _ _ ⟨Cond.after_iff.mpr rfl, Cond.after_iff.mpr (eq_i res_at (Term.int_eval (1)) rfl), trivial⟩ ⟨hq.1, hq.2.1, (hq.2.2.sift fun y hy => Or.inr (N y hy)).mono (by decide) (by decide)⟩⟩
theorem main_1_1 : Claimed_1_1 := comes_1 fun _ _ _ _ _ _ h hF => ⟨h.1, hF⟩
theorem main_1_2 : Claimed_1_2 := comes_1 fun _ _ _ _ _ _ h hF => ⟨h.2.1, hF⟩

end Jvm.Pilot.@@N@@
namespace Jvm.Pilot.@@N@@
open Jvm Jvm.ClassFile Sem Op Lib Jvm.Free Jvm.Stand Jvm.Pilot.@@N@@.Jvm.D
/-! MADE BY PROGRAM (witnessworld.py) out of the Statement's table words and the real class files: 9 classes; the members and pool entries that the words name. The judged class is class 1, her method 5. -/
namespace start1
open Jvm.ClassFile
def u (s : String) : CpInfo := .utf8 (stringToUtf16 s)
/-- a pool by its gaps: so many unusable entries, then the entry; so many at the end -/
def gap : Nat → List CpInfo → List CpInfo
  | 0, r => r
  | n + 1, r => .unusable :: gap n r
def poolList (es : List (Nat × CpInfo)) (last : Nat) : List CpInfo := es.foldr (fun e r => gap e.1 (e.2 :: r)) (gap last [])
def pool (es : List (Nat × CpInfo)) (last : Nat) : Array CpInfo := ⟨poolList es last⟩
def fileOf (pool : Array CpInfo) (this : Nat) (attrs : Array Attribute := #[]) (ms : Array MethodInfo := #[]) (fl : Nat := 33) (sup : Nat := 0) (ifs : Array Nat := #[]) (fds : Array FieldInfo := #[]) : ClassFile where
  minorVersion := 0
  majorVersion := 65
  constantPool := pool
  accessFlags := fl
  thisClass := this
  superClass := sup
  interfaces := ifs
  fields := fds
  methods := ms
  attributes := attrs
def plain (name : String) (sup : Option ClassId) : Class where
  name := name
  kind := .ordinary
  loader := none
  accessFlags := 33
  super := sup
  interfaces := #[]
  cf := none
  fields := #[]
  methods := #[]
  instanceTypes := #[]
  staticTypes := #[]
  resolved := #[]
  callSites := []
  init := .initialized
  statics := none
  mirror := none

def pool0 : Array CpInfo := pool [(5, u "<init>"), (0, u "()V"), (1, .class_ 10), (1, u "java/lang/Object")] 113

def k0c0 : Code := { maxStack := 0, maxLocals := 1, code := object_method_1_code, exceptionTable := #[], attributes := #[] }
def k0m0 : Method := { name := "<init>", desc := "()V", sig := { parameters := [], returnType := none }, accessFlags := 1, code := some k0c0 }
/-- java/lang/Object -/
def k0 : Class := { plain "java/lang/Object" none with
  accessFlags := 33
  interfaces := #[]
  cf := some (fileOf pool0 8 #[] #[{ accessFlags := 1, nameIndex := 5, descriptorIndex := 6, attributes := #[] }] 33 0 #[] #[])
  fields := #[]
  methods := #[k0m0]
  instanceTypes := #[]
  staticTypes := #[]
  resolved := Array.replicate 124 none
  statics := none }

def pool1 : Array CpInfo := pool [(2, .class_ 4), (1, u "java/lang/Object"), (0, u "<init>"), (0, u "()V"), (0, .integer 2147483647), (0, .methodref 9 10), (0, .class_ 11), (0, .nameAndType 12 13), (0, u "DemandGateOwnLaw"), (0, u "nz"), (0, u "(I)I"), (0, .methodref 9 15), (0, .nameAndType 16 17), (0, u "cell"), (0, u "([II)I"), (0, .methodref 9 19), (0, .nameAndType 20 13), (0, u "hyperChoice"), (0, .class_ 22), (0, u "DemandGate"), (0, .methodref 21 24), (0, .nameAndType 5 25), (0, u "(II)V"), (0, .methodref 21 27), (0, .nameAndType 28 13), (0, u "simulate"), (0, .methodref 9 30), (0, .nameAndType 31 13), (0, u "period"), (0, .methodref 21 33), (0, .nameAndType 34 35), (0, u "propose"), (0, u "(III)I"), (0, .methodref 21 37), (0, .nameAndType 38 39), (0, u "remove"), (0, u "(I)Z"), (0, .methodref 21 41), (0, .nameAndType 42 6), (0, u "clear"), (3, u "law"), (0, u "([I)Z")] 4

def k1m0 : Method := { name := "<init>", desc := "()V", sig := { parameters := [], returnType := none }, accessFlags := 1, code := none }
def k1c1 : Code := { maxStack := 2, maxLocals := 2, code := method_2_code, exceptionTable := #[], attributes := #[] }
def k1m1 : Method := { name := "cell", desc := "([II)I", sig := { parameters := [(.array .int), .int], returnType := some .int }, accessFlags := 10, code := some k1c1 }
def k1c2 : Code := { maxStack := 2, maxLocals := 1, code := method_3_code, exceptionTable := #[], attributes := #[] }
def k1m2 : Method := { name := "nz", desc := "(I)I", sig := { parameters := [.int], returnType := some .int }, accessFlags := 10, code := some k1c2 }
def k1c3 : Code := { maxStack := 2, maxLocals := 2, code := method_4_code, exceptionTable := #[], attributes := #[] }
def k1m3 : Method := { name := "period", desc := "(I)I", sig := { parameters := [.int], returnType := some .int }, accessFlags := 10, code := some k1c3 }
def k1c4 : Code := { maxStack := 2, maxLocals := 2, code := method_5_code, exceptionTable := #[], attributes := #[] }
def k1m4 : Method := { name := "hyperChoice", desc := "(I)I", sig := { parameters := [.int], returnType := some .int }, accessFlags := 10, code := some k1c4 }
def k1c5 : Code := { maxStack := 4, maxLocals := 11, code := code, exceptionTable := #[], attributes := #[] }
def k1m5 : Method := { name := "law", desc := "([I)Z", sig := { parameters := [(.array .int)], returnType := some .boolean }, accessFlags := 9, code := some k1c5 }
/-- DemandGateOwnLaw -/
def k1 : Class := { plain "DemandGateOwnLaw" (some 0) with
  accessFlags := 33
  interfaces := #[]
  cf := some (fileOf pool1 9 #[] #[{ accessFlags := 1, nameIndex := 5, descriptorIndex := 6, attributes := #[] }, { accessFlags := 10, nameIndex := 16, descriptorIndex := 17, attributes := #[] }, { accessFlags := 10, nameIndex := 12, descriptorIndex := 13, attributes := #[] }, { accessFlags := 10, nameIndex := 31, descriptorIndex := 13, attributes := #[] }, { accessFlags := 10, nameIndex := 20, descriptorIndex := 13, attributes := #[] }, { accessFlags := 9, nameIndex := 46, descriptorIndex := 47, attributes := #[] }] 33 2 #[] #[])
  fields := #[]
  methods := #[k1m0, k1m1, k1m2, k1m3, k1m4, k1m5]
  instanceTypes := #[]
  staticTypes := #[]
  resolved := Array.replicate 52 none
  statics := none }

def pool2 : Array CpInfo := pool [(1, .methodref 2 3), (0, .class_ 4), (0, .nameAndType 5 6), (0, u "java/lang/Object"), (0, u "<init>"), (0, u "()V"), (0, .fieldref 8 9), (0, .class_ 10), (0, .nameAndType 11 12), (0, u "DemandGate"), (0, u "admC"), (0, u "[I"), (0, .fieldref 8 14), (0, .nameAndType 15 12), (0, u "admD"), (0, .fieldref 8 17), (0, .nameAndType 18 12), (0, u "admT"), (0, .fieldref 8 20), (0, .nameAndType 21 12), (0, u "candC"), (0, .fieldref 8 23), (0, .nameAndType 24 12), (0, u "candD"), (0, .fieldref 8 26), (0, .nameAndType 27 12), (0, u "candT"), (0, .fieldref 8 29), (0, .nameAndType 30 12), (0, u "wC"), (0, .fieldref 8 32), (0, .nameAndType 33 12), (0, u "wD"), (0, .fieldref 8 35), (0, .nameAndType 36 12), (0, u "wT"), (0, .fieldref 8 38), (0, .nameAndType 39 12), (0, u "nextDl"), (0, .fieldref 8 41), (0, .nameAndType 42 12), (0, u "rem"), (0, .fieldref 8 44), (0, .nameAndType 45 12), (0, u "absDl"), (0, .methodref 8 47), (0, .nameAndType 48 49), (0, u "clamp"), (0, u "(III)I"), (0, .fieldref 8 51), (0, .nameAndType 52 53), (0, u "cap"), (0, u "I"), (0, .fieldref 8 55), (0, .nameAndType 56 53), (0, u "limit"), (0, .fieldref 8 58), (0, .nameAndType 59 53), (0, u "admN"), (0, .fieldref 8 61), (0, .nameAndType 62 53), (0, u "candN"), (0, .fieldref 8 64), (0, .nameAndType 65 66), (0, u "candHeld"), (0, u "Z"), (0, .fieldref 8 68), (0, .nameAndType 69 53), (0, u "candH"), (0, .fieldref 8 71), (0, .nameAndType 72 53), (0, u "lastOverload"), (0, .fieldref 8 74), (0, .nameAndType 75 53), (0, u "lastHyper"), (0, .fieldref 8 77), (0, .nameAndType 78 53), (0, u "missDeadline"), (0, .fieldref 8 80), (0, .nameAndType 81 53), (0, u "missTask"), (0, .fieldref 8 83), (0, .nameAndType 84 53), (0, u "idleUnits"), (0, .fieldref 8 86), (0, .nameAndType 87 53), (0, u "wN"), (0, .methodref 8 89), (0, .nameAndType 90 91), (0, u "validParams"), (0, u "(III)Z"), (0, .methodref 8 93), (0, .nameAndType 94 6), (0, u "loadAdmitted"), (0, .methodref 8 96), (0, .nameAndType 97 91), (0, u "appendWork"), (0, .methodref 8 99), (0, .nameAndType 100 101), (0, u "workHyper"), (0, u "(I)I"), (0, .methodref 8 103), (0, .nameAndType 104 105), (0, u "storeCandidate"), (0, u "(I)V"), (0, .methodref 8 107), (0, .nameAndType 108 101), (0, u "overloadOfWork"), (0, .methodref 8 110), (0, .nameAndType 111 49), (0, u "admitTask"), (4, .methodref 8 117), (0, .nameAndType 118 6), (0, u "loadCandidate"), (0, .methodref 8 120), (0, .nameAndType 121 101), (0, u "runEdf"), (0, .methodref 8 123), (0, .nameAndType 124 125), (0, u "gcd"), (0, u "(JJ)J"), (0, .methodref 8 127), (0, .nameAndType 128 125), (0, u "lcm"), (0, .methodref 8 130), (0, .nameAndType 131 132), (0, u "implicitWithinCapacity"), (0, u "(I)Z"), (0, .methodref 8 134), (0, .nameAndType 135 101), (0, u "scanDeadlinePoints"), (0, .methodref 8 137), (0, .nameAndType 138 139), (0, u "earliestNextDeadline"), (0, u "()I"), (0, .methodref 8 141), (0, .nameAndType 142 143), (0, u "consumeDeadlinesAt"), (0, u "(I)J"), (0, .integer 2147483647), (0, .methodref 8 146), (0, .nameAndType 147 6), (0, u "resetJobs"), (0, .methodref 8 149), (0, .nameAndType 150 101), (0, u "firstMissAt"), (0, .methodref 8 152), (0, .nameAndType 153 154), (0, u "recordRun"), (0, u "(III)V"), (0, .methodref 8 156), (0, .nameAndType 157 105), (0, u "releaseAt"), (0, .methodref 8 159), (0, .nameAndType 160 161), (0, u "dispatchSlot"), (0, u "()Z"), (0, .methodref 8 163), (0, .nameAndType 164 161), (0, u "anyPending"), (0, .methodref 8 166), (0, .nameAndType 167 168), (0, u "nextReleaseAfter"), (0, u "(II)I"), (0, u "MAX_CAPACITY"), (2, u "MAX_HYPER_LIMIT"), (1, u "MAX_PARAM"), (0, u "REFUSED_FULL"), (1, u "REFUSED_PARAM"), (1, u "REFUSED_HYPER"), (1, u "REFUSED_DEMAND"), (1, u "SIM_ADMITTED"), (1, u "SIM_CANDIDATE"), (1, u "SIM_NONE"), (0, u "SIM_MET"), (0, u "SIM_MISSED"), (1, u "(II)V"), (2, u "propose"), (1, u "remove"), (0, u "clear"), (7, u "simulate")] 2

def k2c0 : Code := { maxStack := 5, maxLocals := 3, code := prog_1_method_1_code, exceptionTable := #[], attributes := #[] }
def k2m0 : Method := { name := "<init>", desc := "(II)V", sig := { parameters := [.int, .int], returnType := none }, accessFlags := 1, code := some k2c0 }
def k2c1 : Code := { maxStack := 4, maxLocals := 5, code := prog_1_method_2_code, exceptionTable := #[], attributes := #[] }
def k2m1 : Method := { name := "propose", desc := "(III)I", sig := { parameters := [.int, .int, .int], returnType := some .int }, accessFlags := 1, code := some k2c1 }
def k2c2 : Code := { maxStack := 5, maxLocals := 3, code := prog_1_method_3_code, exceptionTable := #[], attributes := #[] }
def k2m2 : Method := { name := "remove", desc := "(I)Z", sig := { parameters := [.int], returnType := some .boolean }, accessFlags := 1, code := some k2c2 }
def k2c3 : Code := { maxStack := 2, maxLocals := 1, code := prog_1_method_4_code, exceptionTable := #[], attributes := #[] }
def k2m3 : Method := { name := "clear", desc := "()V", sig := { parameters := [], returnType := none }, accessFlags := 1, code := some k2c3 }
def k2c4 : Code := { maxStack := 2, maxLocals := 3, code := prog_1_method_14_code, exceptionTable := #[], attributes := #[] }
def k2m4 : Method := { name := "simulate", desc := "(I)I", sig := { parameters := [.int], returnType := some .int }, accessFlags := 1, code := some k2c4 }
def k2c5 : Code := { maxStack := 2, maxLocals := 4, code := prog_1_method_18_code, exceptionTable := #[], attributes := #[] }
def k2m5 : Method := { name := "clamp", desc := "(III)I", sig := { parameters := [.int, .int, .int], returnType := some .int }, accessFlags := 2, code := some k2c5 }
def k2c6 : Code := { maxStack := 2, maxLocals := 4, code := prog_1_method_19_code, exceptionTable := #[], attributes := #[] }
def k2m6 : Method := { name := "validParams", desc := "(III)Z", sig := { parameters := [.int, .int, .int], returnType := some .boolean }, accessFlags := 2, code := some k2c6 }
def k2c7 : Code := { maxStack := 5, maxLocals := 2, code := prog_1_method_20_code, exceptionTable := #[], attributes := #[] }
def k2m7 : Method := { name := "loadAdmitted", desc := "()V", sig := { parameters := [], returnType := none }, accessFlags := 2, code := some k2c7 }
def k2c8 : Code := { maxStack := 5, maxLocals := 2, code := prog_1_method_21_code, exceptionTable := #[], attributes := #[] }
def k2m8 : Method := { name := "loadCandidate", desc := "()V", sig := { parameters := [], returnType := none }, accessFlags := 2, code := some k2c8 }
def k2c9 : Code := { maxStack := 3, maxLocals := 4, code := prog_1_method_22_code, exceptionTable := #[], attributes := #[] }
def k2m9 : Method := { name := "appendWork", desc := "(III)Z", sig := { parameters := [.int, .int, .int], returnType := some .boolean }, accessFlags := 2, code := some k2c9 }
def k2c10 : Code := { maxStack := 4, maxLocals := 3, code := prog_1_method_23_code, exceptionTable := #[], attributes := #[] }
def k2m10 : Method := { name := "storeCandidate", desc := "(I)V", sig := { parameters := [.int], returnType := none }, accessFlags := 2, code := some k2c10 }
def k2c11 : Code := { maxStack := 3, maxLocals := 4, code := prog_1_method_24_code, exceptionTable := #[], attributes := #[] }
def k2m11 : Method := { name := "admitTask", desc := "(III)I", sig := { parameters := [.int, .int, .int], returnType := some .int }, accessFlags := 2, code := some k2c11 }
def k2c12 : Code := { maxStack := 4, maxLocals := 12, code := prog_1_method_25_code, exceptionTable := #[], attributes := #[] }
def k2m12 : Method := { name := "gcd", desc := "(JJ)J", sig := { parameters := [.long, .long], returnType := some .long }, accessFlags := 2, code := some k2c12 }
def k2c13 : Code := { maxStack := 5, maxLocals := 7, code := prog_1_method_26_code, exceptionTable := #[], attributes := #[] }
def k2m13 : Method := { name := "lcm", desc := "(JJ)J", sig := { parameters := [.long, .long], returnType := some .long }, accessFlags := 2, code := some k2c13 }
def k2c14 : Code := { maxStack := 5, maxLocals := 5, code := prog_1_method_27_code, exceptionTable := #[], attributes := #[] }
def k2m14 : Method := { name := "workHyper", desc := "(I)I", sig := { parameters := [.int], returnType := some .int }, accessFlags := 2, code := some k2c14 }
def k2c15 : Code := { maxStack := 2, maxLocals := 2, code := prog_1_method_28_code, exceptionTable := #[], attributes := #[] }
def k2m15 : Method := { name := "overloadOfWork", desc := "(I)I", sig := { parameters := [.int], returnType := some .int }, accessFlags := 2, code := some k2c15 }
def k2c16 : Code := { maxStack := 7, maxLocals := 5, code := prog_1_method_29_code, exceptionTable := #[], attributes := #[] }
def k2m16 : Method := { name := "implicitWithinCapacity", desc := "(I)Z", sig := { parameters := [.int], returnType := some .boolean }, accessFlags := 2, code := some k2c16 }
def k2c17 : Code := { maxStack := 4, maxLocals := 6, code := prog_1_method_30_code, exceptionTable := #[], attributes := #[] }
def k2m17 : Method := { name := "scanDeadlinePoints", desc := "(I)I", sig := { parameters := [.int], returnType := some .int }, accessFlags := 2, code := some k2c17 }
def k2c18 : Code := { maxStack := 2, maxLocals := 3, code := prog_1_method_31_code, exceptionTable := #[], attributes := #[] }
def k2m18 : Method := { name := "earliestNextDeadline", desc := "()I", sig := { parameters := [], returnType := some .int }, accessFlags := 2, code := some k2c18 }
def k2c19 : Code := { maxStack := 5, maxLocals := 5, code := prog_1_method_32_code, exceptionTable := #[], attributes := #[] }
def k2m19 : Method := { name := "consumeDeadlinesAt", desc := "(I)J", sig := { parameters := [.int], returnType := some .long }, accessFlags := 2, code := some k2c19 }
def k2c20 : Code := { maxStack := 4, maxLocals := 6, code := prog_1_method_34_code, exceptionTable := #[], attributes := #[] }
def k2m20 : Method := { name := "runEdf", desc := "(I)I", sig := { parameters := [.int], returnType := some .int }, accessFlags := 2, code := some k2c20 }
def k2c21 : Code := { maxStack := 3, maxLocals := 2, code := prog_1_method_35_code, exceptionTable := #[], attributes := #[] }
def k2m21 : Method := { name := "resetJobs", desc := "()V", sig := { parameters := [], returnType := none }, accessFlags := 2, code := some k2c21 }
def k2c22 : Code := { maxStack := 2, maxLocals := 4, code := prog_1_method_36_code, exceptionTable := #[], attributes := #[] }
def k2m22 : Method := { name := "recordRun", desc := "(III)V", sig := { parameters := [.int, .int, .int], returnType := none }, accessFlags := 2, code := some k2c22 }
def k2c23 : Code := { maxStack := 2, maxLocals := 3, code := prog_1_method_37_code, exceptionTable := #[], attributes := #[] }
def k2m23 : Method := { name := "firstMissAt", desc := "(I)I", sig := { parameters := [.int], returnType := some .int }, accessFlags := 2, code := some k2c23 }
def k2c24 : Code := { maxStack := 5, maxLocals := 3, code := prog_1_method_38_code, exceptionTable := #[], attributes := #[] }
def k2m24 : Method := { name := "releaseAt", desc := "(I)V", sig := { parameters := [.int], returnType := none }, accessFlags := 2, code := some k2c24 }
def k2c25 : Code := { maxStack := 4, maxLocals := 3, code := prog_1_method_39_code, exceptionTable := #[], attributes := #[] }
def k2m25 : Method := { name := "dispatchSlot", desc := "()Z", sig := { parameters := [], returnType := some .boolean }, accessFlags := 2, code := some k2c25 }
def k2c26 : Code := { maxStack := 2, maxLocals := 2, code := prog_1_method_40_code, exceptionTable := #[], attributes := #[] }
def k2m26 : Method := { name := "anyPending", desc := "()Z", sig := { parameters := [], returnType := some .boolean }, accessFlags := 2, code := some k2c26 }
def k2c27 : Code := { maxStack := 3, maxLocals := 6, code := prog_1_method_41_code, exceptionTable := #[], attributes := #[] }
def k2m27 : Method := { name := "nextReleaseAfter", desc := "(II)I", sig := { parameters := [.int, .int], returnType := some .int }, accessFlags := 2, code := some k2c27 }
/-- DemandGate -/
def k2 : Class := { plain "DemandGate" (some 0) with
  accessFlags := 49
  interfaces := #[]
  cf := some (fileOf pool2 8 #[] #[{ accessFlags := 1, nameIndex := 5, descriptorIndex := 191, attributes := #[] }, { accessFlags := 1, nameIndex := 194, descriptorIndex := 49, attributes := #[] }, { accessFlags := 1, nameIndex := 196, descriptorIndex := 132, attributes := #[] }, { accessFlags := 1, nameIndex := 197, descriptorIndex := 6, attributes := #[] }, { accessFlags := 1, nameIndex := 205, descriptorIndex := 101, attributes := #[] }, { accessFlags := 2, nameIndex := 48, descriptorIndex := 49, attributes := #[] }, { accessFlags := 2, nameIndex := 90, descriptorIndex := 91, attributes := #[] }, { accessFlags := 2, nameIndex := 94, descriptorIndex := 6, attributes := #[] }, { accessFlags := 2, nameIndex := 118, descriptorIndex := 6, attributes := #[] }, { accessFlags := 2, nameIndex := 97, descriptorIndex := 91, attributes := #[] }, { accessFlags := 2, nameIndex := 104, descriptorIndex := 105, attributes := #[] }, { accessFlags := 2, nameIndex := 111, descriptorIndex := 49, attributes := #[] }, { accessFlags := 2, nameIndex := 124, descriptorIndex := 125, attributes := #[] }, { accessFlags := 2, nameIndex := 128, descriptorIndex := 125, attributes := #[] }, { accessFlags := 2, nameIndex := 100, descriptorIndex := 101, attributes := #[] }, { accessFlags := 2, nameIndex := 108, descriptorIndex := 101, attributes := #[] }, { accessFlags := 2, nameIndex := 131, descriptorIndex := 132, attributes := #[] }, { accessFlags := 2, nameIndex := 135, descriptorIndex := 101, attributes := #[] }, { accessFlags := 2, nameIndex := 138, descriptorIndex := 139, attributes := #[] }, { accessFlags := 2, nameIndex := 142, descriptorIndex := 143, attributes := #[] }, { accessFlags := 2, nameIndex := 121, descriptorIndex := 101, attributes := #[] }, { accessFlags := 2, nameIndex := 147, descriptorIndex := 6, attributes := #[] }, { accessFlags := 2, nameIndex := 153, descriptorIndex := 154, attributes := #[] }, { accessFlags := 2, nameIndex := 150, descriptorIndex := 101, attributes := #[] }, { accessFlags := 2, nameIndex := 157, descriptorIndex := 105, attributes := #[] }, { accessFlags := 2, nameIndex := 160, descriptorIndex := 161, attributes := #[] }, { accessFlags := 2, nameIndex := 164, descriptorIndex := 161, attributes := #[] }, { accessFlags := 2, nameIndex := 167, descriptorIndex := 168, attributes := #[] }] 49 2 #[] #[{ accessFlags := 25, nameIndex := 169, descriptorIndex := 53, attributes := #[] }, { accessFlags := 25, nameIndex := 172, descriptorIndex := 53, attributes := #[] }, { accessFlags := 25, nameIndex := 174, descriptorIndex := 53, attributes := #[] }, { accessFlags := 25, nameIndex := 175, descriptorIndex := 53, attributes := #[] }, { accessFlags := 25, nameIndex := 177, descriptorIndex := 53, attributes := #[] }, { accessFlags := 25, nameIndex := 179, descriptorIndex := 53, attributes := #[] }, { accessFlags := 25, nameIndex := 181, descriptorIndex := 53, attributes := #[] }, { accessFlags := 25, nameIndex := 183, descriptorIndex := 53, attributes := #[] }, { accessFlags := 25, nameIndex := 185, descriptorIndex := 53, attributes := #[] }, { accessFlags := 25, nameIndex := 187, descriptorIndex := 53, attributes := #[] }, { accessFlags := 25, nameIndex := 188, descriptorIndex := 53, attributes := #[] }, { accessFlags := 25, nameIndex := 189, descriptorIndex := 53, attributes := #[] }, { accessFlags := 2, nameIndex := 52, descriptorIndex := 53, attributes := #[] }, { accessFlags := 2, nameIndex := 56, descriptorIndex := 53, attributes := #[] }, { accessFlags := 18, nameIndex := 11, descriptorIndex := 12, attributes := #[] }, { accessFlags := 18, nameIndex := 15, descriptorIndex := 12, attributes := #[] }, { accessFlags := 18, nameIndex := 18, descriptorIndex := 12, attributes := #[] }, { accessFlags := 2, nameIndex := 59, descriptorIndex := 53, attributes := #[] }, { accessFlags := 18, nameIndex := 21, descriptorIndex := 12, attributes := #[] }, { accessFlags := 18, nameIndex := 24, descriptorIndex := 12, attributes := #[] }, { accessFlags := 18, nameIndex := 27, descriptorIndex := 12, attributes := #[] }, { accessFlags := 2, nameIndex := 62, descriptorIndex := 53, attributes := #[] }, { accessFlags := 2, nameIndex := 65, descriptorIndex := 66, attributes := #[] }, { accessFlags := 2, nameIndex := 69, descriptorIndex := 53, attributes := #[] }, { accessFlags := 2, nameIndex := 72, descriptorIndex := 53, attributes := #[] }, { accessFlags := 2, nameIndex := 75, descriptorIndex := 53, attributes := #[] }, { accessFlags := 2, nameIndex := 78, descriptorIndex := 53, attributes := #[] }, { accessFlags := 2, nameIndex := 81, descriptorIndex := 53, attributes := #[] }, { accessFlags := 2, nameIndex := 84, descriptorIndex := 53, attributes := #[] }, { accessFlags := 18, nameIndex := 30, descriptorIndex := 12, attributes := #[] }, { accessFlags := 18, nameIndex := 33, descriptorIndex := 12, attributes := #[] }, { accessFlags := 18, nameIndex := 36, descriptorIndex := 12, attributes := #[] }, { accessFlags := 2, nameIndex := 87, descriptorIndex := 53, attributes := #[] }, { accessFlags := 18, nameIndex := 39, descriptorIndex := 12, attributes := #[] }, { accessFlags := 18, nameIndex := 42, descriptorIndex := 12, attributes := #[] }, { accessFlags := 18, nameIndex := 45, descriptorIndex := 12, attributes := #[] }])
  fields := #[{ name := "MAX_CAPACITY", type := .int, accessFlags := 25, slot := 0, constantValue := 0 }, { name := "MAX_HYPER_LIMIT", type := .int, accessFlags := 25, slot := 1, constantValue := 0 }, { name := "MAX_PARAM", type := .int, accessFlags := 25, slot := 2, constantValue := 0 }, { name := "REFUSED_FULL", type := .int, accessFlags := 25, slot := 3, constantValue := 0 }, { name := "REFUSED_PARAM", type := .int, accessFlags := 25, slot := 4, constantValue := 0 }, { name := "REFUSED_HYPER", type := .int, accessFlags := 25, slot := 5, constantValue := 0 }, { name := "REFUSED_DEMAND", type := .int, accessFlags := 25, slot := 6, constantValue := 0 }, { name := "SIM_ADMITTED", type := .int, accessFlags := 25, slot := 7, constantValue := 0 }, { name := "SIM_CANDIDATE", type := .int, accessFlags := 25, slot := 8, constantValue := 0 }, { name := "SIM_NONE", type := .int, accessFlags := 25, slot := 9, constantValue := 0 }, { name := "SIM_MET", type := .int, accessFlags := 25, slot := 10, constantValue := 0 }, { name := "SIM_MISSED", type := .int, accessFlags := 25, slot := 11, constantValue := 0 }, { name := "cap", type := .int, accessFlags := 2, slot := 0, constantValue := 0 }, { name := "limit", type := .int, accessFlags := 2, slot := 1, constantValue := 0 }, { name := "admC", type := (.array .int), accessFlags := 18, slot := 2, constantValue := 0 }, { name := "admD", type := (.array .int), accessFlags := 18, slot := 3, constantValue := 0 }, { name := "admT", type := (.array .int), accessFlags := 18, slot := 4, constantValue := 0 }, { name := "admN", type := .int, accessFlags := 2, slot := 5, constantValue := 0 }, { name := "candC", type := (.array .int), accessFlags := 18, slot := 6, constantValue := 0 }, { name := "candD", type := (.array .int), accessFlags := 18, slot := 7, constantValue := 0 }, { name := "candT", type := (.array .int), accessFlags := 18, slot := 8, constantValue := 0 }, { name := "candN", type := .int, accessFlags := 2, slot := 9, constantValue := 0 }, { name := "candHeld", type := .boolean, accessFlags := 2, slot := 10, constantValue := 0 }, { name := "candH", type := .int, accessFlags := 2, slot := 11, constantValue := 0 }, { name := "lastOverload", type := .int, accessFlags := 2, slot := 12, constantValue := 0 }, { name := "lastHyper", type := .int, accessFlags := 2, slot := 13, constantValue := 0 }, { name := "missDeadline", type := .int, accessFlags := 2, slot := 14, constantValue := 0 }, { name := "missTask", type := .int, accessFlags := 2, slot := 15, constantValue := 0 }, { name := "idleUnits", type := .int, accessFlags := 2, slot := 16, constantValue := 0 }, { name := "wC", type := (.array .int), accessFlags := 18, slot := 17, constantValue := 0 }, { name := "wD", type := (.array .int), accessFlags := 18, slot := 18, constantValue := 0 }, { name := "wT", type := (.array .int), accessFlags := 18, slot := 19, constantValue := 0 }, { name := "wN", type := .int, accessFlags := 2, slot := 20, constantValue := 0 }, { name := "nextDl", type := (.array .int), accessFlags := 18, slot := 21, constantValue := 0 }, { name := "rem", type := (.array .int), accessFlags := 18, slot := 22, constantValue := 0 }, { name := "absDl", type := (.array .int), accessFlags := 18, slot := 23, constantValue := 0 }]
  methods := #[k2m0, k2m1, k2m2, k2m3, k2m4, k2m5, k2m6, k2m7, k2m8, k2m9, k2m10, k2m11, k2m12, k2m13, k2m14, k2m15, k2m16, k2m17, k2m18, k2m19, k2m20, k2m21, k2m22, k2m23, k2m24, k2m25, k2m26, k2m27]
  instanceTypes := #[.int, .int, (.array .int), (.array .int), (.array .int), .int, (.array .int), (.array .int), (.array .int), .int, .boolean, .int, .int, .int, .int, .int, .int, (.array .int), (.array .int), (.array .int), .int, (.array .int), (.array .int), (.array .int)]
  staticTypes := #[.int, .int, .int, .int, .int, .int, .int, .int, .int, .int, .int, .int]
  resolved := Array.replicate 208 none
  statics := none }

def pool3 : Array CpInfo := pool [(1, u "java/lang/Cloneable"), (0, .class_ 1), (0, u "java/lang/Object"), (0, .class_ 3)] 3

/-- java/lang/Cloneable -/
def k3 : Class := { plain "java/lang/Cloneable" (some 0) with
  accessFlags := 1537
  interfaces := #[]
  cf := some (fileOf pool3 2 #[] #[] 1537 4 #[] #[])
  fields := #[]
  methods := #[]
  instanceTypes := #[]
  staticTypes := #[]
  resolved := Array.replicate 8 none
  statics := none }

def pool4 : Array CpInfo := pool [(1, u "java/io/Serializable"), (0, .class_ 1), (0, u "java/lang/Object"), (0, .class_ 3)] 3

/-- java/io/Serializable -/
def k4 : Class := { plain "java/io/Serializable" (some 0) with
  accessFlags := 1537
  interfaces := #[]
  cf := some (fileOf pool4 2 #[] #[] 1537 4 #[] #[])
  fields := #[]
  methods := #[]
  instanceTypes := #[]
  staticTypes := #[]
  resolved := Array.replicate 8 none
  statics := none }

/-- the primitive byte -/
def k5 : Class := { plain "byte" none with kind := .primitive 'B', accessFlags := 0x411 }
/-- [B -/
def k6 : Class := { plain "[B" (some 0) with kind := .array 5 .byte, interfaces := #[3, 4], accessFlags := 1041 }

/-- the primitive int -/
def k7 : Class := { plain "int" none with kind := .primitive 'I', accessFlags := 0x411 }
/-- [I -/
def k8 : Class := { plain "[I" (some 0) with kind := .array 7 .int, interfaces := #[3, 4], accessFlags := 1041 }

def heap : Heap := #[{ cls := 8, slots := #[.int 1, .int 2, .int 3], vm := .none }]
def classes : Array Class := #[k0, k1, k2, k3, k4, k5, k6, k7, k8]
def interned : List (Array UInt16 × Addr) := []
def slotsUsed : Nat := 3
def theMethod : MethodId := ⟨1, 5⟩
def args0 : Array Value := #[.ref 0]
def aboutOver (below : List Frame) : State where
  vm := { classes := classes, interned := interned.toArray }
  heap := heap
  slotsUsed := slotsUsed
  threads := #[{ frames := .invoking theMethod args0 :: below }]
def below0 : List Frame := [.native { method := ⟨0, 0⟩, args := #[] }]
def about1 : State := aboutOver below0
def p0 : Program := .bare "" "" ""
def e0 : Env := launch0.env 0 0 0
theorem w_frames : about1.frames = Frame.invoking theMethod args0 :: below0 := rfl
set_option maxRecDepth 65536 in
theorem w_args : argsFit about1.vm theMethod args0 = true := by decide +kernel
set_option maxRecDepth 65536 in
theorem w_heap : heapFits about1 = true := by decide +kernel
set_option maxRecDepth 65536 in
theorem w_runnable : about1.curStatus? = some .runnable := by decide +kernel
set_option maxRecDepth 65536 in
theorem w_alone : about1.alone = true := by decide +kernel
set_option maxRecDepth 65536 in
theorem w_named : about1.methodNamed? x = some theMethod := by decide +kernel
set_option maxRecDepth 65536 in
theorem w_hears : about1.hears theMethod below0 = true := by decide +kernel
set_option maxRecDepth 65536 in
theorem w_ripe : about1.ripe theMethod args0 below0 = true := by decide +kernel
theorem w_running : about1.status = .running := rfl
set_option maxRecDepth 65536 in
theorem w_room : about1.hasRoom e0.platform room_1 = true :=
  launch0.hasRoom_least _ room_1 (by decide +kernel) (by decide +kernel) (by decide +kernel) (by decide +kernel) (by decide +kernel) (by decide +kernel)
theorem allAtoms_all (ts : List Jvm.Cond) (a : Array Jvm.Value) (st : Jvm.State) : (allAtoms ts).before a st = ts.all (fun c => c.before a st) := by
  induction ts with
  | nil => rfl
  | cons c t ih =>
    show (Jvm.Cond.and c (allAtoms t)).before a st = _
    rw [Jvm.Cond.before_and, ih, List.all_cons]
def words1 : List Jvm.Cond := Jvm.Cond.code x code maxLocals ret :: tables_1
/-- a 'code' word, met by the world's own term for the bytes: nothing is compared byte by byte -/
theorem code_word {y : MethodName} {bytes : ByteArray} {mx : Nat} {rt : Option FieldType} {a : Array Value} {s : State} {m : MethodId} {meth : Method} {c : Code} (h1 : s.methodNamed? y = some m) (h2 : s.vm.method? m = some meth) (h3 : meth.code = some c) (h4 : c.code = bytes)
    (h5 : (c.maxLocals == mx && c.exceptionTable.isEmpty && decide (c.maxStack ≤ mostOperands) && decide (meth.sig.returnType = rt) && !meth.locks && decide (parseMethodDescriptor y.desc = some meth.sig)) = true) : (Jvm.Cond.code y bytes mx rt).before a s = true := by
  simp only [Bool.and_eq_true, beq_iff_eq, Bool.not_eq_true', decide_eq_true_eq] at h5
  obtain ⟨⟨⟨⟨⟨g1, g2⟩, g3⟩, g4⟩, g5⟩, g6⟩ := h5
  simp [Cond.before, Cond.holds, Cond.value, h1, h2, h3, h4, g1, g2, g3, g4, g5, g6]
def isCode : Jvm.Cond → Bool
  | .code _ _ _ _ => true
  | _ => false
theorem all_split {L : List Jvm.Cond} {P : Jvm.Cond → Bool} (h1 : L.all (fun c => isCode c || P c) = true) (h2 : ∀ c ∈ L.filter isCode, P c = true) : L.all P = true := by
  refine List.all_eq_true.mpr fun c hc => ?_
  have h := List.all_eq_true.mp h1 c hc
  rcases Bool.eq_false_or_eq_true (isCode c) with hi | hi
  · exact h2 c (List.mem_filter.mpr ⟨hc, hi⟩)
  · simpa [hi] using h
set_option maxRecDepth 65536 in
theorem w_c0 : (Jvm.Cond.code x code maxLocals ret).before args0 about1 = true := code_word (m := ⟨1, 5⟩) (meth := k1m5) (c := k1c5) (by decide +kernel) rfl rfl rfl (by decide +kernel)
set_option maxRecDepth 65536 in
theorem w_c1 : (Jvm.Cond.code ({ cls := "DemandGateOwnLaw", name := "cell", desc := "([II)I" } : Jvm.MethodName) method_2_code (2 : Nat) (Option.some Jvm.ClassFile.FieldType.int)).before args0 about1 = true := code_word (m := ⟨1, 1⟩) (meth := k1m1) (c := k1c1) (by decide +kernel) rfl rfl rfl (by decide +kernel)
set_option maxRecDepth 65536 in
theorem w_c2 : (Jvm.Cond.code ({ cls := "DemandGateOwnLaw", name := "nz", desc := "(I)I" } : Jvm.MethodName) method_3_code (1 : Nat) (Option.some Jvm.ClassFile.FieldType.int)).before args0 about1 = true := code_word (m := ⟨1, 2⟩) (meth := k1m2) (c := k1c2) (by decide +kernel) rfl rfl rfl (by decide +kernel)
set_option maxRecDepth 65536 in
theorem w_c3 : (Jvm.Cond.code ({ cls := "DemandGateOwnLaw", name := "hyperChoice", desc := "(I)I" } : Jvm.MethodName) method_5_code (2 : Nat) (Option.some Jvm.ClassFile.FieldType.int)).before args0 about1 = true := code_word (m := ⟨1, 4⟩) (meth := k1m4) (c := k1c4) (by decide +kernel) rfl rfl rfl (by decide +kernel)
set_option maxRecDepth 65536 in
theorem w_c4 : (Jvm.Cond.code ({ cls := "DemandGate", name := "<init>", desc := "(II)V" } : Jvm.MethodName) prog_1_method_1_code (3 : Nat) (Option.none : Option Jvm.ClassFile.FieldType)).before args0 about1 = true := code_word (m := ⟨2, 0⟩) (meth := k2m0) (c := k2c0) (by decide +kernel) rfl rfl rfl (by decide +kernel)
set_option maxRecDepth 65536 in
theorem w_c5 : (Jvm.Cond.code ({ cls := "java/lang/Object", name := "<init>", desc := "()V" } : Jvm.MethodName) object_method_1_code (1 : Nat) (Option.none : Option Jvm.ClassFile.FieldType)).before args0 about1 = true := code_word (m := ⟨0, 0⟩) (meth := k0m0) (c := k0c0) (by decide +kernel) rfl rfl rfl (by decide +kernel)
set_option maxRecDepth 65536 in
theorem w_c6 : (Jvm.Cond.code ({ cls := "DemandGate", name := "clamp", desc := "(III)I" } : Jvm.MethodName) prog_1_method_18_code (4 : Nat) (Option.some Jvm.ClassFile.FieldType.int)).before args0 about1 = true := code_word (m := ⟨2, 5⟩) (meth := k2m5) (c := k2c5) (by decide +kernel) rfl rfl rfl (by decide +kernel)
set_option maxRecDepth 65536 in
theorem w_c7 : (Jvm.Cond.code ({ cls := "DemandGate", name := "simulate", desc := "(I)I" } : Jvm.MethodName) prog_1_method_14_code (3 : Nat) (Option.some Jvm.ClassFile.FieldType.int)).before args0 about1 = true := code_word (m := ⟨2, 4⟩) (meth := k2m4) (c := k2c4) (by decide +kernel) rfl rfl rfl (by decide +kernel)
set_option maxRecDepth 65536 in
theorem w_c8 : (Jvm.Cond.code ({ cls := "DemandGate", name := "loadAdmitted", desc := "()V" } : Jvm.MethodName) prog_1_method_20_code (2 : Nat) (Option.none : Option Jvm.ClassFile.FieldType)).before args0 about1 = true := code_word (m := ⟨2, 7⟩) (meth := k2m7) (c := k2c7) (by decide +kernel) rfl rfl rfl (by decide +kernel)
set_option maxRecDepth 65536 in
theorem w_c9 : (Jvm.Cond.code ({ cls := "DemandGate", name := "workHyper", desc := "(I)I" } : Jvm.MethodName) prog_1_method_27_code (5 : Nat) (Option.some Jvm.ClassFile.FieldType.int)).before args0 about1 = true := code_word (m := ⟨2, 14⟩) (meth := k2m14) (c := k2c14) (by decide +kernel) rfl rfl rfl (by decide +kernel)
set_option maxRecDepth 65536 in
theorem w_c10 : (Jvm.Cond.code ({ cls := "DemandGate", name := "runEdf", desc := "(I)I" } : Jvm.MethodName) prog_1_method_34_code (6 : Nat) (Option.some Jvm.ClassFile.FieldType.int)).before args0 about1 = true := code_word (m := ⟨2, 20⟩) (meth := k2m20) (c := k2c20) (by decide +kernel) rfl rfl rfl (by decide +kernel)
set_option maxRecDepth 65536 in
theorem w_c11 : (Jvm.Cond.code ({ cls := "DemandGate", name := "resetJobs", desc := "()V" } : Jvm.MethodName) prog_1_method_35_code (2 : Nat) (Option.none : Option Jvm.ClassFile.FieldType)).before args0 about1 = true := code_word (m := ⟨2, 21⟩) (meth := k2m21) (c := k2c21) (by decide +kernel) rfl rfl rfl (by decide +kernel)
set_option maxRecDepth 65536 in
theorem w_c12 : (Jvm.Cond.code ({ cls := "DemandGate", name := "firstMissAt", desc := "(I)I" } : Jvm.MethodName) prog_1_method_37_code (3 : Nat) (Option.some Jvm.ClassFile.FieldType.int)).before args0 about1 = true := code_word (m := ⟨2, 23⟩) (meth := k2m23) (c := k2c23) (by decide +kernel) rfl rfl rfl (by decide +kernel)
set_option maxRecDepth 65536 in
theorem w_c13 : (Jvm.Cond.code ({ cls := "DemandGate", name := "releaseAt", desc := "(I)V" } : Jvm.MethodName) prog_1_method_38_code (3 : Nat) (Option.none : Option Jvm.ClassFile.FieldType)).before args0 about1 = true := code_word (m := ⟨2, 24⟩) (meth := k2m24) (c := k2c24) (by decide +kernel) rfl rfl rfl (by decide +kernel)
set_option maxRecDepth 65536 in
theorem w_c14 : (Jvm.Cond.code ({ cls := "DemandGate", name := "dispatchSlot", desc := "()Z" } : Jvm.MethodName) prog_1_method_39_code (3 : Nat) (Option.some Jvm.ClassFile.FieldType.boolean)).before args0 about1 = true := code_word (m := ⟨2, 25⟩) (meth := k2m25) (c := k2c25) (by decide +kernel) rfl rfl rfl (by decide +kernel)
set_option maxRecDepth 65536 in
theorem w_c15 : (Jvm.Cond.code ({ cls := "DemandGate", name := "anyPending", desc := "()Z" } : Jvm.MethodName) prog_1_method_40_code (2 : Nat) (Option.some Jvm.ClassFile.FieldType.boolean)).before args0 about1 = true := code_word (m := ⟨2, 26⟩) (meth := k2m26) (c := k2c26) (by decide +kernel) rfl rfl rfl (by decide +kernel)
set_option maxRecDepth 65536 in
theorem w_c16 : (Jvm.Cond.code ({ cls := "DemandGate", name := "nextReleaseAfter", desc := "(II)I" } : Jvm.MethodName) prog_1_method_41_code (6 : Nat) (Option.some Jvm.ClassFile.FieldType.int)).before args0 about1 = true := code_word (m := ⟨2, 27⟩) (meth := k2m27) (c := k2c27) (by decide +kernel) rfl rfl rfl (by decide +kernel)
set_option maxRecDepth 65536 in
theorem w_c17 : (Jvm.Cond.code ({ cls := "DemandGate", name := "recordRun", desc := "(III)V" } : Jvm.MethodName) prog_1_method_36_code (4 : Nat) (Option.none : Option Jvm.ClassFile.FieldType)).before args0 about1 = true := code_word (m := ⟨2, 22⟩) (meth := k2m22) (c := k2c22) (by decide +kernel) rfl rfl rfl (by decide +kernel)
set_option maxRecDepth 65536 in
theorem w_c18 : (Jvm.Cond.code ({ cls := "DemandGateOwnLaw", name := "period", desc := "(I)I" } : Jvm.MethodName) method_4_code (2 : Nat) (Option.some Jvm.ClassFile.FieldType.int)).before args0 about1 = true := code_word (m := ⟨1, 3⟩) (meth := k1m3) (c := k1c3) (by decide +kernel) rfl rfl rfl (by decide +kernel)
set_option maxRecDepth 65536 in
theorem w_c19 : (Jvm.Cond.code ({ cls := "DemandGate", name := "propose", desc := "(III)I" } : Jvm.MethodName) prog_1_method_2_code (5 : Nat) (Option.some Jvm.ClassFile.FieldType.int)).before args0 about1 = true := code_word (m := ⟨2, 1⟩) (meth := k2m1) (c := k2c1) (by decide +kernel) rfl rfl rfl (by decide +kernel)
set_option maxRecDepth 65536 in
theorem w_c20 : (Jvm.Cond.code ({ cls := "DemandGate", name := "validParams", desc := "(III)Z" } : Jvm.MethodName) prog_1_method_19_code (4 : Nat) (Option.some Jvm.ClassFile.FieldType.boolean)).before args0 about1 = true := code_word (m := ⟨2, 6⟩) (meth := k2m6) (c := k2c6) (by decide +kernel) rfl rfl rfl (by decide +kernel)
set_option maxRecDepth 65536 in
theorem w_c21 : (Jvm.Cond.code ({ cls := "DemandGate", name := "appendWork", desc := "(III)Z" } : Jvm.MethodName) prog_1_method_22_code (4 : Nat) (Option.some Jvm.ClassFile.FieldType.boolean)).before args0 about1 = true := code_word (m := ⟨2, 9⟩) (meth := k2m9) (c := k2c9) (by decide +kernel) rfl rfl rfl (by decide +kernel)
set_option maxRecDepth 65536 in
theorem w_c22 : (Jvm.Cond.code ({ cls := "DemandGate", name := "lcm", desc := "(JJ)J" } : Jvm.MethodName) prog_1_method_26_code (7 : Nat) (Option.some Jvm.ClassFile.FieldType.long)).before args0 about1 = true := code_word (m := ⟨2, 13⟩) (meth := k2m13) (c := k2c13) (by decide +kernel) rfl rfl rfl (by decide +kernel)
set_option maxRecDepth 65536 in
theorem w_c23 : (Jvm.Cond.code ({ cls := "DemandGate", name := "gcd", desc := "(JJ)J" } : Jvm.MethodName) prog_1_method_25_code (12 : Nat) (Option.some Jvm.ClassFile.FieldType.long)).before args0 about1 = true := code_word (m := ⟨2, 12⟩) (meth := k2m12) (c := k2c12) (by decide +kernel) rfl rfl rfl (by decide +kernel)
set_option maxRecDepth 65536 in
theorem w_c24 : (Jvm.Cond.code ({ cls := "DemandGate", name := "storeCandidate", desc := "(I)V" } : Jvm.MethodName) prog_1_method_23_code (3 : Nat) (Option.none : Option Jvm.ClassFile.FieldType)).before args0 about1 = true := code_word (m := ⟨2, 10⟩) (meth := k2m10) (c := k2c10) (by decide +kernel) rfl rfl rfl (by decide +kernel)
set_option maxRecDepth 65536 in
theorem w_c25 : (Jvm.Cond.code ({ cls := "DemandGate", name := "overloadOfWork", desc := "(I)I" } : Jvm.MethodName) prog_1_method_28_code (2 : Nat) (Option.some Jvm.ClassFile.FieldType.int)).before args0 about1 = true := code_word (m := ⟨2, 15⟩) (meth := k2m15) (c := k2c15) (by decide +kernel) rfl rfl rfl (by decide +kernel)
set_option maxRecDepth 65536 in
theorem w_c26 : (Jvm.Cond.code ({ cls := "DemandGate", name := "implicitWithinCapacity", desc := "(I)Z" } : Jvm.MethodName) prog_1_method_29_code (5 : Nat) (Option.some Jvm.ClassFile.FieldType.boolean)).before args0 about1 = true := code_word (m := ⟨2, 16⟩) (meth := k2m16) (c := k2c16) (by decide +kernel) rfl rfl rfl (by decide +kernel)
set_option maxRecDepth 65536 in
theorem w_c27 : (Jvm.Cond.code ({ cls := "DemandGate", name := "admitTask", desc := "(III)I" } : Jvm.MethodName) prog_1_method_24_code (4 : Nat) (Option.some Jvm.ClassFile.FieldType.int)).before args0 about1 = true := code_word (m := ⟨2, 11⟩) (meth := k2m11) (c := k2c11) (by decide +kernel) rfl rfl rfl (by decide +kernel)
set_option maxRecDepth 65536 in
theorem w_c28 : (Jvm.Cond.code ({ cls := "DemandGate", name := "loadCandidate", desc := "()V" } : Jvm.MethodName) prog_1_method_21_code (2 : Nat) (Option.none : Option Jvm.ClassFile.FieldType)).before args0 about1 = true := code_word (m := ⟨2, 8⟩) (meth := k2m8) (c := k2c8) (by decide +kernel) rfl rfl rfl (by decide +kernel)
set_option maxRecDepth 65536 in
theorem w_c29 : (Jvm.Cond.code ({ cls := "DemandGate", name := "scanDeadlinePoints", desc := "(I)I" } : Jvm.MethodName) prog_1_method_30_code (6 : Nat) (Option.some Jvm.ClassFile.FieldType.int)).before args0 about1 = true := code_word (m := ⟨2, 17⟩) (meth := k2m17) (c := k2c17) (by decide +kernel) rfl rfl rfl (by decide +kernel)
set_option maxRecDepth 65536 in
theorem w_c30 : (Jvm.Cond.code ({ cls := "DemandGate", name := "earliestNextDeadline", desc := "()I" } : Jvm.MethodName) prog_1_method_31_code (3 : Nat) (Option.some Jvm.ClassFile.FieldType.int)).before args0 about1 = true := code_word (m := ⟨2, 18⟩) (meth := k2m18) (c := k2c18) (by decide +kernel) rfl rfl rfl (by decide +kernel)
set_option maxRecDepth 65536 in
theorem w_c31 : (Jvm.Cond.code ({ cls := "DemandGate", name := "consumeDeadlinesAt", desc := "(I)J" } : Jvm.MethodName) prog_1_method_32_code (5 : Nat) (Option.some Jvm.ClassFile.FieldType.long)).before args0 about1 = true := code_word (m := ⟨2, 19⟩) (meth := k2m19) (c := k2c19) (by decide +kernel) rfl rfl rfl (by decide +kernel)
set_option maxRecDepth 65536 in
theorem w_c32 : (Jvm.Cond.code ({ cls := "DemandGate", name := "remove", desc := "(I)Z" } : Jvm.MethodName) prog_1_method_3_code (3 : Nat) (Option.some Jvm.ClassFile.FieldType.boolean)).before args0 about1 = true := code_word (m := ⟨2, 2⟩) (meth := k2m2) (c := k2c2) (by decide +kernel) rfl rfl rfl (by decide +kernel)
set_option maxRecDepth 65536 in
theorem w_c33 : (Jvm.Cond.code ({ cls := "DemandGate", name := "clear", desc := "()V" } : Jvm.MethodName) prog_1_method_4_code (1 : Nat) (Option.none : Option Jvm.ClassFile.FieldType)).before args0 about1 = true := code_word (m := ⟨2, 3⟩) (meth := k2m3) (c := k2c3) (by decide +kernel) rfl rfl rfl (by decide +kernel)
def codes1 : List Jvm.Cond := [Jvm.Cond.code x code maxLocals ret, Jvm.Cond.code ({ cls := "DemandGateOwnLaw", name := "cell", desc := "([II)I" } : Jvm.MethodName) method_2_code (2 : Nat) (Option.some Jvm.ClassFile.FieldType.int), Jvm.Cond.code ({ cls := "DemandGateOwnLaw", name := "nz", desc := "(I)I" } : Jvm.MethodName) method_3_code (1 : Nat) (Option.some Jvm.ClassFile.FieldType.int), Jvm.Cond.code ({ cls := "DemandGateOwnLaw", name := "hyperChoice", desc := "(I)I" } : Jvm.MethodName) method_5_code (2 : Nat) (Option.some Jvm.ClassFile.FieldType.int), Jvm.Cond.code ({ cls := "DemandGate", name := "<init>", desc := "(II)V" } : Jvm.MethodName) prog_1_method_1_code (3 : Nat) (Option.none : Option Jvm.ClassFile.FieldType), Jvm.Cond.code ({ cls := "java/lang/Object", name := "<init>", desc := "()V" } : Jvm.MethodName) object_method_1_code (1 : Nat) (Option.none : Option Jvm.ClassFile.FieldType), Jvm.Cond.code ({ cls := "DemandGate", name := "clamp", desc := "(III)I" } : Jvm.MethodName) prog_1_method_18_code (4 : Nat) (Option.some Jvm.ClassFile.FieldType.int), Jvm.Cond.code ({ cls := "DemandGate", name := "simulate", desc := "(I)I" } : Jvm.MethodName) prog_1_method_14_code (3 : Nat) (Option.some Jvm.ClassFile.FieldType.int), Jvm.Cond.code ({ cls := "DemandGate", name := "loadAdmitted", desc := "()V" } : Jvm.MethodName) prog_1_method_20_code (2 : Nat) (Option.none : Option Jvm.ClassFile.FieldType), Jvm.Cond.code ({ cls := "DemandGate", name := "workHyper", desc := "(I)I" } : Jvm.MethodName) prog_1_method_27_code (5 : Nat) (Option.some Jvm.ClassFile.FieldType.int), Jvm.Cond.code ({ cls := "DemandGate", name := "runEdf", desc := "(I)I" } : Jvm.MethodName) prog_1_method_34_code (6 : Nat) (Option.some Jvm.ClassFile.FieldType.int), Jvm.Cond.code ({ cls := "DemandGate", name := "resetJobs", desc := "()V" } : Jvm.MethodName) prog_1_method_35_code (2 : Nat) (Option.none : Option Jvm.ClassFile.FieldType), Jvm.Cond.code ({ cls := "DemandGate", name := "firstMissAt", desc := "(I)I" } : Jvm.MethodName) prog_1_method_37_code (3 : Nat) (Option.some Jvm.ClassFile.FieldType.int), Jvm.Cond.code ({ cls := "DemandGate", name := "releaseAt", desc := "(I)V" } : Jvm.MethodName) prog_1_method_38_code (3 : Nat) (Option.none : Option Jvm.ClassFile.FieldType), Jvm.Cond.code ({ cls := "DemandGate", name := "dispatchSlot", desc := "()Z" } : Jvm.MethodName) prog_1_method_39_code (3 : Nat) (Option.some Jvm.ClassFile.FieldType.boolean), Jvm.Cond.code ({ cls := "DemandGate", name := "anyPending", desc := "()Z" } : Jvm.MethodName) prog_1_method_40_code (2 : Nat) (Option.some Jvm.ClassFile.FieldType.boolean), Jvm.Cond.code ({ cls := "DemandGate", name := "nextReleaseAfter", desc := "(II)I" } : Jvm.MethodName) prog_1_method_41_code (6 : Nat) (Option.some Jvm.ClassFile.FieldType.int), Jvm.Cond.code ({ cls := "DemandGate", name := "recordRun", desc := "(III)V" } : Jvm.MethodName) prog_1_method_36_code (4 : Nat) (Option.none : Option Jvm.ClassFile.FieldType), Jvm.Cond.code ({ cls := "DemandGateOwnLaw", name := "period", desc := "(I)I" } : Jvm.MethodName) method_4_code (2 : Nat) (Option.some Jvm.ClassFile.FieldType.int), Jvm.Cond.code ({ cls := "DemandGate", name := "propose", desc := "(III)I" } : Jvm.MethodName) prog_1_method_2_code (5 : Nat) (Option.some Jvm.ClassFile.FieldType.int), Jvm.Cond.code ({ cls := "DemandGate", name := "validParams", desc := "(III)Z" } : Jvm.MethodName) prog_1_method_19_code (4 : Nat) (Option.some Jvm.ClassFile.FieldType.boolean), Jvm.Cond.code ({ cls := "DemandGate", name := "appendWork", desc := "(III)Z" } : Jvm.MethodName) prog_1_method_22_code (4 : Nat) (Option.some Jvm.ClassFile.FieldType.boolean), Jvm.Cond.code ({ cls := "DemandGate", name := "lcm", desc := "(JJ)J" } : Jvm.MethodName) prog_1_method_26_code (7 : Nat) (Option.some Jvm.ClassFile.FieldType.long), Jvm.Cond.code ({ cls := "DemandGate", name := "gcd", desc := "(JJ)J" } : Jvm.MethodName) prog_1_method_25_code (12 : Nat) (Option.some Jvm.ClassFile.FieldType.long), Jvm.Cond.code ({ cls := "DemandGate", name := "storeCandidate", desc := "(I)V" } : Jvm.MethodName) prog_1_method_23_code (3 : Nat) (Option.none : Option Jvm.ClassFile.FieldType), Jvm.Cond.code ({ cls := "DemandGate", name := "overloadOfWork", desc := "(I)I" } : Jvm.MethodName) prog_1_method_28_code (2 : Nat) (Option.some Jvm.ClassFile.FieldType.int), Jvm.Cond.code ({ cls := "DemandGate", name := "implicitWithinCapacity", desc := "(I)Z" } : Jvm.MethodName) prog_1_method_29_code (5 : Nat) (Option.some Jvm.ClassFile.FieldType.boolean), Jvm.Cond.code ({ cls := "DemandGate", name := "admitTask", desc := "(III)I" } : Jvm.MethodName) prog_1_method_24_code (4 : Nat) (Option.some Jvm.ClassFile.FieldType.int), Jvm.Cond.code ({ cls := "DemandGate", name := "loadCandidate", desc := "()V" } : Jvm.MethodName) prog_1_method_21_code (2 : Nat) (Option.none : Option Jvm.ClassFile.FieldType), Jvm.Cond.code ({ cls := "DemandGate", name := "scanDeadlinePoints", desc := "(I)I" } : Jvm.MethodName) prog_1_method_30_code (6 : Nat) (Option.some Jvm.ClassFile.FieldType.int), Jvm.Cond.code ({ cls := "DemandGate", name := "earliestNextDeadline", desc := "()I" } : Jvm.MethodName) prog_1_method_31_code (3 : Nat) (Option.some Jvm.ClassFile.FieldType.int), Jvm.Cond.code ({ cls := "DemandGate", name := "consumeDeadlinesAt", desc := "(I)J" } : Jvm.MethodName) prog_1_method_32_code (5 : Nat) (Option.some Jvm.ClassFile.FieldType.long), Jvm.Cond.code ({ cls := "DemandGate", name := "remove", desc := "(I)Z" } : Jvm.MethodName) prog_1_method_3_code (3 : Nat) (Option.some Jvm.ClassFile.FieldType.boolean), Jvm.Cond.code ({ cls := "DemandGate", name := "clear", desc := "()V" } : Jvm.MethodName) prog_1_method_4_code (1 : Nat) (Option.none : Option Jvm.ClassFile.FieldType)]
set_option maxRecDepth 65536 in
theorem codes_eq : words1.filter isCode = codes1 := rfl
theorem w_codes : ∀ c ∈ words1.filter isCode, c.before args0 about1 = true := by
  rw [codes_eq]
  intro c hc
  simp only [codes1, List.mem_cons, List.not_mem_nil, or_false] at hc
  rcases hc with rfl | rfl | rfl | rfl | rfl | rfl | rfl | rfl | rfl | rfl | rfl | rfl | rfl | rfl | rfl | rfl | rfl | rfl | rfl | rfl | rfl | rfl | rfl | rfl | rfl | rfl | rfl | rfl | rfl | rfl | rfl | rfl | rfl | rfl
  · exact w_c0
  · exact w_c1
  · exact w_c2
  · exact w_c3
  · exact w_c4
  · exact w_c5
  · exact w_c6
  · exact w_c7
  · exact w_c8
  · exact w_c9
  · exact w_c10
  · exact w_c11
  · exact w_c12
  · exact w_c13
  · exact w_c14
  · exact w_c15
  · exact w_c16
  · exact w_c17
  · exact w_c18
  · exact w_c19
  · exact w_c20
  · exact w_c21
  · exact w_c22
  · exact w_c23
  · exact w_c24
  · exact w_c25
  · exact w_c26
  · exact w_c27
  · exact w_c28
  · exact w_c29
  · exact w_c30
  · exact w_c31
  · exact w_c32
  · exact w_c33
set_option maxRecDepth 65536 in
theorem w_t1 : (words1.take 24).all (fun c => isCode c || c.before args0 about1) = true := by decide +kernel
set_option maxRecDepth 65536 in
theorem w_t2 : ((words1.drop 24).take 24).all (fun c => isCode c || c.before args0 about1) = true := by decide +kernel
set_option maxRecDepth 65536 in
theorem w_t3 : (((words1.drop 24).drop 24).take 24).all (fun c => isCode c || c.before args0 about1) = true := by decide +kernel
set_option maxRecDepth 65536 in
theorem w_t4 : ((((words1.drop 24).drop 24).drop 24).take 24).all (fun c => isCode c || c.before args0 about1) = true := by decide +kernel
set_option maxRecDepth 65536 in
theorem w_t5 : (((((words1.drop 24).drop 24).drop 24).drop 24).take 24).all (fun c => isCode c || c.before args0 about1) = true := by decide +kernel
set_option maxRecDepth 65536 in
theorem w_t6 : ((((((words1.drop 24).drop 24).drop 24).drop 24).drop 24).take 24).all (fun c => isCode c || c.before args0 about1) = true := by decide +kernel
set_option maxRecDepth 65536 in
theorem w_t7 : (((((((words1.drop 24).drop 24).drop 24).drop 24).drop 24).drop 24).take 24).all (fun c => isCode c || c.before args0 about1) = true := by decide +kernel
set_option maxRecDepth 65536 in
theorem w_t8 : (((((((words1.drop 24).drop 24).drop 24).drop 24).drop 24).drop 24).drop 24).all (fun c => isCode c || c.before args0 about1) = true := by decide +kernel
theorem w_tables : (allAtoms (Jvm.Cond.code x code maxLocals ret :: tables_1)).before args0 about1 = true := by
  rw [allAtoms_all]
  show words1.all (fun c => c.before args0 about1) = true
  refine all_split ?_ w_codes
  rw [← List.take_append_drop 24 words1, List.all_append, w_t1, ← List.take_append_drop 24 (words1.drop 24), List.all_append, w_t2, ← List.take_append_drop 24 ((words1.drop 24).drop 24), List.all_append, w_t3, ← List.take_append_drop 24 (((words1.drop 24).drop 24).drop 24), List.all_append, w_t4, ← List.take_append_drop 24 ((((words1.drop 24).drop 24).drop 24).drop 24), List.all_append, w_t5, ← List.take_append_drop 24 (((((words1.drop 24).drop 24).drop 24).drop 24).drop 24), List.all_append, w_t6, ← List.take_append_drop 24 ((((((words1.drop 24).drop 24).drop 24).drop 24).drop 24).drop 24), List.all_append, w_t7, w_t8]
  rfl
set_option maxRecDepth 65536 in
theorem w_rest : rest_1_c.before args0 about1 = true := by decide +kernel
set_option maxRecDepth 65536 in
theorem w_case : (Jvm.Cond.and given_1 narrow_1).before args0 about1 = true := by decide +kernel
theorem w_applies : (headSpec (Jvm.Cond.code x code maxLocals ret :: tables_1) room_1).applies x e0.platform about1 = true :=
  (Spec.applies_iff w_frames).mpr ⟨w_running, w_runnable, w_alone, w_named, w_hears, w_ripe, w_room, w_tables⟩
theorem atStart : AtStart classFile x code maxLocals ret World_1 tables_1 room_1 Calls_1 rest_1 Pre_1 launch0 p0 e0 about1 theMethod args0 below0 :=
  ⟨lists_1, trivial, launch0.admits_env _ _ _, launch0.least_env, fairChoices_fair.cas, fairChoices_fair.clock, w_frames, w_args, w_heap, w_applies, trivial, w_rest, w_case⟩
end start1
theorem witness_1 : WitnessClaimed_1 := ⟨start1.p0, start1.e0, start1.about1, start1.theMethod, start1.args0, start1.below0, start1.atStart⟩
end Jvm.Pilot.@@N@@
