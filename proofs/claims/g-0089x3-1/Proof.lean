import JvmDerived
import JvmDerived.Pilot.@@N@@Statement
import JvmDerived.Pilot.@@N@@Code
set_option linter.unusedVariables false
set_option linter.unusedSimpArgs false
namespace Jvm.Own
open Jvm Jvm.ClassFile Sem Op Lib Jvm.Free Jvm.Stand Jvm.LawKit Jvm.RoadKit Bundle
/-! ## values, cells, heaps of the small view -/
theorem leb {a b : Nat} (h : Nat.ble a b = true) : a ≤ b := Nat.le_of_ble_eq_true h
abbrev dc (b : ByteArray) (pc : Nat) (i : Instr) (n : Nat) : Prop := decode b pc = .ok (i, n)
abbrev OwnC : Type := Sum (List Value) (Sum (List Int32) (Sum (List Int64) (List Int32)))
abbrev cO (vs : List Value) : OwnC := .inl vs
abbrev cI (xs : List Int32) : OwnC := .inr (.inl xs)
abbrev cJ (xs : List Int64) : OwnC := .inr (.inr (.inl xs))
abbrev cZ (xs : List Int32) : OwnC := .inr (.inr (.inr xs))
def rf (ad : Nat → Addr) : Value → Value
  | .ref i => .ref (ad i)
  | .int x => .int x
  | .long x => .long x
  | .float x => .float x
  | .double x => .double x
  | .null => .null
  | .retAddr x => .retAddr x
theorem rf_cat (ad : Nat → Addr) (v : Value) : (rf ad v).category = v.category := by cases v <;> rfl
theorem rf_isRef (ad : Nat → Addr) (v : Value) : (rf ad v).isRef = v.isRef := by cases v <;> rfl
theorem rf_cats (ad : Nat → Addr) (S : List Value) : ((S.map (rf ad)).map fun v => v.category) = S.map fun v => v.category := by
  simp [List.map_map, Function.comp_def, rf_cat]
def CelOk (Z : State) (C : String) (lay : List (String × String)) (ad : Nat → Addr) (h : Heap) (a : Addr) : OwnC → Prop
  | .inl vs => Exa Z h a C ∧ ∀ (i : Nat) (f : String × String) (v : Value), lay[i]? = some f → vs[i]? = some v → Fld Z h a C f.1 f.2 (rf ad v)
  | .inr (.inl xs) => ∃ cl : Cell, Arr Z h a cl .int ∧ cl.slots.toList = xs.map Value.int
  | .inr (.inr (.inl xs)) => ∃ cl : Cell, Arr Z h a cl .long ∧ cl.slots.toList = xs.map Value.long
  | .inr (.inr (.inr xs)) => ∃ cl : Cell, Arr Z h a cl .boolean ∧ cl.slots.toList = xs.map Value.int
def HR (Z : State) (C : String) (lay : List (String × String)) (n0 ro : Nat) (ad : Nat → Addr) (H : List OwnC) (h : Heap) : Prop :=
  (∀ i c, H[i]? = some c → CelOk Z C lay ad h (ad i) c) ∧ (∀ i j, i < H.length → j < H.length → ad i = ad j → i = j) ∧ (∀ t, ad (H.length + t) = h.size + t) ∧ (∀ i, i < H.length → ro ≤ i → n0 ≤ ad i) ∧ n0 ≤ h.size
def Kp (ad : Nat → Addr) (N : Nat) (h h' : Heap) : Prop := h.size ≤ h'.size ∧ ∀ (a : Addr) (c : Cell), h[a]? = some c → (∀ i, i < N → ad i ≠ a) → h'[a]? = some c
theorem CelOk.keep {Z : State} {C : String} {lay : List (String × String)} {ad : Nat → Addr} {h h' : Heap} {a : Addr} {c : OwnC} (q : ∀ cz : Cell, h[a]? = some cz → h'[a]? = some cz) (F : CelOk Z C lay ad h a c) : CelOk Z C lay ad h' a c := by
  rcases c with vs | xs | xs | xs
  · obtain ⟨⟨cell, k, h1, r⟩, F2⟩ := F
    refine ⟨⟨cell, k, q _ h1, r⟩, fun i f v hf hv => ?_⟩
    obtain ⟨cell, cf, k, i, f, h1, r⟩ := F2 i f v hf hv
    exact ⟨cell, cf, k, i, f, q _ h1, r⟩
  all_goals
    obtain ⟨cl, ⟨h1, r⟩, h2⟩ := F
    exact ⟨cl, ⟨q _ h1, r⟩, h2⟩
theorem CelOk.lt {Z : State} {C : String} {lay : List (String × String)} {ad : Nat → Addr} {h : Heap} {a : Addr} {c : OwnC} (F : CelOk Z C lay ad h a c) : a < h.size := by
  rcases c with vs | xs | xs | xs
  · exact F.1.lt
  all_goals
    obtain ⟨cl, A, h2⟩ := F
    exact A.lt
theorem Kp.refl (ad : Nat → Addr) (N : Nat) (h : Heap) : Kp ad N h h := ⟨Nat.le_refl _, fun _ _ q _ => q⟩
theorem get_lt {α : Type} {L : List α} {i : Nat} {c : α} (h : L[i]? = some c) : i < L.length := (List.getElem?_eq_some_iff.mp h).1
section HRs
variable {Z : State} {C : String} {lay : List (String × String)} {n0 ro : Nat} {ad : Nat → Addr} {H H' : List OwnC} {h h' h'' : Heap}
/-- the addresses at or above H.length lie at or above the heap's size -/
theorem HR.new (R : HR Z C lay n0 ro ad H h) {i : Nat} (hi : H.length ≤ i) : h.size ≤ ad i := by
  obtain ⟨t, rfl⟩ := Nat.exists_eq_add_of_le hi
  rw [R.2.2.1 t]; exact Nat.le_add_right _ _
theorem Kp.trans (R : HR Z C lay n0 ro ad H h) (K : Kp ad H.length h h') {N : Nat} (K' : Kp ad N h' h'') : Kp ad H.length h h'' := by
  refine ⟨Nat.le_trans K.1 K'.1, fun a c hc hn => K'.2 a c (K.2 a c hc hn) fun i hi q => ?_⟩
  by_cases hl : i < H.length
  · exact hn i hl q
  · have h1 := R.new (Nat.le_of_not_lt hl)
    rw [q] at h1
    exact absurd (Array.getElem?_eq_some_iff.mp hc).1 (Nat.not_lt.mpr h1)
/-- one cell of the small heap is written anew, at its own address -/
theorem HR.put (R : HR Z C lay n0 ro ad H h) {i : Nat} {c : OwnC} (hi : i < H.length) (hs : h'.size = h.size) (ho : ∀ a cz, a ≠ ad i → h[a]? = some cz → h'[a]? = some cz) (hc : CelOk Z C lay ad h' (ad i) c) :
    HR Z C lay n0 ro ad (H.set i c) h' ∧ Kp ad H.length h h' := by
  refine ⟨⟨fun j c' hj => ?_, fun i' j' hi' hj' => ?_, fun t => ?_, fun i' hi' => ?_, by rw [hs]; exact R.2.2.2.2⟩, by rw [hs]; exact Nat.le_refl _, fun a cz hz hn => ho a cz (fun q => hn i hi q.symm) hz⟩
  · rw [List.getElem?_set] at hj
    by_cases e : i = j
    · subst e
      simp [hi] at hj
      subst hj; exact hc
    · rw [if_neg e] at hj
      exact (R.1 j c' hj).keep fun cz q => ho _ cz (fun q' => e (R.2.1 _ _ hi (get_lt hj) q'.symm)) q
  · simp only [List.length_set] at hi' hj'; exact R.2.1 _ _ hi' hj'
  · rw [List.length_set, hs]; exact R.2.2.1 t
  · simp only [List.length_set] at hi'; exact R.2.2.2.1 _ hi'
/-- a new cell behind all others -/
theorem HR.push (R : HR Z C lay n0 ro ad H h) {c : OwnC} (hs : h'.size = h.size + 1) (hE : Ext h h') (hc : CelOk Z C lay ad h' h.size c) :
    HR Z C lay n0 ro ad (H ++ [c]) h' ∧ Kp ad H.length h h' ∧ ad H.length = h.size := by
  have e0 : ad H.length = h.size := R.2.2.1 0
  refine ⟨⟨fun j c' hj => ?_, fun i j hi hj q => ?_, fun t => ?_, fun i hi hr => ?_, by rw [hs]; exact Nat.le_succ_of_le R.2.2.2.2⟩, ⟨hE.1, fun a cz hz _ => hE.2 _ _ hz⟩, e0⟩
  · by_cases hl : j < H.length
    · rw [List.getElem?_append_left hl] at hj
      exact (R.1 j c' hj).keep fun cz q => hE.2 _ _ q
    · have hl' := get_lt hj
      simp only [List.length_append, List.length_singleton] at hl'
      obtain rfl : j = H.length := by omega
      simp at hj
      subst hj; rw [e0]; exact hc
  · simp only [List.length_append, List.length_singleton] at hi hj
    by_cases h1 : i < H.length
    · by_cases h2 : j < H.length
      · exact R.2.1 _ _ h1 h2 q
      · have a1 := (R.1 i _ (List.getElem?_eq_getElem h1)).lt
        have a2 := R.new (Nat.le_of_not_lt h2)
        rw [q] at a1
        exact absurd a1 (Nat.not_lt.mpr a2)
    · by_cases h2 : j < H.length
      · have a1 := (R.1 j _ (List.getElem?_eq_getElem h2)).lt
        have a2 := R.new (Nat.le_of_not_lt h1)
        rw [q] at a2
        exact absurd a1 (Nat.not_lt.mpr a2)
      · omega
  · rw [hs]
    have := R.2.2.1 (1 + t)
    simp only [List.length_append, List.length_singleton]
    rw [Nat.add_assoc, this]; exact (Nat.add_assoc _ _ _).symm
  · simp only [List.length_append, List.length_singleton] at hi
    by_cases h1 : i < H.length
    · exact R.2.2.2.1 _ h1 hr
    · exact Nat.le_trans R.2.2.2.2 (R.new (Nat.le_of_not_lt h1))
end HRs
/-! ## local variables: 'unset' in the small view says nothing -/
def WFs (f : Nat → Option Slot) : Prop := (∀ i, f i = some .second → ∃ j v, i = j + 1 ∧ f j = some (.val v) ∧ v.category = 2) ∧ ∀ i v, f i = some (.val v) → v.category = 2 → f (i + 1) = some .second
def LR (ad : Nat → Addr) (L : List Slot) (Ls : Array Slot) : Prop :=
  L.length = Ls.size ∧ (∀ (i : Nat) (v : Value), L[i]? = some (.val v) → Ls[i]? = some (.val (rf ad v))) ∧ (∀ i : Nat, L[i]? = some .second → Ls[i]? = some .second) ∧ WFs fun i => Ls[i]?
def kill2 : Slot → Slot
  | .val (.long _) => .unset
  | .val (.double _) => .unset
  | s => s
def killS : Slot → Slot
  | .second => .unset
  | s => s
def hd1 (f : Slot → Slot) : List Slot → List Slot
  | [] => []
  | y :: t => f y :: t
def st1 : List Slot → Nat → Value → List Slot
  | [], _, _ => []
  | _ :: t, 0, v => .val v :: hd1 killS t
  | y :: t, n + 1, v => match n with
    | 0 => kill2 y :: st1 t 0 v
    | k + 1 => y :: st1 t (k + 1) v
def st2 : List Slot → Nat → Value → List Slot
  | [], _, _ => []
  | _ :: t, 0, v => .val v :: (match t with | [] => [] | _ :: t' => .second :: hd1 killS t')
  | y :: t, n + 1, v => match n with
    | 0 => kill2 y :: st2 t 0 v
    | k + 1 => y :: st2 t (k + 1) v
theorem st1_len (v : Value) : ∀ (L : List Slot) (i : Nat), (st1 L i v).length = L.length
  | [], _ => rfl
  | y :: [], 0 => rfl
  | y :: z :: t, 0 => rfl
  | y :: t, 1 => congrArg Nat.succ (st1_len v t 0)
  | y :: t, k + 2 => congrArg Nat.succ (st1_len v t (k + 1))
theorem st2_len (v : Value) : ∀ (L : List Slot) (i : Nat), (st2 L i v).length = L.length
  | [], _ => rfl
  | y :: [], 0 => rfl
  | y :: z :: [], 0 => rfl
  | y :: z :: w :: t, 0 => rfl
  | y :: t, 1 => congrArg Nat.succ (st2_len v t 0)
  | y :: t, k + 2 => congrArg Nat.succ (st2_len v t (k + 1))
theorem kill2_e {y s : Slot} (h : kill2 y = s) (hs : s ≠ .unset) : y = s ∧ ∀ w, s = .val w → w.category = 1 := by
  subst h
  rcases y with _ | _ | w
  · exact absurd rfl hs
  · exact ⟨rfl, fun w h => by cases h⟩
  · cases w <;> first | exact absurd rfl hs | exact ⟨rfl, fun w h => by cases h; rfl⟩
theorem killS_e {y s : Slot} (h : killS y = s) (hs : s ≠ .unset) : y = s ∧ s ≠ .second := by
  subst h
  rcases y with _ | _ | w
  · exact absurd rfl hs
  · exact absurd rfl hs
  · exact ⟨rfl, fun h => by cases h⟩
theorem hd1_e {t : List Slot} {j : Nat} {s : Slot} (h : (hd1 killS t)[j]? = some s) (hs : s ≠ .unset) : t[j]? = some s ∧ (j = 0 → s ≠ .second) := by
  cases t with
  | nil => simp [hd1] at h
  | cons y t =>
    cases j with
    | zero =>
      have h' : killS y = s := by simpa [hd1] using h
      obtain ⟨e1, e2⟩ := killS_e h' hs
      exact ⟨by simp [e1], fun _ => e2⟩
    | succ j => exact ⟨by simpa [hd1] using h, fun q => by cases q⟩
theorem st1_at (v : Value) : ∀ (L : List Slot) (i : Nat), i < L.length → (st1 L i v)[i]? = some (.val v)
  | [], _, h => absurd h (by simp)
  | y :: t, 0, _ => rfl
  | y :: t, 1, h => by simpa [st1] using st1_at v t 0 (by simp at h; omega)
  | y :: t, k + 2, h => by simpa [st1] using st1_at v t (k + 1) (by simp at h; omega)
theorem st1_else (v : Value) : ∀ (L : List Slot) (i j : Nat) (s : Slot), j ≠ i → (st1 L i v)[j]? = some s → s ≠ .unset → L[j]? = some s ∧ (j + 1 = i → ∀ w, s = .val w → w.category = 1) ∧ (j = i + 1 → s ≠ .second)
  | [], _, j, s, _, h, _ => by simp [st1] at h
  | y :: t, 0, 0, s, hj, _, _ => absurd rfl hj
  | y :: t, 0, j + 1, s, hj, h, hs => by
    obtain ⟨e1, e2⟩ := hd1_e (t := t) (j := j) (by simpa [st1] using h) hs
    exact ⟨by simpa using e1, fun q => by omega, fun q => e2 (by omega)⟩
  | y :: t, 1, 0, s, hj, h, hs => by
    obtain ⟨e1, e2⟩ := kill2_e (y := y) (by simpa [st1] using h) hs
    exact ⟨by simp [e1], fun _ => e2, fun q => by omega⟩
  | y :: t, 1, j + 1, s, hj, h, hs => by
    obtain ⟨e1, e2, e3⟩ := st1_else v t 0 j s (by omega) (by simpa [st1] using h) hs
    exact ⟨by simpa using e1, fun q => by omega, fun q => e3 (by omega)⟩
  | y :: t, k + 2, 0, s, hj, h, hs => ⟨by simpa [st1] using h, fun q => by omega, fun q => by omega⟩
  | y :: t, k + 2, j + 1, s, hj, h, hs => by
    obtain ⟨e1, e2, e3⟩ := st1_else v t (k + 1) j s (by omega) (by simpa [st1] using h) hs
    exact ⟨by simpa using e1, fun q => e2 (by omega), fun q => e3 (by omega)⟩
theorem st2_at (v : Value) : ∀ (L : List Slot) (i : Nat), i + 1 < L.length → (st2 L i v)[i]? = some (.val v) ∧ (st2 L i v)[i + 1]? = some .second
  | [], _, h => absurd h (by simp)
  | y :: [], 0, h => absurd h (by simp)
  | y :: z :: t, 0, _ => ⟨rfl, rfl⟩
  | y :: t, 1, h => by simpa [st2] using st2_at v t 0 (by simp at h; omega)
  | y :: t, k + 2, h => by simpa [st2] using st2_at v t (k + 1) (by simp at h; omega)
theorem st2_else (v : Value) : ∀ (L : List Slot) (i j : Nat) (s : Slot), j ≠ i → j ≠ i + 1 → (st2 L i v)[j]? = some s → s ≠ .unset → L[j]? = some s ∧ (j + 1 = i → ∀ w, s = .val w → w.category = 1) ∧ (j = i + 2 → s ≠ .second)
  | [], _, j, s, _, _, h, _ => by simp [st2] at h
  | y :: t, 0, 0, s, hj, _, _, _ => absurd rfl hj
  | y :: t, 0, 1, s, _, hj, _, _ => absurd rfl hj
  | y :: [], 0, j + 2, s, _, _, h, _ => by simp [st2] at h
  | y :: z :: t, 0, j + 2, s, hj, _, h, hs => by
    obtain ⟨e1, e2⟩ := hd1_e (t := t) (j := j) (by simpa [st2] using h) hs
    exact ⟨by simpa using e1, fun q => by omega, fun q => e2 (by omega)⟩
  | y :: t, 1, 0, s, hj, _, h, hs => by
    obtain ⟨e1, e2⟩ := kill2_e (y := y) (by simpa [st2] using h) hs
    exact ⟨by simp [e1], fun _ => e2, fun q => by omega⟩
  | y :: t, 1, j + 1, s, hj, hj', h, hs => by
    obtain ⟨e1, e2, e3⟩ := st2_else v t 0 j s (by omega) (by omega) (by simpa [st2] using h) hs
    exact ⟨by simpa using e1, fun q => by omega, fun q => e3 (by omega)⟩
  | y :: t, k + 2, 0, s, hj, _, h, hs => ⟨by simpa [st2] using h, fun q => by omega, fun q => by omega⟩
  | y :: t, k + 2, j + 1, s, hj, hj', h, hs => by
    obtain ⟨e1, e2, e3⟩ := st2_else v t (k + 1) j s (by omega) (by omega) (by simpa [st2] using h) hs
    exact ⟨by simpa using e1, fun q => e2 (by omega), fun q => e3 (by omega)⟩
theorem setAt_ok {l : Array Slot} {i : Nat} (h : i < l.size) (x : Slot) : setAt l i x = some (l.setIfInBounds i x) := if_pos h
/-- which neighbours a store at i wipes -/
def Bad (Ls : Array Slot) (i j : Nat) : Prop := (j + 1 = i ∧ Ls[i]? = some .second) ∨ (j = i + 1 ∧ ∃ o, Ls[i]? = some (.val o) ∧ o.category = 2)
def Pre1 (Ls Ls1 : Array Slot) (i : Nat) : Prop := Ls1.size = Ls.size ∧ ∀ j, j ≠ i → (¬ Bad Ls i j ∧ Ls1[j]? = Ls[j]?) ∨ (Bad Ls i j ∧ Ls1[j]? = some .unset)
theorem storeLocals_pre {Ls : Array Slot} (wf : WFs fun i => Ls[i]?) {i : Nat} (hi : i < Ls.size) (w : Value) : ∃ Ls1, Pre1 Ls Ls1 i ∧ storeLocals Ls i w = storeSelf Ls1 i w := by
  have hg : Ls[i]? = some Ls[i] := Array.getElem?_eq_getElem hi
  rcases hs : Ls[i] with _ | _ | old
  · rw [hs] at hg
    refine ⟨Ls, ⟨rfl, fun j hj => Or.inl ⟨?_, rfl⟩⟩, ?_⟩
    · rintro (⟨-, q⟩ | ⟨-, o, q, -⟩) <;> (rw [hg] at q; cases q)
    · show (Ls[i]?).bind _ = _; rw [hg]; rfl
  · rw [hs] at hg
    obtain ⟨j0, v, rfl, hv, hc⟩ := wf.1 i hg
    have h0 : j0 < Ls.size := by omega
    refine ⟨Ls.setIfInBounds j0 .unset, ⟨by simp, fun j hj => ?_⟩, ?_⟩
    · by_cases e : j = j0
      · subst e; right; exact ⟨Or.inl ⟨rfl, hg⟩, by simp [h0]⟩
      · left
        refine ⟨?_, by rw [Array.getElem?_setIfInBounds_ne (Ne.symm e)]⟩
        rintro (⟨q', q⟩ | ⟨-, o, q, -⟩)
        · exact e (by omega)
        · rw [hg] at q; cases q
    · show (Ls[j0 + 1]?).bind _ = _; rw [hg]
      show (setAt Ls (j0 + 1 - 1) .unset).bind _ = _
      rw [Nat.add_sub_cancel, setAt_ok h0]; rfl
  · rw [hs] at hg
    by_cases hc : old.category = 2
    · have h1 := wf.2 i old hg hc
      have h1' : i + 1 < Ls.size := (Array.getElem?_eq_some_iff.mp h1).1
      refine ⟨Ls.setIfInBounds (i + 1) .unset, ⟨by simp, fun j hj => ?_⟩, ?_⟩
      · by_cases e : j = i + 1
        · subst e; right; exact ⟨Or.inr ⟨rfl, old, hg, hc⟩, by simp [h1']⟩
        · left
          refine ⟨?_, by rw [Array.getElem?_setIfInBounds_ne (Ne.symm e)]⟩
          rintro (⟨-, q⟩ | ⟨q, -⟩)
          · rw [hg] at q; cases q
          · exact e q
      · show (Ls[i]?).bind _ = _; rw [hg]
        show (if old.category = 2 then _ else _) = _
        rw [if_pos hc]
        show (setAt Ls (i + 1) .unset).bind _ = _
        rw [setAt_ok h1']; rfl
    · refine ⟨Ls, ⟨rfl, fun j hj => Or.inl ⟨?_, rfl⟩⟩, ?_⟩
      · rintro (⟨-, q⟩ | ⟨-, o, q, q'⟩) <;> (rw [hg] at q; cases q)
        exact hc q'
      · show (Ls[i]?).bind _ = _; rw [hg]
        show (if old.category = 2 then _ else _) = _
        rw [if_neg hc]
section St
variable {Ls : Array Slot} {i j : Nat}
/-- a value of one word is not wiped -/
theorem not_bad_val (wf : WFs fun i => Ls[i]?) {w : Value} (hj : Ls[j]? = some (.val w)) (hw : j + 1 = i → w.category = 1) : ¬ Bad Ls i j := by
  rintro (⟨rfl, q⟩ | ⟨rfl, o, q, q'⟩)
  · obtain ⟨j0, v, e, h1, h2⟩ := wf.1 _ q
    obtain rfl : j0 = j := by omega
    cases h1.symm.trans hj
    rw [hw rfl] at h2; cases h2
  · have := wf.2 _ _ q q'
    cases this.symm.trans hj
theorem not_bad_second (wf : WFs fun i => Ls[i]?) (hj : Ls[j]? = some .second) (hne : j ≠ i + 1) : ¬ Bad Ls i j := by
  rintro (⟨rfl, q⟩ | ⟨q, -⟩)
  · obtain ⟨j0, v, e, h1, h2⟩ := wf.1 _ q
    obtain rfl : j0 = j := by omega
    cases h1.symm.trans hj
  · exact hne q
end St
theorem LR.store1 {ad : Nat → Addr} {L : List Slot} {Ls : Array Slot} (hL : LR ad L Ls) {i : Nat} (hi : i < L.length) {v : Value} (hv : v.category = 1) : ∃ Ls', storeLocals Ls i (rf ad v) = some Ls' ∧ LR ad (st1 L i v) Ls' ∧ Ls'.size = Ls.size := by
  obtain ⟨l1, l2, l3, wf⟩ := hL
  have hi' : i < Ls.size := l1 ▸ hi
  have hv' : (rf ad v).category = 1 := by rw [rf_cat]; exact hv
  obtain ⟨Ls1, ⟨p1, p2⟩, e⟩ := storeLocals_pre wf hi' (rf ad v)
  have hi1 : i < Ls1.size := by rw [p1]; exact hi'
  have e2 : storeSelf Ls1 i (rf ad v) = some (Ls1.setIfInBounds i (.val (rf ad v))) := by
    show (setAt Ls1 i _).bind _ = _
    rw [setAt_ok hi1]
    show (if (rf ad v).category = 2 then _ else _) = _
    rw [if_neg (by rw [hv']; decide)]
  have at_i : (Ls1.setIfInBounds i (.val (rf ad v)))[i]? = some (.val (rf ad v)) := by simp [hi1]
  have at_j : ∀ j, j ≠ i → (Ls1.setIfInBounds i (.val (rf ad v)))[j]? = Ls1[j]? := fun j hj => Array.getElem?_setIfInBounds_ne (Ne.symm hj)
  have good : ∀ j, j ≠ i → ¬ Bad Ls i j → (Ls1.setIfInBounds i (.val (rf ad v)))[j]? = Ls[j]? := fun j hj hb => by
    rw [at_j j hj]
    rcases p2 j hj with ⟨-, q⟩ | ⟨q, -⟩
    · exact q
    · exact absurd q hb
  have back : ∀ j s, j ≠ i → s ≠ .unset → (Ls1.setIfInBounds i (.val (rf ad v)))[j]? = some s → ¬ Bad Ls i j ∧ Ls[j]? = some s := fun j s hj hs h => by
    rw [at_j j hj] at h
    rcases p2 j hj with ⟨q, q'⟩ | ⟨-, q⟩
    · exact ⟨q, by rw [← q']; exact h⟩
    · rw [q] at h; cases h; exact absurd rfl hs
  refine ⟨_, e.trans e2, ⟨by rw [st1_len, l1]; simp [p1], fun j w hj => ?_, fun j hj => ?_, fun j hj => ?_, fun j w hj hc => ?_⟩, by simp [p1]⟩
  · by_cases q : j = i
    · subst q
      rw [st1_at v L j hi] at hj
      cases hj; exact at_i
    · obtain ⟨a1, a2, -⟩ := st1_else v L i j _ q hj (by simp)
      have b1 := l2 j w a1
      rw [good j q (not_bad_val wf b1 fun z => by rw [rf_cat]; exact a2 z w rfl)]; exact b1
  · by_cases q : j = i
    · subst q
      rw [st1_at v L j hi] at hj
      cases hj
    · obtain ⟨a1, -, a3⟩ := st1_else v L i j _ q hj (by simp)
      have b1 := l3 j a1
      rw [good j q (not_bad_second wf b1 fun z => a3 z rfl)]; exact b1
  · dsimp only at hj ⊢
    have q : j ≠ i := fun q => by subst q; rw [at_i] at hj; cases hj
    obtain ⟨b1, b2⟩ := back j _ q (by simp) hj
    obtain ⟨j0, v', rfl, h1, h2⟩ := wf.1 j b2
    refine ⟨j0, v', rfl, ?_, h2⟩
    have q0 : j0 ≠ i := fun z => b1 (Or.inr ⟨by omega, v', z ▸ h1, h2⟩)
    rw [good j0 q0 ?_]; exact h1
    rintro (⟨z, -⟩ | ⟨z, o, z1, z2⟩)
    · exact q z
    · have := wf.2 _ _ z1 z2
      rw [← z] at this
      cases this.symm.trans h1
  · dsimp only at hj ⊢
    have q : j ≠ i := fun q => by subst q; rw [at_i] at hj; cases hj; rw [hv'] at hc; cases hc
    obtain ⟨b1, b2⟩ := back j _ q (by simp) hj
    have h1 := wf.2 j w b2 hc
    dsimp only at h1
    have q0 : j + 1 ≠ i := fun z => b1 (Or.inl ⟨z, z ▸ h1⟩)
    rw [good (j + 1) q0 ?_]; exact h1
    rintro (⟨z, z1⟩ | ⟨z, -⟩)
    · obtain ⟨j1, v1, e1, e2, -⟩ := wf.1 _ z1
      obtain rfl : j1 = j + 1 := by omega
      cases h1.symm.trans e2
    · omega
theorem LR.store2 {ad : Nat → Addr} {L : List Slot} {Ls : Array Slot} (hL : LR ad L Ls) {i : Nat} (hi : i + 1 < L.length) {v : Value} (hv : v.category = 2) : ∃ Ls', storeLocals Ls i (rf ad v) = some Ls' ∧ LR ad (st2 L i v) Ls' ∧ Ls'.size = Ls.size := by
  obtain ⟨l1, l2, l3, wf⟩ := hL
  have hi' : i + 1 < Ls.size := l1 ▸ hi
  have hv' : (rf ad v).category = 2 := by rw [rf_cat]; exact hv
  obtain ⟨Ls1, ⟨p1, p2⟩, e⟩ := storeLocals_pre wf (by omega : i < Ls.size) (rf ad v)
  have hi1 : i < Ls1.size := by rw [p1]; omega
  have hi2 : i + 1 < Ls1.size := by rw [p1]; omega
  -- what the second half leaves: two slots, and the one behind wiped where a long began at i + 1
  have key : ∃ Ls', storeSelf Ls1 i (rf ad v) = some Ls' ∧ Ls'.size = Ls1.size ∧ Ls'[i]? = some (.val (rf ad v)) ∧ Ls'[i + 1]? = some .second ∧ ∀ j, j ≠ i → j ≠ i + 1 → (Ls'[j]? = Ls1[j]? ∧ ¬ (j = i + 2 ∧ ∃ o, Ls1[i + 1]? = some (.val o) ∧ o.category = 2)) ∨ (Ls'[j]? = some .unset ∧ j = i + 2 ∧ ∃ o, Ls1[i + 1]? = some (.val o) ∧ o.category = 2) := by
    have n1 : (Ls1.setIfInBounds i (.val (rf ad v)))[i + 1]? = Ls1[i + 1]? := Array.getElem?_setIfInBounds_ne (by omega)
    have g1 : Ls1[i + 1]? = some Ls1[i + 1] := Array.getElem?_eq_getElem hi2
    have open1 : storeSelf Ls1 i (rf ad v) = ((Ls1.setIfInBounds i (.val (rf ad v)))[i + 1]?).bind fun x => match x with
      | .val old => if old.category = 2 then (setAt (Ls1.setIfInBounds i (.val (rf ad v))) (i + 2) .unset).bind fun z => setAt z (i + 1) .second else setAt (Ls1.setIfInBounds i (.val (rf ad v))) (i + 1) .second
      | _ => setAt (Ls1.setIfInBounds i (.val (rf ad v))) (i + 1) .second := by
      show (setAt Ls1 i _).bind _ = _
      rw [setAt_ok hi1]
      show (if (rf ad v).category = 2 then _ else _) = _
      rw [if_pos hv']; rfl
    have plain : (∀ o, Ls1[i + 1]? = some (.val o) → o.category ≠ 2) → storeSelf Ls1 i (rf ad v) = setAt (Ls1.setIfInBounds i (.val (rf ad v))) (i + 1) .second := fun hno => by
      rw [open1, n1, g1]
      rcases hs : Ls1[i + 1] with _ | _ | old
      · rfl
      · rfl
      · show (if old.category = 2 then _ else _) = _
        rw [if_neg (hno old (by rw [g1, hs]))]
    have szz : i + 1 < (Ls1.setIfInBounds i (.val (rf ad v))).size := by simpa using hi2
    by_cases hb : ∃ o, Ls1[i + 1]? = some (.val o) ∧ o.category = 2
    · obtain ⟨o, ho, ho2⟩ := hb
      have b1 : Ls[i + 1]? = some (.val o) := by
        rcases p2 (i + 1) (by omega) with ⟨-, q⟩ | ⟨-, q⟩
        · rw [← q]; exact ho
        · rw [q] at ho; cases ho
      have h3 : i + 2 < Ls1.size := by rw [p1]; exact (Array.getElem?_eq_some_iff.mp (wf.2 _ _ b1 ho2)).1
      refine ⟨((Ls1.setIfInBounds i (.val (rf ad v))).setIfInBounds (i + 2) .unset).setIfInBounds (i + 1) .second, ?_, by simp, ?_, ?_, fun j hj hj' => ?_⟩
      · rw [open1, n1, ho]
        show (if o.category = 2 then _ else _) = _
        rw [if_pos ho2, setAt_ok (by simpa using h3)]
        show setAt _ (i + 1) .second = _
        rw [setAt_ok (by simpa using hi2)]
      · rw [Array.getElem?_setIfInBounds_ne (by omega), Array.getElem?_setIfInBounds_ne (by omega)]; simp [hi1]
      · simp [hi2]
      · rw [Array.getElem?_setIfInBounds_ne (by omega)]
        by_cases z : j = i + 2
        · subst z; right; exact ⟨by simp [h3], rfl, o, ho, ho2⟩
        · left; exact ⟨by rw [Array.getElem?_setIfInBounds_ne (by omega), Array.getElem?_setIfInBounds_ne (by omega)], fun q => z q.1⟩
    · refine ⟨(Ls1.setIfInBounds i (.val (rf ad v))).setIfInBounds (i + 1) .second, ?_, by simp, ?_, ?_, fun j hj hj' => Or.inl ⟨?_, fun q => hb q.2⟩⟩
      · rw [plain fun o ho q => hb ⟨o, ho, q⟩, setAt_ok szz]
      · rw [Array.getElem?_setIfInBounds_ne (by omega)]; simp [hi1]
      · simp [hi2]
      · rw [Array.getElem?_setIfInBounds_ne (by omega), Array.getElem?_setIfInBounds_ne (by omega)]
  obtain ⟨Ls', e2, sz, at_i, at_i1, at_j⟩ := key
  -- i + 1 seen from Ls
  have up : ∀ o, Ls1[i + 1]? = some (.val o) → Ls[i + 1]? = some (.val o) := fun o ho => by
    rcases p2 (i + 1) (by omega) with ⟨-, q⟩ | ⟨-, q⟩
    · rw [← q]; exact ho
    · rw [q] at ho; cases ho
  have good : ∀ j, j ≠ i → j ≠ i + 1 → ¬ Bad Ls i j → ¬ (j = i + 2 ∧ ∃ o, Ls[i + 1]? = some (.val o) ∧ o.category = 2) → Ls'[j]? = Ls[j]? := fun j hj hj' hb hb' => by
    rcases at_j j hj hj' with ⟨q, -⟩ | ⟨-, q1, o, q2, q3⟩
    · rw [q]
      rcases p2 j hj with ⟨-, q⟩ | ⟨q, -⟩
      · exact q
      · exact absurd q hb
    · exact absurd ⟨q1, o, up o q2, q3⟩ hb'
  have back : ∀ j s, j ≠ i → j ≠ i + 1 → s ≠ .unset → Ls'[j]? = some s → ¬ Bad Ls i j ∧ Ls[j]? = some s ∧ ¬ (j = i + 2 ∧ ∃ o, Ls1[i + 1]? = some (.val o) ∧ o.category = 2) := fun j s hj hj' hs h => by
    rcases at_j j hj hj' with ⟨q, q0⟩ | ⟨q, -⟩
    · rw [q] at h
      rcases p2 j hj with ⟨q1, q'⟩ | ⟨-, q'⟩
      · exact ⟨q1, by rw [← q']; exact h, q0⟩
      · rw [q'] at h; cases h; exact absurd rfl hs
    · rw [q] at h; cases h; exact absurd rfl hs
  have s2 := st2_at v L i hi
  refine ⟨_, e.trans e2, ⟨by rw [st2_len, l1, sz, p1], fun j w hj => ?_, fun j hj => ?_, fun j hj => ?_, fun j w hj hc => ?_⟩, by rw [sz, p1]⟩
  · by_cases q : j = i
    · subst q
      rw [s2.1] at hj
      cases hj; exact at_i
    · by_cases q1 : j = i + 1
      · subst q1; rw [s2.2] at hj; cases hj
      · obtain ⟨a1, a2, -⟩ := st2_else v L i j _ q q1 hj (by simp)
        have b1 := l2 j w a1
        rw [good j q q1 (not_bad_val wf b1 fun z => by rw [rf_cat]; exact a2 z w rfl) ?_]; exact b1
        rintro ⟨rfl, o, z1, z2⟩
        have := wf.2 _ _ z1 z2
        cases this.symm.trans b1
  · by_cases q : j = i
    · subst q
      rw [s2.1] at hj
      cases hj
    · by_cases q1 : j = i + 1
      · subst q1; exact at_i1
      · obtain ⟨a1, -, a3⟩ := st2_else v L i j _ q q1 hj (by simp)
        have b1 := l3 j a1
        rw [good j q q1 (not_bad_second wf b1 q1) fun z => a3 z.1 rfl]; exact b1
  · dsimp only at hj ⊢
    by_cases q1 : j = i + 1
    · subst q1; exact ⟨i, _, rfl, at_i, hv'⟩
    have q : j ≠ i := fun q => by subst q; rw [at_i] at hj; cases hj
    obtain ⟨b1, b2, b3⟩ := back j _ q q1 (by simp) hj
    obtain ⟨j0, v', rfl, h1, h2⟩ := wf.1 j b2
    dsimp only at h1
    have q0 : j0 ≠ i := fun z => b1 (Or.inr ⟨by omega, v', z ▸ h1, h2⟩)
    -- j0 = i + 1: then j = i + 2 was wiped
    have q0' : j0 ≠ i + 1 := fun z => by
      subst z
      rcases p2 (i + 1) (by omega) with ⟨-, w1⟩ | ⟨w1, -⟩
      · exact b3 ⟨rfl, v', by rw [w1]; exact h1, h2⟩
      · rcases w1 with ⟨w1, -⟩ | ⟨-, o, w1, w2⟩
        · omega
        · have := wf.2 _ _ w1 w2
          cases this.symm.trans h1
    refine ⟨j0, v', rfl, ?_, h2⟩
    rw [good j0 q0 q0' ?_ ?_]; exact h1
    · rintro (⟨z, -⟩ | ⟨z, -⟩)
      · exact q z
      · exact q0' z
    · rintro ⟨rfl, o, z1, z2⟩
      have := wf.2 _ _ z1 z2
      cases this.symm.trans h1
  · dsimp only at hj ⊢
    by_cases q1 : j = i
    · subst q1; exact at_i1
    have q : j ≠ i + 1 := fun q => by subst q; rw [at_i1] at hj; cases hj
    obtain ⟨b1, b2, -⟩ := back j _ q1 q (by simp) hj
    have h1 := wf.2 j w b2 hc
    dsimp only at h1
    have q0 : j + 1 ≠ i := fun z => b1 (Or.inl ⟨z, z ▸ h1⟩)
    rw [good (j + 1) q0 (by omega) ?_ ?_]; exact h1
    · rintro (⟨z, z1⟩ | ⟨z, -⟩)
      · obtain ⟨j1, v1, e1, e2, -⟩ := wf.1 _ z1
        obtain rfl : j1 = j + 1 := by omega
        cases h1.symm.trans e2
      · omega
    · rintro ⟨z, -⟩; omega
/-! what is known less of -/
def leL : List Slot → List Slot → Prop
  | [], [] => True
  | .unset :: a, _ :: b => leL a b
  | x :: a, y :: b => x = y ∧ leL a b
  | _, _ => False
theorem leL_len : ∀ {A B : List Slot}, leL A B → A.length = B.length
  | [], [], _ => rfl
  | .unset :: a, _ :: b, h => congrArg Nat.succ (leL_len (A := a) (B := b) h)
  | .second :: a, _ :: b, h => congrArg Nat.succ (leL_len (A := a) (B := b) h.2)
  | .val _ :: a, _ :: b, h => congrArg Nat.succ (leL_len (A := a) (B := b) h.2)
theorem leL_get : ∀ {A B : List Slot}, leL A B → ∀ {i : Nat} {s : Slot}, A[i]? = some s → s ≠ .unset → B[i]? = some s
  | [], [], _, i, s, h, _ => by simp at h
  | .unset :: a, _ :: b, _, 0, s, h, hs => by simp at h; exact absurd h.symm hs
  | .unset :: a, _ :: b, hl, i + 1, s, h, hs => by simpa using leL_get (A := a) (B := b) hl (by simpa using h) hs
  | .second :: a, _ :: b, hl, 0, s, h, hs => by simp at h; subst h; simp [← hl.1]
  | .second :: a, _ :: b, hl, i + 1, s, h, hs => by simpa using leL_get (A := a) (B := b) hl.2 (by simpa using h) hs
  | .val _ :: a, _ :: b, hl, 0, s, h, hs => by simp at h; subst h; simp [← hl.1]
  | .val _ :: a, _ :: b, hl, i + 1, s, h, hs => by simpa using leL_get (A := a) (B := b) hl.2 (by simpa using h) hs
theorem LR.weak {ad : Nat → Addr} {A B : List Slot} {Ls : Array Slot} (h : leL A B) (hL : LR ad B Ls) : LR ad A Ls :=
  ⟨(leL_len h).trans hL.1, fun i v q => hL.2.1 i v (leL_get h q (by simp)), fun i q => hL.2.2.1 i (leL_get h q (by simp)), hL.2.2.2⟩
theorem wf_cons {x : Slot} {M : List Slot} (hx : x = .unset ∨ ∃ v, x = .val v ∧ v.category = 1) (h : WFs fun i => M[i]?) : WFs fun i => (x :: M)[i]? := by
  refine ⟨fun i hi => ?_, fun i v hi hc => ?_⟩
  · cases i with
    | zero => rcases hx with rfl | ⟨v, rfl, -⟩ <;> (simp at hi)
    | succ i =>
      obtain ⟨j, v, rfl, h1, h2⟩ := h.1 i (by simpa using hi)
      exact ⟨j + 1, v, rfl, by simpa using h1, h2⟩
  · cases i with
    | zero =>
      rcases hx with rfl | ⟨w, rfl, hw⟩
      · simp at hi
      · simp at hi; subst hi; rw [hw] at hc; cases hc
    | succ i => simpa using h.2 i v (by simpa using hi) hc
theorem wf_cons2 {w : Value} {M : List Slot} (hw : w.category = 2) (h : WFs fun i => M[i]?) : WFs fun i => (.val w :: .second :: M)[i]? := by
  refine ⟨fun i hi => ?_, fun i v hi hc => ?_⟩
  · match i, hi with
    | 0, hi => simp at hi
    | 1, _ => exact ⟨0, w, rfl, rfl, hw⟩
    | i + 2, hi =>
      obtain ⟨j, v, rfl, h1, h2⟩ := h.1 i (by simpa using hi)
      exact ⟨j + 2, v, rfl, by simpa using h1, h2⟩
  · match i, hi with
    | 0, _ => rfl
    | 1, hi => simp at hi
    | i + 2, hi => simpa using h.2 i v (by simpa using hi) hc
/-- the local variables at the entry -/
def laid : List Value → List Slot
  | [] => []
  | v :: vs => if v.category = 2 then .val v :: .second :: laid vs else .val v :: laid vs
def entL (as : List Value) (n : Nat) : List Slot := laid as ++ List.replicate (n - (laid as).length) Slot.unset
theorem laid_rel (ad : Nat → Addr) (k : Nat) : ∀ as : List Value, (laid as ++ List.replicate k Slot.unset).length = (laid (as.map (rf ad)) ++ List.replicate k Slot.unset).length ∧ (∀ (i : Nat) (v : Value), (laid as ++ List.replicate k Slot.unset)[i]? = some (.val v) → (laid (as.map (rf ad)) ++ List.replicate k Slot.unset)[i]? = some (.val (rf ad v))) ∧
    (∀ i : Nat, (laid as ++ List.replicate k Slot.unset)[i]? = some .second → (laid (as.map (rf ad)) ++ List.replicate k Slot.unset)[i]? = some .second) ∧ WFs fun i => (laid (as.map (rf ad)) ++ List.replicate k Slot.unset)[i]?
  | [] => by
    refine ⟨rfl, fun i v h => ?_, fun i h => h, fun i h => ?_, fun i v h => ?_⟩
    · simp [laid, List.getElem?_replicate] at h
    · simp [laid, List.getElem?_replicate] at h
    · simp [laid, List.getElem?_replicate] at h
  | v :: vs => by
    obtain ⟨a1, a2, a3, a4⟩ := laid_rel ad k vs
    have hc : (rf ad v).category = v.category := rf_cat ad v
    by_cases h : v.category = 2
    · have e1 : laid (v :: vs) = .val v :: .second :: laid vs := if_pos h
      have e2 : laid ((v :: vs).map (rf ad)) = .val (rf ad v) :: .second :: laid (vs.map (rf ad)) := if_pos (hc.trans h)
      rw [e1, e2]
      refine ⟨by simpa using a1, fun i w hi => ?_, fun i hi => ?_, wf_cons2 (hc.trans h) a4⟩
      · match i, hi with
        | 0, hi => simp at hi; subst hi; rfl
        | 1, hi => simp at hi
        | i + 2, hi => simpa using a2 i w (by simpa using hi)
      · match i, hi with
        | 0, hi => simp at hi
        | 1, hi => rfl
        | i + 2, hi => simpa using a3 i (by simpa using hi)
    · have e1 : laid (v :: vs) = .val v :: laid vs := if_neg h
      have e2 : laid ((v :: vs).map (rf ad)) = .val (rf ad v) :: laid (vs.map (rf ad)) := if_neg (by rw [hc]; exact h)
      have h1 : (rf ad v).category = 1 := by
        rw [hc]; cases v <;> first | rfl | exact absurd rfl h
      rw [e1, e2]
      refine ⟨by simpa using a1, fun i w hi => ?_, fun i hi => ?_, wf_cons (Or.inr ⟨_, rfl, h1⟩) a4⟩
      · match i, hi with
        | 0, hi => simp at hi; subst hi; rfl
        | i + 1, hi => simpa using a2 i w (by simpa using hi)
      · match i, hi with
        | 0, hi => simp at hi
        | i + 1, hi => simpa using a3 i (by simpa using hi)
theorem laid_foldl : ∀ (as : List Value) (acc : Array Slot), (as.foldl (fun acc v => if v.category = 2 then (acc.push (.val v)).push .second else acc.push (.val v)) acc).toList = acc.toList ++ laid as
  | [], acc => by simp [laid]
  | v :: vs, acc => by
    show (List.foldl _ (if v.category = 2 then (acc.push (.val v)).push .second else acc.push (.val v)) vs : Array Slot).toList = _
    rw [laid_foldl vs]
    by_cases h : v.category = 2
    · rw [if_pos h, show laid (v :: vs) = .val v :: .second :: laid vs from if_pos h]; simp
    · rw [if_neg h, show laid (v :: vs) = .val v :: laid vs from if_neg h]; simp
theorem laid_map_len (ad : Nat → Addr) (as : List Value) : (laid (as.map (rf ad))).length = (laid as).length := by
  have := (laid_rel ad 0 as).1
  simpa using this.symm
theorem entry_LR (ad : Nat → Addr) (as : List Value) (n : Nat) (hn : (laid as).length ≤ n) : LR ad (entL as n) (argsToLocals (as.map (rf ad)).toArray n) ∧ (argsToLocals (as.map (rf ad)).toArray n).size = n := by
  have e : (argsToLocals (as.map (rf ad)).toArray n).toList = laid (as.map (rf ad)) ++ List.replicate (n - (laid as).length) Slot.unset := by
    have e1 := laid_foldl (as.map (rf ad)) #[]
    have e2 : ((as.map (rf ad)).toArray.foldl (fun acc v => if v.category = 2 then (acc.push (.val v)).push .second else acc.push (.val v)) #[] : Array Slot).toList = laid (as.map (rf ad)) := by
      rw [List.foldl_toArray']
      · rw [e1]; rfl
      · rfl
    have e3 : ((as.map (rf ad)).toArray.foldl (fun acc v => if v.category = 2 then (acc.push (.val v)).push .second else acc.push (.val v)) #[] : Array Slot).size = (laid as).length := by
      rw [← Array.length_toList, e2, laid_map_len]
    show (_ ++ Array.replicate (n - _) Slot.unset).toList = _
    rw [Array.toList_append, e2, Array.toList_replicate, e3]
  obtain ⟨a1, a2, a3, a4⟩ := laid_rel ad (n - (laid as).length) as
  have g : ∀ i : Nat, (argsToLocals (as.map (rf ad)).toArray n)[i]? = (laid (as.map (rf ad)) ++ List.replicate (n - (laid as).length) Slot.unset)[i]? := fun i => by rw [← e, Array.getElem?_toList]
  have sz : (argsToLocals (as.map (rf ad)).toArray n).size = (laid (as.map (rf ad)) ++ List.replicate (n - (laid as).length) Slot.unset).length := by rw [← e, Array.length_toList]
  refine ⟨⟨by rw [sz]; exact a1, fun i v h => by rw [g]; exact a2 i v h, fun i h => by rw [g]; exact a3 i h, ?_⟩, by rw [sz, ← a1]; simp; omega⟩
  have : (fun i => (argsToLocals (as.map (rf ad)).toArray n)[i]?) = fun i => (laid (as.map (rf ad)) ++ List.replicate (n - (laid as).length) Slot.unset)[i]? := funext g
  rw [this]; exact a4
/-! ## reading and writing a list as Java does an array -/
def rd {α : Type} (xs : List α) (i : Int32) : Option α := if i < 0 then none else xs[i.toNatClampNeg]?
def wr {α : Type} (xs : List α) (i : Int32) (x : α) : Option (List α) := if i < 0 then none else if i.toNatClampNeg < xs.length then some (xs.set i.toNatClampNeg x) else none
theorem rd_slots {α : Type} {f : α → Value} {sl : Array Value} {xs : List α} (h : sl.toList = xs.map f) {j : Int32} {x : α} (hx : rd xs j = some x) : ¬ (j < 0 ∨ sl.size ≤ j.toNatClampNeg) ∧ sl[j.toNatClampNeg]? = some (f x) := by
  unfold rd at hx
  by_cases hj : j < 0
  · rw [if_pos hj] at hx; cases hx
  · rw [if_neg hj] at hx
    have h1 : sl[j.toNatClampNeg]? = some (f x) := by rw [← Array.getElem?_toList, h, List.getElem?_map, hx]; rfl
    exact ⟨fun q => q.elim hj fun q => absurd (Array.getElem?_eq_some_iff.mp h1).1 (Nat.not_lt.mpr q), h1⟩
theorem wr_slots {α : Type} {f : α → Value} {cl : Cell} {xs xs' : List α} (h : cl.slots.toList = xs.map f) {j : Int32} {x : α} (hx : wr xs j x = some xs') : ¬ (j < 0 ∨ cl.slots.size ≤ j.toNatClampNeg) ∧ (cl.setSlot j.toNatClampNeg (f x)).slots.toList = xs'.map f := by
  unfold wr at hx
  by_cases hj : j < 0
  · rw [if_pos hj] at hx; cases hx
  · rw [if_neg hj] at hx
    by_cases hl : j.toNatClampNeg < xs.length
    · rw [if_pos hl] at hx; cases hx
      have sz : cl.slots.size = xs.length := by rw [← Array.length_toList, h, List.length_map]
      refine ⟨fun q => q.elim hj fun q => by omega, ?_⟩
      show (cl.slots.setIfInBounds _ _).toList = _
      rw [Array.toList_setIfInBounds, h, List.map_set]
    · rw [if_neg hl] at hx; cases hx
/-! ## the walk's promise, said of the small view -/
def Am (Z : State) (own mn : String) (bytes : ByteArray) (maxL : Nat) (ret : Option FieldType) (p : Program) (s : State) (m : MethodId) (meth : Method) (c : Code) : Prop :=
  p.tables.exec = Jvm.exec ∧ Z.Warmed39 s.vm ∧ c.code = bytes ∧ c.maxLocals = maxL ∧ meth.sig.returnType = ret ∧ meth.locks = false ∧ s.vm.findClass own = some m.cls ∧ meth.name = mn
def WP (l : Launch) (Z : State) (C : String) (lay : List (String × String)) (own mn : String) (bytes : ByteArray) (maxL : Nat) (ret : Option FieldType) (R : Room) (n0 ro : Nat) (Q : Option Value → List OwnC → Prop) (k n pc : Nat) (L : List Slot) (S : List Value) (H : List OwnC) : Prop :=
  ∀ (p : Program) (e : Env) (s : State) (m : MethodId) (args : Array Value) (below : List Frame) (meth : Method) (c : Code) (T : State) (locs : List Loc) (ad : Nat → Addr) (Ls : Array Slot),
    Stand p l e R s m args below meth c T locs k n → Am Z own mn bytes maxL ret p s m meth c → HR Z C lay n0 ro ad H T.heap → Fr n0 locs → LR ad L Ls → Ls.size = maxL →
    ∃ (s₂ : State) (v : Option Value) (H' : List OwnC) (locs' : List Loc),
      Steps p.tables e below (T.setTop (mkF m pc Ls (S.map (rf ad)))) s₂ ∧ s₂.status = .running ∧ Ended s₂ below (.returned (v.map (rf ad))) ∧ Q v H' ∧ HR Z C lay n0 ro ad H' s₂.heap ∧ Kp ad H.length T.heap s₂.heap ∧ Fr n0 locs' ∧ FrameEnd s (.returned (v.map (rf ad))) s₂ locs' R.cells R.slots
section Rules
variable {l : Launch} {Z : State} {a0 : Array Value} {C : String} {lay : List (String × String)} {own mn : String} {bytes : ByteArray} {maxL : Nat} {ret : Option FieldType} {R : Room} {n0 ro : Nat} {Q : Option Value → List OwnC → Prop} {k n pc pc' : Nat} {L L' : List Slot} {S S' : List Value} {H H' : List OwnC}
theorem WP.weak (h : leL L' L) (nx : WP l Z C lay own mn bytes maxL ret R n0 ro Q k n pc L' S H) : WP l Z C lay own mn bytes maxL ret R n0 ro Q k n pc L S H :=
  fun p e s m args below meth c T locs ad Ls X A hr N hL hz => nx p e s m args below meth c T locs ad Ls X A hr N (LR.weak h hL) hz
theorem WP.of (hs : ∀ (p : Program) (e : Env) (s : State) (m : MethodId) (args : Array Value) (below : List Frame) (meth : Method) (c : Code) (T : State) (locs : List Loc) (ad : Nat → Addr) (Ls : Array Slot), Stand p l e R s m args below meth c T locs k n → Am Z own mn bytes maxL ret p s m meth c → LR ad L Ls → Ls.size = maxL →
      ∃ Ls', LR ad L' Ls' ∧ Ls'.size = maxL ∧ ∀ t, Steps p.tables e below (T.setTop (mkF m pc' Ls' (S'.map (rf ad)))) t → Steps p.tables e below (T.setTop (mkF m pc Ls (S.map (rf ad)))) t)
    (nx : WP l Z C lay own mn bytes maxL ret R n0 ro Q k n pc' L' S' H) : WP l Z C lay own mn bytes maxL ret R n0 ro Q k n pc L S H := by
  intro p e s m args below meth c T locs ad Ls X A hr N hL hz
  obtain ⟨Ls', hL', hz', st⟩ := hs p e s m args below meth c T locs ad Ls X A hL hz
  obtain ⟨s₂, v, H', locs', h1, h2⟩ := nx p e s m args below meth c T locs ad Ls' X A hr N hL' hz'
  exact ⟨s₂, v, H', locs', st _ h1, h2⟩
theorem WP.iload {j : Nat} {x : Int32} (hd : decode bytes pc = .ok (.iload j, 2)) (hl : L[j]? = some (.val (.int x))) (nx : WP l Z C lay own mn bytes maxL ret R n0 ro Q k n (pc + 2) L (.int x :: S) H) : WP l Z C lay own mn bytes maxL ret R n0 ro Q k n pc L (S) H :=
  WP.of (fun p e s m args below meth c T locs ad Ls X A hL hz => ⟨Ls, hL, hz, fun t ht => XS.iload X.here A.1 rfl (hb A.2.2.1 hd) (hL.2.1 _ _ hl) ht⟩) nx
theorem WP.iloadN {j : Fin 4} {x : Int32} (hd : decode bytes pc = .ok (.iload_n j, 1)) (hl : L[j.val]? = some (.val (.int x))) (nx : WP l Z C lay own mn bytes maxL ret R n0 ro Q k n (pc + 1) L (.int x :: S) H) : WP l Z C lay own mn bytes maxL ret R n0 ro Q k n pc L (S) H :=
  WP.of (fun p e s m args below meth c T locs ad Ls X A hL hz => ⟨Ls, hL, hz, fun t ht => XS.iloadN X.here A.1 rfl (hb A.2.2.1 hd) (hL.2.1 _ _ hl) ht⟩) nx
theorem WP.lload {j : Nat} {x : Int64} (hd : decode bytes pc = .ok (.lload j, 2)) (hl : L[j]? = some (.val (.long x))) (nx : WP l Z C lay own mn bytes maxL ret R n0 ro Q k n (pc + 2) L (.long x :: S) H) : WP l Z C lay own mn bytes maxL ret R n0 ro Q k n pc L (S) H :=
  WP.of (fun p e s m args below meth c T locs ad Ls X A hL hz => ⟨Ls, hL, hz, fun t ht => XT.lload X.here A.1 rfl (hb A.2.2.1 hd) (hL.2.1 _ _ hl) ht⟩) nx
theorem WP.lloadN {j : Fin 4} {x : Int64} (hd : decode bytes pc = .ok (.lload_n j, 1)) (hl : L[j.val]? = some (.val (.long x))) (nx : WP l Z C lay own mn bytes maxL ret R n0 ro Q k n (pc + 1) L (.long x :: S) H) : WP l Z C lay own mn bytes maxL ret R n0 ro Q k n pc L (S) H :=
  WP.of (fun p e s m args below meth c T locs ad Ls X A hL hz => ⟨Ls, hL, hz, fun t ht => XT.lloadN X.here A.1 rfl (hb A.2.2.1 hd) (hL.2.1 _ _ hl) ht⟩) nx
theorem WP.aload {j : Nat} {i : Nat} (hd : decode bytes pc = .ok (.aload j, 2)) (hl : L[j]? = some (.val (.ref i))) (nx : WP l Z C lay own mn bytes maxL ret R n0 ro Q k n (pc + 2) L (.ref i :: S) H) : WP l Z C lay own mn bytes maxL ret R n0 ro Q k n pc L (S) H :=
  WP.of (fun p e s m args below meth c T locs ad Ls X A hL hz => ⟨Ls, hL, hz, fun t ht => XS.aload X.here A.1 rfl (hb A.2.2.1 hd) (hL.2.1 _ _ hl) rfl ht⟩) nx
theorem WP.aloadN {j : Fin 4} {i : Nat} (hd : decode bytes pc = .ok (.aload_n j, 1)) (hl : L[j.val]? = some (.val (.ref i))) (nx : WP l Z C lay own mn bytes maxL ret R n0 ro Q k n (pc + 1) L (.ref i :: S) H) : WP l Z C lay own mn bytes maxL ret R n0 ro Q k n pc L (S) H :=
  WP.of (fun p e s m args below meth c T locs ad Ls X A hL hz => ⟨Ls, hL, hz, fun t ht => XS.aloadN X.here A.1 rfl (hb A.2.2.1 hd) (hL.2.1 _ _ hl) rfl ht⟩) nx
theorem WP.iconst {i : Int} (v : Int32) (hd : decode bytes pc = .ok (.iconst i, 1)) (hv : Int32.ofInt i = v) (nx : WP l Z C lay own mn bytes maxL ret R n0 ro Q k n (pc + 1) L (.int v :: S) H) : WP l Z C lay own mn bytes maxL ret R n0 ro Q k n pc L (S) H :=
  WP.of (fun p e s m args below meth c T locs ad Ls X A hL hz => ⟨Ls, hL, hz, fun t ht => XS.iconst X.here A.1 rfl (hb A.2.2.1 hd) (by rw [hv]; exact ht)⟩) nx
theorem WP.bipush {i : Int} (v : Int32) (hd : decode bytes pc = .ok (.bipush i, 2)) (hv : (Int8.ofInt i).toInt32 = v) (nx : WP l Z C lay own mn bytes maxL ret R n0 ro Q k n (pc + 2) L (.int v :: S) H) : WP l Z C lay own mn bytes maxL ret R n0 ro Q k n pc L (S) H :=
  WP.of (fun p e s m args below meth c T locs ad Ls X A hL hz => ⟨Ls, hL, hz, fun t ht => XS.bipush X.here A.1 rfl (hb A.2.2.1 hd) (by rw [hv]; exact ht)⟩) nx
theorem WP.sipush {i : Int} (v : Int32) (hd : decode bytes pc = .ok (.sipush i, 3)) (hv : (Int16.ofInt i).toInt32 = v) (nx : WP l Z C lay own mn bytes maxL ret R n0 ro Q k n (pc + 3) L (.int v :: S) H) : WP l Z C lay own mn bytes maxL ret R n0 ro Q k n pc L (S) H :=
  WP.of (fun p e s m args below meth c T locs ad Ls X A hL hz => ⟨Ls, hL, hz, fun t ht => XS.sipush X.here A.1 rfl (hb A.2.2.1 hd) (by rw [hv]; exact ht)⟩) nx
theorem WP.lconst {j : Fin 2} (v : Int64) (hd : decode bytes pc = .ok (.lconst j, 1)) (hv : Int64.ofNat j = v) (nx : WP l Z C lay own mn bytes maxL ret R n0 ro Q k n (pc + 1) L (.long v :: S) H) : WP l Z C lay own mn bytes maxL ret R n0 ro Q k n pc L (S) H :=
  WP.of (fun p e s m args below meth c T locs ad Ls X A hL hz => ⟨Ls, hL, hz, fun t ht => XT.lconst X.here A.1 rfl (hb A.2.2.1 hd) (by rw [hv]; exact ht)⟩) nx
theorem WP.ldc {idx : Nat} {v : Int32} (hd : decode bytes pc = .ok (.ldc idx, 2)) (hw : (Cond.constant own idx v).before a0 Z = true) (nx : WP l Z C lay own mn bytes maxL ret R n0 ro Q k n (pc + 2) L (.int v :: S) H) : WP l Z C lay own mn bytes maxL ret R n0 ro Q k n pc L (S) H :=
  WP.of (fun p e s m args below meth c T locs ad Ls X A hL hz => ⟨Ls, hL, hz, fun t ht => X.ldcInt A.1 A.2.2.2.2.2.2.1 (mvT A.2.1 hw) (g := mkF m pc Ls (S.map (rf ad))) rfl (hb A.2.2.1 hd) t ht⟩) nx
theorem WP.ldcw {idx : Nat} {v : Int32} (hd : decode bytes pc = .ok (.ldc_w idx, 3)) (hw : (Cond.constant own idx v).before a0 Z = true) (nx : WP l Z C lay own mn bytes maxL ret R n0 ro Q k n (pc + 3) L (.int v :: S) H) : WP l Z C lay own mn bytes maxL ret R n0 ro Q k n pc L (S) H :=
  WP.of (fun p e s m args below meth c T locs ad Ls X A hL hz => ⟨Ls, hL, hz, fun t ht => X.ldcwInt A.1 A.2.2.2.2.2.2.1 (mvT A.2.1 hw) (g := mkF m pc Ls (S.map (rf ad))) rfl (hb A.2.2.1 hd) t ht⟩) nx
theorem WP.ldc2 {idx : Nat} {v : Int64} (hd : decode bytes pc = .ok (.ldc2_w idx, 3)) (hw : (Cond.constantLong own idx v).before a0 Z = true) (nx : WP l Z C lay own mn bytes maxL ret R n0 ro Q k n (pc + 3) L (.long v :: S) H) : WP l Z C lay own mn bytes maxL ret R n0 ro Q k n pc L (S) H :=
  WP.of (fun p e s m args below meth c T locs ad Ls X A hL hz => ⟨Ls, hL, hz, fun t ht => X.ldc2Long A.1 A.2.2.2.2.2.2.1 (mvT A.2.1 hw) (g := mkF m pc Ls (S.map (rf ad))) rfl (hb A.2.2.1 hd) t ht⟩) nx
theorem WP.iadd {x y : Int32} (hd : decode bytes pc = .ok (.iadd, 1)) (nx : WP l Z C lay own mn bytes maxL ret R n0 ro Q k n (pc + 1) L (.int (x + y) :: S) H) : WP l Z C lay own mn bytes maxL ret R n0 ro Q k n pc L (.int y :: .int x :: S) H :=
  WP.of (fun p e s m args below meth c T locs ad Ls X A hL hz => ⟨Ls, hL, hz, fun t ht => XS.iadd X.here A.1 rfl (hb A.2.2.1 hd) rfl ht⟩) nx
theorem WP.ladd {x y : Int64} (hd : decode bytes pc = .ok (.ladd, 1)) (nx : WP l Z C lay own mn bytes maxL ret R n0 ro Q k n (pc + 1) L (.long (x + y) :: S) H) : WP l Z C lay own mn bytes maxL ret R n0 ro Q k n pc L (.long y :: .long x :: S) H :=
  WP.of (fun p e s m args below meth c T locs ad Ls X A hL hz => ⟨Ls, hL, hz, fun t ht => XT.ladd X.here A.1 rfl (hb A.2.2.1 hd) rfl ht⟩) nx
theorem WP.isub {x y : Int32} (hd : decode bytes pc = .ok (.isub, 1)) (nx : WP l Z C lay own mn bytes maxL ret R n0 ro Q k n (pc + 1) L (.int (x - y) :: S) H) : WP l Z C lay own mn bytes maxL ret R n0 ro Q k n pc L (.int y :: .int x :: S) H :=
  WP.of (fun p e s m args below meth c T locs ad Ls X A hL hz => ⟨Ls, hL, hz, fun t ht => XS.isub X.here A.1 rfl (hb A.2.2.1 hd) rfl ht⟩) nx
theorem WP.lsub {x y : Int64} (hd : decode bytes pc = .ok (.lsub, 1)) (nx : WP l Z C lay own mn bytes maxL ret R n0 ro Q k n (pc + 1) L (.long (x - y) :: S) H) : WP l Z C lay own mn bytes maxL ret R n0 ro Q k n pc L (.long y :: .long x :: S) H :=
  WP.of (fun p e s m args below meth c T locs ad Ls X A hL hz => ⟨Ls, hL, hz, fun t ht => XT.lsub X.here A.1 rfl (hb A.2.2.1 hd) rfl ht⟩) nx
theorem WP.imul {x y : Int32} (hd : decode bytes pc = .ok (.imul, 1)) (nx : WP l Z C lay own mn bytes maxL ret R n0 ro Q k n (pc + 1) L (.int (x * y) :: S) H) : WP l Z C lay own mn bytes maxL ret R n0 ro Q k n pc L (.int y :: .int x :: S) H :=
  WP.of (fun p e s m args below meth c T locs ad Ls X A hL hz => ⟨Ls, hL, hz, fun t ht => XS.imul X.here A.1 rfl (hb A.2.2.1 hd) rfl ht⟩) nx
theorem WP.lmul {x y : Int64} (hd : decode bytes pc = .ok (.lmul, 1)) (nx : WP l Z C lay own mn bytes maxL ret R n0 ro Q k n (pc + 1) L (.long (x * y) :: S) H) : WP l Z C lay own mn bytes maxL ret R n0 ro Q k n pc L (.long y :: .long x :: S) H :=
  WP.of (fun p e s m args below meth c T locs ad Ls X A hL hz => ⟨Ls, hL, hz, fun t ht => XT.lmul X.here A.1 rfl (hb A.2.2.1 hd) rfl ht⟩) nx
theorem WP.iand {x y : Int32} (hd : decode bytes pc = .ok (.iand, 1)) (nx : WP l Z C lay own mn bytes maxL ret R n0 ro Q k n (pc + 1) L (.int (x &&& y) :: S) H) : WP l Z C lay own mn bytes maxL ret R n0 ro Q k n pc L (.int y :: .int x :: S) H :=
  WP.of (fun p e s m args below meth c T locs ad Ls X A hL hz => ⟨Ls, hL, hz, fun t ht => XS.iand X.here A.1 rfl (hb A.2.2.1 hd) rfl ht⟩) nx
theorem WP.land {x y : Int64} (hd : decode bytes pc = .ok (.land, 1)) (nx : WP l Z C lay own mn bytes maxL ret R n0 ro Q k n (pc + 1) L (.long (x &&& y) :: S) H) : WP l Z C lay own mn bytes maxL ret R n0 ro Q k n pc L (.long y :: .long x :: S) H :=
  WP.of (fun p e s m args below meth c T locs ad Ls X A hL hz => ⟨Ls, hL, hz, fun t ht => XT.land X.here A.1 rfl (hb A.2.2.1 hd) rfl ht⟩) nx
theorem WP.ior {x y : Int32} (hd : decode bytes pc = .ok (.ior, 1)) (nx : WP l Z C lay own mn bytes maxL ret R n0 ro Q k n (pc + 1) L (.int (x ||| y) :: S) H) : WP l Z C lay own mn bytes maxL ret R n0 ro Q k n pc L (.int y :: .int x :: S) H :=
  WP.of (fun p e s m args below meth c T locs ad Ls X A hL hz => ⟨Ls, hL, hz, fun t ht => XT.ior X.here A.1 rfl (hb A.2.2.1 hd) rfl ht⟩) nx
theorem WP.lor {x y : Int64} (hd : decode bytes pc = .ok (.lor, 1)) (nx : WP l Z C lay own mn bytes maxL ret R n0 ro Q k n (pc + 1) L (.long (x ||| y) :: S) H) : WP l Z C lay own mn bytes maxL ret R n0 ro Q k n pc L (.long y :: .long x :: S) H :=
  WP.of (fun p e s m args below meth c T locs ad Ls X A hL hz => ⟨Ls, hL, hz, fun t ht => XT.lor X.here A.1 rfl (hb A.2.2.1 hd) rfl ht⟩) nx
theorem WP.ixor {x y : Int32} (hd : decode bytes pc = .ok (.ixor, 1)) (nx : WP l Z C lay own mn bytes maxL ret R n0 ro Q k n (pc + 1) L (.int (x ^^^ y) :: S) H) : WP l Z C lay own mn bytes maxL ret R n0 ro Q k n pc L (.int y :: .int x :: S) H :=
  WP.of (fun p e s m args below meth c T locs ad Ls X A hL hz => ⟨Ls, hL, hz, fun t ht => XT.ixor X.here A.1 rfl (hb A.2.2.1 hd) rfl ht⟩) nx
theorem WP.lxor {x y : Int64} (hd : decode bytes pc = .ok (.lxor, 1)) (nx : WP l Z C lay own mn bytes maxL ret R n0 ro Q k n (pc + 1) L (.long (x ^^^ y) :: S) H) : WP l Z C lay own mn bytes maxL ret R n0 ro Q k n pc L (.long y :: .long x :: S) H :=
  WP.of (fun p e s m args below meth c T locs ad Ls X A hL hz => ⟨Ls, hL, hz, fun t ht => XT.lxor X.here A.1 rfl (hb A.2.2.1 hd) rfl ht⟩) nx
theorem WP.idiv {x y : Int32} (hd : decode bytes pc = .ok (.idiv, 1)) (hy : ¬ y = 0) (nx : WP l Z C lay own mn bytes maxL ret R n0 ro Q k n (pc + 1) L (.int (x / y) :: S) H) : WP l Z C lay own mn bytes maxL ret R n0 ro Q k n pc L (.int y :: .int x :: S) H :=
  WP.of (fun p e s m args below meth c T locs ad Ls X A hL hz => ⟨Ls, hL, hz, fun t ht => XS.idiv X.here A.1 rfl (hb A.2.2.1 hd) rfl hy ht⟩) nx
theorem WP.irem {x y : Int32} (hd : decode bytes pc = .ok (.irem, 1)) (hy : ¬ y = 0) (nx : WP l Z C lay own mn bytes maxL ret R n0 ro Q k n (pc + 1) L (.int (x % y) :: S) H) : WP l Z C lay own mn bytes maxL ret R n0 ro Q k n pc L (.int y :: .int x :: S) H :=
  WP.of (fun p e s m args below meth c T locs ad Ls X A hL hz => ⟨Ls, hL, hz, fun t ht => iremM X A.1 rfl (hb A.2.2.1 hd) rfl hy ht⟩) nx
theorem WP.ldiv {x y : Int64} (hd : decode bytes pc = .ok (.ldiv, 1)) (hy : ¬ y = 0) (nx : WP l Z C lay own mn bytes maxL ret R n0 ro Q k n (pc + 1) L (.long (x / y) :: S) H) : WP l Z C lay own mn bytes maxL ret R n0 ro Q k n pc L (.long y :: .long x :: S) H :=
  WP.of (fun p e s m args below meth c T locs ad Ls X A hL hz => ⟨Ls, hL, hz, fun t ht => XT.ldiv X.here A.1 rfl (hb A.2.2.1 hd) rfl hy ht⟩) nx
theorem lrem_mod (x y : Int64) : x - (x / y) * y = x % y := by
  apply Int64.toInt_inj.mp
  have h1 := Int64.le_toInt (x % y)
  have h2 := Int64.toInt_lt (x % y)
  rw [Int64.toInt_sub, Int64.toInt_mul, Int64.toInt_div, Int.bmod_mul_bmod, Int.sub_bmod_bmod, Int.mul_comm (x.toInt.tdiv y.toInt), ← Int.tmod_def, ← Int64.toInt_mod]
  exact Int.bmod_eq_of_le_mul_two (by omega) (by omega)
theorem WP.lrem {x y : Int64} (hd : decode bytes pc = .ok (.lrem, 1)) (hy : ¬ y = 0) (nx : WP l Z C lay own mn bytes maxL ret R n0 ro Q k n (pc + 1) L (.long (x % y) :: S) H) : WP l Z C lay own mn bytes maxL ret R n0 ro Q k n pc L (.long y :: .long x :: S) H :=
  WP.of (fun p e s m args below meth c T locs ad Ls X A hL hz => ⟨Ls, hL, hz, fun t ht => XT.lrem X.here A.1 rfl (hb A.2.2.1 hd) rfl hy (by rw [lrem_mod]; exact ht)⟩) nx
theorem WP.ishl {x y : Int32} (hd : decode bytes pc = .ok (.ishl, 1)) (nx : WP l Z C lay own mn bytes maxL ret R n0 ro Q k n (pc + 1) L (.int (x <<< (y &&& 31)) :: S) H) : WP l Z C lay own mn bytes maxL ret R n0 ro Q k n pc L (.int y :: .int x :: S) H :=
  WP.of (fun p e s m args below meth c T locs ad Ls X A hL hz => ⟨Ls, hL, hz, fun t ht => XT.ishl X.here A.1 rfl (hb A.2.2.1 hd) rfl ht⟩) nx
theorem WP.ishr {x y : Int32} (hd : decode bytes pc = .ok (.ishr, 1)) (nx : WP l Z C lay own mn bytes maxL ret R n0 ro Q k n (pc + 1) L (.int (x >>> (y &&& 31)) :: S) H) : WP l Z C lay own mn bytes maxL ret R n0 ro Q k n pc L (.int y :: .int x :: S) H :=
  WP.of (fun p e s m args below meth c T locs ad Ls X A hL hz => ⟨Ls, hL, hz, fun t ht => XT.ishr X.here A.1 rfl (hb A.2.2.1 hd) rfl ht⟩) nx
theorem WP.iushr {x y : Int32} (hd : decode bytes pc = .ok (.iushr, 1)) (nx : WP l Z C lay own mn bytes maxL ret R n0 ro Q k n (pc + 1) L (.int (XT.ushr x y) :: S) H) : WP l Z C lay own mn bytes maxL ret R n0 ro Q k n pc L (.int y :: .int x :: S) H :=
  WP.of (fun p e s m args below meth c T locs ad Ls X A hL hz => ⟨Ls, hL, hz, fun t ht => XT.iushr X.here A.1 rfl (hb A.2.2.1 hd) rfl ht⟩) nx
theorem WP.lshl {x : Int64} {y : Int32} (hd : decode bytes pc = .ok (.lshl, 1)) (nx : WP l Z C lay own mn bytes maxL ret R n0 ro Q k n (pc + 1) L (.long (x <<< (y.toInt64 &&& 63)) :: S) H) : WP l Z C lay own mn bytes maxL ret R n0 ro Q k n pc L (.int y :: .long x :: S) H :=
  WP.of (fun p e s m args below meth c T locs ad Ls X A hL hz => ⟨Ls, hL, hz, fun t ht => XT.lshl X.here A.1 rfl (hb A.2.2.1 hd) rfl ht⟩) nx
theorem WP.lshr {x : Int64} {y : Int32} (hd : decode bytes pc = .ok (.lshr, 1)) (nx : WP l Z C lay own mn bytes maxL ret R n0 ro Q k n (pc + 1) L (.long (x >>> (y.toInt64 &&& 63)) :: S) H) : WP l Z C lay own mn bytes maxL ret R n0 ro Q k n pc L (.int y :: .long x :: S) H :=
  WP.of (fun p e s m args below meth c T locs ad Ls X A hL hz => ⟨Ls, hL, hz, fun t ht => XT.lshr X.here A.1 rfl (hb A.2.2.1 hd) rfl ht⟩) nx
theorem WP.lushr {x : Int64} {y : Int32} (hd : decode bytes pc = .ok (.lushr, 1)) (nx : WP l Z C lay own mn bytes maxL ret R n0 ro Q k n (pc + 1) L (.long (XT.ushrL x y) :: S) H) : WP l Z C lay own mn bytes maxL ret R n0 ro Q k n pc L (.int y :: .long x :: S) H :=
  WP.of (fun p e s m args below meth c T locs ad Ls X A hL hz => ⟨Ls, hL, hz, fun t ht => XT.lushr X.here A.1 rfl (hb A.2.2.1 hd) rfl ht⟩) nx
theorem WP.ineg {x : Int32} (hd : decode bytes pc = .ok (.ineg, 1)) (nx : WP l Z C lay own mn bytes maxL ret R n0 ro Q k n (pc + 1) L (.int (-x) :: S) H) : WP l Z C lay own mn bytes maxL ret R n0 ro Q k n pc L (.int x :: S) H :=
  WP.of (fun p e s m args below meth c T locs ad Ls X A hL hz => ⟨Ls, hL, hz, fun t ht => XS.ineg X.here A.1 rfl (hb A.2.2.1 hd) rfl ht⟩) nx
theorem WP.lneg {x : Int64} (hd : decode bytes pc = .ok (.lneg, 1)) (nx : WP l Z C lay own mn bytes maxL ret R n0 ro Q k n (pc + 1) L (.long (-x) :: S) H) : WP l Z C lay own mn bytes maxL ret R n0 ro Q k n pc L (.long x :: S) H :=
  WP.of (fun p e s m args below meth c T locs ad Ls X A hL hz => ⟨Ls, hL, hz, fun t ht => XT.lneg X.here A.1 rfl (hb A.2.2.1 hd) rfl ht⟩) nx
theorem WP.i2l {x : Int32} (hd : decode bytes pc = .ok (.i2l, 1)) (nx : WP l Z C lay own mn bytes maxL ret R n0 ro Q k n (pc + 1) L (.long x.toInt64 :: S) H) : WP l Z C lay own mn bytes maxL ret R n0 ro Q k n pc L (.int x :: S) H :=
  WP.of (fun p e s m args below meth c T locs ad Ls X A hL hz => ⟨Ls, hL, hz, fun t ht => XT.i2l X.here A.1 rfl (hb A.2.2.1 hd) rfl ht⟩) nx
theorem WP.l2i {x : Int64} (hd : decode bytes pc = .ok (.l2i, 1)) (nx : WP l Z C lay own mn bytes maxL ret R n0 ro Q k n (pc + 1) L (.int x.toInt32 :: S) H) : WP l Z C lay own mn bytes maxL ret R n0 ro Q k n pc L (.long x :: S) H :=
  WP.of (fun p e s m args below meth c T locs ad Ls X A hL hz => ⟨Ls, hL, hz, fun t ht => XT.l2i X.here A.1 rfl (hb A.2.2.1 hd) rfl ht⟩) nx
theorem WP.lcmp {x y : Int64} (hd : decode bytes pc = .ok (.lcmp, 1)) (nx : WP l Z C lay own mn bytes maxL ret R n0 ro Q k n (pc + 1) L (.int (XT.cmpL x y) :: S) H) : WP l Z C lay own mn bytes maxL ret R n0 ro Q k n pc L (.long y :: .long x :: S) H :=
  WP.of (fun p e s m args below meth c T locs ad Ls X A hL hz => ⟨Ls, hL, hz, fun t ht => XT.lcmp X.here A.1 rfl (hb A.2.2.1 hd) rfl ht⟩) nx
theorem WP.dup {v : Value} (hd : decode bytes pc = .ok (.dup, 1)) (hc : v.category = 1) (nx : WP l Z C lay own mn bytes maxL ret R n0 ro Q k n (pc + 1) L (v :: v :: S) H) : WP l Z C lay own mn bytes maxL ret R n0 ro Q k n pc L (v :: S) H :=
  WP.of (fun p e s m args below meth c T locs ad Ls X A hL hz => ⟨Ls, hL, hz, fun t ht => XS.dup X.here A.1 rfl (hb A.2.2.1 hd) rfl (by rw [rf_cat]; exact hc) ht⟩) nx
theorem WP.dup2 {v w : Value} (hd : decode bytes pc = .ok (.dup2, 1)) (hc : v.category = 1) (hc' : w.category = 1) (nx : WP l Z C lay own mn bytes maxL ret R n0 ro Q k n (pc + 1) L (v :: w :: v :: w :: S) H) : WP l Z C lay own mn bytes maxL ret R n0 ro Q k n pc L (v :: w :: S) H :=
  WP.of (fun p e s m args below meth c T locs ad Ls X A hL hz => ⟨Ls, hL, hz, fun t ht => XT.dup2 X.here A.1 rfl (hb A.2.2.1 hd) rfl (by rw [rf_cat]; exact hc) (by rw [rf_cat]; exact hc') ht⟩) nx
theorem WP.dup2L {x : Int64} (hd : decode bytes pc = .ok (.dup2, 1)) (nx : WP l Z C lay own mn bytes maxL ret R n0 ro Q k n (pc + 1) L (.long x :: .long x :: S) H) : WP l Z C lay own mn bytes maxL ret R n0 ro Q k n pc L (.long x :: S) H :=
  WP.of (fun p e s m args below meth c T locs ad Ls X A hL hz => ⟨Ls, hL, hz, fun t ht => XT.dup2L X.here A.1 rfl (hb A.2.2.1 hd) rfl ht⟩) nx
theorem WP.pop {v : Value} (hd : decode bytes pc = .ok (.pop, 1)) (hc : v.category = 1) (nx : WP l Z C lay own mn bytes maxL ret R n0 ro Q k n (pc + 1) L (S) H) : WP l Z C lay own mn bytes maxL ret R n0 ro Q k n pc L (v :: S) H :=
  WP.of (fun p e s m args below meth c T locs ad Ls X A hL hz => ⟨Ls, hL, hz, fun t ht => XT.pop X.here A.1 rfl (hb A.2.2.1 hd) rfl (by rw [rf_cat]; exact hc) ht⟩) nx
theorem WP.istore {j : Nat} {x : Int32} (hd : decode bytes pc = .ok (.istore j, 2)) (hi : j < L.length) (hL' : st1 L j (.int x) = L') (nx : WP l Z C lay own mn bytes maxL ret R n0 ro Q k n (pc + 2) L' S H) : WP l Z C lay own mn bytes maxL ret R n0 ro Q k n pc L (.int x :: S) H :=
  WP.of (fun p e s m args below meth c T locs ad Ls X A hL hz => by
    obtain ⟨Ls', e1, e2, e3⟩ := hL.store1 hi (v := .int x) rfl
    exact ⟨Ls', hL' ▸ e2, e3.trans hz, fun t ht => XS.istore X.here A.1 rfl (hb A.2.2.1 hd) rfl e1 ht⟩) nx
theorem WP.istoreN {j : Fin 4} {x : Int32} (hd : decode bytes pc = .ok (.istore_n j, 1)) (hi : j.val < L.length) (hL' : st1 L j.val (.int x) = L') (nx : WP l Z C lay own mn bytes maxL ret R n0 ro Q k n (pc + 1) L' S H) : WP l Z C lay own mn bytes maxL ret R n0 ro Q k n pc L (.int x :: S) H :=
  WP.of (fun p e s m args below meth c T locs ad Ls X A hL hz => by
    obtain ⟨Ls', e1, e2, e3⟩ := hL.store1 hi (v := .int x) rfl
    exact ⟨Ls', hL' ▸ e2, e3.trans hz, fun t ht => XS.istoreN X.here A.1 rfl (hb A.2.2.1 hd) rfl e1 ht⟩) nx
theorem WP.astore {j : Nat} {i : Nat} (hd : decode bytes pc = .ok (.astore j, 2)) (hi : j < L.length) (hL' : st1 L j (.ref i) = L') (nx : WP l Z C lay own mn bytes maxL ret R n0 ro Q k n (pc + 2) L' S H) : WP l Z C lay own mn bytes maxL ret R n0 ro Q k n pc L (.ref i :: S) H :=
  WP.of (fun p e s m args below meth c T locs ad Ls X A hL hz => by
    obtain ⟨Ls', e1, e2, e3⟩ := hL.store1 hi (v := .ref i) rfl
    exact ⟨Ls', hL' ▸ e2, e3.trans hz, fun t ht => XS.astore X.here A.1 rfl (hb A.2.2.1 hd) rfl rfl e1 ht⟩) nx
theorem WP.astoreN {j : Fin 4} {i : Nat} (hd : decode bytes pc = .ok (.astore_n j, 1)) (hi : j.val < L.length) (hL' : st1 L j.val (.ref i) = L') (nx : WP l Z C lay own mn bytes maxL ret R n0 ro Q k n (pc + 1) L' S H) : WP l Z C lay own mn bytes maxL ret R n0 ro Q k n pc L (.ref i :: S) H :=
  WP.of (fun p e s m args below meth c T locs ad Ls X A hL hz => by
    obtain ⟨Ls', e1, e2, e3⟩ := hL.store1 hi (v := .ref i) rfl
    exact ⟨Ls', hL' ▸ e2, e3.trans hz, fun t ht => XS.astoreN X.here A.1 rfl (hb A.2.2.1 hd) rfl rfl e1 ht⟩) nx
theorem WP.lstore {j : Nat} {x : Int64} (hd : decode bytes pc = .ok (.lstore j, 2)) (hi : j + 1 < L.length) (hL' : st2 L j (.long x) = L') (nx : WP l Z C lay own mn bytes maxL ret R n0 ro Q k n (pc + 2) L' S H) : WP l Z C lay own mn bytes maxL ret R n0 ro Q k n pc L (.long x :: S) H :=
  WP.of (fun p e s m args below meth c T locs ad Ls X A hL hz => by
    obtain ⟨Ls', e1, e2, e3⟩ := hL.store2 hi (v := .long x) rfl
    exact ⟨Ls', hL' ▸ e2, e3.trans hz, fun t ht => XT.lstore X.here A.1 rfl (hb A.2.2.1 hd) rfl e1 ht⟩) nx
theorem WP.lstoreN {j : Fin 4} {x : Int64} (hd : decode bytes pc = .ok (.lstore_n j, 1)) (hi : j.val + 1 < L.length) (hL' : st2 L j.val (.long x) = L') (nx : WP l Z C lay own mn bytes maxL ret R n0 ro Q k n (pc + 1) L' S H) : WP l Z C lay own mn bytes maxL ret R n0 ro Q k n pc L (.long x :: S) H :=
  WP.of (fun p e s m args below meth c T locs ad Ls X A hL hz => by
    obtain ⟨Ls', e1, e2, e3⟩ := hL.store2 hi (v := .long x) rfl
    exact ⟨Ls', hL' ▸ e2, e3.trans hz, fun t ht => XT.lstoreN X.here A.1 rfl (hb A.2.2.1 hd) rfl e1 ht⟩) nx
theorem WP.iinc {j : Nat} {cst : Int} {x : Int32} (v : Int32) (hd : decode bytes pc = .ok (.iinc j cst, 3)) (hv : Int32.ofInt cst = v) (hl : L[j]? = some (.val (.int x))) (hL' : st1 L j (.int (x + v)) = L') (nx : WP l Z C lay own mn bytes maxL ret R n0 ro Q k n (pc + 3) L' S H) : WP l Z C lay own mn bytes maxL ret R n0 ro Q k n pc L S H :=
  WP.of (fun p e s m args below meth c T locs ad Ls X A hL hz => by
    subst hv
    obtain ⟨Ls', e1, e2, e3⟩ := hL.store1 (get_lt hl) (v := .int (x + Int32.ofInt cst)) rfl
    exact ⟨Ls', hL' ▸ e2, e3.trans hz, fun t ht => XS.iinc X.here A.1 rfl (hb A.2.2.1 hd) (hL.2.1 _ _ hl) e1 ht⟩) nx
theorem iincW {tb : Tables} [Ours tb] {e : Env} {below : List Frame} {T target : State} {m : MethodId} {c : Code} {g : JFrame} (h : At T m c below) (hx : tb.exec = Jvm.exec) (hg : g.method = m) {k : Nat} {cst : Int} {x : Int32} {l' : Array Slot} (hd : decode c.code g.pc = .ok (.iinc k cst, 6)) (hl : g.locals[k]? = some (.val (.int x))) (hl' : storeLocals g.locals k (.int (x + Int32.ofInt cst)) = some l')
    (hr : Steps tb e below (T.setTop { g with pc := g.pc + 6, locals := l' }) target) : Steps tb e below (T.setTop g) target := by
  subst hg
  jvm_step h [h.top, hx, hd, hl, hl']
  exact hr
theorem WP.iincW {j : Nat} {cst : Int} {x : Int32} (v : Int32) (hd : decode bytes pc = .ok (.iinc j cst, 6)) (hv : Int32.ofInt cst = v) (hl : L[j]? = some (.val (.int x))) (hL' : st1 L j (.int (x + v)) = L') (nx : WP l Z C lay own mn bytes maxL ret R n0 ro Q k n (pc + 6) L' S H) : WP l Z C lay own mn bytes maxL ret R n0 ro Q k n pc L S H :=
  WP.of (fun p e s m args below meth c T locs ad Ls X A hL hz => by
    subst hv
    obtain ⟨Ls', e1, e2, e3⟩ := hL.store1 (get_lt hl) (v := .int (x + Int32.ofInt cst)) rfl
    exact ⟨Ls', hL' ▸ e2, e3.trans hz, fun t ht => Own.iincW X.here A.1 rfl (hb A.2.2.1 hd) (hL.2.1 _ _ hl) e1 ht⟩) nx
theorem WP.goto {o : Int} (hd : decode bytes pc = .ok (.goto o, 3)) (ho : 0 ≤ (pc : Int) + o) (hp : ((pc : Int) + o).toNat = pc') (nx : WP l Z C lay own mn bytes maxL ret R n0 ro Q k n pc' L S H) : WP l Z C lay own mn bytes maxL ret R n0 ro Q k n pc L S H :=
  WP.of (fun p e s m args below meth c T locs ad Ls X A hL hz => ⟨Ls, hL, hz, fun t ht => XS.goto X.here A.1 rfl rfl (hb A.2.2.1 hd) ho hp ht⟩) nx
theorem WP.ifY {cd : ClassFile.Cond} {x : Int32} {o : Int} (hd : decode bytes pc = .ok (.ifCond cd o, 3)) (hc : ifCond.holds cd x = true) (ho : 0 ≤ (pc : Int) + o) (hp : ((pc : Int) + o).toNat = pc') (nx : WP l Z C lay own mn bytes maxL ret R n0 ro Q k n pc' L S H) : WP l Z C lay own mn bytes maxL ret R n0 ro Q k n pc L (.int x :: S) H :=
  WP.of (fun p e s m args below meth c T locs ad Ls X A hL hz => ⟨Ls, hL, hz, fun t ht => XS.ifYes X.here A.1 rfl rfl (hb A.2.2.1 hd) rfl hc ho hp ht⟩) nx
theorem WP.ifN {cd : ClassFile.Cond} {x : Int32} {o : Int} (hd : decode bytes pc = .ok (.ifCond cd o, 3)) (hc : ifCond.holds cd x = false) (nx : WP l Z C lay own mn bytes maxL ret R n0 ro Q k n (pc + 3) L S H) : WP l Z C lay own mn bytes maxL ret R n0 ro Q k n pc L (.int x :: S) H :=
  WP.of (fun p e s m args below meth c T locs ad Ls X A hL hz => ⟨Ls, hL, hz, fun t ht => XS.ifNo X.here A.1 rfl (hb A.2.2.1 hd) rfl hc ht⟩) nx
theorem WP.icmpY {cd : ClassFile.Cond} {x y : Int32} {o : Int} (hd : decode bytes pc = .ok (.if_icmp cd o, 3)) (hc : if_icmp.holds cd x y = true) (ho : 0 ≤ (pc : Int) + o) (hp : ((pc : Int) + o).toNat = pc') (nx : WP l Z C lay own mn bytes maxL ret R n0 ro Q k n pc' L S H) : WP l Z C lay own mn bytes maxL ret R n0 ro Q k n pc L (.int y :: .int x :: S) H :=
  WP.of (fun p e s m args below meth c T locs ad Ls X A hL hz => ⟨Ls, hL, hz, fun t ht => XS.icmpYes X.here A.1 rfl rfl (hb A.2.2.1 hd) rfl hc ho hp ht⟩) nx
theorem WP.icmpN {cd : ClassFile.Cond} {x y : Int32} {o : Int} (hd : decode bytes pc = .ok (.if_icmp cd o, 3)) (hc : if_icmp.holds cd x y = false) (nx : WP l Z C lay own mn bytes maxL ret R n0 ro Q k n (pc + 3) L S H) : WP l Z C lay own mn bytes maxL ret R n0 ro Q k n pc L (.int y :: .int x :: S) H :=
  WP.of (fun p e s m args below meth c T locs ad Ls X A hL hz => ⟨Ls, hL, hz, fun t ht => XS.icmpNo X.here A.1 rfl (hb A.2.2.1 hd) rfl hc ht⟩) nx
theorem WP.nonnull {i : Nat} {o : Int} (hd : decode bytes pc = .ok (.ifnonnull o, 3)) (ho : 0 ≤ (pc : Int) + o) (hp : ((pc : Int) + o).toNat = pc') (nx : WP l Z C lay own mn bytes maxL ret R n0 ro Q k n pc' L S H) : WP l Z C lay own mn bytes maxL ret R n0 ro Q k n pc L (.ref i :: S) H :=
  WP.of (fun p e s m args below meth c T locs ad Ls X A hL hz => ⟨Ls, hL, hz, fun t ht => XT.ifnonnullYes X.here A.1 rfl rfl (hb A.2.2.1 hd) rfl ho hp ht⟩) nx
theorem WP.tswIn {dflt low high o : Int} {offs : Array Int} {len : Nat} {i : Int32} (hd : decode bytes pc = .ok (.tableswitch dflt low high offs, len)) (hin : ¬ (i.toInt < low ∨ i.toInt > high)) (hoff : offs[(i.toInt - low).toNat]? = some o) (ho : 0 ≤ (pc : Int) + o) (hp : ((pc : Int) + o).toNat = pc') (nx : WP l Z C lay own mn bytes maxL ret R n0 ro Q k n pc' L S H) : WP l Z C lay own mn bytes maxL ret R n0 ro Q k n pc L (.int i :: S) H :=
  WP.of (fun p e s m args below meth c T locs ad Ls X A hL hz => ⟨Ls, hL, hz, fun t ht => XS.tswIn X.here A.1 rfl rfl (hb A.2.2.1 hd) rfl hin hoff ho hp ht⟩) nx
theorem WP.tswOut {dflt low high : Int} {offs : Array Int} {len : Nat} {i : Int32} (hd : decode bytes pc = .ok (.tableswitch dflt low high offs, len)) (hout : i.toInt < low ∨ i.toInt > high) (ho : 0 ≤ (pc : Int) + dflt) (hp : ((pc : Int) + dflt).toNat = pc') (nx : WP l Z C lay own mn bytes maxL ret R n0 ro Q k n pc' L S H) : WP l Z C lay own mn bytes maxL ret R n0 ro Q k n pc L (.int i :: S) H :=
  WP.of (fun p e s m args below meth c T locs ad Ls X A hL hz => ⟨Ls, hL, hz, fun t ht => XS.tswOut X.here A.1 rfl rfl (hb A.2.2.1 hd) rfl hout ho hp ht⟩) nx
theorem tsw_miss {i : Int32} {low high : Int} (h : ∀ z : Int, low ≤ z → z ≤ high → ¬ i = Int32.ofInt z) : i.toInt < low ∨ i.toInt > high := by
  by_cases a : i.toInt < low
  · exact Or.inl a
  · by_cases b : i.toInt > high
    · exact Or.inr b
    · exact absurd (by rw [Int32.ofInt_toInt]) (h i.toInt (by omega) (by omega))
theorem WP.moved (hs : ∀ (p : Program) (e : Env) (s : State) (m : MethodId) (args : Array Value) (below : List Frame) (meth : Method) (c : Code) (T : State) (locs : List Loc) (ad : Nat → Addr) (Ls : Array Slot), Stand p l e R s m args below meth c T locs k n → Am Z own mn bytes maxL ret p s m meth c → HR Z C lay n0 ro ad H T.heap → Fr n0 locs → LR ad L Ls → Ls.size = maxL →
      ∃ T' locs', Stand p l e R s m args below meth c T' locs' k' n' ∧ HR Z C lay n0 ro ad H' T'.heap ∧ Kp ad H.length T.heap T'.heap ∧ Fr n0 locs' ∧ ∀ t, Steps p.tables e below (T'.setTop (mkF m pc' Ls (S'.map (rf ad)))) t → Steps p.tables e below (T.setTop (mkF m pc Ls (S.map (rf ad)))) t)
    (nx : WP l Z C lay own mn bytes maxL ret R n0 ro Q k' n' pc' L S' H') : WP l Z C lay own mn bytes maxL ret R n0 ro Q k n pc L S H := by
  intro p e s m args below meth c T locs ad Ls X A hr N hL hz
  obtain ⟨T', locs', X', hr', K, N', st⟩ := hs p e s m args below meth c T locs ad Ls X A hr N hL hz
  obtain ⟨s₂, v, H2, locs2, h1, h2, h3, h4, h5, h6, h7⟩ := nx p e s m args below meth c T' locs' ad Ls X' A hr' N' hL hz
  exact ⟨s₂, v, H2, locs2, st _ h1, h2, h3, h4, h5, Kp.trans hr K h6, h7⟩
theorem WP.getfield {idx i j : Nat} {f d : String} {vs : List Value} {v : Value} (hd : decode bytes pc = .ok (.getfield idx, 3)) (hw : (Cond.fieldLink own idx C f d).before a0 Z = true) (hj : lay[j]? = some (f, d)) (hH : H[i]? = some (.inl vs)) (hv : vs[j]? = some v) (nx : WP l Z C lay own mn bytes maxL ret R n0 ro Q k n (pc + 3) L (v :: S) H) : WP l Z C lay own mn bytes maxL ret R n0 ro Q k n pc L (.ref i :: S) H :=
  WP.moved (fun p e s m args below meth c T locs ad Ls X A hr N hL hz => by
    have F := (hr.1 i _ hH).2 j _ v hj hv
    obtain ⟨T', X', e', st⟩ := getF X A.1 A.2.1 A.2.2.2.2.2.2.1 (host := "") (Or.inl hw) Via.refl rfl F (g := mkF m pc Ls (.ref (ad i) :: S.map (rf ad))) rfl rfl (hb A.2.2.1 hd)
    exact ⟨T', locs, X', by rw [e']; exact hr, by rw [e']; exact Kp.refl _ _ _, N, fun t ht => st t ht⟩) nx
theorem WP.iaload {i : Nat} {xs : List Int32} {j x : Int32} (hd : decode bytes pc = .ok (.iaload, 1)) (hH : H[i]? = some (cI xs)) (hx : rd xs j = some x) (nx : WP l Z C lay own mn bytes maxL ret R n0 ro Q k n (pc + 1) L (.int x :: S) H) : WP l Z C lay own mn bytes maxL ret R n0 ro Q k n pc L (.int j :: .ref i :: S) H :=
  WP.moved (fun p e s m args below meth c T locs ad Ls X A hr N hL hz => by
    obtain ⟨cl, Ar, hsl⟩ := hr.1 i _ hH
    obtain ⟨q1, q2⟩ := rd_slots hsl hx
    exact ⟨T, locs, X, hr, Kp.refl _ _ _, N, fun t ht => X.iaload A.1 (j := j) Ar.1 (State.isArrayOf_alike A.2.1.alike Ar.2.1) Ar.2.2 q1 q2 (g := mkF m pc Ls (.int j :: .ref (ad i) :: S.map (rf ad))) rfl rfl (hb A.2.2.1 hd) _ ht⟩) nx
theorem WP.laload {i : Nat} {xs : List Int64} {j : Int32} {x : Int64} (hd : decode bytes pc = .ok (.laload, 1)) (hH : H[i]? = some (cJ xs)) (hx : rd xs j = some x) (nx : WP l Z C lay own mn bytes maxL ret R n0 ro Q k n (pc + 1) L (.long x :: S) H) : WP l Z C lay own mn bytes maxL ret R n0 ro Q k n pc L (.int j :: .ref i :: S) H :=
  WP.moved (fun p e s m args below meth c T locs ad Ls X A hr N hL hz => by
    obtain ⟨cl, Ar, hsl⟩ := hr.1 i _ hH
    obtain ⟨q1, q2⟩ := rd_slots hsl hx
    exact ⟨T, locs, X, hr, Kp.refl _ _ _, N, fun t ht => X.laload A.1 (j := j) Ar.1 (State.isArrayOf_alike A.2.1.alike Ar.2.1) Ar.2.2 q1 q2 (g := mkF m pc Ls (.int j :: .ref (ad i) :: S.map (rf ad))) rfl rfl (hb A.2.2.1 hd) _ ht⟩) nx
theorem baloadZ {p : Program} {e : Env} {s : State} {m : MethodId} {args : Array Value} {below : List Frame} {meth : Method} {c : Code} {T : State} {locs : List Loc} {cells slots : Nat} (X : Stand p l e R s m args below meth c T locs cells slots) (hexec : p.tables.exec = Jvm.exec) {a : Addr} {cell : Cell} {j : Int32} {v : Value} (hcell : T.heap[a]? = some cell) (harr : s.isArrayOf cell .boolean) (hknown : cell.vm ≠ .unknown)
    (hin : ¬ (j < 0 ∨ cell.slots.size ≤ j.toNatClampNeg)) (hv : cell.slots[j.toNatClampNeg]? = some v) {g : JFrame} (hg : g.method = m) {rest : List Value} (hstack : g.stack = .int j :: .ref a :: rest) (hdg : decode c.code g.pc = .ok (.baload, 1)) (target : State)
    (hrest : Steps p.tables e below (T.setTop { g with pc := g.pc + 1, stack := v :: rest }) target) : Steps p.tables e below (T.setTop g) target := by
  have hT := State.isArrayOf_alike X.warmed.alike harr
  subst hg
  jvm_step X.here [hexec, hdg, baload.wp_booleans (e := e) (s := T) (f := g) X.here.top hstack hcell hT hin hknown hv]
  exact hrest
theorem WP.baload {i : Nat} {xs : List Int32} {j x : Int32} (hd : decode bytes pc = .ok (.baload, 1)) (hH : H[i]? = some (cZ xs)) (hx : rd xs j = some x) (nx : WP l Z C lay own mn bytes maxL ret R n0 ro Q k n (pc + 1) L (.int x :: S) H) : WP l Z C lay own mn bytes maxL ret R n0 ro Q k n pc L (.int j :: .ref i :: S) H :=
  WP.moved (fun p e s m args below meth c T locs ad Ls X A hr N hL hz => by
    obtain ⟨cl, Ar, hsl⟩ := hr.1 i _ hH
    obtain ⟨q1, q2⟩ := rd_slots hsl hx
    exact ⟨T, locs, X, hr, Kp.refl _ _ _, N, fun t ht => baloadZ X A.1 (j := j) Ar.1 (State.isArrayOf_alike A.2.1.alike Ar.2.1) Ar.2.2 q1 q2 (g := mkF m pc Ls (.int j :: .ref (ad i) :: S.map (rf ad))) rfl rfl (hb A.2.2.1 hd) _ ht⟩) nx
theorem WP.arraylength {i : Nat} {xs : List Int32} (hd : decode bytes pc = .ok (.arraylength, 1)) (hH : H[i]? = some (cI xs)) (nx : WP l Z C lay own mn bytes maxL ret R n0 ro Q k n (pc + 1) L (.int xs.length.toInt32 :: S) H) : WP l Z C lay own mn bytes maxL ret R n0 ro Q k n pc L (.ref i :: S) H :=
  WP.moved (fun p e s m args below meth c T locs ad Ls X A hr N hL hz => by
    obtain ⟨cl, Ar, hsl⟩ := hr.1 i _ hH
    have e1 : cl.slots.size = xs.length := by rw [← Array.length_toList, hsl, List.length_map]
    refine ⟨T, locs, X, hr, Kp.refl _ _ _, N, fun t ht => X.arraylength A.1 Ar.1 (State.isArrayOf_alike A.2.1.alike Ar.2.1) (g := mkF m pc Ls (.ref (ad i) :: S.map (rf ad))) rfl rfl (hb A.2.2.1 hd) _ ?_⟩
    rw [e1]; exact ht) nx
theorem WP.iastore {i : Nat} {xs xs' : List Int32} {j : Int32} {x : Int32} (hd : decode bytes pc = .ok (.iastore, 1)) (hH : H[i]? = some (cI xs)) (hi : ro ≤ i) (hx : wr xs j x = some xs') (hH' : H.set i (cI xs') = H') (nx : WP l Z C lay own mn bytes maxL ret R n0 ro Q k n (pc + 1) L S H') : WP l Z C lay own mn bytes maxL ret R n0 ro Q k n pc L (.int x :: .int j :: .ref i :: S) H :=
  WP.moved (fun p e s m args below meth c T locs ad Ls X A hr N hL hz => by
    obtain ⟨cl, Ar, hsl⟩ := hr.1 i _ hH
    obtain ⟨q1, q2⟩ := wr_slots hsl hx
    obtain ⟨T', h', X', e', w, st⟩ := stI X A.1 A.2.1 rfl Ar (j := j) (x := x) q1 (g := mkF m pc Ls (.int x :: .int j :: .ref (ad i) :: S.map (rf ad))) rfl rfl (hb A.2.2.1 hd)
    subst e'
    have hi' := get_lt hH
    have P := hr.put (h' := T'.heap) (c := cI xs') hi' w.size (fun a cz hne q => by
      obtain ⟨c', g1, -, -, -, g5, -⟩ := wr_at w q
      rw [g5 hne] at g1; exact g1) ⟨_, Ar.same w, q2⟩
    exact ⟨T', _, X', hH' ▸ P.1, P.2, Fr.snoc X' N (hr.2.2.2.1 i hi' hi), fun t ht => st t ht⟩) nx
theorem WP.lastore {i : Nat} {xs xs' : List Int64} {j : Int32} {x : Int64} (hd : decode bytes pc = .ok (.lastore, 1)) (hH : H[i]? = some (cJ xs)) (hi : ro ≤ i) (hx : wr xs j x = some xs') (hH' : H.set i (cJ xs') = H') (nx : WP l Z C lay own mn bytes maxL ret R n0 ro Q k n (pc + 1) L S H') : WP l Z C lay own mn bytes maxL ret R n0 ro Q k n pc L (.long x :: .int j :: .ref i :: S) H :=
  WP.moved (fun p e s m args below meth c T locs ad Ls X A hr N hL hz => by
    obtain ⟨cl, Ar, hsl⟩ := hr.1 i _ hH
    obtain ⟨q1, q2⟩ := wr_slots hsl hx
    obtain ⟨T', h', X', e', w, st⟩ := stJ X A.1 A.2.1 rfl Ar (j := j) (x := x) q1 (g := mkF m pc Ls (.long x :: .int j :: .ref (ad i) :: S.map (rf ad))) rfl rfl (hb A.2.2.1 hd)
    subst e'
    have hi' := get_lt hH
    have P := hr.put (h' := T'.heap) (c := cJ xs') hi' w.size (fun a cz hne q => by
      obtain ⟨c', g1, -, -, -, g5, -⟩ := wr_at w q
      rw [g5 hne] at g1; exact g1) ⟨_, Ar.same w, q2⟩
    exact ⟨T', _, X', hH' ▸ P.1, P.2, Fr.snoc X' N (hr.2.2.2.1 i hi' hi), fun t ht => st t ht⟩) nx
theorem WP.bastore {i : Nat} {xs xs' : List Int32} {j : Int32} {x : Int32} (hd : decode bytes pc = .ok (.bastore, 1)) (hH : H[i]? = some (cZ xs)) (hi : ro ≤ i) (hx : wr xs j (x &&& 1) = some xs') (hH' : H.set i (cZ xs') = H') (nx : WP l Z C lay own mn bytes maxL ret R n0 ro Q k n (pc + 1) L S H') : WP l Z C lay own mn bytes maxL ret R n0 ro Q k n pc L (.int x :: .int j :: .ref i :: S) H :=
  WP.moved (fun p e s m args below meth c T locs ad Ls X A hr N hL hz => by
    obtain ⟨cl, Ar, hsl⟩ := hr.1 i _ hH
    obtain ⟨q1, q2⟩ := wr_slots hsl hx
    obtain ⟨T', h', X', e', w, st⟩ := stZ X A.1 A.2.1 rfl Ar (j := j) (x := x) q1 (g := mkF m pc Ls (.int x :: .int j :: .ref (ad i) :: S.map (rf ad))) rfl rfl (hb A.2.2.1 hd)
    subst e'
    have hi' := get_lt hH
    have P := hr.put (h' := T'.heap) (c := cZ xs') hi' w.size (fun a cz hne q => by
      obtain ⟨c', g1, -, -, -, g5, -⟩ := wr_at w q
      rw [g5 hne] at g1; exact g1) ⟨_, Ar.same w, q2⟩
    exact ⟨T', _, X', hH' ▸ P.1, P.2, Fr.snoc X' N (hr.2.2.2.1 i hi' hi), fun t ht => st t ht⟩) nx
/-- a field of the one class is written -/
theorem WP.put {idx i j kk : Nat} {f d : String} {vs : List Value} {v v' old : Value} {ty : FieldType} (hd : decode bytes pc = .ok (.putfield idx, 3)) (hw : (Cond.fieldLink own idx C f d).before a0 Z = true) (hl : (Cond.lays C C f d).before a0 Z = true ∨ ((Cond.laysFinal C C f d).before a0 Z = true ∧ own = C ∧ mn = "<init>")) (wi : (Cond.instantiable C kk).before a0 Z = true)
    (hlay : ∀ (a b : Nat) (f g : String × String), lay[a]? = some f → lay[b]? = some g → a ≠ b → RoadKit.slotOf Z C f.1 f.2 ≠ RoadKit.slotOf Z C g.1 g.2) (hty : parseFieldDescriptor d = some ty) (hn : ∀ ad, narrow ty (rf ad v) = rf ad v') (hf : ∀ ad, fits ty (rf ad v') = true)
    (hj : lay[j]? = some (f, d)) (hH : H[i]? = some (.inl vs)) (hv : vs[j]? = some old) (hi : ro ≤ i) (hH' : H.set i (.inl (vs.set j v')) = H') (nx : WP l Z C lay own mn bytes maxL ret R n0 ro Q k n (pc + 3) L S H') : WP l Z C lay own mn bytes maxL ret R n0 ro Q k n pc L (v :: .ref i :: S) H :=
  WP.moved (fun p e s m args below meth c T locs ad Ls X A hr N hL hz => by
    obtain ⟨E, F⟩ := hr.1 i _ hH
    obtain ⟨T', h', X', e', w, st⟩ := putFN X A.1 A.2.1 A.2.2.2.2.2.2.1 hw Via.refl rfl (F j _ old hj hv) E (hl.imp id fun q => ⟨q.1, q.2.1, A.2.2.2.2.2.2.2.trans q.2.2⟩) wi hty (hn ad) (hf ad) (g := mkF m pc Ls (rf ad v :: .ref (ad i) :: S.map (rf ad))) rfl rfl (hb A.2.2.1 hd)
    subst e'
    have hi' := get_lt hH
    have P := hr.put (h' := T'.heap) (c := .inl (vs.set j v')) hi' w.size (fun a cz hne q => by
      obtain ⟨c', g1, -, -, -, g5, -⟩ := wr_at w q
      rw [g5 hne] at g1; exact g1) ⟨E.wr w, fun a g u hg hu => by
        rw [List.getElem?_set] at hu
        by_cases e : j = a
        · subst e
          cases hj.symm.trans hg
          rw [if_pos rfl, if_pos (get_lt hv)] at hu
          cases hu
          exact (F j _ old hj hv).same w
        · rw [if_neg e] at hu
          exact (F a g u hg hu).other w (Or.inr (hlay a j g (f, d) hg hj (Ne.symm e)))⟩
    exact ⟨T', _, X', hH' ▸ P.1, P.2, Fr.snoc X' N (hr.2.2.2.1 i hi' hi), fun t ht => st t ht⟩) nx
/-- newarray -/
theorem WP.newarray {aty : ArrayType} {c0 : OwnC} {cnt : Int32} (hd : decode bytes pc = .ok (.newarray aty, 2)) (hw : (Cond.arrayClass (newarray.typeOf aty)).before a0 Z = true) (hn : ¬ cnt < 0) (hb8 : cnt.toNatClampNeg * 8 ≤ 536870912) (hc : k + 1 ≤ R.cells) (hl : n + cnt.toNatClampNeg ≤ R.slots)
    (h0 : (aty = .int ∧ c0 = cI (List.replicate cnt.toNatClampNeg 0)) ∨ (aty = .long ∧ c0 = cJ (List.replicate cnt.toNatClampNeg 0)) ∨ (aty = .boolean ∧ c0 = cZ (List.replicate cnt.toNatClampNeg 0)))
    (nx : WP l Z C lay own mn bytes maxL ret R n0 ro Q (k + 1) (n + cnt.toNatClampNeg) (pc + 2) L (.ref H.length :: S) (H ++ [c0])) : WP l Z C lay own mn bytes maxL ret R n0 ro Q k n pc L (.int cnt :: S) H :=
  WP.moved (fun p e s m args below meth c T locs ad Ls X A hr N hL hz => by
    have hcb : componentBytes (newarray.typeOf aty) ≤ 8 := by cases aty <;> decide
    obtain ⟨cA, kA, comp, h1, h2, h3, X', st⟩ := X.newarrayPrim A.1 (mvA A.2.1 hw) (g := mkF m pc Ls (.int cnt :: S.map (rf ad))) rfl (hb A.2.2.1 hd) rfl hn (Nat.le_trans (Nat.mul_le_mul (Nat.le_refl _) hcb) hb8) hc hl
    rw [A.2.1.alike.findClass] at h1
    obtain ⟨kZ, z1, -⟩ := Vm.findClass_spec h1
    obtain ⟨k', z2, z3⟩ := A.2.1.alike.2.2 _ _ z1
    cases h2.symm.trans z2
    have hE : Ext T.heap (T.heap.push { cls := cA, slots := Array.replicate cnt.toNatClampNeg (defaultValue (newarray.typeOf aty)), vm := .none }) := ⟨by simp, fun a c h => by
      rw [Array.getElem?_push_lt (Array.getElem?_eq_some_iff.mp h).1]; exact (Array.getElem?_eq_getElem _).symm.trans h⟩
    have Ar : Arr Z (T.heap.push { cls := cA, slots := Array.replicate cnt.toNatClampNeg (defaultValue (newarray.typeOf aty)), vm := .none }) T.heap.size { cls := cA, slots := Array.replicate cnt.toNatClampNeg (defaultValue (newarray.typeOf aty)), vm := .none } (newarray.typeOf aty) :=
      ⟨by simp, ⟨by simp, kZ, z1, comp, by rw [← h3, z3]⟩, by simp⟩
    have hc0 : CelOk Z C lay ad (T.heap.push { cls := cA, slots := Array.replicate cnt.toNatClampNeg (defaultValue (newarray.typeOf aty)), vm := .none }) T.heap.size c0 := by
      rcases h0 with ⟨rfl, rfl⟩ | ⟨rfl, rfl⟩ | ⟨rfl, rfl⟩
      all_goals exact ⟨_, Ar, by simp [defaultValue, newarray.typeOf]⟩
    have P := hr.push (h' := T.heap.push _) (by simp) hE hc0
    refine ⟨_, locs, X', P.1, P.2.1, N, fun t ht => st t ?_⟩
    have e0 : (List.map (rf ad) (.ref H.length :: S)) = .ref T.heap.size :: S.map (rf ad) := by show (Value.ref (ad H.length) :: _) = _; rw [P.2.2]
    rw [e0] at ht; exact ht) nx
theorem rf_default (ad : Nat → Addr) (ty : FieldType) : rf ad (defaultValue ty) = defaultValue ty := by cases ty <;> rfl
/-- new -/
theorem WP.new {idx kk : Nat} {vs : List Value} (hd : decode bytes pc = .ok (.new idx, 3)) (hw : (Cond.classLink own idx C).before a0 Z = true) (wi : (Cond.instantiable C kk).before a0 Z = true) (wz : (Cond.initialized C).before a0 Z = true) (hc : k + 1 ≤ R.cells) (hl : n + kk ≤ R.slots)
    (h0 : ∀ (i : Nat) (f : String × String) (v : Value), lay[i]? = some f → vs[i]? = some v → Laid Z a0 C C f.1 f.2 ∧ ∃ ty, parseFieldDescriptor f.2 = some ty ∧ v = defaultValue ty)
    (nx : WP l Z C lay own mn bytes maxL ret R n0 ro Q (k + 1) (n + kk) (pc + 3) L (.ref H.length :: S) (H ++ [.inl vs])) : WP l Z C lay own mn bytes maxL ret R n0 ro Q k n pc L S H :=
  WP.moved (fun p e s m args below meth c T locs ad Ls X A hr N hL hz => by
    obtain ⟨vm', cC, kC, h1, h2, h3, h4, X', st⟩ := X.newCold A.1 A.2.2.2.2.2.2.1 (mv A.2.1 hw) (mv A.2.1 wi) (mv A.2.1 wz) (g := mkF m pc Ls (S.map (rf ad))) rfl (hb A.2.2.1 hd) hc hl
    rw [A.2.1.alike.findClass] at h1
    obtain ⟨kZ, z1, -⟩ := Vm.findClass_spec h1
    obtain ⟨k', z2, z3⟩ := A.2.1.alike.2.2 _ _ z1
    cases h2.symm.trans z2
    have ei : kC.instanceTypes = kZ.instanceTypes := by rw [z3]
    have hN : (T.heap.push { cls := cC, slots := kC.instanceTypes.map defaultValue, vm := .none })[T.heap.size]? = some { cls := cC, slots := kC.instanceTypes.map defaultValue, vm := .none } := by simp
    have hE : Ext T.heap (T.heap.push { cls := cC, slots := kC.instanceTypes.map defaultValue, vm := .none }) := ⟨by simp, fun a c h => by
      rw [Array.getElem?_push_lt (Array.getElem?_eq_some_iff.mp h).1]; exact (Array.getElem?_eq_getElem _).symm.trans h⟩
    have hc0 : CelOk Z C lay ad (T.heap.push { cls := cC, slots := kC.instanceTypes.map defaultValue, vm := .none }) T.heap.size (.inl vs) := by
      refine ⟨⟨_, kZ, hN, h1, z1, rfl, fun _ => by simp [ei]⟩, fun i f v hf hv => ?_⟩
      obtain ⟨La, ty, ht, rfl⟩ := h0 i f v hf hv
      obtain ⟨c1, k1, cf, kf, i1, f1, a1, a2, a3, a4, a5, a6, -⟩ := La.spec
      cases h1.symm.trans a1
      cases z1.symm.trans a2
      rw [rf_default]
      exact ⟨_, cf, kf, i1, f1, hN, a3, a4, by simp, rfl, a5, by simp [ei, a6, (State.fieldFound?_type a3 ht).2]⟩
    have P := hr.push (h' := T.heap.push _) (by simp) hE hc0
    refine ⟨_, locs, X', P.1, P.2.1, N, fun t ht => st t ?_⟩
    have e0 : (List.map (rf ad) (.ref H.length :: S)) = .ref T.heap.size :: S.map (rf ad) := by show (Value.ref (ad H.length) :: _) = _; rw [P.2.2]
    rw [e0] at ht; exact ht) nx
/-- Object.<init> -/
theorem WP.initO {idx i : Nat} (hd : decode bytes pc = .ok (.invokespecial idx, 3)) (w1 : (Cond.methodLink own idx Lib.objectInit).before a0 Z = true) (w2 : (Cond.instanceMethod Lib.objectInit).before a0 Z = true) (w3 : (Cond.code Lib.objectInit ⟨#[0xb1]⟩ 1 none).before a0 Z = true) (hf : 1 ≤ R.frames) (hl : (S.map fun v => v.category).sum + 12 ≤ R.locals)
    (nx : WP l Z C lay own mn bytes maxL ret R n0 ro Q k n (pc + 3) L S H) : WP l Z C lay own mn bytes maxL ret R n0 ro Q k n pc L (.ref i :: S) H :=
  WP.moved (fun p e s m args below meth c T locs ad Ls X A hr N hL hz => by
    obtain ⟨T', X', e', st⟩ := RoadKit.initO X A.1 A.2.1 A.2.2.2.2.2.2.1 w1 w2 w3 rfl (g := mkF m pc Ls (.ref (ad i) :: S.map (rf ad))) rfl (hz.trans A.2.2.2.1.symm) rfl (hb A.2.2.1 hd) hf (W := (S.map fun v => v.category).sum) (by show 2 * 0 + _ ≤ _; rw [rf_cats]; omega) hl
    exact ⟨T', locs, X', by rw [e']; exact hr, by rw [e']; exact Kp.refl _ _ _, N, fun t ht => st t ht⟩) nx
theorem WP.leave {v : Option Value} (hk : k ≤ R.cells) (hn : n ≤ R.slots) (hv : ret = none → v = none) (hq : Q v H)
    (hs : ∀ (p : Program) (e : Env) (s : State) (m : MethodId) (args : Array Value) (below : List Frame) (meth : Method) (c : Code) (T : State) (locs : List Loc) (ad : Nat → Addr) (Ls : Array Slot) (fs : List Frame), Stand p l e R s m args below meth c T locs k n → Am Z own mn bytes maxL ret p s m meth c →
      (∀ (f : JFrame) (acts : List Action), f.method = m → f.locked = none → f.entered = [] → (doReturn e (T.setTop f) acts (v.map (rf ad))).1 = T.setFrames fs) → Steps p.tables e below (T.setTop (mkF m pc Ls (S.map (rf ad)))) (T.setFrames fs)) : WP l Z C lay own mn bytes maxL ret R n0 ro Q k n pc L S H := by
  intro p e s m args below meth c T locs ad Ls X A hr N hL hz
  obtain ⟨fs, hr', hrun, hended, hW, hsame⟩ := X.leave (v := v.map (rf ad)) (fun q => by rw [hv (A.2.2.2.2.1.symm.trans q)]; rfl) A.2.2.2.2.2.1
  exact ⟨_, v, H, locs, hs p e s m args below meth c T locs ad Ls fs X A hr', hrun, hended, hq, hr, Kp.refl _ _ _, N, ⟨_, rfl⟩, hW, hsame.mono hk hn⟩
theorem retI' {p : Program} {e : Env} {s : State} {m : MethodId} {args : Array Value} {below : List Frame} {meth : Method} {c : Code} {T : State} {locs : List Loc} {cells slots : Nat} (X : Stand p l e R s m args below meth c T locs cells slots) (hx : p.tables.exec = Jvm.exec) {pc : Nat} {Ls : Array Slot} {z : Int32} {rest : List Value} (hret : meth.sig.returnType = some .int) (hd : decode c.code pc = .ok (.ireturn, 1)) {fs : List Frame}
    (hl : ∀ (f : JFrame) (acts : List Action), f.method = m → f.locked = none → f.entered = [] → (doReturn e (T.setTop f) acts (some (.int z))).1 = T.setFrames fs) : Steps p.tables e below (T.setTop (mkF m pc Ls (.int z :: rest))) (T.setFrames fs) := by
  have hm' : T.vm.method? m = some meth := X.method'
  have hn : narrow .int (.int z) = .int z := rfl
  show Steps p.tables e below (T.setTop { method := m, pc := pc, locals := Ls, stack := _ :: rest, locked := none }) _
  jvm_step X.here [X.here.top, hx, hd, hm', hret, hn]
  first | (intro acts; rw [hl _ acts rfl rfl rfl]) | rw [hl _ _ rfl rfl rfl]
  exact Steps.refl _
theorem WP.ireturn {x : Int32} (hd : decode bytes pc = .ok (.ireturn, 1)) (hret : ret = some .int) (hk : k ≤ R.cells) (hn : n ≤ R.slots) (hq : Q (some (.int x)) H) : WP l Z C lay own mn bytes maxL ret R n0 ro Q k n pc L (.int x :: S) H :=
  WP.leave (v := some (.int x)) hk hn (fun q => by rw [hret] at q; cases q) hq fun p e s m args below meth c T locs ad Ls fs X A hr' => retI' X A.1 (A.2.2.2.2.1.trans hret) (hb A.2.2.1 hd) hr'
theorem WP.zreturn {x : Int32} (hd : decode bytes pc = .ok (.ireturn, 1)) (hret : ret = some .boolean) (hk : k ≤ R.cells) (hn : n ≤ R.slots) (hq : Q (some (.int (x &&& 1))) H) : WP l Z C lay own mn bytes maxL ret R n0 ro Q k n pc L (.int x :: S) H :=
  WP.leave (v := some (.int (x &&& 1))) hk hn (fun q => by rw [hret] at q; cases q) hq fun p e s m args below meth c T locs ad Ls fs X A hr' => retN X A.1 (t := .boolean) (A.2.2.2.2.1.trans hret) (Or.inl rfl) (hb A.2.2.1 hd) hr'
theorem WP.lreturn {x : Int64} (hd : decode bytes pc = .ok (.lreturn, 1)) (hret : ret = some .long) (hk : k ≤ R.cells) (hn : n ≤ R.slots) (hq : Q (some (.long x)) H) : WP l Z C lay own mn bytes maxL ret R n0 ro Q k n pc L [.long x] H :=
  WP.leave (v := some (.long x)) hk hn (fun q => by rw [hret] at q; cases q) hq fun p e s m args below meth c T locs ad Ls fs X A hr' => X.lreturnOut A.1 (A.2.2.2.2.1.trans hret) (hb A.2.2.1 hd) hr'
theorem WP.vreturn (hd : decode bytes pc = .ok (.return_, 1)) (hret : ret = none) (hk : k ≤ R.cells) (hn : n ≤ R.slots) (hq : Q none H) : WP l Z C lay own mn bytes maxL ret R n0 ro Q k n pc L [] H :=
  WP.leave (v := none) hk hn (fun _ => rfl) hq fun p e s m args below meth c T locs ad Ls fs X A hr' => X.returnOut A.1 (A.2.2.2.2.1.trans hret) (hb A.2.2.1 hd) hr'
end Rules
/-! ## a callee's promise, said of the small view -/
def QQ (Z : State) (C : String) (lay : List (String × String)) (n0 ro : Nat) (ad : Nat → Addr) (N : Nat) (h : Heap) (Q : Option Value → List OwnC → Prop) (v : Option Value) (h' : Heap) (L : List Loc) : Prop :=
  ∃ w H', v = w.map (rf ad) ∧ Q w H' ∧ HR Z C lay n0 ro ad H' h' ∧ Kp ad N h h' ∧ Fr n0 L
def CS (l : Launch) (Z : State) (C : String) (lay : List (String × String)) (y : MethodName) (bytes : ByteArray) (maxL : Nat) (ret : Option FieldType) (R : Room) (ro : Nat) (as : List Value) (H : List OwnC) (Q : Option Value → List OwnC → Prop) : Prop :=
  ∀ (ws : List Cond) (n0 : Nat) (ad : Nat → Addr) (h : Heap), HR Z C lay n0 ro ad H h →
    MetFree l y (head1 (Cond.code y bytes maxL ret :: ws) R) (fun a U => a = (as.map (rf ad)).toArray ∧ Z.Warmed39 U.vm ∧ U.heap = h) (fun _ _ _ _ _ => True)
      (fun _ U o U' => ∃ v L, o = .returned v ∧ QQ Z C lay n0 ro ad H.length h Q v U'.heap L ∧ FrameEnd U o U' L R.cells R.slots)
section Calls
variable {l : Launch} {Z : State} {a0 : Array Value} {C : String} {lay : List (String × String)} {own mn : String} {bytes cb : ByteArray} {maxL cm : Nat} {ret cr : Option FieldType} {R Rc : Room} {n0 ro : Nat} {Q Qc : Option Value → List OwnC → Prop} {k n pc pc' : Nat} {L L' : List Slot} {S S0 as : List Value} {H H' : List OwnC} {y : MethodName}
theorem CS.of_wp (hx : plainName y.cls = true) (hn : (laid as).length ≤ maxL) (w : ∀ n0, WP l Z C lay y.cls y.name bytes maxL ret R n0 ro Q 0 0 0 (entL as maxL) [] H) : CS l Z C lay y bytes maxL ret R ro as H Q := by
  intro ws n0 ad h hr
  refine MetFree.of_bodySF (plainFor_of_name hx) hisR ?_
  intro p e s m args below meth c s₁ Bd hml0 hP hK
  obtain ⟨rfl, hZ, hh⟩ := hP
  have e0 : s₁.heap = h := by rw [← hh, Bd.state]; rfl
  obtain ⟨E1, E2⟩ := entry_LR ad as maxL hn
  obtain ⟨s₂, v, H', locs', h1, h2, h3, h4, h5, h6, h7, h8⟩ := w n0 p e s m _ below meth c s₁ [] ad _ (Stand.of_body Bd) ⟨Bd.exec, hZ, Bd.bytes, hml0, Bd.returns, Bd.notSynchronized, findClass_of_methodNamed Bd.named, (name_of_methodNamed Bd.named Bd.method).1⟩ (by rw [e0]; exact hr) (Fr.nil n0) E1 E2
  rw [e0] at h6
  exact ⟨s₂, _, h1, h2, h3, _, locs', rfl, ⟨v, H', rfl, h4, h5, h6, h7⟩, h8⟩
theorem CS.mono (cs : CS l Z C lay y bytes maxL ret R ro as H Q) (h : ∀ v H', Q v H' → Qc v H') : CS l Z C lay y bytes maxL ret R ro as H Qc := by
  intro ws n0 ad hh hr p e ha hc hk s m args below hf happ hP hK
  obtain ⟨N, o, h1, h2, h3, v, L, h4, ⟨w, H', g1, g2, g3⟩, h5⟩ := cs ws n0 ad hh hr p e ha hc hk s m args below hf happ hP hK
  exact ⟨N, o, h1, h2, h3, v, L, h4, ⟨w, H', g1, h _ _ g2, g3⟩, h5⟩
/-- what every call leaves: the walk goes on behind it -/
theorem go_on {p : Program} {e : Env} {s : State} {m : MethodId} {args : Array Value} {below : List Frame} {meth : Method} {c : Code} {T : State} {locs : List Loc} {ad : Nat → Addr} {Ls : Array Slot} {B : Pt} {v : Option Value} {Lc : List Loc} {s₀ : State}
    (nx : ∀ v H', Qc v H' → WP l Z C lay own mn bytes maxL ret R n0 ro Q (k + Rc.cells) (n + Rc.slots) (pc + 3) L (v.toList ++ S) H') (X : Stand p l e R s m args below meth c B.U B.locs B.cells B.slots) (A : Am Z own mn bytes maxL ret p s m meth c) (hr : HR Z C lay n0 ro ad H T.heap) (N : Fr n0 locs) (hL : LR ad L Ls) (hz : Ls.size = maxL)
    (hQ : QQ Z C lay n0 ro ad H.length T.heap Qc v B.U.heap Lc) (e1 : B.locs = locs ++ Lc) (e2 : B.cells = k + Rc.cells) (e3 : B.slots = n + Rc.slots) (st : Steps p.tables e below s₀ (B.U.setTop (mkF m (pc + 3) Ls (v.toList ++ S.map (rf ad))))) :
    ∃ (s₂ : State) (v : Option Value) (H' : List OwnC) (locs' : List Loc), Steps p.tables e below s₀ s₂ ∧ s₂.status = .running ∧ Ended s₂ below (.returned (v.map (rf ad))) ∧ Q v H' ∧ HR Z C lay n0 ro ad H' s₂.heap ∧ Kp ad H.length T.heap s₂.heap ∧ Fr n0 locs' ∧ FrameEnd s (.returned (v.map (rf ad))) s₂ locs' R.cells R.slots := by
  obtain ⟨w, H1, rfl, g2, g3, g4, g5⟩ := hQ
  rw [e1, e2, e3] at X
  obtain ⟨s₂, v, H2, locs2, h1, h2, h3, h4, h5, h6, h7⟩ := nx w H1 g2 p e s m args below meth c B.U _ ad Ls X A g3 (N.app g5) hL hz
  refine ⟨s₂, v, H2, locs2, st.trans ?_, h2, h3, h4, h5, Kp.trans hr g4 h6, h7⟩
  have e0 : (w.toList ++ S).map (rf ad) = (w.map (rf ad)).toList ++ S.map (rf ad) := by cases w <;> rfl
  rw [← e0]; exact h1
theorem stack_of (ad : Nat → Addr) (h : S0 = as.reverse ++ S) : S0.map (rf ad) = (as.map (rf ad)).reverse ++ S.map (rf ad) := by rw [h, List.map_append, List.map_reverse]
theorem stack_of1 {i : Nat} (ad : Nat → Addr) (h : S0 = as.reverse ++ .ref i :: S) : S0.map (rf ad) = (as.map (rf ad)).reverse ++ .ref (ad i) :: S.map (rf ad) := by rw [h, List.map_append, List.map_reverse]; rfl
theorem WP.callS {idx : Nat} (hd : decode bytes pc = .ok (.invokestatic idx, 3)) (w1 : (Cond.methodLink own idx y).before a0 Z = true) (w2 : (Cond.static y).before a0 Z = true) (w3 : (Cond.initialized y.cls).before a0 Z = true) (w4 : (Cond.code y cb cm cr).before a0 Z = true) (hy : y.cls ≠ "java/lang/invoke/MethodHandle" ∧ y.cls ≠ "java/lang/invoke/VarHandle")
    (cs : CS l Z C lay y cb cm cr Rc ro as H Qc) (hS : S0 = as.reverse ++ S) (hlen : ∀ sig, parseMethodDescriptor y.desc = some sig → as.length = sig.parameters.length) (hf : Rc.frames + 1 ≤ R.frames) (hl : (S.map fun v => v.category).sum + (cm + 11) + Rc.locals ≤ R.locals) (hc : k + Rc.cells ≤ R.cells) (hs : n + Rc.slots ≤ R.slots)
    (nx : ∀ v H', Qc v H' → WP l Z C lay own mn bytes maxL ret R n0 ro Q (k + Rc.cells) (n + Rc.slots) (pc + 3) L (v.toList ++ S) H') : WP l Z C lay own mn bytes maxL ret R n0 ro Q k n pc L S0 H := by
  intro p e s m args below meth c T locs ad Ls X A hr N hL hz
  obtain ⟨v, vm₁, B, hW₁, X', ⟨Lc, hQ, e1, e2, e3⟩, st⟩ := Jvm.LawKit.callS X A.1 (y := y) A.2.2.2.2.2.2.1 (mvT A.2.1 w1) (mvT A.2.1 w2) (mvT A.2.1 w3) (mvT A.2.1 w4) hy
    (backOf (W := (S.map fun v => v.category).sum) (cs [] n0 ad T.heap hr) A.2.1 w4 w3 hf hl) (g := mkF m pc Ls (S0.map (rf ad))) rfl (hz.trans A.2.2.2.1.symm) (argsL := as.map (rf ad)) (rest := S.map (rf ad)) (fun sig q => by rw [List.length_map]; exact hlen sig q) (stack_of ad hS) (by show 2 * 0 + _ ≤ _; rw [rf_cats]; omega) (hb A.2.2.1 hd) (fun _ _ => ⟨rfl, rfl, hc, hs⟩)
  exact go_on (T := T) nx X' A hr N hL hz hQ e1 e2 e3 (st _ (Steps.refl _))
theorem WP.callV {idx i : Nat} {vs : List Value} (hd : decode bytes pc = .ok (.invokevirtual idx, 3)) (w1 : (Cond.methodLink own idx y).before a0 Z = true) (w2 : (Cond.declares y).before a0 Z = true) (w3 : (Cond.selects C y y).before a0 Z = true) (w4 : (Cond.instanceMethod y).before a0 Z = true) (w5 : (Cond.code y cb cm cr).before a0 Z = true) (w6 : (Cond.initialized y.cls).before a0 Z = true) (hy : y.cls ≠ "java/lang/invoke/MethodHandle" ∧ y.cls ≠ "java/lang/invoke/VarHandle")
    (hH : H[i]? = some (.inl vs)) (cs : CS l Z C lay y cb cm cr Rc ro (.ref i :: as) H Qc) (hS : S0 = as.reverse ++ .ref i :: S) (hlen : ∀ sig, parseMethodDescriptor y.desc = some sig → as.length = sig.parameters.length) (hf : Rc.frames + 1 ≤ R.frames) (hl : (S.map fun v => v.category).sum + (cm + 11) + Rc.locals ≤ R.locals) (hc : k + Rc.cells ≤ R.cells) (hs : n + Rc.slots ≤ R.slots)
    (nx : ∀ v H', Qc v H' → WP l Z C lay own mn bytes maxL ret R n0 ro Q (k + Rc.cells) (n + Rc.slots) (pc + 3) L (v.toList ++ S) H') : WP l Z C lay own mn bytes maxL ret R n0 ro Q k n pc L S0 H := by
  intro p e s m args below meth c T locs ad Ls X A hr N hL hz
  obtain ⟨cq, kq, qa, qb, qc⟩ := isOf A.2.1 rfl (hr.1 i _ hH).1
  obtain ⟨v, vm₁, B, hW₁, X', ⟨Lc, hQ, e1, e2, e3⟩, st⟩ := X.virtualBack A.1 (y := y) (z := y) A.2.2.2.2.2.2.1 (mvT A.2.1 w1) (mvT A.2.1 w2) (notFace_of_selects (args := #[]) (mvT A.2.1 w3)) (mvT A.2.1 w3) (mvT A.2.1 w4) hy
    (backOf (W := (S.map fun v => v.category).sum) (cs [] n0 ad T.heap hr) A.2.1 w5 w6 hf hl) qa qc (g := mkF m pc Ls (S0.map (rf ad))) rfl (hz.trans A.2.2.2.1.symm) (Steps.refl _) (argsL := as.map (rf ad)) (rest := S.map (rf ad)) (fun sig q => by rw [List.length_map]; exact hlen sig q) (stack_of1 ad hS) (by show 2 * 0 + _ ≤ _; rw [rf_cats]; omega) (hb A.2.2.1 hd) (fun _ _ => ⟨rfl, rfl, hc, hs⟩)
  exact go_on (T := T) nx X' A hr N hL hz hQ e1 e2 e3 st
theorem WP.callP {idx i kk : Nat} {vs : List Value} (hd : decode bytes pc = .ok (.invokevirtual idx, 3)) (w1 : (Cond.methodLink own idx y).before a0 Z = true) (w2 : (Cond.privateMethod y).before a0 Z = true) (wi : (Cond.instantiable y.cls kk).before a0 Z = true) (w4 : (Cond.instanceMethod y).before a0 Z = true) (w5 : (Cond.code y cb cm cr).before a0 Z = true) (w6 : (Cond.initialized y.cls).before a0 Z = true) (hy : y.cls ≠ "java/lang/invoke/MethodHandle" ∧ y.cls ≠ "java/lang/invoke/VarHandle")
    (hH : H[i]? = some (.inl vs)) (cs : CS l Z C lay y cb cm cr Rc ro (.ref i :: as) H Qc) (hS : S0 = as.reverse ++ .ref i :: S) (hlen : ∀ sig, parseMethodDescriptor y.desc = some sig → as.length = sig.parameters.length) (hf : Rc.frames + 1 ≤ R.frames) (hl : (S.map fun v => v.category).sum + (cm + 11) + Rc.locals ≤ R.locals) (hc : k + Rc.cells ≤ R.cells) (hs : n + Rc.slots ≤ R.slots)
    (nx : ∀ v H', Qc v H' → WP l Z C lay own mn bytes maxL ret R n0 ro Q (k + Rc.cells) (n + Rc.slots) (pc + 3) L (v.toList ++ S) H') : WP l Z C lay own mn bytes maxL ret R n0 ro Q k n pc L S0 H := by
  intro p e s m args below meth c T locs ad Ls X A hr N hL hz
  obtain ⟨cq, q, q'⟩ := (hr.1 i _ hH).1.cell
  have hpr : s.PrivateAt y := Cond.privateMethod_at (mvP A.2.1 w2 (args := #[]))
  have hin : (Cond.instanceMethod y).before args s = true := mvT A.2.1 w4
  have hsel : (Cond.selects y.cls y y).before args s = true := by
    have wi' : (Cond.instantiable y.cls kk).before args s = true := mvT A.2.1 wi
    obtain ⟨c1, k1, g1, g2, g3, g4, -⟩ := Cond.instantiable_spec wi'
    have g5 : k1.isInterface = false := by
      cases hq : k1.isInterface
      · rfl
      · rw [hq] at g4; cases g4
    exact selects_self_of_private g1 g2 g5 hpr hin hy
  obtain ⟨v, vm₁, B, hW₁, X', ⟨Lc, hQ, e1, e2, e3⟩, st⟩ := X.privateBack A.1 (y := y) A.2.2.2.2.2.2.1 (mvT A.2.1 w1) hin hsel hpr (mvT A.2.1 w5) hy
    (backOf (W := (S.map fun v => v.category).sum) (cs [] n0 ad T.heap hr) A.2.1 w5 w6 hf hl) (g := mkF m pc Ls (S0.map (rf ad))) rfl (hz.trans A.2.2.2.1.symm) (Steps.refl _) q q' (argsL := as.map (rf ad)) (rest := S.map (rf ad)) (fun sig q => by rw [List.length_map]; exact hlen sig q) (stack_of1 ad hS) (by show 2 * 0 + _ ≤ _; rw [rf_cats]; omega) (hb A.2.2.1 hd) (fun _ _ => ⟨rfl, rfl, hc, hs⟩)
  exact go_on (T := T) nx X' A hr N hL hz hQ e1 e2 e3 st
theorem WP.callI {idx i : Nat} (hd : decode bytes pc = .ok (.invokespecial idx, 3)) (hn1 : y.name = "<init>") (w1 : (Cond.methodLink own idx y).before a0 Z = true) (w4 : (Cond.instanceMethod y).before a0 Z = true) (w5 : (Cond.code y cb cm none).before a0 Z = true) (w6 : (Cond.initialized y.cls).before a0 Z = true) (hy : y.cls ≠ "java/lang/invoke/MethodHandle" ∧ y.cls ≠ "java/lang/invoke/VarHandle")
    (cs : CS l Z C lay y cb cm none Rc ro (.ref i :: as) H Qc) (hS : S0 = as.reverse ++ .ref i :: S) (hlen : ∀ sig, parseMethodDescriptor y.desc = some sig → as.length = sig.parameters.length) (hf : Rc.frames + 1 ≤ R.frames) (hl : (S.map fun v => v.category).sum + (cm + 11) + Rc.locals ≤ R.locals) (hc : k + Rc.cells ≤ R.cells) (hs : n + Rc.slots ≤ R.slots)
    (nx : ∀ v H', Qc v H' → WP l Z C lay own mn bytes maxL ret R n0 ro Q (k + Rc.cells) (n + Rc.slots) (pc + 3) L (v.toList ++ S) H') : WP l Z C lay own mn bytes maxL ret R n0 ro Q k n pc L S0 H := by
  intro p e s m args below meth c T locs ad Ls X A hr N hL hz
  obtain ⟨v, vm₁, B, hW₁, X', ⟨Lc, hQ, e1, e2, e3⟩, st⟩ := X.specialBack A.1 (y := y) hn1 A.2.2.2.2.2.2.1 (mvT A.2.1 w1) (mvT A.2.1 w4) (mvT A.2.1 w5) hy
    (backOf (W := (S.map fun v => v.category).sum) (cs [] n0 ad T.heap hr) A.2.1 w5 w6 hf hl) (g := mkF m pc Ls (S0.map (rf ad))) rfl (hz.trans A.2.2.2.1.symm) (Steps.refl _) (a := ad i) (argsL := as.map (rf ad)) (rest := S.map (rf ad)) (fun sig q => by rw [List.length_map]; exact hlen sig q) (stack_of1 ad hS) (by show 2 * 0 + _ ≤ _; rw [rf_cats]; omega) (hb A.2.2.1 hd) (fun _ _ => ⟨rfl, rfl, hc, hs⟩)
  exact go_on (T := T) nx X' A hr N hL hz hQ e1 e2 e3 st
end Calls
/-! ## a callee that sees a part of the heap -/
def rn (ρ : Nat → Nat) : Value → Value
  | .ref i => .ref (ρ i)
  | .int x => .int x
  | .long x => .long x
  | .float x => .float x
  | .double x => .double x
  | .null => .null
  | .retAddr x => .retAddr x
theorem rf_rn (ad : Nat → Addr) (ρ : Nat → Nat) (v : Value) : rf ad (rn ρ v) = rf (fun j => ad (ρ j)) v := by cases v <;> rfl
def rnC (ρ : Nat → Nat) : OwnC → OwnC
  | .inl vs => .inl (vs.map (rn ρ))
  | .inr x => .inr x
theorem CelOk_rn {Z : State} {C : String} {lay : List (String × String)} {ad : Nat → Addr} {ρ : Nat → Nat} {h : Heap} {a : Addr} {c : OwnC} : CelOk Z C lay ad h a (rnC ρ c) ↔ CelOk Z C lay (fun j => ad (ρ j)) h a c := by
  rcases c with vs | xs | xs | xs
  · constructor
    · rintro ⟨E, F⟩
      refine ⟨E, fun i f v hf hv => ?_⟩
      have := F i f (rn ρ v) hf (by rw [List.getElem?_map, hv]; rfl)
      rwa [rf_rn] at this
    · rintro ⟨E, F⟩
      refine ⟨E, fun i f v hf hv => ?_⟩
      rw [List.getElem?_map] at hv
      obtain ⟨w, hw, rfl⟩ := Option.map_eq_some_iff.mp hv
      rw [rf_rn]; exact F i f w hf hw
  all_goals exact Iff.rfl
def patch (ρ : Nat → Nat) : List Nat → List OwnC → List OwnC → List OwnC
  | [], D, H => H ++ D.map (rnC ρ)
  | i :: is, c :: D, H => patch ρ is D (H.set i (rnC ρ c))
  | _ :: _, [], H => H
theorem patch_len (ρ : Nat → Nat) : ∀ (foot : List Nat) (D H : List OwnC), foot.length ≤ D.length → (patch ρ foot D H).length = H.length + (D.length - foot.length)
  | [], D, H, _ => by simp [patch]
  | i :: is, [], H, h => by simp at h
  | i :: is, c :: D, H, h => by
    show (patch ρ is D (H.set i (rnC ρ c))).length = _
    rw [patch_len ρ is D _ (by simpa using h)]; simp
theorem patch_out (ρ : Nat → Nat) : ∀ (foot : List Nat) (D H : List OwnC) (i : Nat), i < H.length → i ∉ foot → (patch ρ foot D H)[i]? = H[i]?
  | [], D, H, i, hi, _ => by simp [patch, List.getElem?_append_left hi]
  | j :: is, [], H, i, _, _ => rfl
  | j :: is, c :: D, H, i, hi, hn => by
    show (patch ρ is D (H.set j (rnC ρ c)))[i]? = _
    rw [patch_out ρ is D _ i (by simpa using hi) (fun q => hn (List.mem_cons_of_mem _ q)), List.getElem?_set_ne (fun q => hn (by rw [q]; exact List.mem_cons_self ..))]
theorem patch_new (ρ : Nat → Nat) : ∀ (foot : List Nat) (D H : List OwnC) (t : Nat), foot.length ≤ D.length → (patch ρ foot D H)[H.length + t]? = (D[foot.length + t]?).map (rnC ρ)
  | [], D, H, t, _ => by simp [patch, List.getElem?_append_right (Nat.le_add_right _ _)]
  | i :: is, [], H, _, h => by simp at h
  | i :: is, c :: D, H, t, h => by
    show (patch ρ is D (H.set i (rnC ρ c)))[H.length + t]? = _
    have := patch_new ρ is D (H.set i (rnC ρ c)) t (by simpa using h)
    rw [List.length_set] at this
    rw [this]; simp [Nat.add_right_comm _ 1 t]
theorem patch_in (ρ : Nat → Nat) : ∀ (foot : List Nat) (D H : List OwnC) (j i : Nat), foot.Nodup → (∀ x ∈ foot, x < H.length) → foot[j]? = some i → foot.length ≤ D.length → (patch ρ foot D H)[i]? = (D[j]?).map (rnC ρ)
  | [], D, H, j, i, _, _, h, _ => by simp at h
  | x :: is, [], H, j, i, _, _, _, h => by simp at h
  | x :: is, c :: D, H, 0, i, nd, hl, h, _ => by
    obtain rfl : x = i := by simpa using h
    show (patch ρ is D (H.set x (rnC ρ c)))[x]? = _
    rw [patch_out ρ is D _ x (by simpa using hl x (List.mem_cons_self ..)) (List.nodup_cons.mp nd).1]
    simp [hl x (List.mem_cons_self ..)]
  | x :: is, c :: D, H, j + 1, i, nd, hl, h, hd => by
    show (patch ρ is D (H.set x (rnC ρ c)))[i]? = _
    rw [patch_in ρ is D _ j i (List.nodup_cons.mp nd).2 (fun y hy => by simpa using hl y (List.mem_cons_of_mem _ hy)) (by simpa using h) (by simpa using hd)]
    simp
def ro1 (foot : List Nat) (N : Nat) (j : Nat) : Nat := if j < foot.length then foot.getD j 0 else N + (j - foot.length)
theorem ro1_in {foot : List Nat} {N j i : Nat} (h : foot[j]? = some i) : ro1 foot N j = i := by
  have hj := get_lt h
  unfold ro1
  rw [if_pos hj, List.getD_eq_getElem?_getD, h]; rfl
theorem ro1_new (foot : List Nat) (N t : Nat) : ro1 foot N (foot.length + t) = N + t := by
  unfold ro1
  rw [if_neg (by omega)]; omega
theorem CS.frame {l : Launch} {Z : State} {C : String} {lay : List (String × String)} {y : MethodName} {bytes : ByteArray} {maxL : Nat} {ret : Option FieldType} {R : Room} {ro roc : Nat} {as asc : List Value} {H Hc : List OwnC} {Qc : Option Value → List OwnC → Prop} (foot : List Nat)
    (cs : CS l Z C lay y bytes maxL ret R roc asc Hc Qc) (hlen : Hc.length = foot.length) (hnd : foot.Nodup) (hlt : ∀ x ∈ foot, x < H.length) (hcell : foot.map (fun i => H[i]?) = Hc.map (fun c => some (rnC (ro1 foot H.length) c))) (hro : ∀ x ∈ foot.drop roc, ro ≤ x) (has : asc.map (rn (ro1 foot H.length)) = as) :
    CS l Z C lay y bytes maxL ret R ro as H (fun v H' => ∃ vc D, Qc vc D ∧ v = vc.map (rn (ro1 foot H.length)) ∧ H' = patch (ro1 foot H.length) foot D H) := by
  intro ws n0 ad h hr
  obtain ⟨r1, r2, r3, r4, r5⟩ := hr
  have cellAt : ∀ (j i : Nat), foot[j]? = some i → ∃ c, Hc[j]? = some c ∧ H[i]? = some (rnC (ro1 foot H.length) c) := fun j i hj => by
    have h1 : (foot.map (fun i => H[i]?))[j]? = some H[i]? := by rw [List.getElem?_map, hj]; rfl
    rw [hcell, List.getElem?_map] at h1
    obtain ⟨c, e1, e2⟩ := Option.map_eq_some_iff.mp h1
    exact ⟨c, e1, e2.symm⟩
  have idx : ∀ j : Nat, j < foot.length → ∃ i, foot[j]? = some i ∧ i < H.length := fun j hj => ⟨_, List.getElem?_eq_getElem hj, hlt _ (List.getElem_mem hj)⟩
  have hrc : HR Z C lay n0 roc (fun j => ad (ro1 foot H.length j)) Hc h := by
    refine ⟨fun j c hj => ?_, fun i j hi hj q => ?_, fun t => ?_, fun j hj hr => ?_, r5⟩
    · obtain ⟨i, e1, e2⟩ := idx j (hlen ▸ get_lt hj)
      obtain ⟨c', g1, g2⟩ := cellAt j i e1
      cases g1.symm.trans hj
      show CelOk Z C lay (fun j => ad (ro1 foot H.length j)) h (ad (ro1 foot H.length j)) c
      rw [ro1_in e1]
      exact CelOk_rn.mp (r1 i _ g2)
    · rw [hlen] at hi hj
      obtain ⟨i', e1, e2⟩ := idx i hi
      obtain ⟨j', g1, g2⟩ := idx j hj
      dsimp only at q
      rw [ro1_in e1, ro1_in g1] at q
      have q' := r2 _ _ e2 g2 q
      subst q'
      exact (List.getElem?_inj hi hnd).mp (e1.trans g1.symm)
    · dsimp only
      rw [hlen, ro1_new]; exact r3 t
    · rw [hlen] at hj
      obtain ⟨i', e1, e2⟩ := idx j hj
      dsimp only
      rw [ro1_in e1]; refine r4 _ e2 (hro i' (List.mem_of_getElem? (i := j - roc) ?_)); rw [List.getElem?_drop, Nat.add_sub_cancel' hr]; exact e1
  intro p e ha hc hk s m args below hf happ hP hK
  have eas : (asc.map (rf fun j => ad (ro1 foot H.length j))) = as.map (rf ad) := by
    rw [← has, List.map_map]; congr 1; funext v; exact (rf_rn ad _ v).symm
  obtain ⟨N, o, h1, h2, h3, v, L, h4, ⟨w, D, rfl, g2, g3, g4, g5⟩, h5⟩ := cs ws n0 _ h hrc p e ha hc hk s m args below hf happ (by rw [eas]; exact hP) hK
  refine ⟨N, o, h1, h2, h3, _, L, h4, ⟨w.map (rn (ro1 foot H.length)), patch (ro1 foot H.length) foot D H, ?_, ⟨w, D, g2, rfl, rfl⟩, ?_, ?_, g5⟩, h5⟩
  · cases w with
    | none => rfl
    | some w => exact congrArg some (rf_rn ad _ w).symm
  · generalize hU : (stepsAlone p.tables e N s).heap = h' at g3 g4
    obtain ⟨d1, d2, d3, d4, d5⟩ := g3
    have hD : foot.length ≤ D.length := by
      by_cases q : foot.length ≤ D.length
      · exact q
      · exfalso
        obtain ⟨i, e1, e2⟩ := idx D.length (by omega)
        have z := d3 0
        simp only [Nat.add_zero] at z
        rw [ro1_in e1] at z
        obtain ⟨c', -, g2'⟩ := cellAt _ i e1
        have a1 := (r1 i _ g2').lt
        rw [z] at a1
        exact absurd a1 (Nat.not_lt.mpr g4.1)
    have hPl := patch_len (ro1 foot H.length) foot D H hD
    have old : ∀ i, i < H.length → ad i < h.size := fun i hi => (r1 i _ (List.getElem?_eq_getElem hi)).lt
    have new : ∀ i, H.length ≤ i → h.size ≤ ad i := fun i hi => by
      obtain ⟨t, rfl⟩ := Nat.exists_eq_add_of_le hi
      rw [r3 t]; exact Nat.le_add_right _ _
    refine ⟨fun i c hi => ?_, fun i j hi hj q => ?_, fun t => ?_, fun i hi hr => ?_, Nat.le_trans r5 g4.1⟩
    · by_cases hl : i < H.length
      · by_cases hm : i ∈ foot
        · obtain ⟨j, hj⟩ := List.getElem?_of_mem hm
          rw [patch_in _ foot D H j i hnd hlt hj hD] at hi
          obtain ⟨c', e1, rfl⟩ := Option.map_eq_some_iff.mp hi
          have := d1 j c' e1
          dsimp only at this
          rw [ro1_in hj] at this
          exact CelOk_rn.mpr this
        · rw [patch_out _ foot D H i hl hm] at hi
          refine (r1 i c hi).keep fun cz q => g4.2 _ cz q fun j hj q' => ?_
          rw [hlen] at hj
          obtain ⟨i', e1, e2⟩ := idx j hj
          dsimp only at q'
          rw [ro1_in e1] at q'
          have := r2 _ _ e2 hl q'
          subst this
          exact hm (List.mem_of_getElem? e1)
      · obtain ⟨t, rfl⟩ := Nat.exists_eq_add_of_le (Nat.le_of_not_lt hl)
        rw [patch_new _ foot D H t hD] at hi
        obtain ⟨c', e1, rfl⟩ := Option.map_eq_some_iff.mp hi
        have := d1 _ c' e1
        dsimp only at this
        rw [ro1_new] at this
        exact CelOk_rn.mpr this
    · by_cases a1 : i < H.length
      · by_cases a2 : j < H.length
        · exact r2 _ _ a1 a2 q
        · have b1 := old i a1
          rw [q] at b1
          exact absurd b1 (Nat.not_lt.mpr (new j (Nat.le_of_not_lt a2)))
      · by_cases a2 : j < H.length
        · have b1 := new i (Nat.le_of_not_lt a1)
          rw [q] at b1
          exact absurd (old j a2) (Nat.not_lt.mpr b1)
        · obtain ⟨t, rfl⟩ := Nat.exists_eq_add_of_le (Nat.le_of_not_lt a1)
          obtain ⟨t', rfl⟩ := Nat.exists_eq_add_of_le (Nat.le_of_not_lt a2)
          rw [r3, r3] at q; exact congrArg (H.length + ·) (Nat.add_left_cancel q)
    · have z := d3 t
      dsimp only at z
      have e1 : D.length + t = foot.length + (D.length - foot.length + t) := by omega
      rw [e1, ro1_new] at z
      rw [hPl, Nat.add_assoc]; exact z
    · by_cases a1 : i < H.length
      · exact r4 i a1 hr
      · exact Nat.le_trans r5 (new i (Nat.le_of_not_lt a1))
  · refine ⟨g4.1, fun a cz hz hn => g4.2 a cz hz fun j hj q => ?_⟩
    rw [hlen] at hj
    obtain ⟨i', e1, e2⟩ := idx j hj
    dsimp only at q
    rw [ro1_in e1] at q
    exact hn i' e2 q
/-! ## an object's state: ints (and booleans), longs, int[] (and boolean[]), long[], each by a number -/
abbrev St : Type := (Nat → Int32) × (Nat → Int64) × (Nat → List Int32) × (Nat → List Int64)
def upd {α : Type} (f : Nat → α) (i : Nat) (v : α) : Nat → α := fun j => if j = i then v else f j
def gI (s : St) (i : Nat) : Int32 := s.1 i
def gJ (s : St) (i : Nat) : Int64 := s.2.1 i
def gA (s : St) (i : Nat) : List Int32 := s.2.2.1 i
def gB (s : St) (i : Nat) : List Int64 := s.2.2.2 i
def sI (s : St) (i : Nat) (v : Int32) : St := (upd s.1 i v, s.2.1, s.2.2.1, s.2.2.2)
def sJ (s : St) (i : Nat) (v : Int64) : St := (s.1, upd s.2.1 i v, s.2.2.1, s.2.2.2)
def sA (s : St) (i : Nat) (v : List Int32) : St := (s.1, s.2.1, upd s.2.2.1 i v, s.2.2.2)
def sB (s : St) (i : Nat) (v : List Int64) : St := (s.1, s.2.1, s.2.2.1, upd s.2.2.2 i v)
theorem gI_sI (s : St) (i j : Nat) (v : Int32) : gI (sI s i v) j = if j = i then v else gI s j := rfl
theorem gI_sJ (s : St) (i j : Nat) (v : Int64) : gI (sJ s i v) j = gI s j := rfl
theorem gI_sA (s : St) (i j : Nat) (v : List Int32) : gI (sA s i v) j = gI s j := rfl
theorem gI_sB (s : St) (i j : Nat) (v : List Int64) : gI (sB s i v) j = gI s j := rfl
theorem gJ_sI (s : St) (i j : Nat) (v : Int32) : gJ (sI s i v) j = gJ s j := rfl
theorem gJ_sJ (s : St) (i j : Nat) (v : Int64) : gJ (sJ s i v) j = if j = i then v else gJ s j := rfl
theorem gJ_sA (s : St) (i j : Nat) (v : List Int32) : gJ (sA s i v) j = gJ s j := rfl
theorem gJ_sB (s : St) (i j : Nat) (v : List Int64) : gJ (sB s i v) j = gJ s j := rfl
theorem gA_sI (s : St) (i j : Nat) (v : Int32) : gA (sI s i v) j = gA s j := rfl
theorem gA_sJ (s : St) (i j : Nat) (v : Int64) : gA (sJ s i v) j = gA s j := rfl
theorem gA_sA (s : St) (i j : Nat) (v : List Int32) : gA (sA s i v) j = if j = i then v else gA s j := rfl
theorem gA_sB (s : St) (i j : Nat) (v : List Int64) : gA (sB s i v) j = gA s j := rfl
theorem gB_sI (s : St) (i j : Nat) (v : Int32) : gB (sI s i v) j = gB s j := rfl
theorem gB_sJ (s : St) (i j : Nat) (v : Int64) : gB (sJ s i v) j = gB s j := rfl
theorem gB_sA (s : St) (i j : Nat) (v : List Int32) : gB (sA s i v) j = gB s j := rfl
theorem gB_sB (s : St) (i j : Nat) (v : List Int64) : gB (sB s i v) j = if j = i then v else gB s j := rfl
def wrA (s : St) (i : Nat) (j x : Int32) : Option St := (wr (gA s i) j x).map (sA s i)
def wrB (s : St) (i : Nat) (j : Int32) (x : Int64) : Option St := (wr (gB s i) j x).map (sB s i)
theorem wrA_e {s s' : St} {i : Nat} {j x : Int32} (h : wrA s i j x = some s') : ∃ ys, wr (gA s i) j x = some ys ∧ s' = sA s i ys := by
  obtain ⟨ys, h1, h2⟩ := Option.map_eq_some_iff.mp h
  exact ⟨ys, h1, h2.symm⟩
theorem wrB_e {s s' : St} {i : Nat} {j : Int32} {x : Int64} (h : wrB s i j x = some s') : ∃ ys, wr (gB s i) j x = some ys ∧ s' = sB s i ys := by
  obtain ⟨ys, h1, h2⟩ := Option.map_eq_some_iff.mp h
  exact ⟨ys, h1, h2.symm⟩
def lt {α β : Type} (x : α) (f : α → β) : β := f x
theorem lt_e {α β : Type} {x : α} {f : α → β} {r : β} (h : lt x f = r) : ∃ y, y = x ∧ f y = r := ⟨x, rfl, h⟩
theorem ite_e {α : Type} {c : Prop} [Decidable c] {a b r : α} (h : (if c then a else b) = r) : (c ∧ a = r) ∨ (¬ c ∧ b = r) := by
  by_cases hc : c
  · rw [if_pos hc] at h; exact Or.inl ⟨hc, h⟩
  · rw [if_neg hc] at h; exact Or.inr ⟨hc, h⟩
theorem nz_e {α : Type} {c : Prop} [Decidable c] {b : Option α} {r : α} (h : (if c then none else b) = some r) : ¬ c ∧ b = some r := by
  by_cases hc : c
  · rw [if_pos hc] at h; cases h
  · rw [if_neg hc] at h; exact ⟨hc, h⟩
/-! the class's fields -/
def LaidAll (Z : State) (a0 : Array Value) (C : String) : List (String × String) → List Value → Prop
  | f :: fs, v :: vs => (Laid Z a0 C C f.1 f.2 ∧ ∃ ty, parseFieldDescriptor f.2 = some ty ∧ v = defaultValue ty) ∧ LaidAll Z a0 C fs vs
  | [], [] => True
  | _, _ => False
theorem LaidAll.new {Z : State} {a0 : Array Value} {C : String} : ∀ {lay : List (String × String)} {vs : List Value}, LaidAll Z a0 C lay vs → ∀ (i : Nat) (f : String × String) (v : Value), lay[i]? = some f → vs[i]? = some v → Laid Z a0 C C f.1 f.2 ∧ ∃ ty, parseFieldDescriptor f.2 = some ty ∧ v = defaultValue ty
  | [], [], _, i, f, v, h, _ => by simp at h
  | g :: fs, w :: vs, h, 0, f, v, h1, h2 => by
    obtain rfl : g = f := by simpa using h1
    obtain rfl : w = v := by simpa using h2
    exact h.1
  | g :: fs, w :: vs, h, i + 1, f, v, h1, h2 => LaidAll.new h.2 i f v (by simpa using h1) (by simpa using h2)
theorem LaidAll.len {Z : State} {a0 : Array Value} {C : String} : ∀ {lay : List (String × String)} {vs : List Value}, LaidAll Z a0 C lay vs → lay.length = vs.length
  | [], [], _ => rfl
  | g :: fs, w :: vs, h => congrArg Nat.succ (LaidAll.len h.2)
theorem LaidAll.ne {Z : State} {a0 : Array Value} {C : String} {lay : List (String × String)} {vs : List Value} (h : LaidAll Z a0 C lay vs) (nd : (lay.map Prod.fst).Nodup) : ∀ (a b : Nat) (f g : String × String), lay[a]? = some f → lay[b]? = some g → a ≠ b → RoadKit.slotOf Z C f.1 f.2 ≠ RoadKit.slotOf Z C g.1 g.2 := by
  intro a b f g ha hb' hne
  have la := get_lt ha
  have lb := get_lt hb'
  obtain ⟨L1, t1, e1, -⟩ := h.new a f _ ha (List.getElem?_eq_getElem (h.len ▸ la))
  obtain ⟨L2, t2, e2, -⟩ := h.new b g _ hb' (List.getElem?_eq_getElem (h.len ▸ lb))
  refine slot_ne L1 L2 (fun q => hne ?_) e1 e2
  have h1 : (lay.map Prod.fst)[a]? = some f.1 := by rw [List.getElem?_map, ha]; rfl
  have h2 : (lay.map Prod.fst)[b]? = some g.1 := by rw [List.getElem?_map, hb']; rfl
  exact (List.getElem?_inj (by simpa using la) nd).mp (h1.trans (by rw [q]; exact h2.symm))
section Puts
variable {l : Launch} {Z : State} {a0 : Array Value} {C : String} {lay : List (String × String)} {own mn : String} {bytes : ByteArray} {maxL : Nat} {ret : Option FieldType} {R : Room} {n0 ro : Nat} {Q : Option Value → List OwnC → Prop} {k n pc pc' : Nat} {L L' : List Slot} {S S' : List Value} {H H' : List OwnC}
theorem WP.putI {idx i j kk : Nat} {f : String} {vs : List Value} {x : Int32} {old : Value} (hd : decode bytes pc = .ok (.putfield idx, 3)) (hw : (Cond.fieldLink own idx C f "I").before a0 Z = true) (hl : (Cond.lays C C f "I").before a0 Z = true ∨ ((Cond.laysFinal C C f "I").before a0 Z = true ∧ own = C ∧ mn = "<init>")) (wi : (Cond.instantiable C kk).before a0 Z = true)
    (hlay : ∀ (a b : Nat) (f g : String × String), lay[a]? = some f → lay[b]? = some g → a ≠ b → RoadKit.slotOf Z C f.1 f.2 ≠ RoadKit.slotOf Z C g.1 g.2) (hj : lay[j]? = some (f, "I")) (hH : H[i]? = some (.inl vs)) (hv : vs[j]? = some old) (hi : ro ≤ i) (hH' : H.set i (.inl (vs.set j (.int x))) = H') (nx : WP l Z C lay own mn bytes maxL ret R n0 ro Q k n (pc + 3) L S H') : WP l Z C lay own mn bytes maxL ret R n0 ro Q k n pc L (.int x :: .ref i :: S) H :=
  WP.put hd hw hl wi hlay (ty := .int) (by decide) (fun _ => rfl) (fun _ => rfl) hj hH hv hi hH' nx
theorem WP.putJ {idx i j kk : Nat} {f : String} {vs : List Value} {x : Int64} {old : Value} (hd : decode bytes pc = .ok (.putfield idx, 3)) (hw : (Cond.fieldLink own idx C f "J").before a0 Z = true) (hl : (Cond.lays C C f "J").before a0 Z = true ∨ ((Cond.laysFinal C C f "J").before a0 Z = true ∧ own = C ∧ mn = "<init>")) (wi : (Cond.instantiable C kk).before a0 Z = true)
    (hlay : ∀ (a b : Nat) (f g : String × String), lay[a]? = some f → lay[b]? = some g → a ≠ b → RoadKit.slotOf Z C f.1 f.2 ≠ RoadKit.slotOf Z C g.1 g.2) (hj : lay[j]? = some (f, "J")) (hH : H[i]? = some (.inl vs)) (hv : vs[j]? = some old) (hi : ro ≤ i) (hH' : H.set i (.inl (vs.set j (.long x))) = H') (nx : WP l Z C lay own mn bytes maxL ret R n0 ro Q k n (pc + 3) L S H') : WP l Z C lay own mn bytes maxL ret R n0 ro Q k n pc L (.long x :: .ref i :: S) H :=
  WP.put hd hw hl wi hlay (ty := .long) (by decide) (fun _ => rfl) (fun _ => rfl) hj hH hv hi hH' nx
theorem WP.putZ {idx i j kk : Nat} {f : String} {vs : List Value} {x : Int32} {old : Value} (hd : decode bytes pc = .ok (.putfield idx, 3)) (hw : (Cond.fieldLink own idx C f "Z").before a0 Z = true) (hl : (Cond.lays C C f "Z").before a0 Z = true ∨ ((Cond.laysFinal C C f "Z").before a0 Z = true ∧ own = C ∧ mn = "<init>")) (wi : (Cond.instantiable C kk).before a0 Z = true)
    (hlay : ∀ (a b : Nat) (f g : String × String), lay[a]? = some f → lay[b]? = some g → a ≠ b → RoadKit.slotOf Z C f.1 f.2 ≠ RoadKit.slotOf Z C g.1 g.2) (hj : lay[j]? = some (f, "Z")) (hH : H[i]? = some (.inl vs)) (hv : vs[j]? = some old) (hi : ro ≤ i) (hH' : H.set i (.inl (vs.set j (.int (x &&& 1)))) = H') (nx : WP l Z C lay own mn bytes maxL ret R n0 ro Q k n (pc + 3) L S H') : WP l Z C lay own mn bytes maxL ret R n0 ro Q k n pc L (.int x :: .ref i :: S) H :=
  WP.put (v' := .int (x &&& 1)) hd hw hl wi hlay (ty := .boolean) (by decide) (fun _ => rfl) (fun _ => fits_nar_bool x) hj hH hv hi hH' nx
theorem WP.putR {idx i j kk i2 : Nat} {f d : String} {vs : List Value} {old : Value} {ty : FieldType} (hd : decode bytes pc = .ok (.putfield idx, 3)) (hw : (Cond.fieldLink own idx C f d).before a0 Z = true) (hl : (Cond.lays C C f d).before a0 Z = true ∨ ((Cond.laysFinal C C f d).before a0 Z = true ∧ own = C ∧ mn = "<init>")) (wi : (Cond.instantiable C kk).before a0 Z = true)
    (hlay : ∀ (a b : Nat) (f g : String × String), lay[a]? = some f → lay[b]? = some g → a ≠ b → RoadKit.slotOf Z C f.1 f.2 ≠ RoadKit.slotOf Z C g.1 g.2) (hty : parseFieldDescriptor d = some ty) (hn : ∀ a, narrow ty (.ref a) = .ref a) (hf : ∀ a, fits ty (.ref a) = true) (hj : lay[j]? = some (f, d)) (hH : H[i]? = some (.inl vs)) (hv : vs[j]? = some old) (hi : ro ≤ i) (hH' : H.set i (.inl (vs.set j (.ref i2))) = H') (nx : WP l Z C lay own mn bytes maxL ret R n0 ro Q k n (pc + 3) L S H') : WP l Z C lay own mn bytes maxL ret R n0 ro Q k n pc L (.ref i2 :: .ref i :: S) H :=
  WP.put (v' := .ref i2) hd hw hl wi hlay hty (fun ad => hn (ad i2)) (fun ad => hf (ad i2)) hj hH hv hi hH' nx
end Puts
/-! ## the start of a law -/
theorem HR.start0 (s : State) (C : String) (lay : List (String × String)) : HR s C lay s.heap.size 0 (fun t => s.heap.size + t) [] s.heap :=
  ⟨fun i c h => by simp at h, fun i j h => by simp at h, fun t => by simp, fun i h => by simp at h, Nat.le_refl _⟩
theorem script_ints {s : State} {a : Addr} {c : Cell} (hf : Fit s) (A : Arr s s.heap a c .int) : ∃ xs : List Int32, c.slots.toList = xs.map Value.int := by
  have h : ∀ v ∈ c.slots.toList, ∃ x : Int32, v = Value.int x := fun v hv => by
    obtain ⟨i, hi, e⟩ := List.mem_iff_getElem.mp hv
    have hi' : i < c.slots.size := by simpa using hi
    have q := hf A.1 hi'
    obtain ⟨hs, k, hk, comp, hkind⟩ := A.2.1
    have e2 : s.slotType? c.cls c.vm i = some .int := by
      cases hq : c.vm <;> first | exact absurd hq (hs _) | simp [State.slotType?, hk, hkind]
    have e3 : c.slots[i] = v := by rw [← e]; simp
    have q2 : fits .int v = true := by rw [← e3]; simpa [State.fitsSlot, e2] using q
    exact fit_I q2 (by simp)
  generalize c.slots.toList = L at h
  induction L with
  | nil => exact ⟨[], rfl⟩
  | cons v L ih =>
    obtain ⟨x, rfl⟩ := h v (List.mem_cons_self ..)
    obtain ⟨xs, rfl⟩ := ih fun w hw => h w (List.mem_cons_of_mem _ hw)
    exact ⟨x :: xs, rfl⟩
def ad1 (a N : Nat) : Nat → Addr
  | 0 => a
  | t + 1 => N + t
theorem HR.start1 {s : State} (C : String) (lay : List (String × String)) {a : Addr} {c : Cell} {xs : List Int32} (A : Arr s s.heap a c .int) (hx : c.slots.toList = xs.map Value.int) : HR s C lay s.heap.size 1 (ad1 a s.heap.size) [cI xs] s.heap := by
  refine ⟨fun i cc h => ?_, fun i j hi hj _ => ?_, fun t => ?_, fun i hi hr => ?_, Nat.le_refl _⟩
  · have hi := get_lt h
    simp at hi; subst hi
    simp at h; subst h
    exact ⟨c, A, hx⟩
  · simp at hi hj; omega
  · show ad1 a s.heap.size (1 + t) = _; rw [Nat.add_comm 1 t]; rfl
  · simp at hi; omega
theorem script_len {s : State} {a : Addr} {c : Cell} {n : Nat} {args : Array Value} {t : Term} (ev : t.eval args s none [] s = some (.ref a)) (A : Arr s s.heap a c .int) (e1 : c.slots.size = n) (h : (Cond.le (Term.length t) (Term.int (260 : Int32))).value args s none s [] = some true) : n ≤ 260 := by
  have hat := A.fin (Vm.Alike.refl _)
  have hl : (Term.length t).eval args s none [] s = if n < 2 ^ 31 then some (.int n.toInt32) else none := by
    simp only [Term.eval, ev, hat, Option.bind_eq_bind, Option.bind_some, e1]; rfl
  by_cases hn : n < 2 ^ 31
  · rw [if_pos hn] at hl
    have h1 := gotT (Cond.le_ints hl (Term.int_eval (260 : Int32))) h
    have h2 : n.toInt32.toInt = n := by
      show (Int32.ofNat n).toInt = n
      exact Int32.toInt_ofNat_of_lt hn
    have h3 := Int32.le_iff_toInt_le.mp h1
    rw [h2] at h3
    have : (260 : Int32).toInt = 260 := by decide
    omega
  · rw [if_neg hn] at hl
    simp [Cond.value, hl] at h
/-! ## plain laws -/
/-- with fuel enough it answers r -/
def Ev {α : Type} (f : Nat → Option α) (r : α) : Prop := ∃ N, ∀ n, N ≤ n → f n = some r
theorem Ev.const {α : Type} {x : Option α} {r : α} (h : x = some r) : Ev (fun _ => x) r := ⟨0, fun _ _ => h⟩
theorem Ev.get {α : Type} {f : Nat → Option α} {r : α} (h : Ev f r) : ∃ n, f n = some r := by obtain ⟨N, h⟩ := h; exact ⟨N, h N (Nat.le_refl _)⟩
theorem Ev.step {α : Type} {f g : Nat → Option α} {r : α} (e : ∀ n, f (n + 1) = g n) (h : Ev g r) : Ev f r := by
  obtain ⟨N, h⟩ := h
  refine ⟨N + 1, fun n hn => ?_⟩
  cases n with
  | zero => omega
  | succ n => rw [e n]; exact h n (by omega)
theorem Ev.congr {α : Type} {f g : Nat → Option α} {r : α} (e : ∀ n, f n = g n) (h : Ev g r) : Ev f r := by
  obtain ⟨N, h⟩ := h
  exact ⟨N, fun n hn => (e n).trans (h n hn)⟩
theorem Ev.bind {α β : Type} {f : Nat → Option β} {g : Nat → β → Option α} {c : β} {r : α} (h1 : Ev f c) (h2 : Ev (fun n => g n c) r) : Ev (fun n => (f n).bind (g n)) r := by
  obtain ⟨N, h1⟩ := h1
  obtain ⟨M, h2⟩ := h2
  refine ⟨N + M, fun n hn => ?_⟩
  show (f n).bind (g n) = some r
  rw [h1 n (by omega)]; exact h2 n (by omega)
theorem Ev.uniq {α : Type} {f : Nat → Option α} {r r' : α} (h : Ev f r) (h' : Ev f r') : r = r' := by
  obtain ⟨N, h⟩ := h
  obtain ⟨M, h'⟩ := h'
  exact Option.some.inj ((h (N + M) (by omega)).symm.trans (h' (N + M) (by omega)))
/-! Int32 as Int -/
theorem x32_lt {x y : Int32} : x < y ↔ x.toInt < y.toInt := Int32.lt_iff_toInt_lt
theorem x32_eq {x y : Int32} : x = y ↔ x.toInt = y.toInt := Int32.toInt_inj.symm
theorem x32_add {x y : Int32} (h1 : -2147483648 ≤ x.toInt + y.toInt) (h2 : x.toInt + y.toInt < 2147483648) : (x + y).toInt = x.toInt + y.toInt := by
  rw [Int32.toInt_add]; exact Int.bmod_eq_of_le (by omega) (by omega)
theorem x32_sub {x y : Int32} (h1 : -2147483648 ≤ x.toInt - y.toInt) (h2 : x.toInt - y.toInt < 2147483648) : (x - y).toInt = x.toInt - y.toInt := by
  rw [Int32.toInt_sub]; exact Int.bmod_eq_of_le (by omega) (by omega)
theorem x32_mul {x y : Int32} (h1 : -2147483648 ≤ x.toInt * y.toInt) (h2 : x.toInt * y.toInt < 2147483648) : (x * y).toInt = x.toInt * y.toInt := by
  rw [Int32.toInt_mul]; exact Int.bmod_eq_of_le (by omega) (by omega)
theorem clamp_nat (x : Int32) : x.toNatClampNeg = x.toInt.toNat := rfl
/-! reading and writing -/
theorem rd_of {α : Type} {xs : List α} {i : Int32} {k : Nat} {x : α} (hi : i.toInt = k) (h : xs[k]? = some x) : rd xs i = some x := by
  have h0 : ¬ i < 0 := by rw [x32_lt, hi]; show ¬ (k : Int) < 0; omega
  unfold rd
  rw [if_neg h0, clamp_nat, hi]; exact h
theorem wr_of {α : Type} {xs : List α} {i : Int32} {k : Nat} (x : α) (hi : i.toInt = k) (h : k < xs.length) : wr xs i x = some (xs.set k x) := by
  have h0 : ¬ i < 0 := by rw [x32_lt, hi]; show ¬ (k : Int) < 0; omega
  unfold wr
  rw [if_neg h0, clamp_nat, hi]; exact if_pos h
theorem wrA_of {s : St} {f : Nat} {i : Int32} {k : Nat} (x : Int32) (hi : i.toInt = k) (h : k < (gA s f).length) : wrA s f i x = some (sA s f ((gA s f).set k x)) := by
  unfold wrA; rw [wr_of x hi h]; rfl
theorem wrB_of {s : St} {f : Nat} {i : Int32} {k : Nat} (x : Int64) (hi : i.toInt = k) (h : k < (gB s f).length) : wrB s f i x = some (sB s f ((gB s f).set k x)) := by
  unfold wrB; rw [wr_of x hi h]; rfl
theorem nn_of {i : Int32} (h : ¬ i < 0) : ∃ k : Nat, i.toInt = k := ⟨i.toInt.toNat, by
  rw [x32_lt] at h
  have : (0 : Int32).toInt = 0 := by decide
  omega⟩
theorem Ev.all {α : Type} {f : Nat → Option α} {r : α} (h : ∀ n, f n = some r) : Ev f r := ⟨0, fun n _ => h n⟩
theorem ofN_int {k : Nat} (h : k < 2147483648) : (Int32.ofNat k).toInt = k := Int32.toInt_ofNat_of_lt (by omega)
theorem ofN_lt {i m : Nat} (hi : i < 2147483648) (hm : m < 2147483648) : Int32.ofNat i < Int32.ofNat m ↔ i < m := by
  rw [x32_lt, ofN_int hi, ofN_int hm]; omega
theorem ofN_succ (k : Nat) : Int32.ofNat k + 1 = Int32.ofNat (k + 1) := (Int32.ofNat_add k 1).symm
theorem ofN_eq {i m : Nat} (hi : i < 2147483648) (hm : m < 2147483648) : Int32.ofNat i = Int32.ofNat m ↔ i = m := by
  rw [x32_eq, ofN_int hi, ofN_int hm]; omega
theorem ofN_of {x : Int32} {k : Nat} (h : x.toInt = k) : x = Int32.ofNat k := by
  have h2 := Int32.toInt_lt x
  rw [x32_eq, ofN_int (by omega)]; exact h
/-- a loop that counts up to N -/
theorem loop_up {α σ : Type} {F : Nat → Int32 → σ → Option α} {E : Nat → σ → Option α} {N : Nat} (Inv : Nat → σ → Prop)
    (hstep : ∀ (i : Nat) (s : σ), i < N → Inv i s → ∃ s', Inv (i + 1) s' ∧ ∀ n, F (n + 1) (Int32.ofNat i) s = F n (Int32.ofNat (i + 1)) s')
    (hend : ∀ s, Inv N s → ∀ n, F (n + 1) (Int32.ofNat N) s = E n s) : ∀ (k i : Nat) (s : σ), i + k = N → Inv i s → ∃ s', Inv N s' ∧ ∀ r, Ev (fun n => E n s') r → Ev (fun n => F n (Int32.ofNat i) s) r := by
  intro k
  induction k with
  | zero =>
    intro i s hi h
    obtain rfl : i = N := by omega
    exact ⟨s, h, fun r hr => Ev.step (hend s h) hr⟩
  | succ k ih =>
    intro i s hi h
    obtain ⟨s', h1, h2⟩ := hstep i s (by omega) h
    obtain ⟨s2, h3, h4⟩ := ih (i + 1) s' (by omega) h1
    exact ⟨s2, h3, fun r hr => Ev.step h2 (h4 r hr)⟩
theorem set_len {α : Type} (xs : List α) (k : Nat) (x : α) : (xs.set k x).length = xs.length := List.length_set
theorem ofN_ltL {i m : Nat} (hi : i < 2147483648) (hm : m < 2147483648) : Int32.ofNat i < (OfNat.ofNat m : Int32) ↔ i < m := ofN_lt hi hm
theorem ofN_gtL {i m : Nat} (hi : i < 2147483648) (hm : m < 2147483648) : (OfNat.ofNat m : Int32) < Int32.ofNat i ↔ m < i := ofN_lt hm hi
theorem ofN_eqL {i m : Nat} (hi : i < 2147483648) (hm : m < 2147483648) : Int32.ofNat i = (OfNat.ofNat m : Int32) ↔ i = m := ofN_eq hi hm
theorem ofN_nn {i : Nat} (hi : i < 2147483648) : ¬ Int32.ofNat i < 0 := fun h => Nat.not_lt_zero _ ((ofN_ltL hi (by decide)).mp h)
theorem lit_int {m : Nat} (hm : m < 2147483648) : (OfNat.ofNat m : Int32).toInt = m := ofN_int hm
theorem upd_upd {α : Type} (f : Nat → α) (i : Nat) (x y : α) : upd (upd f i x) i y = upd f i y := by
  funext j; unfold upd; by_cases h : j = i <;> simp [h]
theorem upd_self {α : Type} (f : Nat → α) (i : Nat) : upd f i (f i) = f := by
  funext j; unfold upd; by_cases h : j = i <;> simp [h]
theorem sA_sA (s : St) (i : Nat) (x y : List Int32) : sA (sA s i x) i y = sA s i y := by unfold sA; dsimp only; rw [upd_upd]
theorem sB_sB (s : St) (i : Nat) (x y : List Int64) : sB (sB s i x) i y = sB s i y := by unfold sB; dsimp only; rw [upd_upd]
theorem sI_sI (s : St) (i : Nat) (x y : Int32) : sI (sI s i x) i y = sI s i y := by unfold sI; dsimp only; rw [upd_upd]
theorem sA_self {s : St} {i : Nat} {x : List Int32} (h : gA s i = x) : sA s i x = s := by
  subst h; unfold sA gA; rw [upd_self]
theorem sB_self {s : St} {i : Nat} {x : List Int64} (h : gB s i = x) : sB s i x = s := by
  subst h; unfold sB gB; rw [upd_self]
theorem sI_self {s : St} {i : Nat} {x : Int32} (h : gI s i = x) : sI s i x = s := by
  subst h; unfold sI gI; rw [upd_self]
theorem fill_set {α : Type} (a b : α) (n i : Nat) (h : i < n) : (List.replicate i a ++ List.replicate (n - i) b).set i a = List.replicate (i + 1) a ++ List.replicate (n - (i + 1)) b := by
  rw [List.set_append_right _ _ (by simp), List.length_replicate, Nat.sub_self]
  obtain ⟨m, hm⟩ : ∃ m, n - i = m + 1 := ⟨n - i - 1, by omega⟩
  have hm2 : n - (i + 1) = m := by omega
  rw [hm, hm2, List.replicate_succ, List.set_cons_zero, List.replicate_succ', List.append_assoc]; rfl
theorem and_nat (x : Int32) (m : Nat) (hm : m < 2147483648) : ∃ k, k ≤ m ∧ (x &&& Int32.ofNat m) = Int32.ofNat k := by
  refine ⟨(x.toBitVec &&& BitVec.ofNat 32 m).toNat, ?_, ?_⟩
  · rw [BitVec.toNat_and, BitVec.toNat_ofNat, Nat.mod_eq_of_lt (by omega)]
    exact Nat.and_le_right
  · apply Int32.toBitVec_inj.mp
    show x.toBitVec &&& BitVec.ofNat 32 m = BitVec.ofNat 32 _
    rw [BitVec.ofNat_toNat, BitVec.setWidth_eq]
theorem and_natL (x : Int32) (m : Nat) (hm : m < 2147483648) : ∃ k, k ≤ m ∧ (x &&& (OfNat.ofNat m : Int32)) = Int32.ofNat k := and_nat x m hm
theorem nat_lt {i : Int32} {m : Nat} (h : ¬ i < 0) (h2 : i < (OfNat.ofNat m : Int32)) (hm : m < 2147483648) : ∃ k : Nat, k < m ∧ i = Int32.ofNat k := by
  obtain ⟨k, hk⟩ := nn_of h
  rw [x32_lt, lit_int hm, hk] at h2
  exact ⟨k, by omega, ofN_of hk⟩
theorem nat_le {i : Int32} {m : Nat} (h : ¬ i < 0) (h2 : ¬ (OfNat.ofNat m : Int32) < i) (hm : m < 2147483648) : ∃ k : Nat, k ≤ m ∧ i = Int32.ofNat k := by
  obtain ⟨k, hk⟩ := nn_of h
  rw [x32_lt, lit_int hm, hk] at h2
  exact ⟨k, by omega, ofN_of hk⟩
theorem rd_at {α : Type} {xs : List α} {k : Nat} {x : α} (hk : k < 2147483648) (h : xs[k]? = some x) : rd xs (Int32.ofNat k) = some x := rd_of (ofN_int hk) h
theorem wr_at' {α : Type} {xs : List α} {k : Nat} (x : α) (hk : k < 2147483648) (h : k < xs.length) : wr xs (Int32.ofNat k) x = some (xs.set k x) := wr_of x (ofN_int hk) h
theorem rep_get {α : Type} {n k : Nat} (a : α) (h : k < n) : (List.replicate n a)[k]? = some a := by rw [List.getElem?_replicate, if_pos h]
theorem get_set_self {α : Type} {xs : List α} {k : Nat} (x : α) (h : k < xs.length) : (xs.set k x)[k]? = some x := by rw [List.getElem?_set_self h]
theorem get_set_ne {α : Type} {xs : List α} {k j : Nat} (x : α) (h : k ≠ j) : (xs.set k x)[j]? = xs[j]? := List.getElem?_set_ne h
theorem upd_comm {α : Type} (f : Nat → α) {i j : Nat} (h : i ≠ j) (x y : α) : upd (upd f i x) j y = upd (upd f j y) i x := by
  funext m; unfold upd
  by_cases h1 : m = j
  · subst h1; rw [if_pos rfl, if_neg (Ne.symm h), if_pos rfl]
  · rw [if_neg h1]; by_cases h2 : m = i
    · rw [if_pos h2, if_pos h2]
    · rw [if_neg h2, if_neg h2, if_neg h1]
theorem sA_comm {s : St} {i j : Nat} (h : i ≠ j) {x y : List Int32} : sA (sA s i x) j y = sA (sA s j y) i x := by unfold sA; dsimp only; rw [upd_comm _ h]
theorem sB_comm {s : St} {i j : Nat} (h : i ≠ j) {x y : List Int64} : sB (sB s i x) j y = sB (sB s j y) i x := by unfold sB; dsimp only; rw [upd_comm _ h]
theorem sI_comm {s : St} {i j : Nat} (h : i ≠ j) {x y : Int32} : sI (sI s i x) j y = sI (sI s j y) i x := by unfold sI; dsimp only; rw [upd_comm _ h]
theorem sJ_self {s : St} {i : Nat} {x : Int64} (h : gJ s i = x) : sJ s i x = s := by
  subst h; unfold sJ gJ; rw [upd_self]
theorem wrA_nop {s : St} {f N k : Nat} {v : Int32} (h : gA s f = List.replicate N v) (hk : k < N) (hN : N ≤ 2147483647) : wrA s f (Int32.ofNat k) v = some s := by
  rw [wrA_of (k := k) v (ofN_int (by omega)) (by rw [h, List.length_replicate]; exact hk), sA_self (by rw [h, List.set_replicate_self])]
theorem wrB_nop {s : St} {f N k : Nat} {v : Int64} (h : gB s f = List.replicate N v) (hk : k < N) (hN : N ≤ 2147483647) : wrB s f (Int32.ofNat k) v = some s := by
  rw [wrB_of (k := k) v (ofN_int (by omega)) (by rw [h, List.length_replicate]; exact hk), sB_self (by rw [h, List.set_replicate_self])]
/-- a loop that fills -/
theorem wrA_fill {s : St} {f N k : Nat} {u v : Int32} (hk : k < N) (hN : N ≤ 2147483647) : wrA (sA s f (List.replicate k v ++ List.replicate (N - k) u)) f (Int32.ofNat k) v = some (sA s f (List.replicate (k + 1) v ++ List.replicate (N - (k + 1)) u)) := by
  rw [wrA_of (k := k) v (ofN_int (by omega)) (by rw [gA_sA, if_pos rfl]; simp; omega), gA_sA, if_pos rfl, fill_set _ _ _ _ hk, sA_sA]
theorem fill_start {s : St} {f N : Nat} {u v : Int32} (h : gA s f = List.replicate N u) : s = sA s f (List.replicate 0 v ++ List.replicate (N - 0) u) := (sA_self (by rw [h]; rfl)).symm
theorem fill_end {s : St} {f N : Nat} {u v : Int32} : sA s f (List.replicate N v ++ List.replicate (N - N) u) = sA s f (List.replicate N v) := by rw [Nat.sub_self]; simp
theorem x32_neg {x : Int32} (h : -2147483648 < x.toInt) : (-x).toInt = -x.toInt := by
  have := Int32.toInt_lt x
  rw [Int32.toInt_neg]; exact Int.bmod_eq_of_le (by omega) (by omega)
theorem x64_neg {x : Int64} (h : -9223372036854775808 < x.toInt) : (-x).toInt = -x.toInt := by
  have := Int64.toInt_lt x
  rw [Int64.toInt_neg]; exact Int.bmod_eq_of_le (by omega) (by omega)
theorem x64_lt {x y : Int64} : x < y ↔ x.toInt < y.toInt := Int64.lt_iff_toInt_lt
theorem x64_eq {x y : Int64} : x = y ↔ x.toInt = y.toInt := Int64.toInt_inj.symm
theorem x64_add {x y : Int64} (h1 : -9223372036854775808 ≤ x.toInt + y.toInt) (h2 : x.toInt + y.toInt < 9223372036854775808) : (x + y).toInt = x.toInt + y.toInt := by
  rw [Int64.toInt_add]; exact Int.bmod_eq_of_le (by omega) (by omega)
theorem x64_sub {x y : Int64} (h1 : -9223372036854775808 ≤ x.toInt - y.toInt) (h2 : x.toInt - y.toInt < 9223372036854775808) : (x - y).toInt = x.toInt - y.toInt := by
  rw [Int64.toInt_sub]; exact Int.bmod_eq_of_le (by omega) (by omega)
theorem x64_mul {x y : Int64} (h1 : -9223372036854775808 ≤ x.toInt * y.toInt) (h2 : x.toInt * y.toInt < 9223372036854775808) : (x * y).toInt = x.toInt * y.toInt := by
  rw [Int64.toInt_mul]; exact Int.bmod_eq_of_le (by omega) (by omega)
end Jvm.Own
namespace Jvm.Pilot.@@N@@
open Jvm Jvm.ClassFile Sem Op Lib Jvm.Free Jvm.Stand Jvm.LawKit Jvm.RoadKit Bundle Jvm.Pilot.@@N@@.Jvm.D Jvm.Own
abbrev HW (a0 : Array Value) (Z : State) : Prop := ∀ d ∈ tables_1, d.before a0 Z = true
abbrev CN : String := "DemandGate"
def lay : List (String × String) := [("cap", "I"), ("limit", "I"), ("admC", "[I"), ("admD", "[I"), ("admT", "[I"), ("admN", "I"), ("candC", "[I"), ("candD", "[I"), ("candT", "[I"), ("candN", "I"), ("candHeld", "Z"), ("candH", "I"), ("lastOverload", "I"), ("lastHyper", "I"), ("missDeadline", "I"), ("missTask", "I"), ("idleUnits", "I"), ("wC", "[I"), ("wD", "[I"), ("wT", "[I"), ("wN", "I"), ("nextDl", "[I"), ("rem", "[I"), ("absDl", "[I")]
abbrev vs0 : List Value := [.int 0, .int 0, .null, .null, .null, .int 0, .null, .null, .null, .int 0, .int 0, .int 0, .int 0, .int 0, .int 0, .int 0, .int 0, .null, .null, .null, .int 0, .null, .null, .null]
abbrev Hb (b : Nat) (s : St) : List OwnC := [cO [.int (gI s 0), .int (gI s 1), .ref (b + 1), .ref (b + 2), .ref (b + 3), .int (gI s 2), .ref (b + 4), .ref (b + 5), .ref (b + 6), .int (gI s 3), .int (gI s 4), .int (gI s 5), .int (gI s 6), .int (gI s 7), .int (gI s 8), .int (gI s 9), .int (gI s 10), .ref (b + 7), .ref (b + 8), .ref (b + 9), .int (gI s 11), .ref (b + 10), .ref (b + 11), .ref (b + 12)], cI (gA s 0), cI (gA s 1), cI (gA s 2), cI (gA s 3), cI (gA s 4), cI (gA s 5), cI (gA s 6), cI (gA s 7), cI (gA s 8), cI (gA s 9), cI (gA s 10), cI (gA s 11)]
def st0 : St := (fun _ => 0, fun _ => 0, fun i => ([List.replicate 12 0, List.replicate 12 0, List.replicate 12 0, List.replicate 12 0, List.replicate 12 0, List.replicate 12 0, List.replicate 12 0, List.replicate 12 0, List.replicate 12 0, List.replicate 12 0, List.replicate 12 0, List.replicate 12 0] : List (List Int32)).getD i [], fun i => ([] : List (List Int64)).getD i [])
theorem m_0 : (Jvm.Cond.classLink "DemandGateL1" (7 : Nat) "DemandGate") ∈ tables_1 := List.mem_of_getElem? (i := 0) rfl
theorem m_1 : (Jvm.Cond.instantiable "DemandGate" (24 : Nat)) ∈ tables_1 := List.mem_of_getElem? (i := 1) rfl
theorem m_2 : (Jvm.Cond.initialized "DemandGate") ∈ tables_1 := List.mem_of_getElem? (i := 2) rfl
theorem m_3 : (Jvm.Cond.methodLink "DemandGateL1" (9 : Nat) ({ cls := "DemandGate", name := "<init>", desc := "(II)V" } : Jvm.MethodName)) ∈ tables_1 := List.mem_of_getElem? (i := 3) rfl
theorem m_4 : (Jvm.Cond.instanceMethod ({ cls := "DemandGate", name := "<init>", desc := "(II)V" } : Jvm.MethodName)) ∈ tables_1 := List.mem_of_getElem? (i := 4) rfl
theorem m_5 : (Jvm.Cond.code ({ cls := "DemandGate", name := "<init>", desc := "(II)V" } : Jvm.MethodName) prog_1_method_1_code (3 : Nat) (Option.none : Option Jvm.ClassFile.FieldType)) ∈ tables_1 := List.mem_of_getElem? (i := 5) rfl
theorem m_6 : (Jvm.Cond.methodLink "DemandGate" (1 : Nat) ({ cls := "java/lang/Object", name := "<init>", desc := "()V" } : Jvm.MethodName)) ∈ tables_1 := List.mem_of_getElem? (i := 6) rfl
theorem m_7 : (Jvm.Cond.instanceMethod ({ cls := "java/lang/Object", name := "<init>", desc := "()V" } : Jvm.MethodName)) ∈ tables_1 := List.mem_of_getElem? (i := 7) rfl
theorem m_8 : (Jvm.Cond.code ({ cls := "java/lang/Object", name := "<init>", desc := "()V" } : Jvm.MethodName) object_method_1_code (1 : Nat) (Option.none : Option Jvm.ClassFile.FieldType)) ∈ tables_1 := List.mem_of_getElem? (i := 8) rfl
theorem m_9 : (Jvm.Cond.arrayClass Jvm.ClassFile.FieldType.int) ∈ tables_1 := List.mem_of_getElem? (i := 9) rfl
theorem m_10 : (Jvm.Cond.fieldLink "DemandGate" (7 : Nat) "DemandGate" "admC" "[I") ∈ tables_1 := List.mem_of_getElem? (i := 10) rfl
theorem m_11 : (Jvm.Cond.laysFinal "DemandGate" "DemandGate" "admC" "[I") ∈ tables_1 := List.mem_of_getElem? (i := 11) rfl
theorem m_12 : (Jvm.Cond.fieldLink "DemandGate" (13 : Nat) "DemandGate" "admD" "[I") ∈ tables_1 := List.mem_of_getElem? (i := 12) rfl
theorem m_13 : (Jvm.Cond.laysFinal "DemandGate" "DemandGate" "admD" "[I") ∈ tables_1 := List.mem_of_getElem? (i := 13) rfl
theorem m_14 : (Jvm.Cond.fieldLink "DemandGate" (16 : Nat) "DemandGate" "admT" "[I") ∈ tables_1 := List.mem_of_getElem? (i := 14) rfl
theorem m_15 : (Jvm.Cond.laysFinal "DemandGate" "DemandGate" "admT" "[I") ∈ tables_1 := List.mem_of_getElem? (i := 15) rfl
theorem m_16 : (Jvm.Cond.fieldLink "DemandGate" (19 : Nat) "DemandGate" "candC" "[I") ∈ tables_1 := List.mem_of_getElem? (i := 16) rfl
theorem m_17 : (Jvm.Cond.laysFinal "DemandGate" "DemandGate" "candC" "[I") ∈ tables_1 := List.mem_of_getElem? (i := 17) rfl
theorem m_18 : (Jvm.Cond.fieldLink "DemandGate" (22 : Nat) "DemandGate" "candD" "[I") ∈ tables_1 := List.mem_of_getElem? (i := 18) rfl
theorem m_19 : (Jvm.Cond.laysFinal "DemandGate" "DemandGate" "candD" "[I") ∈ tables_1 := List.mem_of_getElem? (i := 19) rfl
theorem m_20 : (Jvm.Cond.fieldLink "DemandGate" (25 : Nat) "DemandGate" "candT" "[I") ∈ tables_1 := List.mem_of_getElem? (i := 20) rfl
theorem m_21 : (Jvm.Cond.laysFinal "DemandGate" "DemandGate" "candT" "[I") ∈ tables_1 := List.mem_of_getElem? (i := 21) rfl
theorem m_22 : (Jvm.Cond.fieldLink "DemandGate" (28 : Nat) "DemandGate" "wC" "[I") ∈ tables_1 := List.mem_of_getElem? (i := 22) rfl
theorem m_23 : (Jvm.Cond.laysFinal "DemandGate" "DemandGate" "wC" "[I") ∈ tables_1 := List.mem_of_getElem? (i := 23) rfl
theorem m_24 : (Jvm.Cond.fieldLink "DemandGate" (31 : Nat) "DemandGate" "wD" "[I") ∈ tables_1 := List.mem_of_getElem? (i := 24) rfl
theorem m_25 : (Jvm.Cond.laysFinal "DemandGate" "DemandGate" "wD" "[I") ∈ tables_1 := List.mem_of_getElem? (i := 25) rfl
theorem m_26 : (Jvm.Cond.fieldLink "DemandGate" (34 : Nat) "DemandGate" "wT" "[I") ∈ tables_1 := List.mem_of_getElem? (i := 26) rfl
theorem m_27 : (Jvm.Cond.laysFinal "DemandGate" "DemandGate" "wT" "[I") ∈ tables_1 := List.mem_of_getElem? (i := 27) rfl
theorem m_28 : (Jvm.Cond.fieldLink "DemandGate" (37 : Nat) "DemandGate" "nextDl" "[I") ∈ tables_1 := List.mem_of_getElem? (i := 28) rfl
theorem m_29 : (Jvm.Cond.laysFinal "DemandGate" "DemandGate" "nextDl" "[I") ∈ tables_1 := List.mem_of_getElem? (i := 29) rfl
theorem m_30 : (Jvm.Cond.fieldLink "DemandGate" (40 : Nat) "DemandGate" "rem" "[I") ∈ tables_1 := List.mem_of_getElem? (i := 30) rfl
theorem m_31 : (Jvm.Cond.laysFinal "DemandGate" "DemandGate" "rem" "[I") ∈ tables_1 := List.mem_of_getElem? (i := 31) rfl
theorem m_32 : (Jvm.Cond.fieldLink "DemandGate" (43 : Nat) "DemandGate" "absDl" "[I") ∈ tables_1 := List.mem_of_getElem? (i := 32) rfl
theorem m_33 : (Jvm.Cond.laysFinal "DemandGate" "DemandGate" "absDl" "[I") ∈ tables_1 := List.mem_of_getElem? (i := 33) rfl
theorem m_34 : (Jvm.Cond.methodLink "DemandGate" (46 : Nat) ({ cls := "DemandGate", name := "clamp", desc := "(III)I" } : Jvm.MethodName)) ∈ tables_1 := List.mem_of_getElem? (i := 34) rfl
theorem m_35 : (Jvm.Cond.instanceMethod ({ cls := "DemandGate", name := "clamp", desc := "(III)I" } : Jvm.MethodName)) ∈ tables_1 := List.mem_of_getElem? (i := 35) rfl
theorem m_36 : (Jvm.Cond.privateMethod ({ cls := "DemandGate", name := "clamp", desc := "(III)I" } : Jvm.MethodName)) ∈ tables_1 := List.mem_of_getElem? (i := 36) rfl
theorem m_37 : (Jvm.Cond.code ({ cls := "DemandGate", name := "clamp", desc := "(III)I" } : Jvm.MethodName) prog_1_method_18_code (4 : Nat) (Option.some Jvm.ClassFile.FieldType.int)) ∈ tables_1 := List.mem_of_getElem? (i := 37) rfl
theorem m_38 : (Jvm.Cond.fieldLink "DemandGate" (50 : Nat) "DemandGate" "cap" "I") ∈ tables_1 := List.mem_of_getElem? (i := 38) rfl
theorem m_39 : (Jvm.Cond.lays "DemandGate" "DemandGate" "cap" "I") ∈ tables_1 := List.mem_of_getElem? (i := 39) rfl
theorem m_40 : (Jvm.Cond.fieldLink "DemandGate" (54 : Nat) "DemandGate" "limit" "I") ∈ tables_1 := List.mem_of_getElem? (i := 40) rfl
theorem m_41 : (Jvm.Cond.lays "DemandGate" "DemandGate" "limit" "I") ∈ tables_1 := List.mem_of_getElem? (i := 41) rfl
theorem m_42 : (Jvm.Cond.fieldLink "DemandGate" (57 : Nat) "DemandGate" "admN" "I") ∈ tables_1 := List.mem_of_getElem? (i := 42) rfl
theorem m_43 : (Jvm.Cond.lays "DemandGate" "DemandGate" "admN" "I") ∈ tables_1 := List.mem_of_getElem? (i := 43) rfl
theorem m_44 : (Jvm.Cond.fieldLink "DemandGate" (60 : Nat) "DemandGate" "candN" "I") ∈ tables_1 := List.mem_of_getElem? (i := 44) rfl
theorem m_45 : (Jvm.Cond.lays "DemandGate" "DemandGate" "candN" "I") ∈ tables_1 := List.mem_of_getElem? (i := 45) rfl
theorem m_46 : (Jvm.Cond.fieldLink "DemandGate" (63 : Nat) "DemandGate" "candHeld" "Z") ∈ tables_1 := List.mem_of_getElem? (i := 46) rfl
theorem m_47 : (Jvm.Cond.lays "DemandGate" "DemandGate" "candHeld" "Z") ∈ tables_1 := List.mem_of_getElem? (i := 47) rfl
theorem m_48 : (Jvm.Cond.fieldLink "DemandGate" (67 : Nat) "DemandGate" "candH" "I") ∈ tables_1 := List.mem_of_getElem? (i := 48) rfl
theorem m_49 : (Jvm.Cond.lays "DemandGate" "DemandGate" "candH" "I") ∈ tables_1 := List.mem_of_getElem? (i := 49) rfl
theorem m_50 : (Jvm.Cond.fieldLink "DemandGate" (70 : Nat) "DemandGate" "lastOverload" "I") ∈ tables_1 := List.mem_of_getElem? (i := 50) rfl
theorem m_51 : (Jvm.Cond.lays "DemandGate" "DemandGate" "lastOverload" "I") ∈ tables_1 := List.mem_of_getElem? (i := 51) rfl
theorem m_52 : (Jvm.Cond.fieldLink "DemandGate" (73 : Nat) "DemandGate" "lastHyper" "I") ∈ tables_1 := List.mem_of_getElem? (i := 52) rfl
theorem m_53 : (Jvm.Cond.lays "DemandGate" "DemandGate" "lastHyper" "I") ∈ tables_1 := List.mem_of_getElem? (i := 53) rfl
theorem m_54 : (Jvm.Cond.fieldLink "DemandGate" (76 : Nat) "DemandGate" "missDeadline" "I") ∈ tables_1 := List.mem_of_getElem? (i := 54) rfl
theorem m_55 : (Jvm.Cond.lays "DemandGate" "DemandGate" "missDeadline" "I") ∈ tables_1 := List.mem_of_getElem? (i := 55) rfl
theorem m_56 : (Jvm.Cond.fieldLink "DemandGate" (79 : Nat) "DemandGate" "missTask" "I") ∈ tables_1 := List.mem_of_getElem? (i := 56) rfl
theorem m_57 : (Jvm.Cond.lays "DemandGate" "DemandGate" "missTask" "I") ∈ tables_1 := List.mem_of_getElem? (i := 57) rfl
theorem m_58 : (Jvm.Cond.fieldLink "DemandGate" (82 : Nat) "DemandGate" "idleUnits" "I") ∈ tables_1 := List.mem_of_getElem? (i := 58) rfl
theorem m_59 : (Jvm.Cond.lays "DemandGate" "DemandGate" "idleUnits" "I") ∈ tables_1 := List.mem_of_getElem? (i := 59) rfl
theorem m_60 : (Jvm.Cond.fieldLink "DemandGate" (85 : Nat) "DemandGate" "wN" "I") ∈ tables_1 := List.mem_of_getElem? (i := 60) rfl
theorem m_61 : (Jvm.Cond.lays "DemandGate" "DemandGate" "wN" "I") ∈ tables_1 := List.mem_of_getElem? (i := 61) rfl
theorem m_62 : (Jvm.Cond.methodLink "DemandGateL1" (12 : Nat) ({ cls := "DemandGate", name := "count", desc := "()I" } : Jvm.MethodName)) ∈ tables_1 := List.mem_of_getElem? (i := 62) rfl
theorem m_63 : (Jvm.Cond.declares ({ cls := "DemandGate", name := "count", desc := "()I" } : Jvm.MethodName)) ∈ tables_1 := List.mem_of_getElem? (i := 63) rfl
theorem m_64 : (Jvm.Cond.instanceMethod ({ cls := "DemandGate", name := "count", desc := "()I" } : Jvm.MethodName)) ∈ tables_1 := List.mem_of_getElem? (i := 64) rfl
theorem m_65 : (Jvm.Cond.selects "DemandGate" ({ cls := "DemandGate", name := "count", desc := "()I" } : Jvm.MethodName) ({ cls := "DemandGate", name := "count", desc := "()I" } : Jvm.MethodName)) ∈ tables_1 := List.mem_of_getElem? (i := 65) rfl
theorem m_66 : (Jvm.Cond.code ({ cls := "DemandGate", name := "count", desc := "()I" } : Jvm.MethodName) prog_1_method_5_code (1 : Nat) (Option.some Jvm.ClassFile.FieldType.int)) ∈ tables_1 := List.mem_of_getElem? (i := 66) rfl
theorem m_67 : (Jvm.Cond.methodLink "DemandGateL1" (16 : Nat) ({ cls := "DemandGate", name := "propose", desc := "(III)I" } : Jvm.MethodName)) ∈ tables_1 := List.mem_of_getElem? (i := 67) rfl
theorem m_68 : (Jvm.Cond.declares ({ cls := "DemandGate", name := "propose", desc := "(III)I" } : Jvm.MethodName)) ∈ tables_1 := List.mem_of_getElem? (i := 68) rfl
theorem m_69 : (Jvm.Cond.instanceMethod ({ cls := "DemandGate", name := "propose", desc := "(III)I" } : Jvm.MethodName)) ∈ tables_1 := List.mem_of_getElem? (i := 69) rfl
theorem m_70 : (Jvm.Cond.selects "DemandGate" ({ cls := "DemandGate", name := "propose", desc := "(III)I" } : Jvm.MethodName) ({ cls := "DemandGate", name := "propose", desc := "(III)I" } : Jvm.MethodName)) ∈ tables_1 := List.mem_of_getElem? (i := 70) rfl
theorem m_71 : (Jvm.Cond.code ({ cls := "DemandGate", name := "propose", desc := "(III)I" } : Jvm.MethodName) prog_1_method_2_code (5 : Nat) (Option.some Jvm.ClassFile.FieldType.int)) ∈ tables_1 := List.mem_of_getElem? (i := 71) rfl
theorem m_72 : (Jvm.Cond.methodLink "DemandGate" (88 : Nat) ({ cls := "DemandGate", name := "validParams", desc := "(III)Z" } : Jvm.MethodName)) ∈ tables_1 := List.mem_of_getElem? (i := 72) rfl
theorem m_73 : (Jvm.Cond.instanceMethod ({ cls := "DemandGate", name := "validParams", desc := "(III)Z" } : Jvm.MethodName)) ∈ tables_1 := List.mem_of_getElem? (i := 73) rfl
theorem m_74 : (Jvm.Cond.privateMethod ({ cls := "DemandGate", name := "validParams", desc := "(III)Z" } : Jvm.MethodName)) ∈ tables_1 := List.mem_of_getElem? (i := 74) rfl
theorem m_75 : (Jvm.Cond.code ({ cls := "DemandGate", name := "validParams", desc := "(III)Z" } : Jvm.MethodName) prog_1_method_19_code (4 : Nat) (Option.some Jvm.ClassFile.FieldType.boolean)) ∈ tables_1 := List.mem_of_getElem? (i := 75) rfl
theorem m_76 : (Jvm.Cond.methodLink "DemandGate" (92 : Nat) ({ cls := "DemandGate", name := "loadAdmitted", desc := "()V" } : Jvm.MethodName)) ∈ tables_1 := List.mem_of_getElem? (i := 76) rfl
theorem m_77 : (Jvm.Cond.instanceMethod ({ cls := "DemandGate", name := "loadAdmitted", desc := "()V" } : Jvm.MethodName)) ∈ tables_1 := List.mem_of_getElem? (i := 77) rfl
theorem m_78 : (Jvm.Cond.privateMethod ({ cls := "DemandGate", name := "loadAdmitted", desc := "()V" } : Jvm.MethodName)) ∈ tables_1 := List.mem_of_getElem? (i := 78) rfl
theorem m_79 : (Jvm.Cond.code ({ cls := "DemandGate", name := "loadAdmitted", desc := "()V" } : Jvm.MethodName) prog_1_method_20_code (2 : Nat) (Option.none : Option Jvm.ClassFile.FieldType)) ∈ tables_1 := List.mem_of_getElem? (i := 79) rfl
theorem m_80 : (Jvm.Cond.methodLink "DemandGate" (95 : Nat) ({ cls := "DemandGate", name := "appendWork", desc := "(III)Z" } : Jvm.MethodName)) ∈ tables_1 := List.mem_of_getElem? (i := 80) rfl
theorem m_81 : (Jvm.Cond.instanceMethod ({ cls := "DemandGate", name := "appendWork", desc := "(III)Z" } : Jvm.MethodName)) ∈ tables_1 := List.mem_of_getElem? (i := 81) rfl
theorem m_82 : (Jvm.Cond.privateMethod ({ cls := "DemandGate", name := "appendWork", desc := "(III)Z" } : Jvm.MethodName)) ∈ tables_1 := List.mem_of_getElem? (i := 82) rfl
theorem m_83 : (Jvm.Cond.code ({ cls := "DemandGate", name := "appendWork", desc := "(III)Z" } : Jvm.MethodName) prog_1_method_22_code (4 : Nat) (Option.some Jvm.ClassFile.FieldType.boolean)) ∈ tables_1 := List.mem_of_getElem? (i := 83) rfl
theorem m_84 : (Jvm.Cond.methodLink "DemandGate" (98 : Nat) ({ cls := "DemandGate", name := "workHyper", desc := "(I)I" } : Jvm.MethodName)) ∈ tables_1 := List.mem_of_getElem? (i := 84) rfl
theorem m_85 : (Jvm.Cond.instanceMethod ({ cls := "DemandGate", name := "workHyper", desc := "(I)I" } : Jvm.MethodName)) ∈ tables_1 := List.mem_of_getElem? (i := 85) rfl
theorem m_86 : (Jvm.Cond.privateMethod ({ cls := "DemandGate", name := "workHyper", desc := "(I)I" } : Jvm.MethodName)) ∈ tables_1 := List.mem_of_getElem? (i := 86) rfl
theorem m_87 : (Jvm.Cond.code ({ cls := "DemandGate", name := "workHyper", desc := "(I)I" } : Jvm.MethodName) prog_1_method_27_code (5 : Nat) (Option.some Jvm.ClassFile.FieldType.int)) ∈ tables_1 := List.mem_of_getElem? (i := 87) rfl
theorem m_88 : (Jvm.Cond.methodLink "DemandGate" (126 : Nat) ({ cls := "DemandGate", name := "lcm", desc := "(JJ)J" } : Jvm.MethodName)) ∈ tables_1 := List.mem_of_getElem? (i := 88) rfl
theorem m_89 : (Jvm.Cond.instanceMethod ({ cls := "DemandGate", name := "lcm", desc := "(JJ)J" } : Jvm.MethodName)) ∈ tables_1 := List.mem_of_getElem? (i := 89) rfl
theorem m_90 : (Jvm.Cond.privateMethod ({ cls := "DemandGate", name := "lcm", desc := "(JJ)J" } : Jvm.MethodName)) ∈ tables_1 := List.mem_of_getElem? (i := 90) rfl
theorem m_91 : (Jvm.Cond.code ({ cls := "DemandGate", name := "lcm", desc := "(JJ)J" } : Jvm.MethodName) prog_1_method_26_code (7 : Nat) (Option.some Jvm.ClassFile.FieldType.long)) ∈ tables_1 := List.mem_of_getElem? (i := 91) rfl
theorem m_92 : (Jvm.Cond.methodLink "DemandGate" (122 : Nat) ({ cls := "DemandGate", name := "gcd", desc := "(JJ)J" } : Jvm.MethodName)) ∈ tables_1 := List.mem_of_getElem? (i := 92) rfl
theorem m_93 : (Jvm.Cond.instanceMethod ({ cls := "DemandGate", name := "gcd", desc := "(JJ)J" } : Jvm.MethodName)) ∈ tables_1 := List.mem_of_getElem? (i := 93) rfl
theorem m_94 : (Jvm.Cond.privateMethod ({ cls := "DemandGate", name := "gcd", desc := "(JJ)J" } : Jvm.MethodName)) ∈ tables_1 := List.mem_of_getElem? (i := 94) rfl
theorem m_95 : (Jvm.Cond.code ({ cls := "DemandGate", name := "gcd", desc := "(JJ)J" } : Jvm.MethodName) prog_1_method_25_code (12 : Nat) (Option.some Jvm.ClassFile.FieldType.long)) ∈ tables_1 := List.mem_of_getElem? (i := 95) rfl
theorem m_96 : (Jvm.Cond.methodLink "DemandGate" (102 : Nat) ({ cls := "DemandGate", name := "storeCandidate", desc := "(I)V" } : Jvm.MethodName)) ∈ tables_1 := List.mem_of_getElem? (i := 96) rfl
theorem m_97 : (Jvm.Cond.instanceMethod ({ cls := "DemandGate", name := "storeCandidate", desc := "(I)V" } : Jvm.MethodName)) ∈ tables_1 := List.mem_of_getElem? (i := 97) rfl
theorem m_98 : (Jvm.Cond.privateMethod ({ cls := "DemandGate", name := "storeCandidate", desc := "(I)V" } : Jvm.MethodName)) ∈ tables_1 := List.mem_of_getElem? (i := 98) rfl
theorem m_99 : (Jvm.Cond.code ({ cls := "DemandGate", name := "storeCandidate", desc := "(I)V" } : Jvm.MethodName) prog_1_method_23_code (3 : Nat) (Option.none : Option Jvm.ClassFile.FieldType)) ∈ tables_1 := List.mem_of_getElem? (i := 99) rfl
theorem m_100 : (Jvm.Cond.methodLink "DemandGate" (106 : Nat) ({ cls := "DemandGate", name := "overloadOfWork", desc := "(I)I" } : Jvm.MethodName)) ∈ tables_1 := List.mem_of_getElem? (i := 100) rfl
theorem m_101 : (Jvm.Cond.instanceMethod ({ cls := "DemandGate", name := "overloadOfWork", desc := "(I)I" } : Jvm.MethodName)) ∈ tables_1 := List.mem_of_getElem? (i := 101) rfl
theorem m_102 : (Jvm.Cond.privateMethod ({ cls := "DemandGate", name := "overloadOfWork", desc := "(I)I" } : Jvm.MethodName)) ∈ tables_1 := List.mem_of_getElem? (i := 102) rfl
theorem m_103 : (Jvm.Cond.code ({ cls := "DemandGate", name := "overloadOfWork", desc := "(I)I" } : Jvm.MethodName) prog_1_method_28_code (2 : Nat) (Option.some Jvm.ClassFile.FieldType.int)) ∈ tables_1 := List.mem_of_getElem? (i := 103) rfl
theorem m_104 : (Jvm.Cond.methodLink "DemandGate" (129 : Nat) ({ cls := "DemandGate", name := "implicitWithinCapacity", desc := "(I)Z" } : Jvm.MethodName)) ∈ tables_1 := List.mem_of_getElem? (i := 104) rfl
theorem m_105 : (Jvm.Cond.instanceMethod ({ cls := "DemandGate", name := "implicitWithinCapacity", desc := "(I)Z" } : Jvm.MethodName)) ∈ tables_1 := List.mem_of_getElem? (i := 105) rfl
theorem m_106 : (Jvm.Cond.privateMethod ({ cls := "DemandGate", name := "implicitWithinCapacity", desc := "(I)Z" } : Jvm.MethodName)) ∈ tables_1 := List.mem_of_getElem? (i := 106) rfl
theorem m_107 : (Jvm.Cond.code ({ cls := "DemandGate", name := "implicitWithinCapacity", desc := "(I)Z" } : Jvm.MethodName) prog_1_method_29_code (5 : Nat) (Option.some Jvm.ClassFile.FieldType.boolean)) ∈ tables_1 := List.mem_of_getElem? (i := 107) rfl
theorem m_108 : (Jvm.Cond.methodLink "DemandGate" (133 : Nat) ({ cls := "DemandGate", name := "scanDeadlinePoints", desc := "(I)I" } : Jvm.MethodName)) ∈ tables_1 := List.mem_of_getElem? (i := 108) rfl
theorem m_109 : (Jvm.Cond.instanceMethod ({ cls := "DemandGate", name := "scanDeadlinePoints", desc := "(I)I" } : Jvm.MethodName)) ∈ tables_1 := List.mem_of_getElem? (i := 109) rfl
theorem m_110 : (Jvm.Cond.privateMethod ({ cls := "DemandGate", name := "scanDeadlinePoints", desc := "(I)I" } : Jvm.MethodName)) ∈ tables_1 := List.mem_of_getElem? (i := 110) rfl
theorem m_111 : (Jvm.Cond.code ({ cls := "DemandGate", name := "scanDeadlinePoints", desc := "(I)I" } : Jvm.MethodName) prog_1_method_30_code (6 : Nat) (Option.some Jvm.ClassFile.FieldType.int)) ∈ tables_1 := List.mem_of_getElem? (i := 111) rfl
theorem m_112 : (Jvm.Cond.methodLink "DemandGate" (136 : Nat) ({ cls := "DemandGate", name := "earliestNextDeadline", desc := "()I" } : Jvm.MethodName)) ∈ tables_1 := List.mem_of_getElem? (i := 112) rfl
theorem m_113 : (Jvm.Cond.instanceMethod ({ cls := "DemandGate", name := "earliestNextDeadline", desc := "()I" } : Jvm.MethodName)) ∈ tables_1 := List.mem_of_getElem? (i := 113) rfl
theorem m_114 : (Jvm.Cond.privateMethod ({ cls := "DemandGate", name := "earliestNextDeadline", desc := "()I" } : Jvm.MethodName)) ∈ tables_1 := List.mem_of_getElem? (i := 114) rfl
theorem m_115 : (Jvm.Cond.code ({ cls := "DemandGate", name := "earliestNextDeadline", desc := "()I" } : Jvm.MethodName) prog_1_method_31_code (3 : Nat) (Option.some Jvm.ClassFile.FieldType.int)) ∈ tables_1 := List.mem_of_getElem? (i := 115) rfl
theorem m_116 : (Jvm.Cond.constant "DemandGate" (144 : Nat) (2147483647 : Int32)) ∈ tables_1 := List.mem_of_getElem? (i := 116) rfl
theorem m_117 : (Jvm.Cond.methodLink "DemandGate" (140 : Nat) ({ cls := "DemandGate", name := "consumeDeadlinesAt", desc := "(I)J" } : Jvm.MethodName)) ∈ tables_1 := List.mem_of_getElem? (i := 117) rfl
theorem m_118 : (Jvm.Cond.instanceMethod ({ cls := "DemandGate", name := "consumeDeadlinesAt", desc := "(I)J" } : Jvm.MethodName)) ∈ tables_1 := List.mem_of_getElem? (i := 118) rfl
theorem m_119 : (Jvm.Cond.privateMethod ({ cls := "DemandGate", name := "consumeDeadlinesAt", desc := "(I)J" } : Jvm.MethodName)) ∈ tables_1 := List.mem_of_getElem? (i := 119) rfl
theorem m_120 : (Jvm.Cond.code ({ cls := "DemandGate", name := "consumeDeadlinesAt", desc := "(I)J" } : Jvm.MethodName) prog_1_method_32_code (5 : Nat) (Option.some Jvm.ClassFile.FieldType.long)) ∈ tables_1 := List.mem_of_getElem? (i := 120) rfl
theorem m_121 : (Jvm.Cond.methodLink "DemandGate" (109 : Nat) ({ cls := "DemandGate", name := "admitTask", desc := "(III)I" } : Jvm.MethodName)) ∈ tables_1 := List.mem_of_getElem? (i := 121) rfl
theorem m_122 : (Jvm.Cond.instanceMethod ({ cls := "DemandGate", name := "admitTask", desc := "(III)I" } : Jvm.MethodName)) ∈ tables_1 := List.mem_of_getElem? (i := 122) rfl
theorem m_123 : (Jvm.Cond.privateMethod ({ cls := "DemandGate", name := "admitTask", desc := "(III)I" } : Jvm.MethodName)) ∈ tables_1 := List.mem_of_getElem? (i := 123) rfl
theorem m_124 : (Jvm.Cond.code ({ cls := "DemandGate", name := "admitTask", desc := "(III)I" } : Jvm.MethodName) prog_1_method_24_code (4 : Nat) (Option.some Jvm.ClassFile.FieldType.int)) ∈ tables_1 := List.mem_of_getElem? (i := 124) rfl
theorem m_125 : (Jvm.Cond.methodLink "DemandGateL1" (20 : Nat) ({ cls := "DemandGate", name := "lastHyper", desc := "()I" } : Jvm.MethodName)) ∈ tables_1 := List.mem_of_getElem? (i := 125) rfl
theorem m_126 : (Jvm.Cond.declares ({ cls := "DemandGate", name := "lastHyper", desc := "()I" } : Jvm.MethodName)) ∈ tables_1 := List.mem_of_getElem? (i := 126) rfl
theorem m_127 : (Jvm.Cond.instanceMethod ({ cls := "DemandGate", name := "lastHyper", desc := "()I" } : Jvm.MethodName)) ∈ tables_1 := List.mem_of_getElem? (i := 127) rfl
theorem m_128 : (Jvm.Cond.selects "DemandGate" ({ cls := "DemandGate", name := "lastHyper", desc := "()I" } : Jvm.MethodName) ({ cls := "DemandGate", name := "lastHyper", desc := "()I" } : Jvm.MethodName)) ∈ tables_1 := List.mem_of_getElem? (i := 128) rfl
theorem m_129 : (Jvm.Cond.code ({ cls := "DemandGate", name := "lastHyper", desc := "()I" } : Jvm.MethodName) prog_1_method_13_code (1 : Nat) (Option.some Jvm.ClassFile.FieldType.int)) ∈ tables_1 := List.mem_of_getElem? (i := 129) rfl
theorem m_130 : (Jvm.Cond.methodLink "DemandGateL1" (23 : Nat) ({ cls := "DemandGate", name := "hyperperiod", desc := "()I" } : Jvm.MethodName)) ∈ tables_1 := List.mem_of_getElem? (i := 130) rfl
theorem m_131 : (Jvm.Cond.declares ({ cls := "DemandGate", name := "hyperperiod", desc := "()I" } : Jvm.MethodName)) ∈ tables_1 := List.mem_of_getElem? (i := 131) rfl
theorem m_132 : (Jvm.Cond.instanceMethod ({ cls := "DemandGate", name := "hyperperiod", desc := "()I" } : Jvm.MethodName)) ∈ tables_1 := List.mem_of_getElem? (i := 132) rfl
theorem m_133 : (Jvm.Cond.selects "DemandGate" ({ cls := "DemandGate", name := "hyperperiod", desc := "()I" } : Jvm.MethodName) ({ cls := "DemandGate", name := "hyperperiod", desc := "()I" } : Jvm.MethodName)) ∈ tables_1 := List.mem_of_getElem? (i := 133) rfl
theorem m_134 : (Jvm.Cond.code ({ cls := "DemandGate", name := "hyperperiod", desc := "()I" } : Jvm.MethodName) prog_1_method_9_code (1 : Nat) (Option.some Jvm.ClassFile.FieldType.int)) ∈ tables_1 := List.mem_of_getElem? (i := 134) rfl
theorem m_135 : (Jvm.Cond.methodLink "DemandGateL1" (26 : Nat) ({ cls := "DemandGate", name := "lastOverload", desc := "()I" } : Jvm.MethodName)) ∈ tables_1 := List.mem_of_getElem? (i := 135) rfl
theorem m_136 : (Jvm.Cond.declares ({ cls := "DemandGate", name := "lastOverload", desc := "()I" } : Jvm.MethodName)) ∈ tables_1 := List.mem_of_getElem? (i := 136) rfl
theorem m_137 : (Jvm.Cond.instanceMethod ({ cls := "DemandGate", name := "lastOverload", desc := "()I" } : Jvm.MethodName)) ∈ tables_1 := List.mem_of_getElem? (i := 137) rfl
theorem m_138 : (Jvm.Cond.selects "DemandGate" ({ cls := "DemandGate", name := "lastOverload", desc := "()I" } : Jvm.MethodName) ({ cls := "DemandGate", name := "lastOverload", desc := "()I" } : Jvm.MethodName)) ∈ tables_1 := List.mem_of_getElem? (i := 138) rfl
theorem m_139 : (Jvm.Cond.code ({ cls := "DemandGate", name := "lastOverload", desc := "()I" } : Jvm.MethodName) prog_1_method_12_code (1 : Nat) (Option.some Jvm.ClassFile.FieldType.int)) ∈ tables_1 := List.mem_of_getElem? (i := 139) rfl
theorem laid0 {Z : State} {a0 : Array Value} (hw : HW a0 Z) : LaidAll Z a0 CN lay vs0 :=
  ⟨⟨Or.inl (hw _ m_39), .int, by decide, rfl⟩, ⟨Or.inl (hw _ m_41), .int, by decide, rfl⟩, ⟨Or.inr (hw _ m_11), .array .int, by decide, rfl⟩, ⟨Or.inr (hw _ m_13), .array .int, by decide, rfl⟩, ⟨Or.inr (hw _ m_15), .array .int, by decide, rfl⟩, ⟨Or.inl (hw _ m_43), .int, by decide, rfl⟩, ⟨Or.inr (hw _ m_17), .array .int, by decide, rfl⟩, ⟨Or.inr (hw _ m_19), .array .int, by decide, rfl⟩, ⟨Or.inr (hw _ m_21), .array .int, by decide, rfl⟩, ⟨Or.inl (hw _ m_45), .int, by decide, rfl⟩, ⟨Or.inl (hw _ m_47), .boolean, by decide, rfl⟩, ⟨Or.inl (hw _ m_49), .int, by decide, rfl⟩, ⟨Or.inl (hw _ m_51), .int, by decide, rfl⟩, ⟨Or.inl (hw _ m_53), .int, by decide, rfl⟩, ⟨Or.inl (hw _ m_55), .int, by decide, rfl⟩, ⟨Or.inl (hw _ m_57), .int, by decide, rfl⟩, ⟨Or.inl (hw _ m_59), .int, by decide, rfl⟩, ⟨Or.inr (hw _ m_23), .array .int, by decide, rfl⟩, ⟨Or.inr (hw _ m_25), .array .int, by decide, rfl⟩, ⟨Or.inr (hw _ m_27), .array .int, by decide, rfl⟩, ⟨Or.inl (hw _ m_61), .int, by decide, rfl⟩, ⟨Or.inr (hw _ m_29), .array .int, by decide, rfl⟩, ⟨Or.inr (hw _ m_31), .array .int, by decide, rfl⟩, ⟨Or.inr (hw _ m_33), .array .int, by decide, rfl⟩, trivial⟩
theorem hlay {Z : State} {a0 : Array Value} (hw : HW a0 Z) : ∀ (a b : Nat) (f g : String × String), lay[a]? = some f → lay[b]? = some g → a ≠ b → RoadKit.slotOf Z CN f.1 f.2 ≠ RoadKit.slotOf Z CN g.1 g.2 := (laid0 hw).ne (by decide)
theorem vs0_ok {Z : State} {a0 : Array Value} (hw : HW a0 Z) : ∀ (i : Nat) (f : String × String) (v : Value), lay[i]? = some f → vs0[i]? = some v → Laid Z a0 CN CN f.1 f.2 ∧ ∃ ty, parseFieldDescriptor f.2 = some ty ∧ v = defaultValue ty := (laid0 hw).new
theorem pn_cls : plainName CN = true := by first | (simp [plainName, overriddenIn]; done) | decide +kernel
theorem pn_law : plainName "DemandGateL1" = true := by first | (simp [plainName, overriddenIn]; done) | decide +kernel
theorem d1_0 : dc prog_1_method_18_code 0 (.iload_n 1) 1 := by decide +kernel
theorem d1_1 : dc prog_1_method_18_code 1 (.iload_n 2) 1 := by decide +kernel
theorem d1_2 : dc prog_1_method_18_code 2 (.if_icmp .ge 5) 3 := by decide +kernel
theorem d1_5 : dc prog_1_method_18_code 5 (.iload_n 2) 1 := by decide +kernel
theorem d1_6 : dc prog_1_method_18_code 6 (.ireturn) 1 := by decide +kernel
theorem d1_7 : dc prog_1_method_18_code 7 (.iload_n 1) 1 := by decide +kernel
theorem d1_8 : dc prog_1_method_18_code 8 (.iload_n 3) 1 := by decide +kernel
theorem d1_9 : dc prog_1_method_18_code 9 (.if_icmp .le 5) 3 := by decide +kernel
theorem d1_12 : dc prog_1_method_18_code 12 (.iload_n 3) 1 := by decide +kernel
theorem d1_13 : dc prog_1_method_18_code 13 (.ireturn) 1 := by decide +kernel
theorem d1_14 : dc prog_1_method_18_code 14 (.iload_n 1) 1 := by decide +kernel
theorem d1_15 : dc prog_1_method_18_code 15 (.ireturn) 1 := by decide +kernel
abbrev y1 : MethodName := ⟨"DemandGate", "clamp", "(III)I"⟩
theorem hy1 : y1.cls ≠ "java/lang/invoke/MethodHandle" ∧ y1.cls ≠ "java/lang/invoke/VarHandle" := by decide
theorem pd1 : parseMethodDescriptor y1.desc = some ⟨[.int, .int, .int], some .int⟩ := by decide +kernel
abbrev R1 : Room := { frames := 0, cells := 0, slots := 0, locals := 0 }
abbrev P1 (s : St) (r : Int32) : Option Value → List OwnC → Prop := fun v H' => v = some (.int r) ∧ H' = (Hb 0 s)
abbrev W1 (l : Launch) (Z : State) (n0 : Nat) (Q : Option Value → List OwnC → Prop) (k n pc : Nat) (L : List Slot) (S : List Value) (H : List OwnC) : Prop := WP l Z CN lay "DemandGate" "clamp" prog_1_method_18_code 4 (some FieldType.int) R1 n0 0 Q k n pc L S H
def f_clamp (p1 : Int32) (p2 : Int32) (p3 : Int32) (s : St) : Option (Int32) :=
  if p1 < p2 then
    some p2
  else
    if p3 < p1 then
      some p3
    else
      some p1
set_option maxRecDepth 65536 in
set_option maxHeartbeats 4000000 in
theorem ok1 (l : Launch) (Z : State) (a0 : Array Value) (hw : HW a0 Z) (p1 : Int32) (p2 : Int32) (p3 : Int32) (s : St) (r : Int32) (h : f_clamp p1 p2 p3 s = some r) : CS l Z CN lay y1 prog_1_method_18_code 4 (some FieldType.int) R1 0 [.ref 0, .int p1, .int p2, .int p3] (Hb 0 s) (P1 s r) := by
  refine CS.of_wp pn_cls (leb rfl) fun n0 => ?_
  show W1 l Z n0 (P1 s r) 0 0 0 [.val (.ref 0), .val (.int p1), .val (.int p2), .val (.int p3)] [] (Hb 0 s)
  unfold f_clamp at h
  refine WP.iloadN d1_0 rfl ?_
  refine WP.iloadN d1_1 rfl ?_
  rcases ite_e h with ⟨hc1, h⟩ | ⟨hc1, h⟩
  ·
    refine WP.icmpN d1_2 (XT.ii_ge_f hc1) ?_
    refine WP.iloadN d1_5 rfl ?_
    cases h
    exact WP.ireturn d1_6 rfl (leb rfl) (leb rfl) ⟨rfl, rfl⟩
  ·
    refine WP.icmpY (pc' := 7) d1_2 (XT.ii_ge_t hc1) (by decide) rfl ?_
    refine WP.iloadN d1_7 rfl ?_
    refine WP.iloadN d1_8 rfl ?_
    rcases ite_e h with ⟨hc2, h⟩ | ⟨hc2, h⟩
    ·
      refine WP.icmpN d1_9 (XT.ii_le_f hc2) ?_
      refine WP.iloadN d1_12 rfl ?_
      cases h
      exact WP.ireturn d1_13 rfl (leb rfl) (leb rfl) ⟨rfl, rfl⟩
    ·
      refine WP.icmpY (pc' := 14) d1_9 (XT.ii_le_t hc2) (by decide) rfl ?_
      refine WP.iloadN d1_14 rfl ?_
      cases h
      exact WP.ireturn d1_15 rfl (leb rfl) (leb rfl) ⟨rfl, rfl⟩
theorem d0_0 : dc prog_1_method_1_code 0 (.aload_n 0) 1 := by decide +kernel
theorem d0_1 : dc prog_1_method_1_code 1 (.invokespecial 1) 3 := by decide +kernel
theorem d0_4 : dc prog_1_method_1_code 4 (.aload_n 0) 1 := by decide +kernel
theorem d0_5 : dc prog_1_method_1_code 5 (.bipush 12) 2 := by decide +kernel
theorem d0_7 : dc prog_1_method_1_code 7 (.newarray .int) 2 := by decide +kernel
theorem d0_9 : dc prog_1_method_1_code 9 (.putfield 7) 3 := by decide +kernel
theorem d0_12 : dc prog_1_method_1_code 12 (.aload_n 0) 1 := by decide +kernel
theorem d0_13 : dc prog_1_method_1_code 13 (.bipush 12) 2 := by decide +kernel
theorem d0_15 : dc prog_1_method_1_code 15 (.newarray .int) 2 := by decide +kernel
theorem d0_17 : dc prog_1_method_1_code 17 (.putfield 13) 3 := by decide +kernel
theorem d0_20 : dc prog_1_method_1_code 20 (.aload_n 0) 1 := by decide +kernel
theorem d0_21 : dc prog_1_method_1_code 21 (.bipush 12) 2 := by decide +kernel
theorem d0_23 : dc prog_1_method_1_code 23 (.newarray .int) 2 := by decide +kernel
theorem d0_25 : dc prog_1_method_1_code 25 (.putfield 16) 3 := by decide +kernel
theorem d0_28 : dc prog_1_method_1_code 28 (.aload_n 0) 1 := by decide +kernel
theorem d0_29 : dc prog_1_method_1_code 29 (.bipush 12) 2 := by decide +kernel
theorem d0_31 : dc prog_1_method_1_code 31 (.newarray .int) 2 := by decide +kernel
theorem d0_33 : dc prog_1_method_1_code 33 (.putfield 19) 3 := by decide +kernel
theorem d0_36 : dc prog_1_method_1_code 36 (.aload_n 0) 1 := by decide +kernel
theorem d0_37 : dc prog_1_method_1_code 37 (.bipush 12) 2 := by decide +kernel
theorem d0_39 : dc prog_1_method_1_code 39 (.newarray .int) 2 := by decide +kernel
theorem d0_41 : dc prog_1_method_1_code 41 (.putfield 22) 3 := by decide +kernel
theorem d0_44 : dc prog_1_method_1_code 44 (.aload_n 0) 1 := by decide +kernel
theorem d0_45 : dc prog_1_method_1_code 45 (.bipush 12) 2 := by decide +kernel
theorem d0_47 : dc prog_1_method_1_code 47 (.newarray .int) 2 := by decide +kernel
theorem d0_49 : dc prog_1_method_1_code 49 (.putfield 25) 3 := by decide +kernel
theorem d0_52 : dc prog_1_method_1_code 52 (.aload_n 0) 1 := by decide +kernel
theorem d0_53 : dc prog_1_method_1_code 53 (.bipush 12) 2 := by decide +kernel
theorem d0_55 : dc prog_1_method_1_code 55 (.newarray .int) 2 := by decide +kernel
theorem d0_57 : dc prog_1_method_1_code 57 (.putfield 28) 3 := by decide +kernel
theorem d0_60 : dc prog_1_method_1_code 60 (.aload_n 0) 1 := by decide +kernel
theorem d0_61 : dc prog_1_method_1_code 61 (.bipush 12) 2 := by decide +kernel
theorem d0_63 : dc prog_1_method_1_code 63 (.newarray .int) 2 := by decide +kernel
theorem d0_65 : dc prog_1_method_1_code 65 (.putfield 31) 3 := by decide +kernel
theorem d0_68 : dc prog_1_method_1_code 68 (.aload_n 0) 1 := by decide +kernel
theorem d0_69 : dc prog_1_method_1_code 69 (.bipush 12) 2 := by decide +kernel
theorem d0_71 : dc prog_1_method_1_code 71 (.newarray .int) 2 := by decide +kernel
theorem d0_73 : dc prog_1_method_1_code 73 (.putfield 34) 3 := by decide +kernel
theorem d0_76 : dc prog_1_method_1_code 76 (.aload_n 0) 1 := by decide +kernel
theorem d0_77 : dc prog_1_method_1_code 77 (.bipush 12) 2 := by decide +kernel
theorem d0_79 : dc prog_1_method_1_code 79 (.newarray .int) 2 := by decide +kernel
theorem d0_81 : dc prog_1_method_1_code 81 (.putfield 37) 3 := by decide +kernel
theorem d0_84 : dc prog_1_method_1_code 84 (.aload_n 0) 1 := by decide +kernel
theorem d0_85 : dc prog_1_method_1_code 85 (.bipush 12) 2 := by decide +kernel
theorem d0_87 : dc prog_1_method_1_code 87 (.newarray .int) 2 := by decide +kernel
theorem d0_89 : dc prog_1_method_1_code 89 (.putfield 40) 3 := by decide +kernel
theorem d0_92 : dc prog_1_method_1_code 92 (.aload_n 0) 1 := by decide +kernel
theorem d0_93 : dc prog_1_method_1_code 93 (.bipush 12) 2 := by decide +kernel
theorem d0_95 : dc prog_1_method_1_code 95 (.newarray .int) 2 := by decide +kernel
theorem d0_97 : dc prog_1_method_1_code 97 (.putfield 43) 3 := by decide +kernel
theorem d0_100 : dc prog_1_method_1_code 100 (.aload_n 0) 1 := by decide +kernel
theorem d0_101 : dc prog_1_method_1_code 101 (.aload_n 0) 1 := by decide +kernel
theorem d0_102 : dc prog_1_method_1_code 102 (.iload_n 1) 1 := by decide +kernel
theorem d0_103 : dc prog_1_method_1_code 103 (.iconst 1) 1 := by decide +kernel
theorem d0_104 : dc prog_1_method_1_code 104 (.bipush 12) 2 := by decide +kernel
theorem d0_106 : dc prog_1_method_1_code 106 (.invokevirtual 46) 3 := by decide +kernel
theorem d0_109 : dc prog_1_method_1_code 109 (.putfield 50) 3 := by decide +kernel
theorem d0_112 : dc prog_1_method_1_code 112 (.aload_n 0) 1 := by decide +kernel
theorem d0_113 : dc prog_1_method_1_code 113 (.aload_n 0) 1 := by decide +kernel
theorem d0_114 : dc prog_1_method_1_code 114 (.iload_n 2) 1 := by decide +kernel
theorem d0_115 : dc prog_1_method_1_code 115 (.iconst 1) 1 := by decide +kernel
theorem d0_116 : dc prog_1_method_1_code 116 (.sipush 2048) 3 := by decide +kernel
theorem d0_119 : dc prog_1_method_1_code 119 (.invokevirtual 46) 3 := by decide +kernel
theorem d0_122 : dc prog_1_method_1_code 122 (.putfield 54) 3 := by decide +kernel
theorem d0_125 : dc prog_1_method_1_code 125 (.aload_n 0) 1 := by decide +kernel
theorem d0_126 : dc prog_1_method_1_code 126 (.iconst 0) 1 := by decide +kernel
theorem d0_127 : dc prog_1_method_1_code 127 (.putfield 57) 3 := by decide +kernel
theorem d0_130 : dc prog_1_method_1_code 130 (.aload_n 0) 1 := by decide +kernel
theorem d0_131 : dc prog_1_method_1_code 131 (.iconst 0) 1 := by decide +kernel
theorem d0_132 : dc prog_1_method_1_code 132 (.putfield 60) 3 := by decide +kernel
theorem d0_135 : dc prog_1_method_1_code 135 (.aload_n 0) 1 := by decide +kernel
theorem d0_136 : dc prog_1_method_1_code 136 (.iconst 0) 1 := by decide +kernel
theorem d0_137 : dc prog_1_method_1_code 137 (.putfield 63) 3 := by decide +kernel
theorem d0_140 : dc prog_1_method_1_code 140 (.aload_n 0) 1 := by decide +kernel
theorem d0_141 : dc prog_1_method_1_code 141 (.iconst 1) 1 := by decide +kernel
theorem d0_142 : dc prog_1_method_1_code 142 (.putfield 67) 3 := by decide +kernel
theorem d0_145 : dc prog_1_method_1_code 145 (.aload_n 0) 1 := by decide +kernel
theorem d0_146 : dc prog_1_method_1_code 146 (.iconst 0) 1 := by decide +kernel
theorem d0_147 : dc prog_1_method_1_code 147 (.putfield 70) 3 := by decide +kernel
theorem d0_150 : dc prog_1_method_1_code 150 (.aload_n 0) 1 := by decide +kernel
theorem d0_151 : dc prog_1_method_1_code 151 (.iconst 0) 1 := by decide +kernel
theorem d0_152 : dc prog_1_method_1_code 152 (.putfield 73) 3 := by decide +kernel
theorem d0_155 : dc prog_1_method_1_code 155 (.aload_n 0) 1 := by decide +kernel
theorem d0_156 : dc prog_1_method_1_code 156 (.iconst 0) 1 := by decide +kernel
theorem d0_157 : dc prog_1_method_1_code 157 (.putfield 76) 3 := by decide +kernel
theorem d0_160 : dc prog_1_method_1_code 160 (.aload_n 0) 1 := by decide +kernel
theorem d0_161 : dc prog_1_method_1_code 161 (.iconst (-1)) 1 := by decide +kernel
theorem d0_162 : dc prog_1_method_1_code 162 (.putfield 79) 3 := by decide +kernel
theorem d0_165 : dc prog_1_method_1_code 165 (.aload_n 0) 1 := by decide +kernel
theorem d0_166 : dc prog_1_method_1_code 166 (.iconst 0) 1 := by decide +kernel
theorem d0_167 : dc prog_1_method_1_code 167 (.putfield 82) 3 := by decide +kernel
theorem d0_170 : dc prog_1_method_1_code 170 (.aload_n 0) 1 := by decide +kernel
theorem d0_171 : dc prog_1_method_1_code 171 (.iconst 0) 1 := by decide +kernel
theorem d0_172 : dc prog_1_method_1_code 172 (.putfield 85) 3 := by decide +kernel
theorem d0_175 : dc prog_1_method_1_code 175 (.return_) 1 := by decide +kernel
abbrev y0 : MethodName := ⟨"DemandGate", "<init>", "(II)V"⟩
theorem hy0 : y0.cls ≠ "java/lang/invoke/MethodHandle" ∧ y0.cls ≠ "java/lang/invoke/VarHandle" := by decide
theorem pd0 : parseMethodDescriptor y0.desc = some ⟨[.int, .int], none⟩ := by decide +kernel
abbrev R0 : Room := { frames := 1, cells := 12, slots := 144, locals := 16 }
abbrev P0 (r : St) : Option Value → List OwnC → Prop := fun v H' => v = none ∧ H' = (Hb 0 r)
abbrev W0 (l : Launch) (Z : State) (n0 : Nat) (Q : Option Value → List OwnC → Prop) (k n pc : Nat) (L : List Slot) (S : List Value) (H : List OwnC) : Prop := WP l Z CN lay "DemandGate" "<init>" prog_1_method_1_code 3 (none) R0 n0 0 Q k n pc L S H
def f_init (p1 : Int32) (p2 : Int32) : Option (St) :=
  lt (st0) fun s1 =>
  (f_clamp p1 (1 : Int32) (12 : Int32) s1).bind fun c2 =>
  lt (sI s1 0 c2) fun s3 =>
  (f_clamp p2 (1 : Int32) (2048 : Int32) s3).bind fun c4 =>
  lt (sI s3 1 c4) fun s5 =>
  lt (sI s5 2 (0 : Int32)) fun s6 =>
  lt (sI s6 3 (0 : Int32)) fun s7 =>
  lt (sI s7 4 (0 : Int32)) fun s8 =>
  lt (sI s8 5 (1 : Int32)) fun s9 =>
  lt (sI s9 6 (0 : Int32)) fun s10 =>
  lt (sI s10 7 (0 : Int32)) fun s11 =>
  lt (sI s11 8 (0 : Int32)) fun s12 =>
  lt (sI s12 9 (-1 : Int32)) fun s13 =>
  lt (sI s13 10 (0 : Int32)) fun s14 =>
  lt (sI s14 11 (0 : Int32)) fun s15 =>
  some s15
set_option maxRecDepth 65536 in
set_option maxHeartbeats 4000000 in
theorem ok0 (l : Launch) (Z : State) (a0 : Array Value) (hw : HW a0 Z) (p1 : Int32) (p2 : Int32) (r : St) (h : f_init p1 p2 = some r) : CS l Z CN lay y0 prog_1_method_1_code 3 (none) R0 0 [.ref 0, .int p1, .int p2] [cO vs0] (P0 r) := by
  refine CS.of_wp pn_cls (leb rfl) fun n0 => ?_
  show W0 l Z n0 (P0 r) 0 0 0 [.val (.ref 0), .val (.int p1), .val (.int p2)] [] [cO vs0]
  unfold f_init at h
  refine WP.aloadN d0_0 rfl ?_
  refine WP.initO d0_1 (hw _ m_6) (hw _ m_7) (hw _ m_8) (leb rfl) (leb rfl) ?_
  refine WP.aloadN d0_4 rfl ?_
  refine WP.bipush (12 : Int32) d0_5 rfl ?_
  refine WP.newarray d0_7 (hw _ m_9) (by decide) (leb rfl) (leb rfl) (leb rfl) (Or.inl ⟨rfl, rfl⟩) ?_
  show W0 l Z n0 (P0 r) 1 12 9 [.val (.ref 0), .val (.int p1), .val (.int p2)] [.ref 1, .ref 0] ([cO [.int (0 : Int32), .int (0 : Int32), .null, .null, .null, .int (0 : Int32), .null, .null, .null, .int (0 : Int32), .int (0 : Int32), .int (0 : Int32), .int (0 : Int32), .int (0 : Int32), .int (0 : Int32), .int (0 : Int32), .int (0 : Int32), .null, .null, .null, .int (0 : Int32), .null, .null, .null], cI (List.replicate 12 0)] : List OwnC)
  refine WP.putR (ty := .array .int) (i := 0) (j := 2) (H' := ([cO [.int (0 : Int32), .int (0 : Int32), .ref 1, .null, .null, .int (0 : Int32), .null, .null, .null, .int (0 : Int32), .int (0 : Int32), .int (0 : Int32), .int (0 : Int32), .int (0 : Int32), .int (0 : Int32), .int (0 : Int32), .int (0 : Int32), .null, .null, .null, .int (0 : Int32), .null, .null, .null], cI (List.replicate 12 0)] : List OwnC)) d0_9 (hw _ m_10) (Or.inr ⟨(hw _ m_11), rfl, rfl⟩) (hw _ m_1) (hlay hw) (by decide) (fun _ => rfl) (fun _ => rfl) rfl rfl rfl (leb rfl) rfl ?_
  refine WP.aloadN d0_12 rfl ?_
  refine WP.bipush (12 : Int32) d0_13 rfl ?_
  refine WP.newarray d0_15 (hw _ m_9) (by decide) (leb rfl) (leb rfl) (leb rfl) (Or.inl ⟨rfl, rfl⟩) ?_
  show W0 l Z n0 (P0 r) 2 24 17 [.val (.ref 0), .val (.int p1), .val (.int p2)] [.ref 2, .ref 0] ([cO [.int (0 : Int32), .int (0 : Int32), .ref 1, .null, .null, .int (0 : Int32), .null, .null, .null, .int (0 : Int32), .int (0 : Int32), .int (0 : Int32), .int (0 : Int32), .int (0 : Int32), .int (0 : Int32), .int (0 : Int32), .int (0 : Int32), .null, .null, .null, .int (0 : Int32), .null, .null, .null], cI (List.replicate 12 0), cI (List.replicate 12 0)] : List OwnC)
  refine WP.putR (ty := .array .int) (i := 0) (j := 3) (H' := ([cO [.int (0 : Int32), .int (0 : Int32), .ref 1, .ref 2, .null, .int (0 : Int32), .null, .null, .null, .int (0 : Int32), .int (0 : Int32), .int (0 : Int32), .int (0 : Int32), .int (0 : Int32), .int (0 : Int32), .int (0 : Int32), .int (0 : Int32), .null, .null, .null, .int (0 : Int32), .null, .null, .null], cI (List.replicate 12 0), cI (List.replicate 12 0)] : List OwnC)) d0_17 (hw _ m_12) (Or.inr ⟨(hw _ m_13), rfl, rfl⟩) (hw _ m_1) (hlay hw) (by decide) (fun _ => rfl) (fun _ => rfl) rfl rfl rfl (leb rfl) rfl ?_
  refine WP.aloadN d0_20 rfl ?_
  refine WP.bipush (12 : Int32) d0_21 rfl ?_
  refine WP.newarray d0_23 (hw _ m_9) (by decide) (leb rfl) (leb rfl) (leb rfl) (Or.inl ⟨rfl, rfl⟩) ?_
  show W0 l Z n0 (P0 r) 3 36 25 [.val (.ref 0), .val (.int p1), .val (.int p2)] [.ref 3, .ref 0] ([cO [.int (0 : Int32), .int (0 : Int32), .ref 1, .ref 2, .null, .int (0 : Int32), .null, .null, .null, .int (0 : Int32), .int (0 : Int32), .int (0 : Int32), .int (0 : Int32), .int (0 : Int32), .int (0 : Int32), .int (0 : Int32), .int (0 : Int32), .null, .null, .null, .int (0 : Int32), .null, .null, .null], cI (List.replicate 12 0), cI (List.replicate 12 0), cI (List.replicate 12 0)] : List OwnC)
  refine WP.putR (ty := .array .int) (i := 0) (j := 4) (H' := ([cO [.int (0 : Int32), .int (0 : Int32), .ref 1, .ref 2, .ref 3, .int (0 : Int32), .null, .null, .null, .int (0 : Int32), .int (0 : Int32), .int (0 : Int32), .int (0 : Int32), .int (0 : Int32), .int (0 : Int32), .int (0 : Int32), .int (0 : Int32), .null, .null, .null, .int (0 : Int32), .null, .null, .null], cI (List.replicate 12 0), cI (List.replicate 12 0), cI (List.replicate 12 0)] : List OwnC)) d0_25 (hw _ m_14) (Or.inr ⟨(hw _ m_15), rfl, rfl⟩) (hw _ m_1) (hlay hw) (by decide) (fun _ => rfl) (fun _ => rfl) rfl rfl rfl (leb rfl) rfl ?_
  refine WP.aloadN d0_28 rfl ?_
  refine WP.bipush (12 : Int32) d0_29 rfl ?_
  refine WP.newarray d0_31 (hw _ m_9) (by decide) (leb rfl) (leb rfl) (leb rfl) (Or.inl ⟨rfl, rfl⟩) ?_
  show W0 l Z n0 (P0 r) 4 48 33 [.val (.ref 0), .val (.int p1), .val (.int p2)] [.ref 4, .ref 0] ([cO [.int (0 : Int32), .int (0 : Int32), .ref 1, .ref 2, .ref 3, .int (0 : Int32), .null, .null, .null, .int (0 : Int32), .int (0 : Int32), .int (0 : Int32), .int (0 : Int32), .int (0 : Int32), .int (0 : Int32), .int (0 : Int32), .int (0 : Int32), .null, .null, .null, .int (0 : Int32), .null, .null, .null], cI (List.replicate 12 0), cI (List.replicate 12 0), cI (List.replicate 12 0), cI (List.replicate 12 0)] : List OwnC)
  refine WP.putR (ty := .array .int) (i := 0) (j := 6) (H' := ([cO [.int (0 : Int32), .int (0 : Int32), .ref 1, .ref 2, .ref 3, .int (0 : Int32), .ref 4, .null, .null, .int (0 : Int32), .int (0 : Int32), .int (0 : Int32), .int (0 : Int32), .int (0 : Int32), .int (0 : Int32), .int (0 : Int32), .int (0 : Int32), .null, .null, .null, .int (0 : Int32), .null, .null, .null], cI (List.replicate 12 0), cI (List.replicate 12 0), cI (List.replicate 12 0), cI (List.replicate 12 0)] : List OwnC)) d0_33 (hw _ m_16) (Or.inr ⟨(hw _ m_17), rfl, rfl⟩) (hw _ m_1) (hlay hw) (by decide) (fun _ => rfl) (fun _ => rfl) rfl rfl rfl (leb rfl) rfl ?_
  refine WP.aloadN d0_36 rfl ?_
  refine WP.bipush (12 : Int32) d0_37 rfl ?_
  refine WP.newarray d0_39 (hw _ m_9) (by decide) (leb rfl) (leb rfl) (leb rfl) (Or.inl ⟨rfl, rfl⟩) ?_
  show W0 l Z n0 (P0 r) 5 60 41 [.val (.ref 0), .val (.int p1), .val (.int p2)] [.ref 5, .ref 0] ([cO [.int (0 : Int32), .int (0 : Int32), .ref 1, .ref 2, .ref 3, .int (0 : Int32), .ref 4, .null, .null, .int (0 : Int32), .int (0 : Int32), .int (0 : Int32), .int (0 : Int32), .int (0 : Int32), .int (0 : Int32), .int (0 : Int32), .int (0 : Int32), .null, .null, .null, .int (0 : Int32), .null, .null, .null], cI (List.replicate 12 0), cI (List.replicate 12 0), cI (List.replicate 12 0), cI (List.replicate 12 0), cI (List.replicate 12 0)] : List OwnC)
  refine WP.putR (ty := .array .int) (i := 0) (j := 7) (H' := ([cO [.int (0 : Int32), .int (0 : Int32), .ref 1, .ref 2, .ref 3, .int (0 : Int32), .ref 4, .ref 5, .null, .int (0 : Int32), .int (0 : Int32), .int (0 : Int32), .int (0 : Int32), .int (0 : Int32), .int (0 : Int32), .int (0 : Int32), .int (0 : Int32), .null, .null, .null, .int (0 : Int32), .null, .null, .null], cI (List.replicate 12 0), cI (List.replicate 12 0), cI (List.replicate 12 0), cI (List.replicate 12 0), cI (List.replicate 12 0)] : List OwnC)) d0_41 (hw _ m_18) (Or.inr ⟨(hw _ m_19), rfl, rfl⟩) (hw _ m_1) (hlay hw) (by decide) (fun _ => rfl) (fun _ => rfl) rfl rfl rfl (leb rfl) rfl ?_
  refine WP.aloadN d0_44 rfl ?_
  refine WP.bipush (12 : Int32) d0_45 rfl ?_
  refine WP.newarray d0_47 (hw _ m_9) (by decide) (leb rfl) (leb rfl) (leb rfl) (Or.inl ⟨rfl, rfl⟩) ?_
  show W0 l Z n0 (P0 r) 6 72 49 [.val (.ref 0), .val (.int p1), .val (.int p2)] [.ref 6, .ref 0] ([cO [.int (0 : Int32), .int (0 : Int32), .ref 1, .ref 2, .ref 3, .int (0 : Int32), .ref 4, .ref 5, .null, .int (0 : Int32), .int (0 : Int32), .int (0 : Int32), .int (0 : Int32), .int (0 : Int32), .int (0 : Int32), .int (0 : Int32), .int (0 : Int32), .null, .null, .null, .int (0 : Int32), .null, .null, .null], cI (List.replicate 12 0), cI (List.replicate 12 0), cI (List.replicate 12 0), cI (List.replicate 12 0), cI (List.replicate 12 0), cI (List.replicate 12 0)] : List OwnC)
  refine WP.putR (ty := .array .int) (i := 0) (j := 8) (H' := ([cO [.int (0 : Int32), .int (0 : Int32), .ref 1, .ref 2, .ref 3, .int (0 : Int32), .ref 4, .ref 5, .ref 6, .int (0 : Int32), .int (0 : Int32), .int (0 : Int32), .int (0 : Int32), .int (0 : Int32), .int (0 : Int32), .int (0 : Int32), .int (0 : Int32), .null, .null, .null, .int (0 : Int32), .null, .null, .null], cI (List.replicate 12 0), cI (List.replicate 12 0), cI (List.replicate 12 0), cI (List.replicate 12 0), cI (List.replicate 12 0), cI (List.replicate 12 0)] : List OwnC)) d0_49 (hw _ m_20) (Or.inr ⟨(hw _ m_21), rfl, rfl⟩) (hw _ m_1) (hlay hw) (by decide) (fun _ => rfl) (fun _ => rfl) rfl rfl rfl (leb rfl) rfl ?_
  refine WP.aloadN d0_52 rfl ?_
  refine WP.bipush (12 : Int32) d0_53 rfl ?_
  refine WP.newarray d0_55 (hw _ m_9) (by decide) (leb rfl) (leb rfl) (leb rfl) (Or.inl ⟨rfl, rfl⟩) ?_
  show W0 l Z n0 (P0 r) 7 84 57 [.val (.ref 0), .val (.int p1), .val (.int p2)] [.ref 7, .ref 0] ([cO [.int (0 : Int32), .int (0 : Int32), .ref 1, .ref 2, .ref 3, .int (0 : Int32), .ref 4, .ref 5, .ref 6, .int (0 : Int32), .int (0 : Int32), .int (0 : Int32), .int (0 : Int32), .int (0 : Int32), .int (0 : Int32), .int (0 : Int32), .int (0 : Int32), .null, .null, .null, .int (0 : Int32), .null, .null, .null], cI (List.replicate 12 0), cI (List.replicate 12 0), cI (List.replicate 12 0), cI (List.replicate 12 0), cI (List.replicate 12 0), cI (List.replicate 12 0), cI (List.replicate 12 0)] : List OwnC)
  refine WP.putR (ty := .array .int) (i := 0) (j := 17) (H' := ([cO [.int (0 : Int32), .int (0 : Int32), .ref 1, .ref 2, .ref 3, .int (0 : Int32), .ref 4, .ref 5, .ref 6, .int (0 : Int32), .int (0 : Int32), .int (0 : Int32), .int (0 : Int32), .int (0 : Int32), .int (0 : Int32), .int (0 : Int32), .int (0 : Int32), .ref 7, .null, .null, .int (0 : Int32), .null, .null, .null], cI (List.replicate 12 0), cI (List.replicate 12 0), cI (List.replicate 12 0), cI (List.replicate 12 0), cI (List.replicate 12 0), cI (List.replicate 12 0), cI (List.replicate 12 0)] : List OwnC)) d0_57 (hw _ m_22) (Or.inr ⟨(hw _ m_23), rfl, rfl⟩) (hw _ m_1) (hlay hw) (by decide) (fun _ => rfl) (fun _ => rfl) rfl rfl rfl (leb rfl) rfl ?_
  refine WP.aloadN d0_60 rfl ?_
  refine WP.bipush (12 : Int32) d0_61 rfl ?_
  refine WP.newarray d0_63 (hw _ m_9) (by decide) (leb rfl) (leb rfl) (leb rfl) (Or.inl ⟨rfl, rfl⟩) ?_
  show W0 l Z n0 (P0 r) 8 96 65 [.val (.ref 0), .val (.int p1), .val (.int p2)] [.ref 8, .ref 0] ([cO [.int (0 : Int32), .int (0 : Int32), .ref 1, .ref 2, .ref 3, .int (0 : Int32), .ref 4, .ref 5, .ref 6, .int (0 : Int32), .int (0 : Int32), .int (0 : Int32), .int (0 : Int32), .int (0 : Int32), .int (0 : Int32), .int (0 : Int32), .int (0 : Int32), .ref 7, .null, .null, .int (0 : Int32), .null, .null, .null], cI (List.replicate 12 0), cI (List.replicate 12 0), cI (List.replicate 12 0), cI (List.replicate 12 0), cI (List.replicate 12 0), cI (List.replicate 12 0), cI (List.replicate 12 0), cI (List.replicate 12 0)] : List OwnC)
  refine WP.putR (ty := .array .int) (i := 0) (j := 18) (H' := ([cO [.int (0 : Int32), .int (0 : Int32), .ref 1, .ref 2, .ref 3, .int (0 : Int32), .ref 4, .ref 5, .ref 6, .int (0 : Int32), .int (0 : Int32), .int (0 : Int32), .int (0 : Int32), .int (0 : Int32), .int (0 : Int32), .int (0 : Int32), .int (0 : Int32), .ref 7, .ref 8, .null, .int (0 : Int32), .null, .null, .null], cI (List.replicate 12 0), cI (List.replicate 12 0), cI (List.replicate 12 0), cI (List.replicate 12 0), cI (List.replicate 12 0), cI (List.replicate 12 0), cI (List.replicate 12 0), cI (List.replicate 12 0)] : List OwnC)) d0_65 (hw _ m_24) (Or.inr ⟨(hw _ m_25), rfl, rfl⟩) (hw _ m_1) (hlay hw) (by decide) (fun _ => rfl) (fun _ => rfl) rfl rfl rfl (leb rfl) rfl ?_
  refine WP.aloadN d0_68 rfl ?_
  refine WP.bipush (12 : Int32) d0_69 rfl ?_
  refine WP.newarray d0_71 (hw _ m_9) (by decide) (leb rfl) (leb rfl) (leb rfl) (Or.inl ⟨rfl, rfl⟩) ?_
  show W0 l Z n0 (P0 r) 9 108 73 [.val (.ref 0), .val (.int p1), .val (.int p2)] [.ref 9, .ref 0] ([cO [.int (0 : Int32), .int (0 : Int32), .ref 1, .ref 2, .ref 3, .int (0 : Int32), .ref 4, .ref 5, .ref 6, .int (0 : Int32), .int (0 : Int32), .int (0 : Int32), .int (0 : Int32), .int (0 : Int32), .int (0 : Int32), .int (0 : Int32), .int (0 : Int32), .ref 7, .ref 8, .null, .int (0 : Int32), .null, .null, .null], cI (List.replicate 12 0), cI (List.replicate 12 0), cI (List.replicate 12 0), cI (List.replicate 12 0), cI (List.replicate 12 0), cI (List.replicate 12 0), cI (List.replicate 12 0), cI (List.replicate 12 0), cI (List.replicate 12 0)] : List OwnC)
  refine WP.putR (ty := .array .int) (i := 0) (j := 19) (H' := ([cO [.int (0 : Int32), .int (0 : Int32), .ref 1, .ref 2, .ref 3, .int (0 : Int32), .ref 4, .ref 5, .ref 6, .int (0 : Int32), .int (0 : Int32), .int (0 : Int32), .int (0 : Int32), .int (0 : Int32), .int (0 : Int32), .int (0 : Int32), .int (0 : Int32), .ref 7, .ref 8, .ref 9, .int (0 : Int32), .null, .null, .null], cI (List.replicate 12 0), cI (List.replicate 12 0), cI (List.replicate 12 0), cI (List.replicate 12 0), cI (List.replicate 12 0), cI (List.replicate 12 0), cI (List.replicate 12 0), cI (List.replicate 12 0), cI (List.replicate 12 0)] : List OwnC)) d0_73 (hw _ m_26) (Or.inr ⟨(hw _ m_27), rfl, rfl⟩) (hw _ m_1) (hlay hw) (by decide) (fun _ => rfl) (fun _ => rfl) rfl rfl rfl (leb rfl) rfl ?_
  refine WP.aloadN d0_76 rfl ?_
  refine WP.bipush (12 : Int32) d0_77 rfl ?_
  refine WP.newarray d0_79 (hw _ m_9) (by decide) (leb rfl) (leb rfl) (leb rfl) (Or.inl ⟨rfl, rfl⟩) ?_
  show W0 l Z n0 (P0 r) 10 120 81 [.val (.ref 0), .val (.int p1), .val (.int p2)] [.ref 10, .ref 0] ([cO [.int (0 : Int32), .int (0 : Int32), .ref 1, .ref 2, .ref 3, .int (0 : Int32), .ref 4, .ref 5, .ref 6, .int (0 : Int32), .int (0 : Int32), .int (0 : Int32), .int (0 : Int32), .int (0 : Int32), .int (0 : Int32), .int (0 : Int32), .int (0 : Int32), .ref 7, .ref 8, .ref 9, .int (0 : Int32), .null, .null, .null], cI (List.replicate 12 0), cI (List.replicate 12 0), cI (List.replicate 12 0), cI (List.replicate 12 0), cI (List.replicate 12 0), cI (List.replicate 12 0), cI (List.replicate 12 0), cI (List.replicate 12 0), cI (List.replicate 12 0), cI (List.replicate 12 0)] : List OwnC)
  refine WP.putR (ty := .array .int) (i := 0) (j := 21) (H' := ([cO [.int (0 : Int32), .int (0 : Int32), .ref 1, .ref 2, .ref 3, .int (0 : Int32), .ref 4, .ref 5, .ref 6, .int (0 : Int32), .int (0 : Int32), .int (0 : Int32), .int (0 : Int32), .int (0 : Int32), .int (0 : Int32), .int (0 : Int32), .int (0 : Int32), .ref 7, .ref 8, .ref 9, .int (0 : Int32), .ref 10, .null, .null], cI (List.replicate 12 0), cI (List.replicate 12 0), cI (List.replicate 12 0), cI (List.replicate 12 0), cI (List.replicate 12 0), cI (List.replicate 12 0), cI (List.replicate 12 0), cI (List.replicate 12 0), cI (List.replicate 12 0), cI (List.replicate 12 0)] : List OwnC)) d0_81 (hw _ m_28) (Or.inr ⟨(hw _ m_29), rfl, rfl⟩) (hw _ m_1) (hlay hw) (by decide) (fun _ => rfl) (fun _ => rfl) rfl rfl rfl (leb rfl) rfl ?_
  refine WP.aloadN d0_84 rfl ?_
  refine WP.bipush (12 : Int32) d0_85 rfl ?_
  refine WP.newarray d0_87 (hw _ m_9) (by decide) (leb rfl) (leb rfl) (leb rfl) (Or.inl ⟨rfl, rfl⟩) ?_
  show W0 l Z n0 (P0 r) 11 132 89 [.val (.ref 0), .val (.int p1), .val (.int p2)] [.ref 11, .ref 0] ([cO [.int (0 : Int32), .int (0 : Int32), .ref 1, .ref 2, .ref 3, .int (0 : Int32), .ref 4, .ref 5, .ref 6, .int (0 : Int32), .int (0 : Int32), .int (0 : Int32), .int (0 : Int32), .int (0 : Int32), .int (0 : Int32), .int (0 : Int32), .int (0 : Int32), .ref 7, .ref 8, .ref 9, .int (0 : Int32), .ref 10, .null, .null], cI (List.replicate 12 0), cI (List.replicate 12 0), cI (List.replicate 12 0), cI (List.replicate 12 0), cI (List.replicate 12 0), cI (List.replicate 12 0), cI (List.replicate 12 0), cI (List.replicate 12 0), cI (List.replicate 12 0), cI (List.replicate 12 0), cI (List.replicate 12 0)] : List OwnC)
  refine WP.putR (ty := .array .int) (i := 0) (j := 22) (H' := ([cO [.int (0 : Int32), .int (0 : Int32), .ref 1, .ref 2, .ref 3, .int (0 : Int32), .ref 4, .ref 5, .ref 6, .int (0 : Int32), .int (0 : Int32), .int (0 : Int32), .int (0 : Int32), .int (0 : Int32), .int (0 : Int32), .int (0 : Int32), .int (0 : Int32), .ref 7, .ref 8, .ref 9, .int (0 : Int32), .ref 10, .ref 11, .null], cI (List.replicate 12 0), cI (List.replicate 12 0), cI (List.replicate 12 0), cI (List.replicate 12 0), cI (List.replicate 12 0), cI (List.replicate 12 0), cI (List.replicate 12 0), cI (List.replicate 12 0), cI (List.replicate 12 0), cI (List.replicate 12 0), cI (List.replicate 12 0)] : List OwnC)) d0_89 (hw _ m_30) (Or.inr ⟨(hw _ m_31), rfl, rfl⟩) (hw _ m_1) (hlay hw) (by decide) (fun _ => rfl) (fun _ => rfl) rfl rfl rfl (leb rfl) rfl ?_
  refine WP.aloadN d0_92 rfl ?_
  refine WP.bipush (12 : Int32) d0_93 rfl ?_
  refine WP.newarray d0_95 (hw _ m_9) (by decide) (leb rfl) (leb rfl) (leb rfl) (Or.inl ⟨rfl, rfl⟩) ?_
  show W0 l Z n0 (P0 r) 12 144 97 [.val (.ref 0), .val (.int p1), .val (.int p2)] [.ref 12, .ref 0] ([cO [.int (0 : Int32), .int (0 : Int32), .ref 1, .ref 2, .ref 3, .int (0 : Int32), .ref 4, .ref 5, .ref 6, .int (0 : Int32), .int (0 : Int32), .int (0 : Int32), .int (0 : Int32), .int (0 : Int32), .int (0 : Int32), .int (0 : Int32), .int (0 : Int32), .ref 7, .ref 8, .ref 9, .int (0 : Int32), .ref 10, .ref 11, .null], cI (List.replicate 12 0), cI (List.replicate 12 0), cI (List.replicate 12 0), cI (List.replicate 12 0), cI (List.replicate 12 0), cI (List.replicate 12 0), cI (List.replicate 12 0), cI (List.replicate 12 0), cI (List.replicate 12 0), cI (List.replicate 12 0), cI (List.replicate 12 0), cI (List.replicate 12 0)] : List OwnC)
  obtain ⟨s1, es1, h⟩ := lt_e h
  refine WP.putR (ty := .array .int) (i := 0) (j := 23) (H' := (Hb 0 s1)) d0_97 (hw _ m_32) (Or.inr ⟨(hw _ m_33), rfl, rfl⟩) (hw _ m_1) (hlay hw) (by decide) (fun _ => rfl) (fun _ => rfl) rfl rfl rfl (leb rfl) (by subst es1; rfl) ?_
  refine WP.aloadN d0_100 rfl ?_
  refine WP.aloadN d0_101 rfl ?_
  refine WP.iloadN d0_102 rfl ?_
  refine WP.iconst (1 : Int32) d0_103 rfl ?_
  refine WP.bipush (12 : Int32) d0_104 rfl ?_
  obtain ⟨c2, hc2, h⟩ := Option.bind_eq_some_iff.mp h
  refine WP.callP (i := 0) (y := y1) (as := [.int p1, .int (1 : Int32), .int (12 : Int32)]) (S := [.ref 0]) d0_106 (hw _ m_34) (hw _ m_36) (hw _ m_1) (hw _ m_35) (hw _ m_37) (hw _ m_2) hy1 rfl (ok1 l Z a0 hw p1 (1 : Int32) (12 : Int32) s1 _ hc2) rfl (lenOf pd1 rfl) (leb rfl) (leb rfl) (leb rfl) (leb rfl) ?_
  rintro _ _ ⟨rfl, rfl⟩
  show W0 l Z n0 (P0 r) 12 144 109 [.val (.ref 0), .val (.int p1), .val (.int p2)] [.int c2, .ref 0] (Hb 0 s1)
  obtain ⟨s3, es3, h⟩ := lt_e h
  refine WP.putI (i := 0) (j := 0) (H' := (Hb 0 s3)) d0_109 (hw _ m_38) (Or.inl (hw _ m_39)) (hw _ m_1) (hlay hw) rfl rfl rfl (leb rfl) (by subst es3; rfl) ?_
  refine WP.aloadN d0_112 rfl ?_
  refine WP.aloadN d0_113 rfl ?_
  refine WP.iloadN d0_114 rfl ?_
  refine WP.iconst (1 : Int32) d0_115 rfl ?_
  refine WP.sipush (2048 : Int32) d0_116 rfl ?_
  obtain ⟨c4, hc4, h⟩ := Option.bind_eq_some_iff.mp h
  refine WP.callP (i := 0) (y := y1) (as := [.int p2, .int (1 : Int32), .int (2048 : Int32)]) (S := [.ref 0]) d0_119 (hw _ m_34) (hw _ m_36) (hw _ m_1) (hw _ m_35) (hw _ m_37) (hw _ m_2) hy1 rfl (ok1 l Z a0 hw p2 (1 : Int32) (2048 : Int32) s3 _ hc4) rfl (lenOf pd1 rfl) (leb rfl) (leb rfl) (leb rfl) (leb rfl) ?_
  rintro _ _ ⟨rfl, rfl⟩
  show W0 l Z n0 (P0 r) 12 144 122 [.val (.ref 0), .val (.int p1), .val (.int p2)] [.int c4, .ref 0] (Hb 0 s3)
  obtain ⟨s5, es5, h⟩ := lt_e h
  refine WP.putI (i := 0) (j := 1) (H' := (Hb 0 s5)) d0_122 (hw _ m_40) (Or.inl (hw _ m_41)) (hw _ m_1) (hlay hw) rfl rfl rfl (leb rfl) (by subst es5; rfl) ?_
  refine WP.aloadN d0_125 rfl ?_
  refine WP.iconst (0 : Int32) d0_126 rfl ?_
  obtain ⟨s6, es6, h⟩ := lt_e h
  refine WP.putI (i := 0) (j := 5) (H' := (Hb 0 s6)) d0_127 (hw _ m_42) (Or.inl (hw _ m_43)) (hw _ m_1) (hlay hw) rfl rfl rfl (leb rfl) (by subst es6; rfl) ?_
  refine WP.aloadN d0_130 rfl ?_
  refine WP.iconst (0 : Int32) d0_131 rfl ?_
  obtain ⟨s7, es7, h⟩ := lt_e h
  refine WP.putI (i := 0) (j := 9) (H' := (Hb 0 s7)) d0_132 (hw _ m_44) (Or.inl (hw _ m_45)) (hw _ m_1) (hlay hw) rfl rfl rfl (leb rfl) (by subst es7; rfl) ?_
  refine WP.aloadN d0_135 rfl ?_
  refine WP.iconst (0 : Int32) d0_136 rfl ?_
  obtain ⟨s8, es8, h⟩ := lt_e h
  refine WP.putZ (i := 0) (j := 10) (H' := (Hb 0 s8)) d0_137 (hw _ m_46) (Or.inl (hw _ m_47)) (hw _ m_1) (hlay hw) rfl rfl rfl (leb rfl) (by subst es8; rfl) ?_
  refine WP.aloadN d0_140 rfl ?_
  refine WP.iconst (1 : Int32) d0_141 rfl ?_
  obtain ⟨s9, es9, h⟩ := lt_e h
  refine WP.putI (i := 0) (j := 11) (H' := (Hb 0 s9)) d0_142 (hw _ m_48) (Or.inl (hw _ m_49)) (hw _ m_1) (hlay hw) rfl rfl rfl (leb rfl) (by subst es9; rfl) ?_
  refine WP.aloadN d0_145 rfl ?_
  refine WP.iconst (0 : Int32) d0_146 rfl ?_
  obtain ⟨s10, es10, h⟩ := lt_e h
  refine WP.putI (i := 0) (j := 12) (H' := (Hb 0 s10)) d0_147 (hw _ m_50) (Or.inl (hw _ m_51)) (hw _ m_1) (hlay hw) rfl rfl rfl (leb rfl) (by subst es10; rfl) ?_
  refine WP.aloadN d0_150 rfl ?_
  refine WP.iconst (0 : Int32) d0_151 rfl ?_
  obtain ⟨s11, es11, h⟩ := lt_e h
  refine WP.putI (i := 0) (j := 13) (H' := (Hb 0 s11)) d0_152 (hw _ m_52) (Or.inl (hw _ m_53)) (hw _ m_1) (hlay hw) rfl rfl rfl (leb rfl) (by subst es11; rfl) ?_
  refine WP.aloadN d0_155 rfl ?_
  refine WP.iconst (0 : Int32) d0_156 rfl ?_
  obtain ⟨s12, es12, h⟩ := lt_e h
  refine WP.putI (i := 0) (j := 14) (H' := (Hb 0 s12)) d0_157 (hw _ m_54) (Or.inl (hw _ m_55)) (hw _ m_1) (hlay hw) rfl rfl rfl (leb rfl) (by subst es12; rfl) ?_
  refine WP.aloadN d0_160 rfl ?_
  refine WP.iconst (-1 : Int32) d0_161 rfl ?_
  obtain ⟨s13, es13, h⟩ := lt_e h
  refine WP.putI (i := 0) (j := 15) (H' := (Hb 0 s13)) d0_162 (hw _ m_56) (Or.inl (hw _ m_57)) (hw _ m_1) (hlay hw) rfl rfl rfl (leb rfl) (by subst es13; rfl) ?_
  refine WP.aloadN d0_165 rfl ?_
  refine WP.iconst (0 : Int32) d0_166 rfl ?_
  obtain ⟨s14, es14, h⟩ := lt_e h
  refine WP.putI (i := 0) (j := 16) (H' := (Hb 0 s14)) d0_167 (hw _ m_58) (Or.inl (hw _ m_59)) (hw _ m_1) (hlay hw) rfl rfl rfl (leb rfl) (by subst es14; rfl) ?_
  refine WP.aloadN d0_170 rfl ?_
  refine WP.iconst (0 : Int32) d0_171 rfl ?_
  obtain ⟨s15, es15, h⟩ := lt_e h
  refine WP.putI (i := 0) (j := 20) (H' := (Hb 0 s15)) d0_172 (hw _ m_60) (Or.inl (hw _ m_61)) (hw _ m_1) (hlay hw) rfl rfl rfl (leb rfl) (by subst es15; rfl) ?_
  cases h
  exact WP.vreturn d0_175 rfl (leb rfl) (leb rfl) ⟨rfl, rfl⟩
theorem d2_0 : dc prog_1_method_5_code 0 (.aload_n 0) 1 := by decide +kernel
theorem d2_1 : dc prog_1_method_5_code 1 (.getfield 57) 3 := by decide +kernel
theorem d2_4 : dc prog_1_method_5_code 4 (.ireturn) 1 := by decide +kernel
abbrev y2 : MethodName := ⟨"DemandGate", "count", "()I"⟩
theorem hy2 : y2.cls ≠ "java/lang/invoke/MethodHandle" ∧ y2.cls ≠ "java/lang/invoke/VarHandle" := by decide
theorem pd2 : parseMethodDescriptor y2.desc = some ⟨[], some .int⟩ := by decide +kernel
abbrev R2 : Room := { frames := 0, cells := 0, slots := 0, locals := 0 }
abbrev P2 (s : St) (r : Int32) : Option Value → List OwnC → Prop := fun v H' => v = some (.int r) ∧ H' = (Hb 0 s)
abbrev W2 (l : Launch) (Z : State) (n0 : Nat) (Q : Option Value → List OwnC → Prop) (k n pc : Nat) (L : List Slot) (S : List Value) (H : List OwnC) : Prop := WP l Z CN lay "DemandGate" "count" prog_1_method_5_code 1 (some FieldType.int) R2 n0 0 Q k n pc L S H
def f_count (s : St) : Option (Int32) :=
  some (gI s 2)
set_option maxRecDepth 65536 in
set_option maxHeartbeats 4000000 in
theorem ok2 (l : Launch) (Z : State) (a0 : Array Value) (hw : HW a0 Z) (s : St) (r : Int32) (h : f_count s = some r) : CS l Z CN lay y2 prog_1_method_5_code 1 (some FieldType.int) R2 0 [.ref 0] (Hb 0 s) (P2 s r) := by
  refine CS.of_wp pn_cls (leb rfl) fun n0 => ?_
  show W2 l Z n0 (P2 s r) 0 0 0 [.val (.ref 0)] [] (Hb 0 s)
  unfold f_count at h
  refine WP.aloadN d2_0 rfl ?_
  refine WP.getfield (i := 0) (j := 5) d2_1 (hw _ m_42) rfl rfl rfl ?_
  cases h
  exact WP.ireturn d2_4 rfl (leb rfl) (leb rfl) ⟨rfl, rfl⟩
theorem d4_0 : dc prog_1_method_19_code 0 (.iload_n 1) 1 := by decide +kernel
theorem d4_1 : dc prog_1_method_19_code 1 (.iconst 1) 1 := by decide +kernel
theorem d4_2 : dc prog_1_method_19_code 2 (.if_icmp .lt 10) 3 := by decide +kernel
theorem d4_5 : dc prog_1_method_19_code 5 (.iload_n 1) 1 := by decide +kernel
theorem d4_6 : dc prog_1_method_19_code 6 (.sipush 2048) 3 := by decide +kernel
theorem d4_9 : dc prog_1_method_19_code 9 (.if_icmp .le 5) 3 := by decide +kernel
theorem d4_12 : dc prog_1_method_19_code 12 (.iconst 0) 1 := by decide +kernel
theorem d4_13 : dc prog_1_method_19_code 13 (.ireturn) 1 := by decide +kernel
theorem d4_14 : dc prog_1_method_19_code 14 (.iload_n 3) 1 := by decide +kernel
theorem d4_15 : dc prog_1_method_19_code 15 (.iconst 1) 1 := by decide +kernel
theorem d4_16 : dc prog_1_method_19_code 16 (.if_icmp .lt 10) 3 := by decide +kernel
theorem d4_19 : dc prog_1_method_19_code 19 (.iload_n 3) 1 := by decide +kernel
theorem d4_20 : dc prog_1_method_19_code 20 (.sipush 2048) 3 := by decide +kernel
theorem d4_23 : dc prog_1_method_19_code 23 (.if_icmp .le 5) 3 := by decide +kernel
theorem d4_26 : dc prog_1_method_19_code 26 (.iconst 0) 1 := by decide +kernel
theorem d4_27 : dc prog_1_method_19_code 27 (.ireturn) 1 := by decide +kernel
theorem d4_28 : dc prog_1_method_19_code 28 (.iload_n 2) 1 := by decide +kernel
theorem d4_29 : dc prog_1_method_19_code 29 (.iconst 1) 1 := by decide +kernel
theorem d4_30 : dc prog_1_method_19_code 30 (.if_icmp .lt 12) 3 := by decide +kernel
theorem d4_33 : dc prog_1_method_19_code 33 (.iload_n 2) 1 := by decide +kernel
theorem d4_34 : dc prog_1_method_19_code 34 (.iload_n 3) 1 := by decide +kernel
theorem d4_35 : dc prog_1_method_19_code 35 (.if_icmp .gt 7) 3 := by decide +kernel
theorem d4_38 : dc prog_1_method_19_code 38 (.iconst 1) 1 := by decide +kernel
theorem d4_39 : dc prog_1_method_19_code 39 (.goto 4) 3 := by decide +kernel
theorem d4_42 : dc prog_1_method_19_code 42 (.iconst 0) 1 := by decide +kernel
theorem d4_43 : dc prog_1_method_19_code 43 (.ireturn) 1 := by decide +kernel
abbrev y4 : MethodName := ⟨"DemandGate", "validParams", "(III)Z"⟩
theorem hy4 : y4.cls ≠ "java/lang/invoke/MethodHandle" ∧ y4.cls ≠ "java/lang/invoke/VarHandle" := by decide
theorem pd4 : parseMethodDescriptor y4.desc = some ⟨[.int, .int, .int], some .boolean⟩ := by decide +kernel
abbrev R4 : Room := { frames := 0, cells := 0, slots := 0, locals := 0 }
abbrev P4 (s : St) (r : Int32) : Option Value → List OwnC → Prop := fun v H' => v = some (.int r) ∧ H' = (Hb 0 s)
abbrev W4 (l : Launch) (Z : State) (n0 : Nat) (Q : Option Value → List OwnC → Prop) (k n pc : Nat) (L : List Slot) (S : List Value) (H : List OwnC) : Prop := WP l Z CN lay "DemandGate" "validParams" prog_1_method_19_code 4 (some FieldType.boolean) R4 n0 0 Q k n pc L S H
def f_validParams_12 (s : St) : Option (Int32) :=
  some (0 : Int32)
set_option maxRecDepth 65536 in
set_option maxHeartbeats 4000000 in
theorem ok4_12 (l : Launch) (Z : State) (a0 : Array Value) (hw : HW a0 Z) (n0 : Nat) (s : St) (r : Int32) (h : f_validParams_12 s = some r) : W4 l Z n0 (P4 s r) 0 0 12 [.unset, .unset, .unset, .unset] [] (Hb 0 s) := by
  unfold f_validParams_12 at h
  refine WP.iconst (0 : Int32) d4_12 rfl ?_
  cases h
  exact WP.zreturn d4_13 rfl (leb rfl) (leb rfl) ⟨rfl, rfl⟩
def f_validParams_26 (s : St) : Option (Int32) :=
  some (0 : Int32)
set_option maxRecDepth 65536 in
set_option maxHeartbeats 4000000 in
theorem ok4_26 (l : Launch) (Z : State) (a0 : Array Value) (hw : HW a0 Z) (n0 : Nat) (s : St) (r : Int32) (h : f_validParams_26 s = some r) : W4 l Z n0 (P4 s r) 0 0 26 [.unset, .unset, .unset, .unset] [] (Hb 0 s) := by
  unfold f_validParams_26 at h
  refine WP.iconst (0 : Int32) d4_26 rfl ?_
  cases h
  exact WP.zreturn d4_27 rfl (leb rfl) (leb rfl) ⟨rfl, rfl⟩
def f_validParams_43 (t0 : Int32) (s : St) : Option (Int32) :=
  some (t0 &&& 1)
set_option maxRecDepth 65536 in
set_option maxHeartbeats 4000000 in
theorem ok4_43 (l : Launch) (Z : State) (a0 : Array Value) (hw : HW a0 Z) (n0 : Nat) (t0 : Int32) (s : St) (r : Int32) (h : f_validParams_43 t0 s = some r) : W4 l Z n0 (P4 s r) 0 0 43 [.unset, .unset, .unset, .unset] [.int t0] (Hb 0 s) := by
  unfold f_validParams_43 at h
  cases h
  exact WP.zreturn d4_43 rfl (leb rfl) (leb rfl) ⟨rfl, rfl⟩
def f_validParams_42 (s : St) : Option (Int32) :=
  f_validParams_43 (0 : Int32) s
set_option maxRecDepth 65536 in
set_option maxHeartbeats 4000000 in
theorem ok4_42 (l : Launch) (Z : State) (a0 : Array Value) (hw : HW a0 Z) (n0 : Nat) (s : St) (r : Int32) (h : f_validParams_42 s = some r) : W4 l Z n0 (P4 s r) 0 0 42 [.unset, .unset, .unset, .unset] [] (Hb 0 s) := by
  unfold f_validParams_42 at h
  refine WP.iconst (0 : Int32) d4_42 rfl ?_
  exact WP.weak (L' := [.unset, .unset, .unset, .unset]) trivial (ok4_43 l Z a0 hw n0 (0 : Int32) s _ h)
def f_validParams (p1 : Int32) (p2 : Int32) (p3 : Int32) (s : St) : Option (Int32) :=
  if p1 < (1 : Int32) then
    f_validParams_12 s
  else
    if (2048 : Int32) < p1 then
      f_validParams_12 s
    else
      if p3 < (1 : Int32) then
        f_validParams_26 s
      else
        if (2048 : Int32) < p3 then
          f_validParams_26 s
        else
          if p2 < (1 : Int32) then
            f_validParams_42 s
          else
            if p3 < p2 then
              f_validParams_42 s
            else
              f_validParams_43 (1 : Int32) s
set_option maxRecDepth 65536 in
set_option maxHeartbeats 4000000 in
theorem ok4 (l : Launch) (Z : State) (a0 : Array Value) (hw : HW a0 Z) (p1 : Int32) (p2 : Int32) (p3 : Int32) (s : St) (r : Int32) (h : f_validParams p1 p2 p3 s = some r) : CS l Z CN lay y4 prog_1_method_19_code 4 (some FieldType.boolean) R4 0 [.ref 0, .int p1, .int p2, .int p3] (Hb 0 s) (P4 s r) := by
  refine CS.of_wp pn_cls (leb rfl) fun n0 => ?_
  show W4 l Z n0 (P4 s r) 0 0 0 [.val (.ref 0), .val (.int p1), .val (.int p2), .val (.int p3)] [] (Hb 0 s)
  unfold f_validParams at h
  refine WP.iloadN d4_0 rfl ?_
  refine WP.iconst (1 : Int32) d4_1 rfl ?_
  rcases ite_e h with ⟨hc1, h⟩ | ⟨hc1, h⟩
  ·
    refine WP.icmpY (pc' := 12) d4_2 (XT.ii_lt_t hc1) (by decide) rfl ?_
    exact WP.weak (L' := [.unset, .unset, .unset, .unset]) trivial (ok4_12 l Z a0 hw n0 s _ h)
  ·
    refine WP.icmpN d4_2 (XT.ii_lt_f hc1) ?_
    refine WP.iloadN d4_5 rfl ?_
    refine WP.sipush (2048 : Int32) d4_6 rfl ?_
    rcases ite_e h with ⟨hc2, h⟩ | ⟨hc2, h⟩
    ·
      refine WP.icmpN d4_9 (XT.ii_le_f hc2) ?_
      exact WP.weak (L' := [.unset, .unset, .unset, .unset]) trivial (ok4_12 l Z a0 hw n0 s _ h)
    ·
      refine WP.icmpY (pc' := 14) d4_9 (XT.ii_le_t hc2) (by decide) rfl ?_
      refine WP.iloadN d4_14 rfl ?_
      refine WP.iconst (1 : Int32) d4_15 rfl ?_
      rcases ite_e h with ⟨hc3, h⟩ | ⟨hc3, h⟩
      ·
        refine WP.icmpY (pc' := 26) d4_16 (XT.ii_lt_t hc3) (by decide) rfl ?_
        exact WP.weak (L' := [.unset, .unset, .unset, .unset]) trivial (ok4_26 l Z a0 hw n0 s _ h)
      ·
        refine WP.icmpN d4_16 (XT.ii_lt_f hc3) ?_
        refine WP.iloadN d4_19 rfl ?_
        refine WP.sipush (2048 : Int32) d4_20 rfl ?_
        rcases ite_e h with ⟨hc4, h⟩ | ⟨hc4, h⟩
        ·
          refine WP.icmpN d4_23 (XT.ii_le_f hc4) ?_
          exact WP.weak (L' := [.unset, .unset, .unset, .unset]) trivial (ok4_26 l Z a0 hw n0 s _ h)
        ·
          refine WP.icmpY (pc' := 28) d4_23 (XT.ii_le_t hc4) (by decide) rfl ?_
          refine WP.iloadN d4_28 rfl ?_
          refine WP.iconst (1 : Int32) d4_29 rfl ?_
          rcases ite_e h with ⟨hc5, h⟩ | ⟨hc5, h⟩
          ·
            refine WP.icmpY (pc' := 42) d4_30 (XT.ii_lt_t hc5) (by decide) rfl ?_
            exact WP.weak (L' := [.unset, .unset, .unset, .unset]) trivial (ok4_42 l Z a0 hw n0 s _ h)
          ·
            refine WP.icmpN d4_30 (XT.ii_lt_f hc5) ?_
            refine WP.iloadN d4_33 rfl ?_
            refine WP.iloadN d4_34 rfl ?_
            rcases ite_e h with ⟨hc6, h⟩ | ⟨hc6, h⟩
            ·
              refine WP.icmpY (pc' := 42) d4_35 (XT.ii_gt_t hc6) (by decide) rfl ?_
              exact WP.weak (L' := [.unset, .unset, .unset, .unset]) trivial (ok4_42 l Z a0 hw n0 s _ h)
            ·
              refine WP.icmpN d4_35 (XT.ii_gt_f hc6) ?_
              refine WP.iconst (1 : Int32) d4_38 rfl ?_
              refine WP.goto (pc' := 43) d4_39 (by decide) rfl ?_
              exact WP.weak (L' := [.unset, .unset, .unset, .unset]) trivial (ok4_43 l Z a0 hw n0 (1 : Int32) s _ h)
theorem d6_0 : dc prog_1_method_22_code 0 (.aload_n 0) 1 := by decide +kernel
theorem d6_1 : dc prog_1_method_22_code 1 (.getfield 85) 3 := by decide +kernel
theorem d6_4 : dc prog_1_method_22_code 4 (.ifCond .lt 12) 3 := by decide +kernel
theorem d6_7 : dc prog_1_method_22_code 7 (.aload_n 0) 1 := by decide +kernel
theorem d6_8 : dc prog_1_method_22_code 8 (.getfield 85) 3 := by decide +kernel
theorem d6_11 : dc prog_1_method_22_code 11 (.bipush 12) 2 := by decide +kernel
theorem d6_13 : dc prog_1_method_22_code 13 (.if_icmp .lt 5) 3 := by decide +kernel
theorem d6_16 : dc prog_1_method_22_code 16 (.iconst 0) 1 := by decide +kernel
theorem d6_17 : dc prog_1_method_22_code 17 (.ireturn) 1 := by decide +kernel
theorem d6_18 : dc prog_1_method_22_code 18 (.aload_n 0) 1 := by decide +kernel
theorem d6_19 : dc prog_1_method_22_code 19 (.getfield 28) 3 := by decide +kernel
theorem d6_22 : dc prog_1_method_22_code 22 (.aload_n 0) 1 := by decide +kernel
theorem d6_23 : dc prog_1_method_22_code 23 (.getfield 85) 3 := by decide +kernel
theorem d6_26 : dc prog_1_method_22_code 26 (.iload_n 1) 1 := by decide +kernel
theorem d6_27 : dc prog_1_method_22_code 27 (.iastore) 1 := by decide +kernel
theorem d6_28 : dc prog_1_method_22_code 28 (.aload_n 0) 1 := by decide +kernel
theorem d6_29 : dc prog_1_method_22_code 29 (.getfield 31) 3 := by decide +kernel
theorem d6_32 : dc prog_1_method_22_code 32 (.aload_n 0) 1 := by decide +kernel
theorem d6_33 : dc prog_1_method_22_code 33 (.getfield 85) 3 := by decide +kernel
theorem d6_36 : dc prog_1_method_22_code 36 (.iload_n 2) 1 := by decide +kernel
theorem d6_37 : dc prog_1_method_22_code 37 (.iastore) 1 := by decide +kernel
theorem d6_38 : dc prog_1_method_22_code 38 (.aload_n 0) 1 := by decide +kernel
theorem d6_39 : dc prog_1_method_22_code 39 (.getfield 34) 3 := by decide +kernel
theorem d6_42 : dc prog_1_method_22_code 42 (.aload_n 0) 1 := by decide +kernel
theorem d6_43 : dc prog_1_method_22_code 43 (.getfield 85) 3 := by decide +kernel
theorem d6_46 : dc prog_1_method_22_code 46 (.iload_n 3) 1 := by decide +kernel
theorem d6_47 : dc prog_1_method_22_code 47 (.iastore) 1 := by decide +kernel
theorem d6_48 : dc prog_1_method_22_code 48 (.aload_n 0) 1 := by decide +kernel
theorem d6_49 : dc prog_1_method_22_code 49 (.dup) 1 := by decide +kernel
theorem d6_50 : dc prog_1_method_22_code 50 (.getfield 85) 3 := by decide +kernel
theorem d6_53 : dc prog_1_method_22_code 53 (.iconst 1) 1 := by decide +kernel
theorem d6_54 : dc prog_1_method_22_code 54 (.iadd) 1 := by decide +kernel
theorem d6_55 : dc prog_1_method_22_code 55 (.putfield 85) 3 := by decide +kernel
theorem d6_58 : dc prog_1_method_22_code 58 (.iconst 1) 1 := by decide +kernel
theorem d6_59 : dc prog_1_method_22_code 59 (.ireturn) 1 := by decide +kernel
abbrev y6 : MethodName := ⟨"DemandGate", "appendWork", "(III)Z"⟩
theorem hy6 : y6.cls ≠ "java/lang/invoke/MethodHandle" ∧ y6.cls ≠ "java/lang/invoke/VarHandle" := by decide
theorem pd6 : parseMethodDescriptor y6.desc = some ⟨[.int, .int, .int], some .boolean⟩ := by decide +kernel
abbrev R6 : Room := { frames := 0, cells := 0, slots := 0, locals := 0 }
abbrev P6 (r : Int32 × St) : Option Value → List OwnC → Prop := fun v H' => v = some (.int r.1) ∧ H' = (Hb 0 r.2)
abbrev W6 (l : Launch) (Z : State) (n0 : Nat) (Q : Option Value → List OwnC → Prop) (k n pc : Nat) (L : List Slot) (S : List Value) (H : List OwnC) : Prop := WP l Z CN lay "DemandGate" "appendWork" prog_1_method_22_code 4 (some FieldType.boolean) R6 n0 0 Q k n pc L S H
def f_appendWork_16 (s : St) : Option (Int32 × St) :=
  some ((0 : Int32), s)
set_option maxRecDepth 65536 in
set_option maxHeartbeats 4000000 in
theorem ok6_16 (l : Launch) (Z : State) (a0 : Array Value) (hw : HW a0 Z) (n0 : Nat) (s : St) (r : Int32 × St) (h : f_appendWork_16 s = some r) : W6 l Z n0 (P6 r) 0 0 16 [.unset, .unset, .unset, .unset] [] (Hb 0 s) := by
  unfold f_appendWork_16 at h
  refine WP.iconst (0 : Int32) d6_16 rfl ?_
  cases h
  exact WP.zreturn d6_17 rfl (leb rfl) (leb rfl) ⟨rfl, rfl⟩
def f_appendWork (p1 : Int32) (p2 : Int32) (p3 : Int32) (s : St) : Option (Int32 × St) :=
  if (gI s 11) < 0 then
    f_appendWork_16 s
  else
    if (gI s 11) < (12 : Int32) then
      (wrA s 6 (gI s 11) p1).bind fun s3 =>
      (wrA s3 7 (gI s3 11) p2).bind fun s4 =>
      (wrA s4 8 (gI s4 11) p3).bind fun s5 =>
      lt (sI s5 11 ((gI s5 11) + (1 : Int32))) fun s6 =>
      some ((1 : Int32), s6)
    else
      f_appendWork_16 s
set_option maxRecDepth 65536 in
set_option maxHeartbeats 4000000 in
theorem ok6 (l : Launch) (Z : State) (a0 : Array Value) (hw : HW a0 Z) (p1 : Int32) (p2 : Int32) (p3 : Int32) (s : St) (r : Int32 × St) (h : f_appendWork p1 p2 p3 s = some r) : CS l Z CN lay y6 prog_1_method_22_code 4 (some FieldType.boolean) R6 0 [.ref 0, .int p1, .int p2, .int p3] (Hb 0 s) (P6 r) := by
  refine CS.of_wp pn_cls (leb rfl) fun n0 => ?_
  show W6 l Z n0 (P6 r) 0 0 0 [.val (.ref 0), .val (.int p1), .val (.int p2), .val (.int p3)] [] (Hb 0 s)
  unfold f_appendWork at h
  refine WP.aloadN d6_0 rfl ?_
  refine WP.getfield (i := 0) (j := 20) d6_1 (hw _ m_60) rfl rfl rfl ?_
  rcases ite_e h with ⟨hc1, h⟩ | ⟨hc1, h⟩
  ·
    refine WP.ifY (pc' := 16) d6_4 (XT.i0_lt_t hc1) (by decide) rfl ?_
    exact WP.weak (L' := [.unset, .unset, .unset, .unset]) trivial (ok6_16 l Z a0 hw n0 s _ h)
  ·
    refine WP.ifN d6_4 (XT.i0_lt_f hc1) ?_
    refine WP.aloadN d6_7 rfl ?_
    refine WP.getfield (i := 0) (j := 20) d6_8 (hw _ m_60) rfl rfl rfl ?_
    refine WP.bipush (12 : Int32) d6_11 rfl ?_
    rcases ite_e h with ⟨hc2, h⟩ | ⟨hc2, h⟩
    ·
      refine WP.icmpY (pc' := 18) d6_13 (XT.ii_lt_t hc2) (by decide) rfl ?_
      refine WP.aloadN d6_18 rfl ?_
      refine WP.getfield (i := 0) (j := 17) d6_19 (hw _ m_22) rfl rfl rfl ?_
      refine WP.aloadN d6_22 rfl ?_
      refine WP.getfield (i := 0) (j := 20) d6_23 (hw _ m_60) rfl rfl rfl ?_
      refine WP.iloadN d6_26 rfl ?_
      obtain ⟨s3, hs3, h⟩ := Option.bind_eq_some_iff.mp h
      obtain ⟨ys3, gs3, es3⟩ := wrA_e hs3
      refine WP.iastore (i := 7) (xs := gA s 6) (H' := (Hb 0 s3)) d6_27 rfl (leb rfl) gs3 (by subst es3; rfl) ?_
      refine WP.aloadN d6_28 rfl ?_
      refine WP.getfield (i := 0) (j := 18) d6_29 (hw _ m_24) rfl rfl rfl ?_
      refine WP.aloadN d6_32 rfl ?_
      refine WP.getfield (i := 0) (j := 20) d6_33 (hw _ m_60) rfl rfl rfl ?_
      refine WP.iloadN d6_36 rfl ?_
      obtain ⟨s4, hs4, h⟩ := Option.bind_eq_some_iff.mp h
      obtain ⟨ys4, gs4, es4⟩ := wrA_e hs4
      refine WP.iastore (i := 8) (xs := gA s3 7) (H' := (Hb 0 s4)) d6_37 rfl (leb rfl) gs4 (by subst es4; rfl) ?_
      refine WP.aloadN d6_38 rfl ?_
      refine WP.getfield (i := 0) (j := 19) d6_39 (hw _ m_26) rfl rfl rfl ?_
      refine WP.aloadN d6_42 rfl ?_
      refine WP.getfield (i := 0) (j := 20) d6_43 (hw _ m_60) rfl rfl rfl ?_
      refine WP.iloadN d6_46 rfl ?_
      obtain ⟨s5, hs5, h⟩ := Option.bind_eq_some_iff.mp h
      obtain ⟨ys5, gs5, es5⟩ := wrA_e hs5
      refine WP.iastore (i := 9) (xs := gA s4 8) (H' := (Hb 0 s5)) d6_47 rfl (leb rfl) gs5 (by subst es5; rfl) ?_
      refine WP.aloadN d6_48 rfl ?_
      refine WP.dup d6_49 rfl ?_
      refine WP.getfield (i := 0) (j := 20) d6_50 (hw _ m_60) rfl rfl rfl ?_
      refine WP.iconst (1 : Int32) d6_53 rfl ?_
      refine WP.iadd d6_54 ?_
      obtain ⟨s6, es6, h⟩ := lt_e h
      refine WP.putI (i := 0) (j := 20) (H' := (Hb 0 s6)) d6_55 (hw _ m_60) (Or.inl (hw _ m_61)) (hw _ m_1) (hlay hw) rfl rfl rfl (leb rfl) (by subst es6; rfl) ?_
      refine WP.iconst (1 : Int32) d6_58 rfl ?_
      cases h
      exact WP.zreturn d6_59 rfl (leb rfl) (leb rfl) ⟨rfl, rfl⟩
    ·
      refine WP.icmpN d6_13 (XT.ii_lt_f hc2) ?_
      exact WP.weak (L' := [.unset, .unset, .unset, .unset]) trivial (ok6_16 l Z a0 hw n0 s _ h)
theorem d5_0 : dc prog_1_method_20_code 0 (.aload_n 0) 1 := by decide +kernel
theorem d5_1 : dc prog_1_method_20_code 1 (.iconst 0) 1 := by decide +kernel
theorem d5_2 : dc prog_1_method_20_code 2 (.putfield 85) 3 := by decide +kernel
theorem d5_5 : dc prog_1_method_20_code 5 (.iconst 0) 1 := by decide +kernel
theorem d5_6 : dc prog_1_method_20_code 6 (.istore_n 1) 1 := by decide +kernel
theorem d5_7 : dc prog_1_method_20_code 7 (.iload_n 1) 1 := by decide +kernel
theorem d5_8 : dc prog_1_method_20_code 8 (.aload_n 0) 1 := by decide +kernel
theorem d5_9 : dc prog_1_method_20_code 9 (.getfield 57) 3 := by decide +kernel
theorem d5_12 : dc prog_1_method_20_code 12 (.if_icmp .ge 38) 3 := by decide +kernel
theorem d5_15 : dc prog_1_method_20_code 15 (.iload_n 1) 1 := by decide +kernel
theorem d5_16 : dc prog_1_method_20_code 16 (.bipush 12) 2 := by decide +kernel
theorem d5_18 : dc prog_1_method_20_code 18 (.if_icmp .ge 32) 3 := by decide +kernel
theorem d5_21 : dc prog_1_method_20_code 21 (.aload_n 0) 1 := by decide +kernel
theorem d5_22 : dc prog_1_method_20_code 22 (.aload_n 0) 1 := by decide +kernel
theorem d5_23 : dc prog_1_method_20_code 23 (.getfield 7) 3 := by decide +kernel
theorem d5_26 : dc prog_1_method_20_code 26 (.iload_n 1) 1 := by decide +kernel
theorem d5_27 : dc prog_1_method_20_code 27 (.iaload) 1 := by decide +kernel
theorem d5_28 : dc prog_1_method_20_code 28 (.aload_n 0) 1 := by decide +kernel
theorem d5_29 : dc prog_1_method_20_code 29 (.getfield 13) 3 := by decide +kernel
theorem d5_32 : dc prog_1_method_20_code 32 (.iload_n 1) 1 := by decide +kernel
theorem d5_33 : dc prog_1_method_20_code 33 (.iaload) 1 := by decide +kernel
theorem d5_34 : dc prog_1_method_20_code 34 (.aload_n 0) 1 := by decide +kernel
theorem d5_35 : dc prog_1_method_20_code 35 (.getfield 16) 3 := by decide +kernel
theorem d5_38 : dc prog_1_method_20_code 38 (.iload_n 1) 1 := by decide +kernel
theorem d5_39 : dc prog_1_method_20_code 39 (.iaload) 1 := by decide +kernel
theorem d5_40 : dc prog_1_method_20_code 40 (.invokevirtual 95) 3 := by decide +kernel
theorem d5_43 : dc prog_1_method_20_code 43 (.pop) 1 := by decide +kernel
theorem d5_44 : dc prog_1_method_20_code 44 (.iinc 1 1) 3 := by decide +kernel
theorem d5_47 : dc prog_1_method_20_code 47 (.goto (-40)) 3 := by decide +kernel
theorem d5_50 : dc prog_1_method_20_code 50 (.return_) 1 := by decide +kernel
abbrev y5 : MethodName := ⟨"DemandGate", "loadAdmitted", "()V"⟩
theorem hy5 : y5.cls ≠ "java/lang/invoke/MethodHandle" ∧ y5.cls ≠ "java/lang/invoke/VarHandle" := by decide
theorem pd5 : parseMethodDescriptor y5.desc = some ⟨[], none⟩ := by decide +kernel
abbrev R5 : Room := { frames := 1, cells := 0, slots := 0, locals := 15 }
abbrev P5 (r : St) : Option Value → List OwnC → Prop := fun v H' => v = none ∧ H' = (Hb 0 r)
abbrev W5 (l : Launch) (Z : State) (n0 : Nat) (Q : Option Value → List OwnC → Prop) (k n pc : Nat) (L : List Slot) (S : List Value) (H : List OwnC) : Prop := WP l Z CN lay "DemandGate" "loadAdmitted" prog_1_method_20_code 2 (none) R5 n0 0 Q k n pc L S H
def f_loadAdmitted_50 (n : Nat) (s : St) : Option (St) :=
  some s
set_option maxRecDepth 65536 in
set_option maxHeartbeats 4000000 in
theorem ok5_50 (l : Launch) (Z : State) (a0 : Array Value) (hw : HW a0 Z) (n0 : Nat) (n : Nat) (s : St) (r : St) (h : f_loadAdmitted_50 n s = some r) : W5 l Z n0 (P5 r) 0 0 50 [.unset, .unset] [] (Hb 0 s) := by
  unfold f_loadAdmitted_50 at h
  cases h
  exact WP.vreturn d5_50 rfl (leb rfl) (leb rfl) ⟨rfl, rfl⟩
def g_loadAdmitted_7 (k7 : Int32 → St → Option (St)) (n : Nat) (v1 : Int32) (s : St) : Option (St) :=
  if v1 < (gI s 2) then
    if v1 < (12 : Int32) then
      (rd (gA s 0) v1).bind fun x3 =>
      (rd (gA s 1) v1).bind fun x4 =>
      (rd (gA s 2) v1).bind fun x5 =>
      (f_appendWork x3 x4 x5 s).bind fun c6 =>
      lt (v1 + (1 : Int32)) fun x7 =>
      k7 x7 c6.2
    else
      f_loadAdmitted_50 n s
  else
    f_loadAdmitted_50 n s
set_option maxRecDepth 65536 in
set_option maxHeartbeats 4000000 in
theorem okg5_7 (l : Launch) (Z : State) (a0 : Array Value) (hw : HW a0 Z) (n0 : Nat) (k7 : Int32 → St → Option (St)) (hk7 : ∀ (v1 : Int32) (s : St) (r : St), k7 v1 s = some r → W5 l Z n0 (P5 r) 0 0 7 [.val (.ref 0), .val (.int v1)] [] (Hb 0 s)) (n : Nat) (v1 : Int32) (s : St) (r : St) (h : g_loadAdmitted_7 k7 n v1 s = some r) : W5 l Z n0 (P5 r) 0 0 7 [.val (.ref 0), .val (.int v1)] [] (Hb 0 s) := by
  unfold g_loadAdmitted_7 at h
  refine WP.iloadN d5_7 rfl ?_
  refine WP.aloadN d5_8 rfl ?_
  refine WP.getfield (i := 0) (j := 5) d5_9 (hw _ m_42) rfl rfl rfl ?_
  rcases ite_e h with ⟨hc1, h⟩ | ⟨hc1, h⟩
  ·
    refine WP.icmpN d5_12 (XT.ii_ge_f hc1) ?_
    refine WP.iloadN d5_15 rfl ?_
    refine WP.bipush (12 : Int32) d5_16 rfl ?_
    rcases ite_e h with ⟨hc2, h⟩ | ⟨hc2, h⟩
    ·
      refine WP.icmpN d5_18 (XT.ii_ge_f hc2) ?_
      refine WP.aloadN d5_21 rfl ?_
      refine WP.aloadN d5_22 rfl ?_
      refine WP.getfield (i := 0) (j := 2) d5_23 (hw _ m_10) rfl rfl rfl ?_
      refine WP.iloadN d5_26 rfl ?_
      obtain ⟨x3, hx3, h⟩ := Option.bind_eq_some_iff.mp h
      refine WP.iaload (i := 1) d5_27 rfl hx3 ?_
      refine WP.aloadN d5_28 rfl ?_
      refine WP.getfield (i := 0) (j := 3) d5_29 (hw _ m_12) rfl rfl rfl ?_
      refine WP.iloadN d5_32 rfl ?_
      obtain ⟨x4, hx4, h⟩ := Option.bind_eq_some_iff.mp h
      refine WP.iaload (i := 2) d5_33 rfl hx4 ?_
      refine WP.aloadN d5_34 rfl ?_
      refine WP.getfield (i := 0) (j := 4) d5_35 (hw _ m_14) rfl rfl rfl ?_
      refine WP.iloadN d5_38 rfl ?_
      obtain ⟨x5, hx5, h⟩ := Option.bind_eq_some_iff.mp h
      refine WP.iaload (i := 3) d5_39 rfl hx5 ?_
      obtain ⟨c6, hc6, h⟩ := Option.bind_eq_some_iff.mp h
      refine WP.callP (i := 0) (y := y6) (as := [.int x3, .int x4, .int x5]) (S := []) d5_40 (hw _ m_80) (hw _ m_82) (hw _ m_1) (hw _ m_81) (hw _ m_83) (hw _ m_2) hy6 rfl (ok6 l Z a0 hw x3 x4 x5 s _ hc6) rfl (lenOf pd6 rfl) (leb rfl) (leb rfl) (leb rfl) (leb rfl) ?_
      rintro _ _ ⟨rfl, rfl⟩
      show W5 l Z n0 (P5 r) 0 0 43 [.val (.ref 0), .val (.int v1)] [.int c6.1] (Hb 0 c6.2)
      refine WP.pop d5_43 rfl ?_
      obtain ⟨x7, ex7, h⟩ := lt_e h
      refine WP.iinc (L' := [.val (.ref 0), .val (.int x7)]) (1 : Int32) d5_44 rfl rfl (by subst ex7; rfl) ?_
      refine WP.goto (pc' := 7) d5_47 (by decide) rfl ?_
      exact WP.weak (L' := [.val (.ref 0), .val (.int x7)]) ⟨rfl, rfl, trivial⟩ (hk7 x7 c6.2 _ h)
    ·
      refine WP.icmpY (pc' := 50) d5_18 (XT.ii_ge_t hc2) (by decide) rfl ?_
      exact WP.weak (L' := [.unset, .unset]) trivial (ok5_50 l Z a0 hw n0 n s _ h)
  ·
    refine WP.icmpY (pc' := 50) d5_12 (XT.ii_ge_t hc1) (by decide) rfl ?_
    exact WP.weak (L' := [.unset, .unset]) trivial (ok5_50 l Z a0 hw n0 n s _ h)
def f_loadAdmitted_7 : Nat → Int32 → St → Option (St)
  | 0 => fun _ _ => none
  | n + 1 => g_loadAdmitted_7 (f_loadAdmitted_7 n) n
theorem ok5_7 (l : Launch) (Z : State) (a0 : Array Value) (hw : HW a0 Z) (n0 : Nat) : ∀ (n : Nat) (v1 : Int32) (s : St) (r : St), f_loadAdmitted_7 n v1 s = some r → W5 l Z n0 (P5 r) 0 0 7 [.val (.ref 0), .val (.int v1)] [] (Hb 0 s)
  | 0, v1, s, r, h => nomatch (show none = some r from h)
  | n + 1, v1, s, r, h => okg5_7 l Z a0 hw n0 _ (ok5_7 l Z a0 hw n0 n) n v1 s r h
def f_loadAdmitted (n : Nat) (s : St) : Option (St) :=
  lt (sI s 11 (0 : Int32)) fun s1 =>
  f_loadAdmitted_7 n (0 : Int32) s1
set_option maxRecDepth 65536 in
set_option maxHeartbeats 4000000 in
theorem ok5 (l : Launch) (Z : State) (a0 : Array Value) (hw : HW a0 Z) (n : Nat) (s : St) (r : St) (h : f_loadAdmitted n s = some r) : CS l Z CN lay y5 prog_1_method_20_code 2 (none) R5 0 [.ref 0] (Hb 0 s) (P5 r) := by
  refine CS.of_wp pn_cls (leb rfl) fun n0 => ?_
  show W5 l Z n0 (P5 r) 0 0 0 [.val (.ref 0), .unset] [] (Hb 0 s)
  unfold f_loadAdmitted at h
  refine WP.aloadN d5_0 rfl ?_
  refine WP.iconst (0 : Int32) d5_1 rfl ?_
  obtain ⟨s1, es1, h⟩ := lt_e h
  refine WP.putI (i := 0) (j := 20) (H' := (Hb 0 s1)) d5_2 (hw _ m_60) (Or.inl (hw _ m_61)) (hw _ m_1) (hlay hw) rfl rfl rfl (leb rfl) (by subst es1; rfl) ?_
  refine WP.iconst (0 : Int32) d5_5 rfl ?_
  refine WP.istoreN (L' := [.val (.ref 0), .val (.int (0 : Int32))]) d5_6 (leb rfl) rfl ?_
  exact WP.weak (L' := [.val (.ref 0), .val (.int (0 : Int32))]) ⟨rfl, rfl, trivial⟩ (ok5_7 l Z a0 hw n0 n (0 : Int32) s1 _ h)
theorem d9_0 : dc prog_1_method_25_code 0 (.lload_n 1) 1 := by decide +kernel
theorem d9_1 : dc prog_1_method_25_code 1 (.lstore 5) 2 := by decide +kernel
theorem d9_3 : dc prog_1_method_25_code 3 (.lload_n 3) 1 := by decide +kernel
theorem d9_4 : dc prog_1_method_25_code 4 (.lstore 7) 2 := by decide +kernel
theorem d9_6 : dc prog_1_method_25_code 6 (.iconst 0) 1 := by decide +kernel
theorem d9_7 : dc prog_1_method_25_code 7 (.istore 9) 2 := by decide +kernel
theorem d9_9 : dc prog_1_method_25_code 9 (.iload 9) 2 := by decide +kernel
theorem d9_11 : dc prog_1_method_25_code 11 (.sipush 128) 3 := by decide +kernel
theorem d9_14 : dc prog_1_method_25_code 14 (.if_icmp .ge 31) 3 := by decide +kernel
theorem d9_17 : dc prog_1_method_25_code 17 (.lload 7) 2 := by decide +kernel
theorem d9_19 : dc prog_1_method_25_code 19 (.lconst 0) 1 := by decide +kernel
theorem d9_20 : dc prog_1_method_25_code 20 (.lcmp) 1 := by decide +kernel
theorem d9_21 : dc prog_1_method_25_code 21 (.ifCond .eq 24) 3 := by decide +kernel
theorem d9_24 : dc prog_1_method_25_code 24 (.lload 5) 2 := by decide +kernel
theorem d9_26 : dc prog_1_method_25_code 26 (.lload 7) 2 := by decide +kernel
theorem d9_28 : dc prog_1_method_25_code 28 (.lrem) 1 := by decide +kernel
theorem d9_29 : dc prog_1_method_25_code 29 (.lstore 10) 2 := by decide +kernel
theorem d9_31 : dc prog_1_method_25_code 31 (.lload 7) 2 := by decide +kernel
theorem d9_33 : dc prog_1_method_25_code 33 (.lstore 5) 2 := by decide +kernel
theorem d9_35 : dc prog_1_method_25_code 35 (.lload 10) 2 := by decide +kernel
theorem d9_37 : dc prog_1_method_25_code 37 (.lstore 7) 2 := by decide +kernel
theorem d9_39 : dc prog_1_method_25_code 39 (.iinc 9 1) 3 := by decide +kernel
theorem d9_42 : dc prog_1_method_25_code 42 (.goto (-33)) 3 := by decide +kernel
theorem d9_45 : dc prog_1_method_25_code 45 (.lload 5) 2 := by decide +kernel
theorem d9_47 : dc prog_1_method_25_code 47 (.lreturn) 1 := by decide +kernel
abbrev y9 : MethodName := ⟨"DemandGate", "gcd", "(JJ)J"⟩
theorem hy9 : y9.cls ≠ "java/lang/invoke/MethodHandle" ∧ y9.cls ≠ "java/lang/invoke/VarHandle" := by decide
theorem pd9 : parseMethodDescriptor y9.desc = some ⟨[.long, .long], some .long⟩ := by decide +kernel
abbrev R9 : Room := { frames := 0, cells := 0, slots := 0, locals := 0 }
abbrev P9 (s : St) (r : Int64) : Option Value → List OwnC → Prop := fun v H' => v = some (.long r) ∧ H' = (Hb 0 s)
abbrev W9 (l : Launch) (Z : State) (n0 : Nat) (Q : Option Value → List OwnC → Prop) (k n pc : Nat) (L : List Slot) (S : List Value) (H : List OwnC) : Prop := WP l Z CN lay "DemandGate" "gcd" prog_1_method_25_code 12 (some FieldType.long) R9 n0 0 Q k n pc L S H
def f_gcd_45 (n : Nat) (v5 : Int64) (s : St) : Option (Int64) :=
  some v5
set_option maxRecDepth 65536 in
set_option maxHeartbeats 4000000 in
theorem ok9_45 (l : Launch) (Z : State) (a0 : Array Value) (hw : HW a0 Z) (n0 : Nat) (n : Nat) (v5 : Int64) (s : St) (r : Int64) (h : f_gcd_45 n v5 s = some r) : W9 l Z n0 (P9 s r) 0 0 45 [.unset, .unset, .unset, .unset, .unset, .val (.long v5), .second, .unset, .unset, .unset, .unset, .unset] [] (Hb 0 s) := by
  unfold f_gcd_45 at h
  refine WP.lload d9_45 rfl ?_
  cases h
  exact WP.lreturn d9_47 rfl (leb rfl) (leb rfl) ⟨rfl, rfl⟩
def g_gcd_9 (k9 : Int64 → Int64 → Int32 → St → Option (Int64)) (n : Nat) (v5 : Int64) (v7 : Int64) (v9 : Int32) (s : St) : Option (Int64) :=
  if v9 < (128 : Int32) then
    if v7 = (0 : Int64) then
      f_gcd_45 n v5 s
    else
      if v7 = 0 then none else
      lt (v5 % v7) fun x4 =>
      lt (v9 + (1 : Int32)) fun x5 =>
      k9 v7 x4 x5 s
  else
    f_gcd_45 n v5 s
set_option maxRecDepth 65536 in
set_option maxHeartbeats 4000000 in
theorem okg9_9 (l : Launch) (Z : State) (a0 : Array Value) (hw : HW a0 Z) (n0 : Nat) (k9 : Int64 → Int64 → Int32 → St → Option (Int64)) (hk9 : ∀ (v5 : Int64) (v7 : Int64) (v9 : Int32) (s : St) (r : Int64), k9 v5 v7 v9 s = some r → W9 l Z n0 (P9 s r) 0 0 9 [.unset, .unset, .unset, .unset, .unset, .val (.long v5), .second, .val (.long v7), .second, .val (.int v9), .unset, .unset] [] (Hb 0 s)) (n : Nat) (v5 : Int64) (v7 : Int64) (v9 : Int32) (s : St) (r : Int64) (h : g_gcd_9 k9 n v5 v7 v9 s = some r) : W9 l Z n0 (P9 s r) 0 0 9 [.unset, .unset, .unset, .unset, .unset, .val (.long v5), .second, .val (.long v7), .second, .val (.int v9), .unset, .unset] [] (Hb 0 s) := by
  unfold g_gcd_9 at h
  refine WP.iload d9_9 rfl ?_
  refine WP.sipush (128 : Int32) d9_11 rfl ?_
  rcases ite_e h with ⟨hc1, h⟩ | ⟨hc1, h⟩
  ·
    refine WP.icmpN d9_14 (XT.ii_ge_f hc1) ?_
    refine WP.lload d9_17 rfl ?_
    refine WP.lconst (0 : Int64) d9_19 rfl ?_
    refine WP.lcmp d9_20 ?_
    rcases ite_e h with ⟨hc2, h⟩ | ⟨hc2, h⟩
    ·
      refine WP.ifY (pc' := 45) d9_21 (XT.ll_eq_t hc2) (by decide) rfl ?_
      exact WP.weak (L' := [.unset, .unset, .unset, .unset, .unset, .val (.long v5), .second, .unset, .unset, .unset, .unset, .unset]) ⟨rfl, rfl, trivial⟩ (ok9_45 l Z a0 hw n0 n v5 s _ h)
    ·
      refine WP.ifN d9_21 (XT.ll_eq_f hc2) ?_
      refine WP.lload d9_24 rfl ?_
      refine WP.lload d9_26 rfl ?_
      obtain ⟨hz3, h⟩ := nz_e h
      refine WP.lrem d9_28 hz3 ?_
      obtain ⟨x4, ex4, h⟩ := lt_e h
      refine WP.lstore (L' := [.unset, .unset, .unset, .unset, .unset, .val (.long v5), .second, .val (.long v7), .second, .val (.int v9), .val (.long x4), .second]) d9_29 (leb rfl) (by subst ex4; rfl) ?_
      refine WP.lload d9_31 rfl ?_
      refine WP.lstore (L' := [.unset, .unset, .unset, .unset, .unset, .val (.long v7), .second, .val (.long v7), .second, .val (.int v9), .val (.long x4), .second]) d9_33 (leb rfl) rfl ?_
      refine WP.lload d9_35 rfl ?_
      refine WP.lstore (L' := [.unset, .unset, .unset, .unset, .unset, .val (.long v7), .second, .val (.long x4), .second, .val (.int v9), .val (.long x4), .second]) d9_37 (leb rfl) rfl ?_
      obtain ⟨x5, ex5, h⟩ := lt_e h
      refine WP.iinc (L' := [.unset, .unset, .unset, .unset, .unset, .val (.long v7), .second, .val (.long x4), .second, .val (.int x5), .val (.long x4), .second]) (1 : Int32) d9_39 rfl rfl (by subst ex5; rfl) ?_
      refine WP.goto (pc' := 9) d9_42 (by decide) rfl ?_
      exact WP.weak (L' := [.unset, .unset, .unset, .unset, .unset, .val (.long v7), .second, .val (.long x4), .second, .val (.int x5), .unset, .unset]) ⟨rfl, rfl, rfl, rfl, rfl, trivial⟩ (hk9 v7 x4 x5 s _ h)
  ·
    refine WP.icmpY (pc' := 45) d9_14 (XT.ii_ge_t hc1) (by decide) rfl ?_
    exact WP.weak (L' := [.unset, .unset, .unset, .unset, .unset, .val (.long v5), .second, .unset, .unset, .unset, .unset, .unset]) ⟨rfl, rfl, trivial⟩ (ok9_45 l Z a0 hw n0 n v5 s _ h)
def f_gcd_9 : Nat → Int64 → Int64 → Int32 → St → Option (Int64)
  | 0 => fun _ _ _ _ => none
  | n + 1 => g_gcd_9 (f_gcd_9 n) n
theorem ok9_9 (l : Launch) (Z : State) (a0 : Array Value) (hw : HW a0 Z) (n0 : Nat) : ∀ (n : Nat) (v5 : Int64) (v7 : Int64) (v9 : Int32) (s : St) (r : Int64), f_gcd_9 n v5 v7 v9 s = some r → W9 l Z n0 (P9 s r) 0 0 9 [.unset, .unset, .unset, .unset, .unset, .val (.long v5), .second, .val (.long v7), .second, .val (.int v9), .unset, .unset] [] (Hb 0 s)
  | 0, v5, v7, v9, s, r, h => nomatch (show none = some r from h)
  | n + 1, v5, v7, v9, s, r, h => okg9_9 l Z a0 hw n0 _ (ok9_9 l Z a0 hw n0 n) n v5 v7 v9 s r h
def f_gcd (n : Nat) (p1 : Int64) (p2 : Int64) (s : St) : Option (Int64) :=
  f_gcd_9 n p1 p2 (0 : Int32) s
set_option maxRecDepth 65536 in
set_option maxHeartbeats 4000000 in
theorem ok9 (l : Launch) (Z : State) (a0 : Array Value) (hw : HW a0 Z) (n : Nat) (p1 : Int64) (p2 : Int64) (s : St) (r : Int64) (h : f_gcd n p1 p2 s = some r) : CS l Z CN lay y9 prog_1_method_25_code 12 (some FieldType.long) R9 0 [.ref 0, .long p1, .long p2] (Hb 0 s) (P9 s r) := by
  refine CS.of_wp pn_cls (leb rfl) fun n0 => ?_
  show W9 l Z n0 (P9 s r) 0 0 0 [.val (.ref 0), .val (.long p1), .second, .val (.long p2), .second, .unset, .unset, .unset, .unset, .unset, .unset, .unset] [] (Hb 0 s)
  unfold f_gcd at h
  refine WP.lloadN d9_0 rfl ?_
  refine WP.lstore (L' := [.val (.ref 0), .val (.long p1), .second, .val (.long p2), .second, .val (.long p1), .second, .unset, .unset, .unset, .unset, .unset]) d9_1 (leb rfl) rfl ?_
  refine WP.lloadN d9_3 rfl ?_
  refine WP.lstore (L' := [.val (.ref 0), .val (.long p1), .second, .val (.long p2), .second, .val (.long p1), .second, .val (.long p2), .second, .unset, .unset, .unset]) d9_4 (leb rfl) rfl ?_
  refine WP.iconst (0 : Int32) d9_6 rfl ?_
  refine WP.istore (L' := [.val (.ref 0), .val (.long p1), .second, .val (.long p2), .second, .val (.long p1), .second, .val (.long p2), .second, .val (.int (0 : Int32)), .unset, .unset]) d9_7 (leb rfl) rfl ?_
  exact WP.weak (L' := [.unset, .unset, .unset, .unset, .unset, .val (.long p1), .second, .val (.long p2), .second, .val (.int (0 : Int32)), .unset, .unset]) ⟨rfl, rfl, rfl, rfl, rfl, trivial⟩ (ok9_9 l Z a0 hw n0 n p1 p2 (0 : Int32) s _ h)
theorem d8_0 : dc prog_1_method_26_code 0 (.aload_n 0) 1 := by decide +kernel
theorem d8_1 : dc prog_1_method_26_code 1 (.lload_n 1) 1 := by decide +kernel
theorem d8_2 : dc prog_1_method_26_code 2 (.lload_n 3) 1 := by decide +kernel
theorem d8_3 : dc prog_1_method_26_code 3 (.invokevirtual 122) 3 := by decide +kernel
theorem d8_6 : dc prog_1_method_26_code 6 (.lstore 5) 2 := by decide +kernel
theorem d8_8 : dc prog_1_method_26_code 8 (.lload 5) 2 := by decide +kernel
theorem d8_10 : dc prog_1_method_26_code 10 (.lconst 1) 1 := by decide +kernel
theorem d8_11 : dc prog_1_method_26_code 11 (.lcmp) 1 := by decide +kernel
theorem d8_12 : dc prog_1_method_26_code 12 (.ifCond .ge 6) 3 := by decide +kernel
theorem d8_15 : dc prog_1_method_26_code 15 (.lconst 1) 1 := by decide +kernel
theorem d8_16 : dc prog_1_method_26_code 16 (.lstore 5) 2 := by decide +kernel
theorem d8_18 : dc prog_1_method_26_code 18 (.lload_n 1) 1 := by decide +kernel
theorem d8_19 : dc prog_1_method_26_code 19 (.lload 5) 2 := by decide +kernel
theorem d8_21 : dc prog_1_method_26_code 21 (.ldiv) 1 := by decide +kernel
theorem d8_22 : dc prog_1_method_26_code 22 (.lload_n 3) 1 := by decide +kernel
theorem d8_23 : dc prog_1_method_26_code 23 (.lmul) 1 := by decide +kernel
theorem d8_24 : dc prog_1_method_26_code 24 (.lreturn) 1 := by decide +kernel
abbrev y8 : MethodName := ⟨"DemandGate", "lcm", "(JJ)J"⟩
theorem hy8 : y8.cls ≠ "java/lang/invoke/MethodHandle" ∧ y8.cls ≠ "java/lang/invoke/VarHandle" := by decide
theorem pd8 : parseMethodDescriptor y8.desc = some ⟨[.long, .long], some .long⟩ := by decide +kernel
abbrev R8 : Room := { frames := 1, cells := 0, slots := 0, locals := 23 }
abbrev P8 (s : St) (r : Int64) : Option Value → List OwnC → Prop := fun v H' => v = some (.long r) ∧ H' = (Hb 0 s)
abbrev W8 (l : Launch) (Z : State) (n0 : Nat) (Q : Option Value → List OwnC → Prop) (k n pc : Nat) (L : List Slot) (S : List Value) (H : List OwnC) : Prop := WP l Z CN lay "DemandGate" "lcm" prog_1_method_26_code 7 (some FieldType.long) R8 n0 0 Q k n pc L S H
def f_lcm_18 (n : Nat) (v1 : Int64) (v3 : Int64) (v5 : Int64) (s : St) : Option (Int64) :=
  if v5 = 0 then none else
  some ((v1 / v5) * v3)
set_option maxRecDepth 65536 in
set_option maxHeartbeats 4000000 in
theorem ok8_18 (l : Launch) (Z : State) (a0 : Array Value) (hw : HW a0 Z) (n0 : Nat) (n : Nat) (v1 : Int64) (v3 : Int64) (v5 : Int64) (s : St) (r : Int64) (h : f_lcm_18 n v1 v3 v5 s = some r) : W8 l Z n0 (P8 s r) 0 0 18 [.unset, .val (.long v1), .second, .val (.long v3), .second, .val (.long v5), .second] [] (Hb 0 s) := by
  unfold f_lcm_18 at h
  refine WP.lloadN d8_18 rfl ?_
  refine WP.lload d8_19 rfl ?_
  obtain ⟨hz1, h⟩ := nz_e h
  refine WP.ldiv d8_21 hz1 ?_
  refine WP.lloadN d8_22 rfl ?_
  refine WP.lmul d8_23 ?_
  cases h
  exact WP.lreturn d8_24 rfl (leb rfl) (leb rfl) ⟨rfl, rfl⟩
def f_lcm (n : Nat) (p1 : Int64) (p2 : Int64) (s : St) : Option (Int64) :=
  (f_gcd n p1 p2 s).bind fun c1 =>
  if c1 < (1 : Int64) then
    f_lcm_18 n p1 p2 (1 : Int64) s
  else
    f_lcm_18 n p1 p2 c1 s
set_option maxRecDepth 65536 in
set_option maxHeartbeats 4000000 in
theorem ok8 (l : Launch) (Z : State) (a0 : Array Value) (hw : HW a0 Z) (n : Nat) (p1 : Int64) (p2 : Int64) (s : St) (r : Int64) (h : f_lcm n p1 p2 s = some r) : CS l Z CN lay y8 prog_1_method_26_code 7 (some FieldType.long) R8 0 [.ref 0, .long p1, .long p2] (Hb 0 s) (P8 s r) := by
  refine CS.of_wp pn_cls (leb rfl) fun n0 => ?_
  show W8 l Z n0 (P8 s r) 0 0 0 [.val (.ref 0), .val (.long p1), .second, .val (.long p2), .second, .unset, .unset] [] (Hb 0 s)
  unfold f_lcm at h
  refine WP.aloadN d8_0 rfl ?_
  refine WP.lloadN d8_1 rfl ?_
  refine WP.lloadN d8_2 rfl ?_
  obtain ⟨c1, hc1, h⟩ := Option.bind_eq_some_iff.mp h
  refine WP.callP (i := 0) (y := y9) (as := [.long p1, .long p2]) (S := []) d8_3 (hw _ m_92) (hw _ m_94) (hw _ m_1) (hw _ m_93) (hw _ m_95) (hw _ m_2) hy9 rfl (ok9 l Z a0 hw n p1 p2 s _ hc1) rfl (lenOf pd9 rfl) (leb rfl) (leb rfl) (leb rfl) (leb rfl) ?_
  rintro _ _ ⟨rfl, rfl⟩
  show W8 l Z n0 (P8 s r) 0 0 6 [.val (.ref 0), .val (.long p1), .second, .val (.long p2), .second, .unset, .unset] [.long c1] (Hb 0 s)
  refine WP.lstore (L' := [.val (.ref 0), .val (.long p1), .second, .val (.long p2), .second, .val (.long c1), .second]) d8_6 (leb rfl) rfl ?_
  refine WP.lload d8_8 rfl ?_
  refine WP.lconst (1 : Int64) d8_10 rfl ?_
  refine WP.lcmp d8_11 ?_
  rcases ite_e h with ⟨hc2, h⟩ | ⟨hc2, h⟩
  ·
    refine WP.ifN d8_12 (XT.ll_ge_f hc2) ?_
    refine WP.lconst (1 : Int64) d8_15 rfl ?_
    refine WP.lstore (L' := [.val (.ref 0), .val (.long p1), .second, .val (.long p2), .second, .val (.long (1 : Int64)), .second]) d8_16 (leb rfl) rfl ?_
    exact WP.weak (L' := [.unset, .val (.long p1), .second, .val (.long p2), .second, .val (.long (1 : Int64)), .second]) ⟨rfl, rfl, rfl, rfl, rfl, rfl, trivial⟩ (ok8_18 l Z a0 hw n0 n p1 p2 (1 : Int64) s _ h)
  ·
    refine WP.ifY (pc' := 18) d8_12 (XT.ll_ge_t hc2) (by decide) rfl ?_
    exact WP.weak (L' := [.unset, .val (.long p1), .second, .val (.long p2), .second, .val (.long c1), .second]) ⟨rfl, rfl, rfl, rfl, rfl, rfl, trivial⟩ (ok8_18 l Z a0 hw n0 n p1 p2 c1 s _ h)
theorem d7_0 : dc prog_1_method_27_code 0 (.lconst 1) 1 := by decide +kernel
theorem d7_1 : dc prog_1_method_27_code 1 (.lstore_n 2) 1 := by decide +kernel
theorem d7_2 : dc prog_1_method_27_code 2 (.iconst 0) 1 := by decide +kernel
theorem d7_3 : dc prog_1_method_27_code 3 (.istore 4) 2 := by decide +kernel
theorem d7_5 : dc prog_1_method_27_code 5 (.iload 4) 2 := by decide +kernel
theorem d7_7 : dc prog_1_method_27_code 7 (.aload_n 0) 1 := by decide +kernel
theorem d7_8 : dc prog_1_method_27_code 8 (.getfield 85) 3 := by decide +kernel
theorem d7_11 : dc prog_1_method_27_code 11 (.if_icmp .ge 49) 3 := by decide +kernel
theorem d7_14 : dc prog_1_method_27_code 14 (.aload_n 0) 1 := by decide +kernel
theorem d7_15 : dc prog_1_method_27_code 15 (.getfield 34) 3 := by decide +kernel
theorem d7_18 : dc prog_1_method_27_code 18 (.iload 4) 2 := by decide +kernel
theorem d7_20 : dc prog_1_method_27_code 20 (.iaload) 1 := by decide +kernel
theorem d7_21 : dc prog_1_method_27_code 21 (.iconst 1) 1 := by decide +kernel
theorem d7_22 : dc prog_1_method_27_code 22 (.if_icmp .ge 7) 3 := by decide +kernel
theorem d7_25 : dc prog_1_method_27_code 25 (.iload_n 1) 1 := by decide +kernel
theorem d7_26 : dc prog_1_method_27_code 26 (.iconst 1) 1 := by decide +kernel
theorem d7_27 : dc prog_1_method_27_code 27 (.iadd) 1 := by decide +kernel
theorem d7_28 : dc prog_1_method_27_code 28 (.ireturn) 1 := by decide +kernel
theorem d7_29 : dc prog_1_method_27_code 29 (.aload_n 0) 1 := by decide +kernel
theorem d7_30 : dc prog_1_method_27_code 30 (.lload_n 2) 1 := by decide +kernel
theorem d7_31 : dc prog_1_method_27_code 31 (.aload_n 0) 1 := by decide +kernel
theorem d7_32 : dc prog_1_method_27_code 32 (.getfield 34) 3 := by decide +kernel
theorem d7_35 : dc prog_1_method_27_code 35 (.iload 4) 2 := by decide +kernel
theorem d7_37 : dc prog_1_method_27_code 37 (.iaload) 1 := by decide +kernel
theorem d7_38 : dc prog_1_method_27_code 38 (.i2l) 1 := by decide +kernel
theorem d7_39 : dc prog_1_method_27_code 39 (.invokevirtual 126) 3 := by decide +kernel
theorem d7_42 : dc prog_1_method_27_code 42 (.lstore_n 2) 1 := by decide +kernel
theorem d7_43 : dc prog_1_method_27_code 43 (.lload_n 2) 1 := by decide +kernel
theorem d7_44 : dc prog_1_method_27_code 44 (.iload_n 1) 1 := by decide +kernel
theorem d7_45 : dc prog_1_method_27_code 45 (.i2l) 1 := by decide +kernel
theorem d7_46 : dc prog_1_method_27_code 46 (.lcmp) 1 := by decide +kernel
theorem d7_47 : dc prog_1_method_27_code 47 (.ifCond .le 7) 3 := by decide +kernel
theorem d7_50 : dc prog_1_method_27_code 50 (.iload_n 1) 1 := by decide +kernel
theorem d7_51 : dc prog_1_method_27_code 51 (.iconst 1) 1 := by decide +kernel
theorem d7_52 : dc prog_1_method_27_code 52 (.iadd) 1 := by decide +kernel
theorem d7_53 : dc prog_1_method_27_code 53 (.ireturn) 1 := by decide +kernel
theorem d7_54 : dc prog_1_method_27_code 54 (.iinc 4 1) 3 := by decide +kernel
theorem d7_57 : dc prog_1_method_27_code 57 (.goto (-52)) 3 := by decide +kernel
theorem d7_60 : dc prog_1_method_27_code 60 (.lload_n 2) 1 := by decide +kernel
theorem d7_61 : dc prog_1_method_27_code 61 (.l2i) 1 := by decide +kernel
theorem d7_62 : dc prog_1_method_27_code 62 (.ireturn) 1 := by decide +kernel
abbrev y7 : MethodName := ⟨"DemandGate", "workHyper", "(I)I"⟩
theorem hy7 : y7.cls ≠ "java/lang/invoke/MethodHandle" ∧ y7.cls ≠ "java/lang/invoke/VarHandle" := by decide
theorem pd7 : parseMethodDescriptor y7.desc = some ⟨[.int], some .int⟩ := by decide +kernel
abbrev R7 : Room := { frames := 2, cells := 0, slots := 0, locals := 41 }
abbrev P7 (s : St) (r : Int32) : Option Value → List OwnC → Prop := fun v H' => v = some (.int r) ∧ H' = (Hb 0 s)
abbrev W7 (l : Launch) (Z : State) (n0 : Nat) (Q : Option Value → List OwnC → Prop) (k n pc : Nat) (L : List Slot) (S : List Value) (H : List OwnC) : Prop := WP l Z CN lay "DemandGate" "workHyper" prog_1_method_27_code 5 (some FieldType.int) R7 n0 0 Q k n pc L S H
def g_workHyper_5 (k5 : Int32 → Int64 → Int32 → St → Option (Int32)) (n : Nat) (v1 : Int32) (v2 : Int64) (v4 : Int32) (s : St) : Option (Int32) :=
  if v4 < (gI s 11) then
    (rd (gA s 8) v4).bind fun x2 =>
    if x2 < (1 : Int32) then
      some (v1 + (1 : Int32))
    else
      (rd (gA s 8) v4).bind fun x4 =>
      (f_lcm n v2 x4.toInt64 s).bind fun c5 =>
      if v1.toInt64 < c5 then
        some (v1 + (1 : Int32))
      else
        lt (v4 + (1 : Int32)) fun x7 =>
        k5 v1 c5 x7 s
  else
    some v2.toInt32
set_option maxRecDepth 65536 in
set_option maxHeartbeats 4000000 in
theorem okg7_5 (l : Launch) (Z : State) (a0 : Array Value) (hw : HW a0 Z) (n0 : Nat) (k5 : Int32 → Int64 → Int32 → St → Option (Int32)) (hk5 : ∀ (v1 : Int32) (v2 : Int64) (v4 : Int32) (s : St) (r : Int32), k5 v1 v2 v4 s = some r → W7 l Z n0 (P7 s r) 0 0 5 [.val (.ref 0), .val (.int v1), .val (.long v2), .second, .val (.int v4)] [] (Hb 0 s)) (n : Nat) (v1 : Int32) (v2 : Int64) (v4 : Int32) (s : St) (r : Int32) (h : g_workHyper_5 k5 n v1 v2 v4 s = some r) : W7 l Z n0 (P7 s r) 0 0 5 [.val (.ref 0), .val (.int v1), .val (.long v2), .second, .val (.int v4)] [] (Hb 0 s) := by
  unfold g_workHyper_5 at h
  refine WP.iload d7_5 rfl ?_
  refine WP.aloadN d7_7 rfl ?_
  refine WP.getfield (i := 0) (j := 20) d7_8 (hw _ m_60) rfl rfl rfl ?_
  rcases ite_e h with ⟨hc1, h⟩ | ⟨hc1, h⟩
  ·
    refine WP.icmpN d7_11 (XT.ii_ge_f hc1) ?_
    refine WP.aloadN d7_14 rfl ?_
    refine WP.getfield (i := 0) (j := 19) d7_15 (hw _ m_26) rfl rfl rfl ?_
    refine WP.iload d7_18 rfl ?_
    obtain ⟨x2, hx2, h⟩ := Option.bind_eq_some_iff.mp h
    refine WP.iaload (i := 9) d7_20 rfl hx2 ?_
    refine WP.iconst (1 : Int32) d7_21 rfl ?_
    rcases ite_e h with ⟨hc3, h⟩ | ⟨hc3, h⟩
    ·
      refine WP.icmpN d7_22 (XT.ii_ge_f hc3) ?_
      refine WP.iloadN d7_25 rfl ?_
      refine WP.iconst (1 : Int32) d7_26 rfl ?_
      refine WP.iadd d7_27 ?_
      cases h
      exact WP.ireturn d7_28 rfl (leb rfl) (leb rfl) ⟨rfl, rfl⟩
    ·
      refine WP.icmpY (pc' := 29) d7_22 (XT.ii_ge_t hc3) (by decide) rfl ?_
      refine WP.aloadN d7_29 rfl ?_
      refine WP.lloadN d7_30 rfl ?_
      refine WP.aloadN d7_31 rfl ?_
      refine WP.getfield (i := 0) (j := 19) d7_32 (hw _ m_26) rfl rfl rfl ?_
      refine WP.iload d7_35 rfl ?_
      obtain ⟨x4, hx4, h⟩ := Option.bind_eq_some_iff.mp h
      refine WP.iaload (i := 9) d7_37 rfl hx4 ?_
      refine WP.i2l d7_38 ?_
      obtain ⟨c5, hc5, h⟩ := Option.bind_eq_some_iff.mp h
      refine WP.callP (i := 0) (y := y8) (as := [.long v2, .long x4.toInt64]) (S := []) d7_39 (hw _ m_88) (hw _ m_90) (hw _ m_1) (hw _ m_89) (hw _ m_91) (hw _ m_2) hy8 rfl (ok8 l Z a0 hw n v2 x4.toInt64 s _ hc5) rfl (lenOf pd8 rfl) (leb rfl) (leb rfl) (leb rfl) (leb rfl) ?_
      rintro _ _ ⟨rfl, rfl⟩
      show W7 l Z n0 (P7 s r) 0 0 42 [.val (.ref 0), .val (.int v1), .val (.long v2), .second, .val (.int v4)] [.long c5] (Hb 0 s)
      refine WP.lstoreN (L' := [.val (.ref 0), .val (.int v1), .val (.long c5), .second, .val (.int v4)]) d7_42 (leb rfl) rfl ?_
      refine WP.lloadN d7_43 rfl ?_
      refine WP.iloadN d7_44 rfl ?_
      refine WP.i2l d7_45 ?_
      refine WP.lcmp d7_46 ?_
      rcases ite_e h with ⟨hc6, h⟩ | ⟨hc6, h⟩
      ·
        refine WP.ifN d7_47 (XT.ll_le_f hc6) ?_
        refine WP.iloadN d7_50 rfl ?_
        refine WP.iconst (1 : Int32) d7_51 rfl ?_
        refine WP.iadd d7_52 ?_
        cases h
        exact WP.ireturn d7_53 rfl (leb rfl) (leb rfl) ⟨rfl, rfl⟩
      ·
        refine WP.ifY (pc' := 54) d7_47 (XT.ll_le_t hc6) (by decide) rfl ?_
        obtain ⟨x7, ex7, h⟩ := lt_e h
        refine WP.iinc (L' := [.val (.ref 0), .val (.int v1), .val (.long c5), .second, .val (.int x7)]) (1 : Int32) d7_54 rfl rfl (by subst ex7; rfl) ?_
        refine WP.goto (pc' := 5) d7_57 (by decide) rfl ?_
        exact WP.weak (L' := [.val (.ref 0), .val (.int v1), .val (.long c5), .second, .val (.int x7)]) ⟨rfl, rfl, rfl, rfl, rfl, trivial⟩ (hk5 v1 c5 x7 s _ h)
  ·
    refine WP.icmpY (pc' := 60) d7_11 (XT.ii_ge_t hc1) (by decide) rfl ?_
    refine WP.lloadN d7_60 rfl ?_
    refine WP.l2i d7_61 ?_
    cases h
    exact WP.ireturn d7_62 rfl (leb rfl) (leb rfl) ⟨rfl, rfl⟩
def f_workHyper_5 : Nat → Int32 → Int64 → Int32 → St → Option (Int32)
  | 0 => fun _ _ _ _ => none
  | n + 1 => g_workHyper_5 (f_workHyper_5 n) n
theorem ok7_5 (l : Launch) (Z : State) (a0 : Array Value) (hw : HW a0 Z) (n0 : Nat) : ∀ (n : Nat) (v1 : Int32) (v2 : Int64) (v4 : Int32) (s : St) (r : Int32), f_workHyper_5 n v1 v2 v4 s = some r → W7 l Z n0 (P7 s r) 0 0 5 [.val (.ref 0), .val (.int v1), .val (.long v2), .second, .val (.int v4)] [] (Hb 0 s)
  | 0, v1, v2, v4, s, r, h => nomatch (show none = some r from h)
  | n + 1, v1, v2, v4, s, r, h => okg7_5 l Z a0 hw n0 _ (ok7_5 l Z a0 hw n0 n) n v1 v2 v4 s r h
def f_workHyper (n : Nat) (p1 : Int32) (s : St) : Option (Int32) :=
  f_workHyper_5 n p1 (1 : Int64) (0 : Int32) s
set_option maxRecDepth 65536 in
set_option maxHeartbeats 4000000 in
theorem ok7 (l : Launch) (Z : State) (a0 : Array Value) (hw : HW a0 Z) (n : Nat) (p1 : Int32) (s : St) (r : Int32) (h : f_workHyper n p1 s = some r) : CS l Z CN lay y7 prog_1_method_27_code 5 (some FieldType.int) R7 0 [.ref 0, .int p1] (Hb 0 s) (P7 s r) := by
  refine CS.of_wp pn_cls (leb rfl) fun n0 => ?_
  show W7 l Z n0 (P7 s r) 0 0 0 [.val (.ref 0), .val (.int p1), .unset, .unset, .unset] [] (Hb 0 s)
  unfold f_workHyper at h
  refine WP.lconst (1 : Int64) d7_0 rfl ?_
  refine WP.lstoreN (L' := [.val (.ref 0), .val (.int p1), .val (.long (1 : Int64)), .second, .unset]) d7_1 (leb rfl) rfl ?_
  refine WP.iconst (0 : Int32) d7_2 rfl ?_
  refine WP.istore (L' := [.val (.ref 0), .val (.int p1), .val (.long (1 : Int64)), .second, .val (.int (0 : Int32))]) d7_3 (leb rfl) rfl ?_
  exact WP.weak (L' := [.val (.ref 0), .val (.int p1), .val (.long (1 : Int64)), .second, .val (.int (0 : Int32))]) ⟨rfl, rfl, rfl, rfl, rfl, trivial⟩ (ok7_5 l Z a0 hw n0 n p1 (1 : Int64) (0 : Int32) s _ h)
theorem d10_0 : dc prog_1_method_23_code 0 (.aload_n 0) 1 := by decide +kernel
theorem d10_1 : dc prog_1_method_23_code 1 (.iconst 0) 1 := by decide +kernel
theorem d10_2 : dc prog_1_method_23_code 2 (.putfield 60) 3 := by decide +kernel
theorem d10_5 : dc prog_1_method_23_code 5 (.iconst 0) 1 := by decide +kernel
theorem d10_6 : dc prog_1_method_23_code 6 (.istore_n 2) 1 := by decide +kernel
theorem d10_7 : dc prog_1_method_23_code 7 (.iload_n 2) 1 := by decide +kernel
theorem d10_8 : dc prog_1_method_23_code 8 (.aload_n 0) 1 := by decide +kernel
theorem d10_9 : dc prog_1_method_23_code 9 (.getfield 85) 3 := by decide +kernel
theorem d10_12 : dc prog_1_method_23_code 12 (.if_icmp .ge 61) 3 := by decide +kernel
theorem d10_15 : dc prog_1_method_23_code 15 (.iload_n 2) 1 := by decide +kernel
theorem d10_16 : dc prog_1_method_23_code 16 (.bipush 12) 2 := by decide +kernel
theorem d10_18 : dc prog_1_method_23_code 18 (.if_icmp .ge 55) 3 := by decide +kernel
theorem d10_21 : dc prog_1_method_23_code 21 (.aload_n 0) 1 := by decide +kernel
theorem d10_22 : dc prog_1_method_23_code 22 (.getfield 19) 3 := by decide +kernel
theorem d10_25 : dc prog_1_method_23_code 25 (.iload_n 2) 1 := by decide +kernel
theorem d10_26 : dc prog_1_method_23_code 26 (.aload_n 0) 1 := by decide +kernel
theorem d10_27 : dc prog_1_method_23_code 27 (.getfield 28) 3 := by decide +kernel
theorem d10_30 : dc prog_1_method_23_code 30 (.iload_n 2) 1 := by decide +kernel
theorem d10_31 : dc prog_1_method_23_code 31 (.iaload) 1 := by decide +kernel
theorem d10_32 : dc prog_1_method_23_code 32 (.iastore) 1 := by decide +kernel
theorem d10_33 : dc prog_1_method_23_code 33 (.aload_n 0) 1 := by decide +kernel
theorem d10_34 : dc prog_1_method_23_code 34 (.getfield 22) 3 := by decide +kernel
theorem d10_37 : dc prog_1_method_23_code 37 (.iload_n 2) 1 := by decide +kernel
theorem d10_38 : dc prog_1_method_23_code 38 (.aload_n 0) 1 := by decide +kernel
theorem d10_39 : dc prog_1_method_23_code 39 (.getfield 31) 3 := by decide +kernel
theorem d10_42 : dc prog_1_method_23_code 42 (.iload_n 2) 1 := by decide +kernel
theorem d10_43 : dc prog_1_method_23_code 43 (.iaload) 1 := by decide +kernel
theorem d10_44 : dc prog_1_method_23_code 44 (.iastore) 1 := by decide +kernel
theorem d10_45 : dc prog_1_method_23_code 45 (.aload_n 0) 1 := by decide +kernel
theorem d10_46 : dc prog_1_method_23_code 46 (.getfield 25) 3 := by decide +kernel
theorem d10_49 : dc prog_1_method_23_code 49 (.iload_n 2) 1 := by decide +kernel
theorem d10_50 : dc prog_1_method_23_code 50 (.aload_n 0) 1 := by decide +kernel
theorem d10_51 : dc prog_1_method_23_code 51 (.getfield 34) 3 := by decide +kernel
theorem d10_54 : dc prog_1_method_23_code 54 (.iload_n 2) 1 := by decide +kernel
theorem d10_55 : dc prog_1_method_23_code 55 (.iaload) 1 := by decide +kernel
theorem d10_56 : dc prog_1_method_23_code 56 (.iastore) 1 := by decide +kernel
theorem d10_57 : dc prog_1_method_23_code 57 (.aload_n 0) 1 := by decide +kernel
theorem d10_58 : dc prog_1_method_23_code 58 (.dup) 1 := by decide +kernel
theorem d10_59 : dc prog_1_method_23_code 59 (.getfield 60) 3 := by decide +kernel
theorem d10_62 : dc prog_1_method_23_code 62 (.iconst 1) 1 := by decide +kernel
theorem d10_63 : dc prog_1_method_23_code 63 (.iadd) 1 := by decide +kernel
theorem d10_64 : dc prog_1_method_23_code 64 (.putfield 60) 3 := by decide +kernel
theorem d10_67 : dc prog_1_method_23_code 67 (.iinc 2 1) 3 := by decide +kernel
theorem d10_70 : dc prog_1_method_23_code 70 (.goto (-63)) 3 := by decide +kernel
theorem d10_73 : dc prog_1_method_23_code 73 (.aload_n 0) 1 := by decide +kernel
theorem d10_74 : dc prog_1_method_23_code 74 (.iconst 1) 1 := by decide +kernel
theorem d10_75 : dc prog_1_method_23_code 75 (.putfield 63) 3 := by decide +kernel
theorem d10_78 : dc prog_1_method_23_code 78 (.aload_n 0) 1 := by decide +kernel
theorem d10_79 : dc prog_1_method_23_code 79 (.iload_n 1) 1 := by decide +kernel
theorem d10_80 : dc prog_1_method_23_code 80 (.putfield 67) 3 := by decide +kernel
theorem d10_83 : dc prog_1_method_23_code 83 (.return_) 1 := by decide +kernel
abbrev y10 : MethodName := ⟨"DemandGate", "storeCandidate", "(I)V"⟩
theorem hy10 : y10.cls ≠ "java/lang/invoke/MethodHandle" ∧ y10.cls ≠ "java/lang/invoke/VarHandle" := by decide
theorem pd10 : parseMethodDescriptor y10.desc = some ⟨[.int], none⟩ := by decide +kernel
abbrev R10 : Room := { frames := 0, cells := 0, slots := 0, locals := 0 }
abbrev P10 (r : St) : Option Value → List OwnC → Prop := fun v H' => v = none ∧ H' = (Hb 0 r)
abbrev W10 (l : Launch) (Z : State) (n0 : Nat) (Q : Option Value → List OwnC → Prop) (k n pc : Nat) (L : List Slot) (S : List Value) (H : List OwnC) : Prop := WP l Z CN lay "DemandGate" "storeCandidate" prog_1_method_23_code 3 (none) R10 n0 0 Q k n pc L S H
def f_storeCandidate_73 (n : Nat) (v1 : Int32) (s : St) : Option (St) :=
  lt (sI s 4 (1 : Int32)) fun s1 =>
  lt (sI s1 5 v1) fun s2 =>
  some s2
set_option maxRecDepth 65536 in
set_option maxHeartbeats 4000000 in
theorem ok10_73 (l : Launch) (Z : State) (a0 : Array Value) (hw : HW a0 Z) (n0 : Nat) (n : Nat) (v1 : Int32) (s : St) (r : St) (h : f_storeCandidate_73 n v1 s = some r) : W10 l Z n0 (P10 r) 0 0 73 [.val (.ref 0), .val (.int v1), .unset] [] (Hb 0 s) := by
  unfold f_storeCandidate_73 at h
  refine WP.aloadN d10_73 rfl ?_
  refine WP.iconst (1 : Int32) d10_74 rfl ?_
  obtain ⟨s1, es1, h⟩ := lt_e h
  refine WP.putZ (i := 0) (j := 10) (H' := (Hb 0 s1)) d10_75 (hw _ m_46) (Or.inl (hw _ m_47)) (hw _ m_1) (hlay hw) rfl rfl rfl (leb rfl) (by subst es1; rfl) ?_
  refine WP.aloadN d10_78 rfl ?_
  refine WP.iloadN d10_79 rfl ?_
  obtain ⟨s2, es2, h⟩ := lt_e h
  refine WP.putI (i := 0) (j := 11) (H' := (Hb 0 s2)) d10_80 (hw _ m_48) (Or.inl (hw _ m_49)) (hw _ m_1) (hlay hw) rfl rfl rfl (leb rfl) (by subst es2; rfl) ?_
  cases h
  exact WP.vreturn d10_83 rfl (leb rfl) (leb rfl) ⟨rfl, rfl⟩
def g_storeCandidate_7 (k7 : Int32 → Int32 → St → Option (St)) (n : Nat) (v1 : Int32) (v2 : Int32) (s : St) : Option (St) :=
  if v2 < (gI s 11) then
    if v2 < (12 : Int32) then
      (rd (gA s 6) v2).bind fun x3 =>
      (wrA s 3 v2 x3).bind fun s4 =>
      (rd (gA s4 7) v2).bind fun x5 =>
      (wrA s4 4 v2 x5).bind fun s6 =>
      (rd (gA s6 8) v2).bind fun x7 =>
      (wrA s6 5 v2 x7).bind fun s8 =>
      lt (sI s8 3 ((gI s8 3) + (1 : Int32))) fun s9 =>
      lt (v2 + (1 : Int32)) fun x10 =>
      k7 v1 x10 s9
    else
      f_storeCandidate_73 n v1 s
  else
    f_storeCandidate_73 n v1 s
set_option maxRecDepth 65536 in
set_option maxHeartbeats 4000000 in
theorem okg10_7 (l : Launch) (Z : State) (a0 : Array Value) (hw : HW a0 Z) (n0 : Nat) (k7 : Int32 → Int32 → St → Option (St)) (hk7 : ∀ (v1 : Int32) (v2 : Int32) (s : St) (r : St), k7 v1 v2 s = some r → W10 l Z n0 (P10 r) 0 0 7 [.val (.ref 0), .val (.int v1), .val (.int v2)] [] (Hb 0 s)) (n : Nat) (v1 : Int32) (v2 : Int32) (s : St) (r : St) (h : g_storeCandidate_7 k7 n v1 v2 s = some r) : W10 l Z n0 (P10 r) 0 0 7 [.val (.ref 0), .val (.int v1), .val (.int v2)] [] (Hb 0 s) := by
  unfold g_storeCandidate_7 at h
  refine WP.iloadN d10_7 rfl ?_
  refine WP.aloadN d10_8 rfl ?_
  refine WP.getfield (i := 0) (j := 20) d10_9 (hw _ m_60) rfl rfl rfl ?_
  rcases ite_e h with ⟨hc1, h⟩ | ⟨hc1, h⟩
  ·
    refine WP.icmpN d10_12 (XT.ii_ge_f hc1) ?_
    refine WP.iloadN d10_15 rfl ?_
    refine WP.bipush (12 : Int32) d10_16 rfl ?_
    rcases ite_e h with ⟨hc2, h⟩ | ⟨hc2, h⟩
    ·
      refine WP.icmpN d10_18 (XT.ii_ge_f hc2) ?_
      refine WP.aloadN d10_21 rfl ?_
      refine WP.getfield (i := 0) (j := 6) d10_22 (hw _ m_16) rfl rfl rfl ?_
      refine WP.iloadN d10_25 rfl ?_
      refine WP.aloadN d10_26 rfl ?_
      refine WP.getfield (i := 0) (j := 17) d10_27 (hw _ m_22) rfl rfl rfl ?_
      refine WP.iloadN d10_30 rfl ?_
      obtain ⟨x3, hx3, h⟩ := Option.bind_eq_some_iff.mp h
      refine WP.iaload (i := 7) d10_31 rfl hx3 ?_
      obtain ⟨s4, hs4, h⟩ := Option.bind_eq_some_iff.mp h
      obtain ⟨ys4, gs4, es4⟩ := wrA_e hs4
      refine WP.iastore (i := 4) (xs := gA s 3) (H' := (Hb 0 s4)) d10_32 rfl (leb rfl) gs4 (by subst es4; rfl) ?_
      refine WP.aloadN d10_33 rfl ?_
      refine WP.getfield (i := 0) (j := 7) d10_34 (hw _ m_18) rfl rfl rfl ?_
      refine WP.iloadN d10_37 rfl ?_
      refine WP.aloadN d10_38 rfl ?_
      refine WP.getfield (i := 0) (j := 18) d10_39 (hw _ m_24) rfl rfl rfl ?_
      refine WP.iloadN d10_42 rfl ?_
      obtain ⟨x5, hx5, h⟩ := Option.bind_eq_some_iff.mp h
      refine WP.iaload (i := 8) d10_43 rfl hx5 ?_
      obtain ⟨s6, hs6, h⟩ := Option.bind_eq_some_iff.mp h
      obtain ⟨ys6, gs6, es6⟩ := wrA_e hs6
      refine WP.iastore (i := 5) (xs := gA s4 4) (H' := (Hb 0 s6)) d10_44 rfl (leb rfl) gs6 (by subst es6; rfl) ?_
      refine WP.aloadN d10_45 rfl ?_
      refine WP.getfield (i := 0) (j := 8) d10_46 (hw _ m_20) rfl rfl rfl ?_
      refine WP.iloadN d10_49 rfl ?_
      refine WP.aloadN d10_50 rfl ?_
      refine WP.getfield (i := 0) (j := 19) d10_51 (hw _ m_26) rfl rfl rfl ?_
      refine WP.iloadN d10_54 rfl ?_
      obtain ⟨x7, hx7, h⟩ := Option.bind_eq_some_iff.mp h
      refine WP.iaload (i := 9) d10_55 rfl hx7 ?_
      obtain ⟨s8, hs8, h⟩ := Option.bind_eq_some_iff.mp h
      obtain ⟨ys8, gs8, es8⟩ := wrA_e hs8
      refine WP.iastore (i := 6) (xs := gA s6 5) (H' := (Hb 0 s8)) d10_56 rfl (leb rfl) gs8 (by subst es8; rfl) ?_
      refine WP.aloadN d10_57 rfl ?_
      refine WP.dup d10_58 rfl ?_
      refine WP.getfield (i := 0) (j := 9) d10_59 (hw _ m_44) rfl rfl rfl ?_
      refine WP.iconst (1 : Int32) d10_62 rfl ?_
      refine WP.iadd d10_63 ?_
      obtain ⟨s9, es9, h⟩ := lt_e h
      refine WP.putI (i := 0) (j := 9) (H' := (Hb 0 s9)) d10_64 (hw _ m_44) (Or.inl (hw _ m_45)) (hw _ m_1) (hlay hw) rfl rfl rfl (leb rfl) (by subst es9; rfl) ?_
      obtain ⟨x10, ex10, h⟩ := lt_e h
      refine WP.iinc (L' := [.val (.ref 0), .val (.int v1), .val (.int x10)]) (1 : Int32) d10_67 rfl rfl (by subst ex10; rfl) ?_
      refine WP.goto (pc' := 7) d10_70 (by decide) rfl ?_
      exact WP.weak (L' := [.val (.ref 0), .val (.int v1), .val (.int x10)]) ⟨rfl, rfl, rfl, trivial⟩ (hk7 v1 x10 s9 _ h)
    ·
      refine WP.icmpY (pc' := 73) d10_18 (XT.ii_ge_t hc2) (by decide) rfl ?_
      exact WP.weak (L' := [.val (.ref 0), .val (.int v1), .unset]) ⟨rfl, rfl, trivial⟩ (ok10_73 l Z a0 hw n0 n v1 s _ h)
  ·
    refine WP.icmpY (pc' := 73) d10_12 (XT.ii_ge_t hc1) (by decide) rfl ?_
    exact WP.weak (L' := [.val (.ref 0), .val (.int v1), .unset]) ⟨rfl, rfl, trivial⟩ (ok10_73 l Z a0 hw n0 n v1 s _ h)
def f_storeCandidate_7 : Nat → Int32 → Int32 → St → Option (St)
  | 0 => fun _ _ _ => none
  | n + 1 => g_storeCandidate_7 (f_storeCandidate_7 n) n
theorem ok10_7 (l : Launch) (Z : State) (a0 : Array Value) (hw : HW a0 Z) (n0 : Nat) : ∀ (n : Nat) (v1 : Int32) (v2 : Int32) (s : St) (r : St), f_storeCandidate_7 n v1 v2 s = some r → W10 l Z n0 (P10 r) 0 0 7 [.val (.ref 0), .val (.int v1), .val (.int v2)] [] (Hb 0 s)
  | 0, v1, v2, s, r, h => nomatch (show none = some r from h)
  | n + 1, v1, v2, s, r, h => okg10_7 l Z a0 hw n0 _ (ok10_7 l Z a0 hw n0 n) n v1 v2 s r h
def f_storeCandidate (n : Nat) (p1 : Int32) (s : St) : Option (St) :=
  lt (sI s 3 (0 : Int32)) fun s1 =>
  f_storeCandidate_7 n p1 (0 : Int32) s1
set_option maxRecDepth 65536 in
set_option maxHeartbeats 4000000 in
theorem ok10 (l : Launch) (Z : State) (a0 : Array Value) (hw : HW a0 Z) (n : Nat) (p1 : Int32) (s : St) (r : St) (h : f_storeCandidate n p1 s = some r) : CS l Z CN lay y10 prog_1_method_23_code 3 (none) R10 0 [.ref 0, .int p1] (Hb 0 s) (P10 r) := by
  refine CS.of_wp pn_cls (leb rfl) fun n0 => ?_
  show W10 l Z n0 (P10 r) 0 0 0 [.val (.ref 0), .val (.int p1), .unset] [] (Hb 0 s)
  unfold f_storeCandidate at h
  refine WP.aloadN d10_0 rfl ?_
  refine WP.iconst (0 : Int32) d10_1 rfl ?_
  obtain ⟨s1, es1, h⟩ := lt_e h
  refine WP.putI (i := 0) (j := 9) (H' := (Hb 0 s1)) d10_2 (hw _ m_44) (Or.inl (hw _ m_45)) (hw _ m_1) (hlay hw) rfl rfl rfl (leb rfl) (by subst es1; rfl) ?_
  refine WP.iconst (0 : Int32) d10_5 rfl ?_
  refine WP.istoreN (L' := [.val (.ref 0), .val (.int p1), .val (.int (0 : Int32))]) d10_6 (leb rfl) rfl ?_
  exact WP.weak (L' := [.val (.ref 0), .val (.int p1), .val (.int (0 : Int32))]) ⟨rfl, rfl, rfl, trivial⟩ (ok10_7 l Z a0 hw n0 n p1 (0 : Int32) s1 _ h)
theorem d12_0 : dc prog_1_method_29_code 0 (.lconst 0) 1 := by decide +kernel
theorem d12_1 : dc prog_1_method_29_code 1 (.lstore_n 2) 1 := by decide +kernel
theorem d12_2 : dc prog_1_method_29_code 2 (.iconst 0) 1 := by decide +kernel
theorem d12_3 : dc prog_1_method_29_code 3 (.istore 4) 2 := by decide +kernel
theorem d12_5 : dc prog_1_method_29_code 5 (.iload 4) 2 := by decide +kernel
theorem d12_7 : dc prog_1_method_29_code 7 (.aload_n 0) 1 := by decide +kernel
theorem d12_8 : dc prog_1_method_29_code 8 (.getfield 85) 3 := by decide +kernel
theorem d12_11 : dc prog_1_method_29_code 11 (.if_icmp .ge 61) 3 := by decide +kernel
theorem d12_14 : dc prog_1_method_29_code 14 (.aload_n 0) 1 := by decide +kernel
theorem d12_15 : dc prog_1_method_29_code 15 (.getfield 34) 3 := by decide +kernel
theorem d12_18 : dc prog_1_method_29_code 18 (.iload 4) 2 := by decide +kernel
theorem d12_20 : dc prog_1_method_29_code 20 (.iaload) 1 := by decide +kernel
theorem d12_21 : dc prog_1_method_29_code 21 (.iconst 1) 1 := by decide +kernel
theorem d12_22 : dc prog_1_method_29_code 22 (.if_icmp .lt 20) 3 := by decide +kernel
theorem d12_25 : dc prog_1_method_29_code 25 (.aload_n 0) 1 := by decide +kernel
theorem d12_26 : dc prog_1_method_29_code 26 (.getfield 31) 3 := by decide +kernel
theorem d12_29 : dc prog_1_method_29_code 29 (.iload 4) 2 := by decide +kernel
theorem d12_31 : dc prog_1_method_29_code 31 (.iaload) 1 := by decide +kernel
theorem d12_32 : dc prog_1_method_29_code 32 (.aload_n 0) 1 := by decide +kernel
theorem d12_33 : dc prog_1_method_29_code 33 (.getfield 34) 3 := by decide +kernel
theorem d12_36 : dc prog_1_method_29_code 36 (.iload 4) 2 := by decide +kernel
theorem d12_38 : dc prog_1_method_29_code 38 (.iaload) 1 := by decide +kernel
theorem d12_39 : dc prog_1_method_29_code 39 (.if_icmp .eq 5) 3 := by decide +kernel
theorem d12_42 : dc prog_1_method_29_code 42 (.iconst 0) 1 := by decide +kernel
theorem d12_43 : dc prog_1_method_29_code 43 (.ireturn) 1 := by decide +kernel
theorem d12_44 : dc prog_1_method_29_code 44 (.lload_n 2) 1 := by decide +kernel
theorem d12_45 : dc prog_1_method_29_code 45 (.aload_n 0) 1 := by decide +kernel
theorem d12_46 : dc prog_1_method_29_code 46 (.getfield 28) 3 := by decide +kernel
theorem d12_49 : dc prog_1_method_29_code 49 (.iload 4) 2 := by decide +kernel
theorem d12_51 : dc prog_1_method_29_code 51 (.iaload) 1 := by decide +kernel
theorem d12_52 : dc prog_1_method_29_code 52 (.i2l) 1 := by decide +kernel
theorem d12_53 : dc prog_1_method_29_code 53 (.iload_n 1) 1 := by decide +kernel
theorem d12_54 : dc prog_1_method_29_code 54 (.aload_n 0) 1 := by decide +kernel
theorem d12_55 : dc prog_1_method_29_code 55 (.getfield 34) 3 := by decide +kernel
theorem d12_58 : dc prog_1_method_29_code 58 (.iload 4) 2 := by decide +kernel
theorem d12_60 : dc prog_1_method_29_code 60 (.iaload) 1 := by decide +kernel
theorem d12_61 : dc prog_1_method_29_code 61 (.idiv) 1 := by decide +kernel
theorem d12_62 : dc prog_1_method_29_code 62 (.i2l) 1 := by decide +kernel
theorem d12_63 : dc prog_1_method_29_code 63 (.lmul) 1 := by decide +kernel
theorem d12_64 : dc prog_1_method_29_code 64 (.ladd) 1 := by decide +kernel
theorem d12_65 : dc prog_1_method_29_code 65 (.lstore_n 2) 1 := by decide +kernel
theorem d12_66 : dc prog_1_method_29_code 66 (.iinc 4 1) 3 := by decide +kernel
theorem d12_69 : dc prog_1_method_29_code 69 (.goto (-64)) 3 := by decide +kernel
theorem d12_72 : dc prog_1_method_29_code 72 (.lload_n 2) 1 := by decide +kernel
theorem d12_73 : dc prog_1_method_29_code 73 (.iload_n 1) 1 := by decide +kernel
theorem d12_74 : dc prog_1_method_29_code 74 (.i2l) 1 := by decide +kernel
theorem d12_75 : dc prog_1_method_29_code 75 (.lcmp) 1 := by decide +kernel
theorem d12_76 : dc prog_1_method_29_code 76 (.ifCond .gt 7) 3 := by decide +kernel
theorem d12_79 : dc prog_1_method_29_code 79 (.iconst 1) 1 := by decide +kernel
theorem d12_80 : dc prog_1_method_29_code 80 (.goto 4) 3 := by decide +kernel
theorem d12_83 : dc prog_1_method_29_code 83 (.iconst 0) 1 := by decide +kernel
theorem d12_84 : dc prog_1_method_29_code 84 (.ireturn) 1 := by decide +kernel
abbrev y12 : MethodName := ⟨"DemandGate", "implicitWithinCapacity", "(I)Z"⟩
theorem hy12 : y12.cls ≠ "java/lang/invoke/MethodHandle" ∧ y12.cls ≠ "java/lang/invoke/VarHandle" := by decide
theorem pd12 : parseMethodDescriptor y12.desc = some ⟨[.int], some .boolean⟩ := by decide +kernel
abbrev R12 : Room := { frames := 0, cells := 0, slots := 0, locals := 0 }
abbrev P12 (s : St) (r : Int32) : Option Value → List OwnC → Prop := fun v H' => v = some (.int r) ∧ H' = (Hb 0 s)
abbrev W12 (l : Launch) (Z : State) (n0 : Nat) (Q : Option Value → List OwnC → Prop) (k n pc : Nat) (L : List Slot) (S : List Value) (H : List OwnC) : Prop := WP l Z CN lay "DemandGate" "implicitWithinCapacity" prog_1_method_29_code 5 (some FieldType.boolean) R12 n0 0 Q k n pc L S H
def f_implicitWithinCapacity_42 (n : Nat) (s : St) : Option (Int32) :=
  some (0 : Int32)
set_option maxRecDepth 65536 in
set_option maxHeartbeats 4000000 in
theorem ok12_42 (l : Launch) (Z : State) (a0 : Array Value) (hw : HW a0 Z) (n0 : Nat) (n : Nat) (s : St) (r : Int32) (h : f_implicitWithinCapacity_42 n s = some r) : W12 l Z n0 (P12 s r) 0 0 42 [.unset, .unset, .unset, .unset, .unset] [] (Hb 0 s) := by
  unfold f_implicitWithinCapacity_42 at h
  refine WP.iconst (0 : Int32) d12_42 rfl ?_
  cases h
  exact WP.zreturn d12_43 rfl (leb rfl) (leb rfl) ⟨rfl, rfl⟩
def f_implicitWithinCapacity_84 (n : Nat) (t0 : Int32) (s : St) : Option (Int32) :=
  some (t0 &&& 1)
set_option maxRecDepth 65536 in
set_option maxHeartbeats 4000000 in
theorem ok12_84 (l : Launch) (Z : State) (a0 : Array Value) (hw : HW a0 Z) (n0 : Nat) (n : Nat) (t0 : Int32) (s : St) (r : Int32) (h : f_implicitWithinCapacity_84 n t0 s = some r) : W12 l Z n0 (P12 s r) 0 0 84 [.unset, .unset, .unset, .unset, .unset] [.int t0] (Hb 0 s) := by
  unfold f_implicitWithinCapacity_84 at h
  cases h
  exact WP.zreturn d12_84 rfl (leb rfl) (leb rfl) ⟨rfl, rfl⟩
def g_implicitWithinCapacity_5 (k5 : Int32 → Int64 → Int32 → St → Option (Int32)) (n : Nat) (v1 : Int32) (v2 : Int64) (v4 : Int32) (s : St) : Option (Int32) :=
  if v4 < (gI s 11) then
    (rd (gA s 8) v4).bind fun x2 =>
    if x2 < (1 : Int32) then
      f_implicitWithinCapacity_42 n s
    else
      (rd (gA s 7) v4).bind fun x4 =>
      (rd (gA s 8) v4).bind fun x5 =>
      if x4 = x5 then
        (rd (gA s 6) v4).bind fun x7 =>
        (rd (gA s 8) v4).bind fun x8 =>
        if x8 = 0 then none else
        lt (v2 + (x7.toInt64 * ((v1 / x8).toInt64))) fun x10 =>
        lt (v4 + (1 : Int32)) fun x11 =>
        k5 v1 x10 x11 s
      else
        f_implicitWithinCapacity_42 n s
  else
    if v1.toInt64 < v2 then
      f_implicitWithinCapacity_84 n (0 : Int32) s
    else
      f_implicitWithinCapacity_84 n (1 : Int32) s
set_option maxRecDepth 65536 in
set_option maxHeartbeats 4000000 in
theorem okg12_5 (l : Launch) (Z : State) (a0 : Array Value) (hw : HW a0 Z) (n0 : Nat) (k5 : Int32 → Int64 → Int32 → St → Option (Int32)) (hk5 : ∀ (v1 : Int32) (v2 : Int64) (v4 : Int32) (s : St) (r : Int32), k5 v1 v2 v4 s = some r → W12 l Z n0 (P12 s r) 0 0 5 [.val (.ref 0), .val (.int v1), .val (.long v2), .second, .val (.int v4)] [] (Hb 0 s)) (n : Nat) (v1 : Int32) (v2 : Int64) (v4 : Int32) (s : St) (r : Int32) (h : g_implicitWithinCapacity_5 k5 n v1 v2 v4 s = some r) : W12 l Z n0 (P12 s r) 0 0 5 [.val (.ref 0), .val (.int v1), .val (.long v2), .second, .val (.int v4)] [] (Hb 0 s) := by
  unfold g_implicitWithinCapacity_5 at h
  refine WP.iload d12_5 rfl ?_
  refine WP.aloadN d12_7 rfl ?_
  refine WP.getfield (i := 0) (j := 20) d12_8 (hw _ m_60) rfl rfl rfl ?_
  rcases ite_e h with ⟨hc1, h⟩ | ⟨hc1, h⟩
  ·
    refine WP.icmpN d12_11 (XT.ii_ge_f hc1) ?_
    refine WP.aloadN d12_14 rfl ?_
    refine WP.getfield (i := 0) (j := 19) d12_15 (hw _ m_26) rfl rfl rfl ?_
    refine WP.iload d12_18 rfl ?_
    obtain ⟨x2, hx2, h⟩ := Option.bind_eq_some_iff.mp h
    refine WP.iaload (i := 9) d12_20 rfl hx2 ?_
    refine WP.iconst (1 : Int32) d12_21 rfl ?_
    rcases ite_e h with ⟨hc3, h⟩ | ⟨hc3, h⟩
    ·
      refine WP.icmpY (pc' := 42) d12_22 (XT.ii_lt_t hc3) (by decide) rfl ?_
      exact WP.weak (L' := [.unset, .unset, .unset, .unset, .unset]) trivial (ok12_42 l Z a0 hw n0 n s _ h)
    ·
      refine WP.icmpN d12_22 (XT.ii_lt_f hc3) ?_
      refine WP.aloadN d12_25 rfl ?_
      refine WP.getfield (i := 0) (j := 18) d12_26 (hw _ m_24) rfl rfl rfl ?_
      refine WP.iload d12_29 rfl ?_
      obtain ⟨x4, hx4, h⟩ := Option.bind_eq_some_iff.mp h
      refine WP.iaload (i := 8) d12_31 rfl hx4 ?_
      refine WP.aloadN d12_32 rfl ?_
      refine WP.getfield (i := 0) (j := 19) d12_33 (hw _ m_26) rfl rfl rfl ?_
      refine WP.iload d12_36 rfl ?_
      obtain ⟨x5, hx5, h⟩ := Option.bind_eq_some_iff.mp h
      refine WP.iaload (i := 9) d12_38 rfl hx5 ?_
      rcases ite_e h with ⟨hc6, h⟩ | ⟨hc6, h⟩
      ·
        refine WP.icmpY (pc' := 44) d12_39 (XT.ii_eq_t hc6) (by decide) rfl ?_
        refine WP.lloadN d12_44 rfl ?_
        refine WP.aloadN d12_45 rfl ?_
        refine WP.getfield (i := 0) (j := 17) d12_46 (hw _ m_22) rfl rfl rfl ?_
        refine WP.iload d12_49 rfl ?_
        obtain ⟨x7, hx7, h⟩ := Option.bind_eq_some_iff.mp h
        refine WP.iaload (i := 7) d12_51 rfl hx7 ?_
        refine WP.i2l d12_52 ?_
        refine WP.iloadN d12_53 rfl ?_
        refine WP.aloadN d12_54 rfl ?_
        refine WP.getfield (i := 0) (j := 19) d12_55 (hw _ m_26) rfl rfl rfl ?_
        refine WP.iload d12_58 rfl ?_
        obtain ⟨x8, hx8, h⟩ := Option.bind_eq_some_iff.mp h
        refine WP.iaload (i := 9) d12_60 rfl hx8 ?_
        obtain ⟨hz9, h⟩ := nz_e h
        refine WP.idiv d12_61 hz9 ?_
        refine WP.i2l d12_62 ?_
        refine WP.lmul d12_63 ?_
        refine WP.ladd d12_64 ?_
        obtain ⟨x10, ex10, h⟩ := lt_e h
        refine WP.lstoreN (L' := [.val (.ref 0), .val (.int v1), .val (.long x10), .second, .val (.int v4)]) d12_65 (leb rfl) (by subst ex10; rfl) ?_
        obtain ⟨x11, ex11, h⟩ := lt_e h
        refine WP.iinc (L' := [.val (.ref 0), .val (.int v1), .val (.long x10), .second, .val (.int x11)]) (1 : Int32) d12_66 rfl rfl (by subst ex11; rfl) ?_
        refine WP.goto (pc' := 5) d12_69 (by decide) rfl ?_
        exact WP.weak (L' := [.val (.ref 0), .val (.int v1), .val (.long x10), .second, .val (.int x11)]) ⟨rfl, rfl, rfl, rfl, rfl, trivial⟩ (hk5 v1 x10 x11 s _ h)
      ·
        refine WP.icmpN d12_39 (XT.ii_eq_f hc6) ?_
        exact WP.weak (L' := [.unset, .unset, .unset, .unset, .unset]) trivial (ok12_42 l Z a0 hw n0 n s _ h)
  ·
    refine WP.icmpY (pc' := 72) d12_11 (XT.ii_ge_t hc1) (by decide) rfl ?_
    refine WP.lloadN d12_72 rfl ?_
    refine WP.iloadN d12_73 rfl ?_
    refine WP.i2l d12_74 ?_
    refine WP.lcmp d12_75 ?_
    rcases ite_e h with ⟨hc12, h⟩ | ⟨hc12, h⟩
    ·
      refine WP.ifY (pc' := 83) d12_76 (XT.ll_gt_t hc12) (by decide) rfl ?_
      refine WP.iconst (0 : Int32) d12_83 rfl ?_
      exact WP.weak (L' := [.unset, .unset, .unset, .unset, .unset]) trivial (ok12_84 l Z a0 hw n0 n (0 : Int32) s _ h)
    ·
      refine WP.ifN d12_76 (XT.ll_gt_f hc12) ?_
      refine WP.iconst (1 : Int32) d12_79 rfl ?_
      refine WP.goto (pc' := 84) d12_80 (by decide) rfl ?_
      exact WP.weak (L' := [.unset, .unset, .unset, .unset, .unset]) trivial (ok12_84 l Z a0 hw n0 n (1 : Int32) s _ h)
def f_implicitWithinCapacity_5 : Nat → Int32 → Int64 → Int32 → St → Option (Int32)
  | 0 => fun _ _ _ _ => none
  | n + 1 => g_implicitWithinCapacity_5 (f_implicitWithinCapacity_5 n) n
theorem ok12_5 (l : Launch) (Z : State) (a0 : Array Value) (hw : HW a0 Z) (n0 : Nat) : ∀ (n : Nat) (v1 : Int32) (v2 : Int64) (v4 : Int32) (s : St) (r : Int32), f_implicitWithinCapacity_5 n v1 v2 v4 s = some r → W12 l Z n0 (P12 s r) 0 0 5 [.val (.ref 0), .val (.int v1), .val (.long v2), .second, .val (.int v4)] [] (Hb 0 s)
  | 0, v1, v2, v4, s, r, h => nomatch (show none = some r from h)
  | n + 1, v1, v2, v4, s, r, h => okg12_5 l Z a0 hw n0 _ (ok12_5 l Z a0 hw n0 n) n v1 v2 v4 s r h
def f_implicitWithinCapacity (n : Nat) (p1 : Int32) (s : St) : Option (Int32) :=
  f_implicitWithinCapacity_5 n p1 (0 : Int64) (0 : Int32) s
set_option maxRecDepth 65536 in
set_option maxHeartbeats 4000000 in
theorem ok12 (l : Launch) (Z : State) (a0 : Array Value) (hw : HW a0 Z) (n : Nat) (p1 : Int32) (s : St) (r : Int32) (h : f_implicitWithinCapacity n p1 s = some r) : CS l Z CN lay y12 prog_1_method_29_code 5 (some FieldType.boolean) R12 0 [.ref 0, .int p1] (Hb 0 s) (P12 s r) := by
  refine CS.of_wp pn_cls (leb rfl) fun n0 => ?_
  show W12 l Z n0 (P12 s r) 0 0 0 [.val (.ref 0), .val (.int p1), .unset, .unset, .unset] [] (Hb 0 s)
  unfold f_implicitWithinCapacity at h
  refine WP.lconst (0 : Int64) d12_0 rfl ?_
  refine WP.lstoreN (L' := [.val (.ref 0), .val (.int p1), .val (.long (0 : Int64)), .second, .unset]) d12_1 (leb rfl) rfl ?_
  refine WP.iconst (0 : Int32) d12_2 rfl ?_
  refine WP.istore (L' := [.val (.ref 0), .val (.int p1), .val (.long (0 : Int64)), .second, .val (.int (0 : Int32))]) d12_3 (leb rfl) rfl ?_
  exact WP.weak (L' := [.val (.ref 0), .val (.int p1), .val (.long (0 : Int64)), .second, .val (.int (0 : Int32))]) ⟨rfl, rfl, rfl, rfl, rfl, trivial⟩ (ok12_5 l Z a0 hw n0 n p1 (0 : Int64) (0 : Int32) s _ h)
theorem d14_0 : dc prog_1_method_31_code 0 (.ldc 144) 2 := by decide +kernel
theorem d14_2 : dc prog_1_method_31_code 2 (.istore_n 1) 1 := by decide +kernel
theorem d14_3 : dc prog_1_method_31_code 3 (.iconst 0) 1 := by decide +kernel
theorem d14_4 : dc prog_1_method_31_code 4 (.istore_n 2) 1 := by decide +kernel
theorem d14_5 : dc prog_1_method_31_code 5 (.iload_n 2) 1 := by decide +kernel
theorem d14_6 : dc prog_1_method_31_code 6 (.aload_n 0) 1 := by decide +kernel
theorem d14_7 : dc prog_1_method_31_code 7 (.getfield 85) 3 := by decide +kernel
theorem d14_10 : dc prog_1_method_31_code 10 (.if_icmp .ge 26) 3 := by decide +kernel
theorem d14_13 : dc prog_1_method_31_code 13 (.aload_n 0) 1 := by decide +kernel
theorem d14_14 : dc prog_1_method_31_code 14 (.getfield 37) 3 := by decide +kernel
theorem d14_17 : dc prog_1_method_31_code 17 (.iload_n 2) 1 := by decide +kernel
theorem d14_18 : dc prog_1_method_31_code 18 (.iaload) 1 := by decide +kernel
theorem d14_19 : dc prog_1_method_31_code 19 (.iload_n 1) 1 := by decide +kernel
theorem d14_20 : dc prog_1_method_31_code 20 (.if_icmp .ge 10) 3 := by decide +kernel
theorem d14_23 : dc prog_1_method_31_code 23 (.aload_n 0) 1 := by decide +kernel
theorem d14_24 : dc prog_1_method_31_code 24 (.getfield 37) 3 := by decide +kernel
theorem d14_27 : dc prog_1_method_31_code 27 (.iload_n 2) 1 := by decide +kernel
theorem d14_28 : dc prog_1_method_31_code 28 (.iaload) 1 := by decide +kernel
theorem d14_29 : dc prog_1_method_31_code 29 (.istore_n 1) 1 := by decide +kernel
theorem d14_30 : dc prog_1_method_31_code 30 (.iinc 2 1) 3 := by decide +kernel
theorem d14_33 : dc prog_1_method_31_code 33 (.goto (-28)) 3 := by decide +kernel
theorem d14_36 : dc prog_1_method_31_code 36 (.iload_n 1) 1 := by decide +kernel
theorem d14_37 : dc prog_1_method_31_code 37 (.ireturn) 1 := by decide +kernel
abbrev y14 : MethodName := ⟨"DemandGate", "earliestNextDeadline", "()I"⟩
theorem hy14 : y14.cls ≠ "java/lang/invoke/MethodHandle" ∧ y14.cls ≠ "java/lang/invoke/VarHandle" := by decide
theorem pd14 : parseMethodDescriptor y14.desc = some ⟨[], some .int⟩ := by decide +kernel
abbrev R14 : Room := { frames := 0, cells := 0, slots := 0, locals := 0 }
abbrev P14 (s : St) (r : Int32) : Option Value → List OwnC → Prop := fun v H' => v = some (.int r) ∧ H' = (Hb 0 s)
abbrev W14 (l : Launch) (Z : State) (n0 : Nat) (Q : Option Value → List OwnC → Prop) (k n pc : Nat) (L : List Slot) (S : List Value) (H : List OwnC) : Prop := WP l Z CN lay "DemandGate" "earliestNextDeadline" prog_1_method_31_code 3 (some FieldType.int) R14 n0 0 Q k n pc L S H
def f_earliestNextDeadline_30 (k5 : Int32 → Int32 → St → Option (Int32)) (n : Nat) (v1 : Int32) (v2 : Int32) (s : St) : Option (Int32) :=
  lt (v2 + (1 : Int32)) fun x1 =>
  k5 v1 x1 s
set_option maxRecDepth 65536 in
set_option maxHeartbeats 4000000 in
theorem ok14_30 (l : Launch) (Z : State) (a0 : Array Value) (hw : HW a0 Z) (n0 : Nat) (k5 : Int32 → Int32 → St → Option (Int32)) (hk5 : ∀ (v1 : Int32) (v2 : Int32) (s : St) (r : Int32), k5 v1 v2 s = some r → W14 l Z n0 (P14 s r) 0 0 5 [.val (.ref 0), .val (.int v1), .val (.int v2)] [] (Hb 0 s)) (n : Nat) (v1 : Int32) (v2 : Int32) (s : St) (r : Int32) (h : f_earliestNextDeadline_30 k5 n v1 v2 s = some r) : W14 l Z n0 (P14 s r) 0 0 30 [.val (.ref 0), .val (.int v1), .val (.int v2)] [] (Hb 0 s) := by
  unfold f_earliestNextDeadline_30 at h
  obtain ⟨x1, ex1, h⟩ := lt_e h
  refine WP.iinc (L' := [.val (.ref 0), .val (.int v1), .val (.int x1)]) (1 : Int32) d14_30 rfl rfl (by subst ex1; rfl) ?_
  refine WP.goto (pc' := 5) d14_33 (by decide) rfl ?_
  exact WP.weak (L' := [.val (.ref 0), .val (.int v1), .val (.int x1)]) ⟨rfl, rfl, rfl, trivial⟩ (hk5 v1 x1 s _ h)
def g_earliestNextDeadline_5 (k5 : Int32 → Int32 → St → Option (Int32)) (n : Nat) (v1 : Int32) (v2 : Int32) (s : St) : Option (Int32) :=
  if v2 < (gI s 11) then
    (rd (gA s 9) v2).bind fun x2 =>
    if x2 < v1 then
      (rd (gA s 9) v2).bind fun x4 =>
      f_earliestNextDeadline_30 k5 n x4 v2 s
    else
      f_earliestNextDeadline_30 k5 n v1 v2 s
  else
    some v1
set_option maxRecDepth 65536 in
set_option maxHeartbeats 4000000 in
theorem okg14_5 (l : Launch) (Z : State) (a0 : Array Value) (hw : HW a0 Z) (n0 : Nat) (k5 : Int32 → Int32 → St → Option (Int32)) (hk5 : ∀ (v1 : Int32) (v2 : Int32) (s : St) (r : Int32), k5 v1 v2 s = some r → W14 l Z n0 (P14 s r) 0 0 5 [.val (.ref 0), .val (.int v1), .val (.int v2)] [] (Hb 0 s)) (n : Nat) (v1 : Int32) (v2 : Int32) (s : St) (r : Int32) (h : g_earliestNextDeadline_5 k5 n v1 v2 s = some r) : W14 l Z n0 (P14 s r) 0 0 5 [.val (.ref 0), .val (.int v1), .val (.int v2)] [] (Hb 0 s) := by
  unfold g_earliestNextDeadline_5 at h
  refine WP.iloadN d14_5 rfl ?_
  refine WP.aloadN d14_6 rfl ?_
  refine WP.getfield (i := 0) (j := 20) d14_7 (hw _ m_60) rfl rfl rfl ?_
  rcases ite_e h with ⟨hc1, h⟩ | ⟨hc1, h⟩
  ·
    refine WP.icmpN d14_10 (XT.ii_ge_f hc1) ?_
    refine WP.aloadN d14_13 rfl ?_
    refine WP.getfield (i := 0) (j := 21) d14_14 (hw _ m_28) rfl rfl rfl ?_
    refine WP.iloadN d14_17 rfl ?_
    obtain ⟨x2, hx2, h⟩ := Option.bind_eq_some_iff.mp h
    refine WP.iaload (i := 10) d14_18 rfl hx2 ?_
    refine WP.iloadN d14_19 rfl ?_
    rcases ite_e h with ⟨hc3, h⟩ | ⟨hc3, h⟩
    ·
      refine WP.icmpN d14_20 (XT.ii_ge_f hc3) ?_
      refine WP.aloadN d14_23 rfl ?_
      refine WP.getfield (i := 0) (j := 21) d14_24 (hw _ m_28) rfl rfl rfl ?_
      refine WP.iloadN d14_27 rfl ?_
      obtain ⟨x4, hx4, h⟩ := Option.bind_eq_some_iff.mp h
      refine WP.iaload (i := 10) d14_28 rfl hx4 ?_
      refine WP.istoreN (L' := [.val (.ref 0), .val (.int x4), .val (.int v2)]) d14_29 (leb rfl) rfl ?_
      exact WP.weak (L' := [.val (.ref 0), .val (.int x4), .val (.int v2)]) ⟨rfl, rfl, rfl, trivial⟩ (ok14_30 l Z a0 hw n0 _ hk5 n x4 v2 s _ h)
    ·
      refine WP.icmpY (pc' := 30) d14_20 (XT.ii_ge_t hc3) (by decide) rfl ?_
      exact WP.weak (L' := [.val (.ref 0), .val (.int v1), .val (.int v2)]) ⟨rfl, rfl, rfl, trivial⟩ (ok14_30 l Z a0 hw n0 _ hk5 n v1 v2 s _ h)
  ·
    refine WP.icmpY (pc' := 36) d14_10 (XT.ii_ge_t hc1) (by decide) rfl ?_
    refine WP.iloadN d14_36 rfl ?_
    cases h
    exact WP.ireturn d14_37 rfl (leb rfl) (leb rfl) ⟨rfl, rfl⟩
def f_earliestNextDeadline_5 : Nat → Int32 → Int32 → St → Option (Int32)
  | 0 => fun _ _ _ => none
  | n + 1 => g_earliestNextDeadline_5 (f_earliestNextDeadline_5 n) n
theorem ok14_5 (l : Launch) (Z : State) (a0 : Array Value) (hw : HW a0 Z) (n0 : Nat) : ∀ (n : Nat) (v1 : Int32) (v2 : Int32) (s : St) (r : Int32), f_earliestNextDeadline_5 n v1 v2 s = some r → W14 l Z n0 (P14 s r) 0 0 5 [.val (.ref 0), .val (.int v1), .val (.int v2)] [] (Hb 0 s)
  | 0, v1, v2, s, r, h => nomatch (show none = some r from h)
  | n + 1, v1, v2, s, r, h => okg14_5 l Z a0 hw n0 _ (ok14_5 l Z a0 hw n0 n) n v1 v2 s r h
def f_earliestNextDeadline (n : Nat) (s : St) : Option (Int32) :=
  f_earliestNextDeadline_5 n (2147483647 : Int32) (0 : Int32) s
set_option maxRecDepth 65536 in
set_option maxHeartbeats 4000000 in
theorem ok14 (l : Launch) (Z : State) (a0 : Array Value) (hw : HW a0 Z) (n : Nat) (s : St) (r : Int32) (h : f_earliestNextDeadline n s = some r) : CS l Z CN lay y14 prog_1_method_31_code 3 (some FieldType.int) R14 0 [.ref 0] (Hb 0 s) (P14 s r) := by
  refine CS.of_wp pn_cls (leb rfl) fun n0 => ?_
  show W14 l Z n0 (P14 s r) 0 0 0 [.val (.ref 0), .unset, .unset] [] (Hb 0 s)
  unfold f_earliestNextDeadline at h
  refine WP.ldc d14_0 (hw _ m_116) ?_
  refine WP.istoreN (L' := [.val (.ref 0), .val (.int (2147483647 : Int32)), .unset]) d14_2 (leb rfl) rfl ?_
  refine WP.iconst (0 : Int32) d14_3 rfl ?_
  refine WP.istoreN (L' := [.val (.ref 0), .val (.int (2147483647 : Int32)), .val (.int (0 : Int32))]) d14_4 (leb rfl) rfl ?_
  exact WP.weak (L' := [.val (.ref 0), .val (.int (2147483647 : Int32)), .val (.int (0 : Int32))]) ⟨rfl, rfl, rfl, trivial⟩ (ok14_5 l Z a0 hw n0 n (2147483647 : Int32) (0 : Int32) s _ h)
theorem d15_0 : dc prog_1_method_32_code 0 (.lconst 0) 1 := by decide +kernel
theorem d15_1 : dc prog_1_method_32_code 1 (.lstore_n 2) 1 := by decide +kernel
theorem d15_2 : dc prog_1_method_32_code 2 (.iconst 0) 1 := by decide +kernel
theorem d15_3 : dc prog_1_method_32_code 3 (.istore 4) 2 := by decide +kernel
theorem d15_5 : dc prog_1_method_32_code 5 (.iload 4) 2 := by decide +kernel
theorem d15_7 : dc prog_1_method_32_code 7 (.aload_n 0) 1 := by decide +kernel
theorem d15_8 : dc prog_1_method_32_code 8 (.getfield 85) 3 := by decide +kernel
theorem d15_11 : dc prog_1_method_32_code 11 (.if_icmp .ge 53) 3 := by decide +kernel
theorem d15_14 : dc prog_1_method_32_code 14 (.aload_n 0) 1 := by decide +kernel
theorem d15_15 : dc prog_1_method_32_code 15 (.getfield 37) 3 := by decide +kernel
theorem d15_18 : dc prog_1_method_32_code 18 (.iload 4) 2 := by decide +kernel
theorem d15_20 : dc prog_1_method_32_code 20 (.iaload) 1 := by decide +kernel
theorem d15_21 : dc prog_1_method_32_code 21 (.iload_n 1) 1 := by decide +kernel
theorem d15_22 : dc prog_1_method_32_code 22 (.if_icmp .ne 36) 3 := by decide +kernel
theorem d15_25 : dc prog_1_method_32_code 25 (.lload_n 2) 1 := by decide +kernel
theorem d15_26 : dc prog_1_method_32_code 26 (.aload_n 0) 1 := by decide +kernel
theorem d15_27 : dc prog_1_method_32_code 27 (.getfield 28) 3 := by decide +kernel
theorem d15_30 : dc prog_1_method_32_code 30 (.iload 4) 2 := by decide +kernel
theorem d15_32 : dc prog_1_method_32_code 32 (.iaload) 1 := by decide +kernel
theorem d15_33 : dc prog_1_method_32_code 33 (.i2l) 1 := by decide +kernel
theorem d15_34 : dc prog_1_method_32_code 34 (.ladd) 1 := by decide +kernel
theorem d15_35 : dc prog_1_method_32_code 35 (.lstore_n 2) 1 := by decide +kernel
theorem d15_36 : dc prog_1_method_32_code 36 (.aload_n 0) 1 := by decide +kernel
theorem d15_37 : dc prog_1_method_32_code 37 (.getfield 37) 3 := by decide +kernel
theorem d15_40 : dc prog_1_method_32_code 40 (.iload 4) 2 := by decide +kernel
theorem d15_42 : dc prog_1_method_32_code 42 (.aload_n 0) 1 := by decide +kernel
theorem d15_43 : dc prog_1_method_32_code 43 (.getfield 37) 3 := by decide +kernel
theorem d15_46 : dc prog_1_method_32_code 46 (.iload 4) 2 := by decide +kernel
theorem d15_48 : dc prog_1_method_32_code 48 (.iaload) 1 := by decide +kernel
theorem d15_49 : dc prog_1_method_32_code 49 (.aload_n 0) 1 := by decide +kernel
theorem d15_50 : dc prog_1_method_32_code 50 (.getfield 34) 3 := by decide +kernel
theorem d15_53 : dc prog_1_method_32_code 53 (.iload 4) 2 := by decide +kernel
theorem d15_55 : dc prog_1_method_32_code 55 (.iaload) 1 := by decide +kernel
theorem d15_56 : dc prog_1_method_32_code 56 (.iadd) 1 := by decide +kernel
theorem d15_57 : dc prog_1_method_32_code 57 (.iastore) 1 := by decide +kernel
theorem d15_58 : dc prog_1_method_32_code 58 (.iinc 4 1) 3 := by decide +kernel
theorem d15_61 : dc prog_1_method_32_code 61 (.goto (-56)) 3 := by decide +kernel
theorem d15_64 : dc prog_1_method_32_code 64 (.lload_n 2) 1 := by decide +kernel
theorem d15_65 : dc prog_1_method_32_code 65 (.lreturn) 1 := by decide +kernel
abbrev y15 : MethodName := ⟨"DemandGate", "consumeDeadlinesAt", "(I)J"⟩
theorem hy15 : y15.cls ≠ "java/lang/invoke/MethodHandle" ∧ y15.cls ≠ "java/lang/invoke/VarHandle" := by decide
theorem pd15 : parseMethodDescriptor y15.desc = some ⟨[.int], some .long⟩ := by decide +kernel
abbrev R15 : Room := { frames := 0, cells := 0, slots := 0, locals := 0 }
abbrev P15 (r : Int64 × St) : Option Value → List OwnC → Prop := fun v H' => v = some (.long r.1) ∧ H' = (Hb 0 r.2)
abbrev W15 (l : Launch) (Z : State) (n0 : Nat) (Q : Option Value → List OwnC → Prop) (k n pc : Nat) (L : List Slot) (S : List Value) (H : List OwnC) : Prop := WP l Z CN lay "DemandGate" "consumeDeadlinesAt" prog_1_method_32_code 5 (some FieldType.long) R15 n0 0 Q k n pc L S H
def f_consumeDeadlinesAt_58 (k5 : Int32 → Int64 → Int32 → St → Option (Int64 × St)) (n : Nat) (v1 : Int32) (v2 : Int64) (v4 : Int32) (s : St) : Option (Int64 × St) :=
  lt (v4 + (1 : Int32)) fun x1 =>
  k5 v1 v2 x1 s
set_option maxRecDepth 65536 in
set_option maxHeartbeats 4000000 in
theorem ok15_58 (l : Launch) (Z : State) (a0 : Array Value) (hw : HW a0 Z) (n0 : Nat) (k5 : Int32 → Int64 → Int32 → St → Option (Int64 × St)) (hk5 : ∀ (v1 : Int32) (v2 : Int64) (v4 : Int32) (s : St) (r : Int64 × St), k5 v1 v2 v4 s = some r → W15 l Z n0 (P15 r) 0 0 5 [.val (.ref 0), .val (.int v1), .val (.long v2), .second, .val (.int v4)] [] (Hb 0 s)) (n : Nat) (v1 : Int32) (v2 : Int64) (v4 : Int32) (s : St) (r : Int64 × St) (h : f_consumeDeadlinesAt_58 k5 n v1 v2 v4 s = some r) : W15 l Z n0 (P15 r) 0 0 58 [.val (.ref 0), .val (.int v1), .val (.long v2), .second, .val (.int v4)] [] (Hb 0 s) := by
  unfold f_consumeDeadlinesAt_58 at h
  obtain ⟨x1, ex1, h⟩ := lt_e h
  refine WP.iinc (L' := [.val (.ref 0), .val (.int v1), .val (.long v2), .second, .val (.int x1)]) (1 : Int32) d15_58 rfl rfl (by subst ex1; rfl) ?_
  refine WP.goto (pc' := 5) d15_61 (by decide) rfl ?_
  exact WP.weak (L' := [.val (.ref 0), .val (.int v1), .val (.long v2), .second, .val (.int x1)]) ⟨rfl, rfl, rfl, rfl, rfl, trivial⟩ (hk5 v1 v2 x1 s _ h)
def g_consumeDeadlinesAt_5 (k5 : Int32 → Int64 → Int32 → St → Option (Int64 × St)) (n : Nat) (v1 : Int32) (v2 : Int64) (v4 : Int32) (s : St) : Option (Int64 × St) :=
  if v4 < (gI s 11) then
    (rd (gA s 9) v4).bind fun x2 =>
    if x2 = v1 then
      (rd (gA s 6) v4).bind fun x4 =>
      lt (v2 + x4.toInt64) fun x5 =>
      (rd (gA s 9) v4).bind fun x6 =>
      (rd (gA s 8) v4).bind fun x7 =>
      (wrA s 9 v4 (x6 + x7)).bind fun s8 =>
      f_consumeDeadlinesAt_58 k5 n v1 x5 v4 s8
    else
      f_consumeDeadlinesAt_58 k5 n v1 v2 v4 s
  else
    some (v2, s)
set_option maxRecDepth 65536 in
set_option maxHeartbeats 4000000 in
theorem okg15_5 (l : Launch) (Z : State) (a0 : Array Value) (hw : HW a0 Z) (n0 : Nat) (k5 : Int32 → Int64 → Int32 → St → Option (Int64 × St)) (hk5 : ∀ (v1 : Int32) (v2 : Int64) (v4 : Int32) (s : St) (r : Int64 × St), k5 v1 v2 v4 s = some r → W15 l Z n0 (P15 r) 0 0 5 [.val (.ref 0), .val (.int v1), .val (.long v2), .second, .val (.int v4)] [] (Hb 0 s)) (n : Nat) (v1 : Int32) (v2 : Int64) (v4 : Int32) (s : St) (r : Int64 × St) (h : g_consumeDeadlinesAt_5 k5 n v1 v2 v4 s = some r) : W15 l Z n0 (P15 r) 0 0 5 [.val (.ref 0), .val (.int v1), .val (.long v2), .second, .val (.int v4)] [] (Hb 0 s) := by
  unfold g_consumeDeadlinesAt_5 at h
  refine WP.iload d15_5 rfl ?_
  refine WP.aloadN d15_7 rfl ?_
  refine WP.getfield (i := 0) (j := 20) d15_8 (hw _ m_60) rfl rfl rfl ?_
  rcases ite_e h with ⟨hc1, h⟩ | ⟨hc1, h⟩
  ·
    refine WP.icmpN d15_11 (XT.ii_ge_f hc1) ?_
    refine WP.aloadN d15_14 rfl ?_
    refine WP.getfield (i := 0) (j := 21) d15_15 (hw _ m_28) rfl rfl rfl ?_
    refine WP.iload d15_18 rfl ?_
    obtain ⟨x2, hx2, h⟩ := Option.bind_eq_some_iff.mp h
    refine WP.iaload (i := 10) d15_20 rfl hx2 ?_
    refine WP.iloadN d15_21 rfl ?_
    rcases ite_e h with ⟨hc3, h⟩ | ⟨hc3, h⟩
    ·
      refine WP.icmpN d15_22 (XT.ii_ne_f hc3) ?_
      refine WP.lloadN d15_25 rfl ?_
      refine WP.aloadN d15_26 rfl ?_
      refine WP.getfield (i := 0) (j := 17) d15_27 (hw _ m_22) rfl rfl rfl ?_
      refine WP.iload d15_30 rfl ?_
      obtain ⟨x4, hx4, h⟩ := Option.bind_eq_some_iff.mp h
      refine WP.iaload (i := 7) d15_32 rfl hx4 ?_
      refine WP.i2l d15_33 ?_
      refine WP.ladd d15_34 ?_
      obtain ⟨x5, ex5, h⟩ := lt_e h
      refine WP.lstoreN (L' := [.val (.ref 0), .val (.int v1), .val (.long x5), .second, .val (.int v4)]) d15_35 (leb rfl) (by subst ex5; rfl) ?_
      refine WP.aloadN d15_36 rfl ?_
      refine WP.getfield (i := 0) (j := 21) d15_37 (hw _ m_28) rfl rfl rfl ?_
      refine WP.iload d15_40 rfl ?_
      refine WP.aloadN d15_42 rfl ?_
      refine WP.getfield (i := 0) (j := 21) d15_43 (hw _ m_28) rfl rfl rfl ?_
      refine WP.iload d15_46 rfl ?_
      obtain ⟨x6, hx6, h⟩ := Option.bind_eq_some_iff.mp h
      refine WP.iaload (i := 10) d15_48 rfl hx6 ?_
      refine WP.aloadN d15_49 rfl ?_
      refine WP.getfield (i := 0) (j := 19) d15_50 (hw _ m_26) rfl rfl rfl ?_
      refine WP.iload d15_53 rfl ?_
      obtain ⟨x7, hx7, h⟩ := Option.bind_eq_some_iff.mp h
      refine WP.iaload (i := 9) d15_55 rfl hx7 ?_
      refine WP.iadd d15_56 ?_
      obtain ⟨s8, hs8, h⟩ := Option.bind_eq_some_iff.mp h
      obtain ⟨ys8, gs8, es8⟩ := wrA_e hs8
      refine WP.iastore (i := 10) (xs := gA s 9) (H' := (Hb 0 s8)) d15_57 rfl (leb rfl) gs8 (by subst es8; rfl) ?_
      exact WP.weak (L' := [.val (.ref 0), .val (.int v1), .val (.long x5), .second, .val (.int v4)]) ⟨rfl, rfl, rfl, rfl, rfl, trivial⟩ (ok15_58 l Z a0 hw n0 _ hk5 n v1 x5 v4 s8 _ h)
    ·
      refine WP.icmpY (pc' := 58) d15_22 (XT.ii_ne_t hc3) (by decide) rfl ?_
      exact WP.weak (L' := [.val (.ref 0), .val (.int v1), .val (.long v2), .second, .val (.int v4)]) ⟨rfl, rfl, rfl, rfl, rfl, trivial⟩ (ok15_58 l Z a0 hw n0 _ hk5 n v1 v2 v4 s _ h)
  ·
    refine WP.icmpY (pc' := 64) d15_11 (XT.ii_ge_t hc1) (by decide) rfl ?_
    refine WP.lloadN d15_64 rfl ?_
    cases h
    exact WP.lreturn d15_65 rfl (leb rfl) (leb rfl) ⟨rfl, rfl⟩
def f_consumeDeadlinesAt_5 : Nat → Int32 → Int64 → Int32 → St → Option (Int64 × St)
  | 0 => fun _ _ _ _ => none
  | n + 1 => g_consumeDeadlinesAt_5 (f_consumeDeadlinesAt_5 n) n
theorem ok15_5 (l : Launch) (Z : State) (a0 : Array Value) (hw : HW a0 Z) (n0 : Nat) : ∀ (n : Nat) (v1 : Int32) (v2 : Int64) (v4 : Int32) (s : St) (r : Int64 × St), f_consumeDeadlinesAt_5 n v1 v2 v4 s = some r → W15 l Z n0 (P15 r) 0 0 5 [.val (.ref 0), .val (.int v1), .val (.long v2), .second, .val (.int v4)] [] (Hb 0 s)
  | 0, v1, v2, v4, s, r, h => nomatch (show none = some r from h)
  | n + 1, v1, v2, v4, s, r, h => okg15_5 l Z a0 hw n0 _ (ok15_5 l Z a0 hw n0 n) n v1 v2 v4 s r h
def f_consumeDeadlinesAt (n : Nat) (p1 : Int32) (s : St) : Option (Int64 × St) :=
  f_consumeDeadlinesAt_5 n p1 (0 : Int64) (0 : Int32) s
set_option maxRecDepth 65536 in
set_option maxHeartbeats 4000000 in
theorem ok15 (l : Launch) (Z : State) (a0 : Array Value) (hw : HW a0 Z) (n : Nat) (p1 : Int32) (s : St) (r : Int64 × St) (h : f_consumeDeadlinesAt n p1 s = some r) : CS l Z CN lay y15 prog_1_method_32_code 5 (some FieldType.long) R15 0 [.ref 0, .int p1] (Hb 0 s) (P15 r) := by
  refine CS.of_wp pn_cls (leb rfl) fun n0 => ?_
  show W15 l Z n0 (P15 r) 0 0 0 [.val (.ref 0), .val (.int p1), .unset, .unset, .unset] [] (Hb 0 s)
  unfold f_consumeDeadlinesAt at h
  refine WP.lconst (0 : Int64) d15_0 rfl ?_
  refine WP.lstoreN (L' := [.val (.ref 0), .val (.int p1), .val (.long (0 : Int64)), .second, .unset]) d15_1 (leb rfl) rfl ?_
  refine WP.iconst (0 : Int32) d15_2 rfl ?_
  refine WP.istore (L' := [.val (.ref 0), .val (.int p1), .val (.long (0 : Int64)), .second, .val (.int (0 : Int32))]) d15_3 (leb rfl) rfl ?_
  exact WP.weak (L' := [.val (.ref 0), .val (.int p1), .val (.long (0 : Int64)), .second, .val (.int (0 : Int32))]) ⟨rfl, rfl, rfl, rfl, rfl, trivial⟩ (ok15_5 l Z a0 hw n0 n p1 (0 : Int64) (0 : Int32) s _ h)
theorem d13_0 : dc prog_1_method_30_code 0 (.iconst 0) 1 := by decide +kernel
theorem d13_1 : dc prog_1_method_30_code 1 (.istore_n 2) 1 := by decide +kernel
theorem d13_2 : dc prog_1_method_30_code 2 (.iload_n 2) 1 := by decide +kernel
theorem d13_3 : dc prog_1_method_30_code 3 (.aload_n 0) 1 := by decide +kernel
theorem d13_4 : dc prog_1_method_30_code 4 (.getfield 85) 3 := by decide +kernel
theorem d13_7 : dc prog_1_method_30_code 7 (.if_icmp .ge 21) 3 := by decide +kernel
theorem d13_10 : dc prog_1_method_30_code 10 (.aload_n 0) 1 := by decide +kernel
theorem d13_11 : dc prog_1_method_30_code 11 (.getfield 37) 3 := by decide +kernel
theorem d13_14 : dc prog_1_method_30_code 14 (.iload_n 2) 1 := by decide +kernel
theorem d13_15 : dc prog_1_method_30_code 15 (.aload_n 0) 1 := by decide +kernel
theorem d13_16 : dc prog_1_method_30_code 16 (.getfield 31) 3 := by decide +kernel
theorem d13_19 : dc prog_1_method_30_code 19 (.iload_n 2) 1 := by decide +kernel
theorem d13_20 : dc prog_1_method_30_code 20 (.iaload) 1 := by decide +kernel
theorem d13_21 : dc prog_1_method_30_code 21 (.iastore) 1 := by decide +kernel
theorem d13_22 : dc prog_1_method_30_code 22 (.iinc 2 1) 3 := by decide +kernel
theorem d13_25 : dc prog_1_method_30_code 25 (.goto (-23)) 3 := by decide +kernel
theorem d13_28 : dc prog_1_method_30_code 28 (.lconst 0) 1 := by decide +kernel
theorem d13_29 : dc prog_1_method_30_code 29 (.lstore_n 2) 1 := by decide +kernel
theorem d13_30 : dc prog_1_method_30_code 30 (.iconst 0) 1 := by decide +kernel
theorem d13_31 : dc prog_1_method_30_code 31 (.istore 4) 2 := by decide +kernel
theorem d13_33 : dc prog_1_method_30_code 33 (.iload 4) 2 := by decide +kernel
theorem d13_35 : dc prog_1_method_30_code 35 (.sipush 2049) 3 := by decide +kernel
theorem d13_38 : dc prog_1_method_30_code 38 (.if_icmp .gt 43) 3 := by decide +kernel
theorem d13_41 : dc prog_1_method_30_code 41 (.aload_n 0) 1 := by decide +kernel
theorem d13_42 : dc prog_1_method_30_code 42 (.invokevirtual 136) 3 := by decide +kernel
theorem d13_45 : dc prog_1_method_30_code 45 (.istore 5) 2 := by decide +kernel
theorem d13_47 : dc prog_1_method_30_code 47 (.iload 5) 2 := by decide +kernel
theorem d13_49 : dc prog_1_method_30_code 49 (.iload_n 1) 1 := by decide +kernel
theorem d13_50 : dc prog_1_method_30_code 50 (.if_icmp .le 5) 3 := by decide +kernel
theorem d13_53 : dc prog_1_method_30_code 53 (.iconst 0) 1 := by decide +kernel
theorem d13_54 : dc prog_1_method_30_code 54 (.ireturn) 1 := by decide +kernel
theorem d13_55 : dc prog_1_method_30_code 55 (.lload_n 2) 1 := by decide +kernel
theorem d13_56 : dc prog_1_method_30_code 56 (.aload_n 0) 1 := by decide +kernel
theorem d13_57 : dc prog_1_method_30_code 57 (.iload 5) 2 := by decide +kernel
theorem d13_59 : dc prog_1_method_30_code 59 (.invokevirtual 140) 3 := by decide +kernel
theorem d13_62 : dc prog_1_method_30_code 62 (.ladd) 1 := by decide +kernel
theorem d13_63 : dc prog_1_method_30_code 63 (.lstore_n 2) 1 := by decide +kernel
theorem d13_64 : dc prog_1_method_30_code 64 (.lload_n 2) 1 := by decide +kernel
theorem d13_65 : dc prog_1_method_30_code 65 (.iload 5) 2 := by decide +kernel
theorem d13_67 : dc prog_1_method_30_code 67 (.i2l) 1 := by decide +kernel
theorem d13_68 : dc prog_1_method_30_code 68 (.lcmp) 1 := by decide +kernel
theorem d13_69 : dc prog_1_method_30_code 69 (.ifCond .le 6) 3 := by decide +kernel
theorem d13_72 : dc prog_1_method_30_code 72 (.iload 5) 2 := by decide +kernel
theorem d13_74 : dc prog_1_method_30_code 74 (.ireturn) 1 := by decide +kernel
theorem d13_75 : dc prog_1_method_30_code 75 (.iinc 4 1) 3 := by decide +kernel
theorem d13_78 : dc prog_1_method_30_code 78 (.goto (-45)) 3 := by decide +kernel
theorem d13_81 : dc prog_1_method_30_code 81 (.iconst 0) 1 := by decide +kernel
theorem d13_82 : dc prog_1_method_30_code 82 (.ireturn) 1 := by decide +kernel
abbrev y13 : MethodName := ⟨"DemandGate", "scanDeadlinePoints", "(I)I"⟩
theorem hy13 : y13.cls ≠ "java/lang/invoke/MethodHandle" ∧ y13.cls ≠ "java/lang/invoke/VarHandle" := by decide
theorem pd13 : parseMethodDescriptor y13.desc = some ⟨[.int], some .int⟩ := by decide +kernel
abbrev R13 : Room := { frames := 1, cells := 0, slots := 0, locals := 18 }
abbrev P13 (r : Int32 × St) : Option Value → List OwnC → Prop := fun v H' => v = some (.int r.1) ∧ H' = (Hb 0 r.2)
abbrev W13 (l : Launch) (Z : State) (n0 : Nat) (Q : Option Value → List OwnC → Prop) (k n pc : Nat) (L : List Slot) (S : List Value) (H : List OwnC) : Prop := WP l Z CN lay "DemandGate" "scanDeadlinePoints" prog_1_method_30_code 6 (some FieldType.int) R13 n0 0 Q k n pc L S H
def g_scanDeadlinePoints_33 (k33 : Int32 → Int64 → Int32 → St → Option (Int32 × St)) (n : Nat) (v1 : Int32) (v2 : Int64) (v4 : Int32) (s : St) : Option (Int32 × St) :=
  if (2049 : Int32) < v4 then
    some ((0 : Int32), s)
  else
    (f_earliestNextDeadline n s).bind fun c2 =>
    if v1 < c2 then
      some ((0 : Int32), s)
    else
      (f_consumeDeadlinesAt n c2 s).bind fun c4 =>
      lt (v2 + c4.1) fun x5 =>
      if c2.toInt64 < x5 then
        some (c2, c4.2)
      else
        lt (v4 + (1 : Int32)) fun x7 =>
        k33 v1 x5 x7 c4.2
set_option maxRecDepth 65536 in
set_option maxHeartbeats 4000000 in
theorem okg13_33 (l : Launch) (Z : State) (a0 : Array Value) (hw : HW a0 Z) (n0 : Nat) (k33 : Int32 → Int64 → Int32 → St → Option (Int32 × St)) (hk33 : ∀ (v1 : Int32) (v2 : Int64) (v4 : Int32) (s : St) (r : Int32 × St), k33 v1 v2 v4 s = some r → W13 l Z n0 (P13 r) 0 0 33 [.val (.ref 0), .val (.int v1), .val (.long v2), .second, .val (.int v4), .unset] [] (Hb 0 s)) (n : Nat) (v1 : Int32) (v2 : Int64) (v4 : Int32) (s : St) (r : Int32 × St) (h : g_scanDeadlinePoints_33 k33 n v1 v2 v4 s = some r) : W13 l Z n0 (P13 r) 0 0 33 [.val (.ref 0), .val (.int v1), .val (.long v2), .second, .val (.int v4), .unset] [] (Hb 0 s) := by
  unfold g_scanDeadlinePoints_33 at h
  refine WP.iload d13_33 rfl ?_
  refine WP.sipush (2049 : Int32) d13_35 rfl ?_
  rcases ite_e h with ⟨hc1, h⟩ | ⟨hc1, h⟩
  ·
    refine WP.icmpY (pc' := 81) d13_38 (XT.ii_gt_t hc1) (by decide) rfl ?_
    refine WP.iconst (0 : Int32) d13_81 rfl ?_
    cases h
    exact WP.ireturn d13_82 rfl (leb rfl) (leb rfl) ⟨rfl, rfl⟩
  ·
    refine WP.icmpN d13_38 (XT.ii_gt_f hc1) ?_
    refine WP.aloadN d13_41 rfl ?_
    obtain ⟨c2, hc2, h⟩ := Option.bind_eq_some_iff.mp h
    refine WP.callP (i := 0) (y := y14) (as := []) (S := []) d13_42 (hw _ m_112) (hw _ m_114) (hw _ m_1) (hw _ m_113) (hw _ m_115) (hw _ m_2) hy14 rfl (ok14 l Z a0 hw n s _ hc2) rfl (lenOf pd14 rfl) (leb rfl) (leb rfl) (leb rfl) (leb rfl) ?_
    rintro _ _ ⟨rfl, rfl⟩
    show W13 l Z n0 (P13 r) 0 0 45 [.val (.ref 0), .val (.int v1), .val (.long v2), .second, .val (.int v4), .unset] [.int c2] (Hb 0 s)
    refine WP.istore (L' := [.val (.ref 0), .val (.int v1), .val (.long v2), .second, .val (.int v4), .val (.int c2)]) d13_45 (leb rfl) rfl ?_
    refine WP.iload d13_47 rfl ?_
    refine WP.iloadN d13_49 rfl ?_
    rcases ite_e h with ⟨hc3, h⟩ | ⟨hc3, h⟩
    ·
      refine WP.icmpN d13_50 (XT.ii_le_f hc3) ?_
      refine WP.iconst (0 : Int32) d13_53 rfl ?_
      cases h
      exact WP.ireturn d13_54 rfl (leb rfl) (leb rfl) ⟨rfl, rfl⟩
    ·
      refine WP.icmpY (pc' := 55) d13_50 (XT.ii_le_t hc3) (by decide) rfl ?_
      refine WP.lloadN d13_55 rfl ?_
      refine WP.aloadN d13_56 rfl ?_
      refine WP.iload d13_57 rfl ?_
      obtain ⟨c4, hc4, h⟩ := Option.bind_eq_some_iff.mp h
      refine WP.callP (i := 0) (y := y15) (as := [.int c2]) (S := [.long v2]) d13_59 (hw _ m_117) (hw _ m_119) (hw _ m_1) (hw _ m_118) (hw _ m_120) (hw _ m_2) hy15 rfl (ok15 l Z a0 hw n c2 s _ hc4) rfl (lenOf pd15 rfl) (leb rfl) (leb rfl) (leb rfl) (leb rfl) ?_
      rintro _ _ ⟨rfl, rfl⟩
      show W13 l Z n0 (P13 r) 0 0 62 [.val (.ref 0), .val (.int v1), .val (.long v2), .second, .val (.int v4), .val (.int c2)] [.long c4.1, .long v2] (Hb 0 c4.2)
      refine WP.ladd d13_62 ?_
      obtain ⟨x5, ex5, h⟩ := lt_e h
      refine WP.lstoreN (L' := [.val (.ref 0), .val (.int v1), .val (.long x5), .second, .val (.int v4), .val (.int c2)]) d13_63 (leb rfl) (by subst ex5; rfl) ?_
      refine WP.lloadN d13_64 rfl ?_
      refine WP.iload d13_65 rfl ?_
      refine WP.i2l d13_67 ?_
      refine WP.lcmp d13_68 ?_
      rcases ite_e h with ⟨hc6, h⟩ | ⟨hc6, h⟩
      ·
        refine WP.ifN d13_69 (XT.ll_le_f hc6) ?_
        refine WP.iload d13_72 rfl ?_
        cases h
        exact WP.ireturn d13_74 rfl (leb rfl) (leb rfl) ⟨rfl, rfl⟩
      ·
        refine WP.ifY (pc' := 75) d13_69 (XT.ll_le_t hc6) (by decide) rfl ?_
        obtain ⟨x7, ex7, h⟩ := lt_e h
        refine WP.iinc (L' := [.val (.ref 0), .val (.int v1), .val (.long x5), .second, .val (.int x7), .val (.int c2)]) (1 : Int32) d13_75 rfl rfl (by subst ex7; rfl) ?_
        refine WP.goto (pc' := 33) d13_78 (by decide) rfl ?_
        exact WP.weak (L' := [.val (.ref 0), .val (.int v1), .val (.long x5), .second, .val (.int x7), .unset]) ⟨rfl, rfl, rfl, rfl, rfl, trivial⟩ (hk33 v1 x5 x7 c4.2 _ h)
def f_scanDeadlinePoints_33 : Nat → Int32 → Int64 → Int32 → St → Option (Int32 × St)
  | 0 => fun _ _ _ _ => none
  | n + 1 => g_scanDeadlinePoints_33 (f_scanDeadlinePoints_33 n) n
theorem ok13_33 (l : Launch) (Z : State) (a0 : Array Value) (hw : HW a0 Z) (n0 : Nat) : ∀ (n : Nat) (v1 : Int32) (v2 : Int64) (v4 : Int32) (s : St) (r : Int32 × St), f_scanDeadlinePoints_33 n v1 v2 v4 s = some r → W13 l Z n0 (P13 r) 0 0 33 [.val (.ref 0), .val (.int v1), .val (.long v2), .second, .val (.int v4), .unset] [] (Hb 0 s)
  | 0, v1, v2, v4, s, r, h => nomatch (show none = some r from h)
  | n + 1, v1, v2, v4, s, r, h => okg13_33 l Z a0 hw n0 _ (ok13_33 l Z a0 hw n0 n) n v1 v2 v4 s r h
def g_scanDeadlinePoints_2 (k2 : Int32 → Int32 → St → Option (Int32 × St)) (n : Nat) (v1 : Int32) (v2 : Int32) (s : St) : Option (Int32 × St) :=
  if v2 < (gI s 11) then
    (rd (gA s 7) v2).bind fun x2 =>
    (wrA s 9 v2 x2).bind fun s3 =>
    lt (v2 + (1 : Int32)) fun x4 =>
    k2 v1 x4 s3
  else
    f_scanDeadlinePoints_33 n v1 (0 : Int64) (0 : Int32) s
set_option maxRecDepth 65536 in
set_option maxHeartbeats 4000000 in
theorem okg13_2 (l : Launch) (Z : State) (a0 : Array Value) (hw : HW a0 Z) (n0 : Nat) (k2 : Int32 → Int32 → St → Option (Int32 × St)) (hk2 : ∀ (v1 : Int32) (v2 : Int32) (s : St) (r : Int32 × St), k2 v1 v2 s = some r → W13 l Z n0 (P13 r) 0 0 2 [.val (.ref 0), .val (.int v1), .val (.int v2), .unset, .unset, .unset] [] (Hb 0 s)) (n : Nat) (v1 : Int32) (v2 : Int32) (s : St) (r : Int32 × St) (h : g_scanDeadlinePoints_2 k2 n v1 v2 s = some r) : W13 l Z n0 (P13 r) 0 0 2 [.val (.ref 0), .val (.int v1), .val (.int v2), .unset, .unset, .unset] [] (Hb 0 s) := by
  unfold g_scanDeadlinePoints_2 at h
  refine WP.iloadN d13_2 rfl ?_
  refine WP.aloadN d13_3 rfl ?_
  refine WP.getfield (i := 0) (j := 20) d13_4 (hw _ m_60) rfl rfl rfl ?_
  rcases ite_e h with ⟨hc1, h⟩ | ⟨hc1, h⟩
  ·
    refine WP.icmpN d13_7 (XT.ii_ge_f hc1) ?_
    refine WP.aloadN d13_10 rfl ?_
    refine WP.getfield (i := 0) (j := 21) d13_11 (hw _ m_28) rfl rfl rfl ?_
    refine WP.iloadN d13_14 rfl ?_
    refine WP.aloadN d13_15 rfl ?_
    refine WP.getfield (i := 0) (j := 18) d13_16 (hw _ m_24) rfl rfl rfl ?_
    refine WP.iloadN d13_19 rfl ?_
    obtain ⟨x2, hx2, h⟩ := Option.bind_eq_some_iff.mp h
    refine WP.iaload (i := 8) d13_20 rfl hx2 ?_
    obtain ⟨s3, hs3, h⟩ := Option.bind_eq_some_iff.mp h
    obtain ⟨ys3, gs3, es3⟩ := wrA_e hs3
    refine WP.iastore (i := 10) (xs := gA s 9) (H' := (Hb 0 s3)) d13_21 rfl (leb rfl) gs3 (by subst es3; rfl) ?_
    obtain ⟨x4, ex4, h⟩ := lt_e h
    refine WP.iinc (L' := [.val (.ref 0), .val (.int v1), .val (.int x4), .unset, .unset, .unset]) (1 : Int32) d13_22 rfl rfl (by subst ex4; rfl) ?_
    refine WP.goto (pc' := 2) d13_25 (by decide) rfl ?_
    exact WP.weak (L' := [.val (.ref 0), .val (.int v1), .val (.int x4), .unset, .unset, .unset]) ⟨rfl, rfl, rfl, trivial⟩ (hk2 v1 x4 s3 _ h)
  ·
    refine WP.icmpY (pc' := 28) d13_7 (XT.ii_ge_t hc1) (by decide) rfl ?_
    refine WP.lconst (0 : Int64) d13_28 rfl ?_
    refine WP.lstoreN (L' := [.val (.ref 0), .val (.int v1), .val (.long (0 : Int64)), .second, .unset, .unset]) d13_29 (leb rfl) rfl ?_
    refine WP.iconst (0 : Int32) d13_30 rfl ?_
    refine WP.istore (L' := [.val (.ref 0), .val (.int v1), .val (.long (0 : Int64)), .second, .val (.int (0 : Int32)), .unset]) d13_31 (leb rfl) rfl ?_
    exact WP.weak (L' := [.val (.ref 0), .val (.int v1), .val (.long (0 : Int64)), .second, .val (.int (0 : Int32)), .unset]) ⟨rfl, rfl, rfl, rfl, rfl, trivial⟩ (ok13_33 l Z a0 hw n0 n v1 (0 : Int64) (0 : Int32) s _ h)
def f_scanDeadlinePoints_2 : Nat → Int32 → Int32 → St → Option (Int32 × St)
  | 0 => fun _ _ _ => none
  | n + 1 => g_scanDeadlinePoints_2 (f_scanDeadlinePoints_2 n) n
theorem ok13_2 (l : Launch) (Z : State) (a0 : Array Value) (hw : HW a0 Z) (n0 : Nat) : ∀ (n : Nat) (v1 : Int32) (v2 : Int32) (s : St) (r : Int32 × St), f_scanDeadlinePoints_2 n v1 v2 s = some r → W13 l Z n0 (P13 r) 0 0 2 [.val (.ref 0), .val (.int v1), .val (.int v2), .unset, .unset, .unset] [] (Hb 0 s)
  | 0, v1, v2, s, r, h => nomatch (show none = some r from h)
  | n + 1, v1, v2, s, r, h => okg13_2 l Z a0 hw n0 _ (ok13_2 l Z a0 hw n0 n) n v1 v2 s r h
def f_scanDeadlinePoints (n : Nat) (p1 : Int32) (s : St) : Option (Int32 × St) :=
  f_scanDeadlinePoints_2 n p1 (0 : Int32) s
set_option maxRecDepth 65536 in
set_option maxHeartbeats 4000000 in
theorem ok13 (l : Launch) (Z : State) (a0 : Array Value) (hw : HW a0 Z) (n : Nat) (p1 : Int32) (s : St) (r : Int32 × St) (h : f_scanDeadlinePoints n p1 s = some r) : CS l Z CN lay y13 prog_1_method_30_code 6 (some FieldType.int) R13 0 [.ref 0, .int p1] (Hb 0 s) (P13 r) := by
  refine CS.of_wp pn_cls (leb rfl) fun n0 => ?_
  show W13 l Z n0 (P13 r) 0 0 0 [.val (.ref 0), .val (.int p1), .unset, .unset, .unset, .unset] [] (Hb 0 s)
  unfold f_scanDeadlinePoints at h
  refine WP.iconst (0 : Int32) d13_0 rfl ?_
  refine WP.istoreN (L' := [.val (.ref 0), .val (.int p1), .val (.int (0 : Int32)), .unset, .unset, .unset]) d13_1 (leb rfl) rfl ?_
  exact WP.weak (L' := [.val (.ref 0), .val (.int p1), .val (.int (0 : Int32)), .unset, .unset, .unset]) ⟨rfl, rfl, rfl, trivial⟩ (ok13_2 l Z a0 hw n0 n p1 (0 : Int32) s _ h)
theorem d11_0 : dc prog_1_method_28_code 0 (.aload_n 0) 1 := by decide +kernel
theorem d11_1 : dc prog_1_method_28_code 1 (.iload_n 1) 1 := by decide +kernel
theorem d11_2 : dc prog_1_method_28_code 2 (.invokevirtual 129) 3 := by decide +kernel
theorem d11_5 : dc prog_1_method_28_code 5 (.ifCond .eq 5) 3 := by decide +kernel
theorem d11_8 : dc prog_1_method_28_code 8 (.iconst 0) 1 := by decide +kernel
theorem d11_9 : dc prog_1_method_28_code 9 (.ireturn) 1 := by decide +kernel
theorem d11_10 : dc prog_1_method_28_code 10 (.aload_n 0) 1 := by decide +kernel
theorem d11_11 : dc prog_1_method_28_code 11 (.iload_n 1) 1 := by decide +kernel
theorem d11_12 : dc prog_1_method_28_code 12 (.invokevirtual 133) 3 := by decide +kernel
theorem d11_15 : dc prog_1_method_28_code 15 (.ireturn) 1 := by decide +kernel
abbrev y11 : MethodName := ⟨"DemandGate", "overloadOfWork", "(I)I"⟩
theorem hy11 : y11.cls ≠ "java/lang/invoke/MethodHandle" ∧ y11.cls ≠ "java/lang/invoke/VarHandle" := by decide
theorem pd11 : parseMethodDescriptor y11.desc = some ⟨[.int], some .int⟩ := by decide +kernel
abbrev R11 : Room := { frames := 2, cells := 0, slots := 0, locals := 35 }
abbrev P11 (r : Int32 × St) : Option Value → List OwnC → Prop := fun v H' => v = some (.int r.1) ∧ H' = (Hb 0 r.2)
abbrev W11 (l : Launch) (Z : State) (n0 : Nat) (Q : Option Value → List OwnC → Prop) (k n pc : Nat) (L : List Slot) (S : List Value) (H : List OwnC) : Prop := WP l Z CN lay "DemandGate" "overloadOfWork" prog_1_method_28_code 2 (some FieldType.int) R11 n0 0 Q k n pc L S H
def f_overloadOfWork (n : Nat) (p1 : Int32) (s : St) : Option (Int32 × St) :=
  (f_implicitWithinCapacity n p1 s).bind fun c1 =>
  if c1 = 0 then
    (f_scanDeadlinePoints n p1 s).bind fun c3 =>
    some (c3.1, c3.2)
  else
    some ((0 : Int32), s)
set_option maxRecDepth 65536 in
set_option maxHeartbeats 4000000 in
theorem ok11 (l : Launch) (Z : State) (a0 : Array Value) (hw : HW a0 Z) (n : Nat) (p1 : Int32) (s : St) (r : Int32 × St) (h : f_overloadOfWork n p1 s = some r) : CS l Z CN lay y11 prog_1_method_28_code 2 (some FieldType.int) R11 0 [.ref 0, .int p1] (Hb 0 s) (P11 r) := by
  refine CS.of_wp pn_cls (leb rfl) fun n0 => ?_
  show W11 l Z n0 (P11 r) 0 0 0 [.val (.ref 0), .val (.int p1)] [] (Hb 0 s)
  unfold f_overloadOfWork at h
  refine WP.aloadN d11_0 rfl ?_
  refine WP.iloadN d11_1 rfl ?_
  obtain ⟨c1, hc1, h⟩ := Option.bind_eq_some_iff.mp h
  refine WP.callP (i := 0) (y := y12) (as := [.int p1]) (S := []) d11_2 (hw _ m_104) (hw _ m_106) (hw _ m_1) (hw _ m_105) (hw _ m_107) (hw _ m_2) hy12 rfl (ok12 l Z a0 hw n p1 s _ hc1) rfl (lenOf pd12 rfl) (leb rfl) (leb rfl) (leb rfl) (leb rfl) ?_
  rintro _ _ ⟨rfl, rfl⟩
  show W11 l Z n0 (P11 r) 0 0 5 [.val (.ref 0), .val (.int p1)] [.int c1] (Hb 0 s)
  rcases ite_e h with ⟨hc2, h⟩ | ⟨hc2, h⟩
  ·
    refine WP.ifY (pc' := 10) d11_5 (XT.i0_eq_t hc2) (by decide) rfl ?_
    refine WP.aloadN d11_10 rfl ?_
    refine WP.iloadN d11_11 rfl ?_
    obtain ⟨c3, hc3, h⟩ := Option.bind_eq_some_iff.mp h
    refine WP.callP (i := 0) (y := y13) (as := [.int p1]) (S := []) d11_12 (hw _ m_108) (hw _ m_110) (hw _ m_1) (hw _ m_109) (hw _ m_111) (hw _ m_2) hy13 rfl (ok13 l Z a0 hw n p1 s _ hc3) rfl (lenOf pd13 rfl) (leb rfl) (leb rfl) (leb rfl) (leb rfl) ?_
    rintro _ _ ⟨rfl, rfl⟩
    show W11 l Z n0 (P11 r) 0 0 15 [.val (.ref 0), .val (.int p1)] [.int c3.1] (Hb 0 c3.2)
    cases h
    exact WP.ireturn d11_15 rfl (leb rfl) (leb rfl) ⟨rfl, rfl⟩
  ·
    refine WP.ifN d11_5 (XT.i0_eq_f hc2) ?_
    refine WP.iconst (0 : Int32) d11_8 rfl ?_
    cases h
    exact WP.ireturn d11_9 rfl (leb rfl) (leb rfl) ⟨rfl, rfl⟩
theorem d16_0 : dc prog_1_method_24_code 0 (.aload_n 0) 1 := by decide +kernel
theorem d16_1 : dc prog_1_method_24_code 1 (.getfield 57) 3 := by decide +kernel
theorem d16_4 : dc prog_1_method_24_code 4 (.ifCond .lt 12) 3 := by decide +kernel
theorem d16_7 : dc prog_1_method_24_code 7 (.aload_n 0) 1 := by decide +kernel
theorem d16_8 : dc prog_1_method_24_code 8 (.getfield 57) 3 := by decide +kernel
theorem d16_11 : dc prog_1_method_24_code 11 (.bipush 12) 2 := by decide +kernel
theorem d16_13 : dc prog_1_method_24_code 13 (.if_icmp .lt 5) 3 := by decide +kernel
theorem d16_16 : dc prog_1_method_24_code 16 (.iconst (-1)) 1 := by decide +kernel
theorem d16_17 : dc prog_1_method_24_code 17 (.ireturn) 1 := by decide +kernel
theorem d16_18 : dc prog_1_method_24_code 18 (.aload_n 0) 1 := by decide +kernel
theorem d16_19 : dc prog_1_method_24_code 19 (.getfield 7) 3 := by decide +kernel
theorem d16_22 : dc prog_1_method_24_code 22 (.aload_n 0) 1 := by decide +kernel
theorem d16_23 : dc prog_1_method_24_code 23 (.getfield 57) 3 := by decide +kernel
theorem d16_26 : dc prog_1_method_24_code 26 (.iload_n 1) 1 := by decide +kernel
theorem d16_27 : dc prog_1_method_24_code 27 (.iastore) 1 := by decide +kernel
theorem d16_28 : dc prog_1_method_24_code 28 (.aload_n 0) 1 := by decide +kernel
theorem d16_29 : dc prog_1_method_24_code 29 (.getfield 13) 3 := by decide +kernel
theorem d16_32 : dc prog_1_method_24_code 32 (.aload_n 0) 1 := by decide +kernel
theorem d16_33 : dc prog_1_method_24_code 33 (.getfield 57) 3 := by decide +kernel
theorem d16_36 : dc prog_1_method_24_code 36 (.iload_n 2) 1 := by decide +kernel
theorem d16_37 : dc prog_1_method_24_code 37 (.iastore) 1 := by decide +kernel
theorem d16_38 : dc prog_1_method_24_code 38 (.aload_n 0) 1 := by decide +kernel
theorem d16_39 : dc prog_1_method_24_code 39 (.getfield 16) 3 := by decide +kernel
theorem d16_42 : dc prog_1_method_24_code 42 (.aload_n 0) 1 := by decide +kernel
theorem d16_43 : dc prog_1_method_24_code 43 (.getfield 57) 3 := by decide +kernel
theorem d16_46 : dc prog_1_method_24_code 46 (.iload_n 3) 1 := by decide +kernel
theorem d16_47 : dc prog_1_method_24_code 47 (.iastore) 1 := by decide +kernel
theorem d16_48 : dc prog_1_method_24_code 48 (.aload_n 0) 1 := by decide +kernel
theorem d16_49 : dc prog_1_method_24_code 49 (.dup) 1 := by decide +kernel
theorem d16_50 : dc prog_1_method_24_code 50 (.getfield 57) 3 := by decide +kernel
theorem d16_53 : dc prog_1_method_24_code 53 (.iconst 1) 1 := by decide +kernel
theorem d16_54 : dc prog_1_method_24_code 54 (.iadd) 1 := by decide +kernel
theorem d16_55 : dc prog_1_method_24_code 55 (.putfield 57) 3 := by decide +kernel
theorem d16_58 : dc prog_1_method_24_code 58 (.aload_n 0) 1 := by decide +kernel
theorem d16_59 : dc prog_1_method_24_code 59 (.getfield 57) 3 := by decide +kernel
theorem d16_62 : dc prog_1_method_24_code 62 (.iconst 1) 1 := by decide +kernel
theorem d16_63 : dc prog_1_method_24_code 63 (.isub) 1 := by decide +kernel
theorem d16_64 : dc prog_1_method_24_code 64 (.ireturn) 1 := by decide +kernel
abbrev y16 : MethodName := ⟨"DemandGate", "admitTask", "(III)I"⟩
theorem hy16 : y16.cls ≠ "java/lang/invoke/MethodHandle" ∧ y16.cls ≠ "java/lang/invoke/VarHandle" := by decide
theorem pd16 : parseMethodDescriptor y16.desc = some ⟨[.int, .int, .int], some .int⟩ := by decide +kernel
abbrev R16 : Room := { frames := 0, cells := 0, slots := 0, locals := 0 }
abbrev P16 (r : Int32 × St) : Option Value → List OwnC → Prop := fun v H' => v = some (.int r.1) ∧ H' = (Hb 0 r.2)
abbrev W16 (l : Launch) (Z : State) (n0 : Nat) (Q : Option Value → List OwnC → Prop) (k n pc : Nat) (L : List Slot) (S : List Value) (H : List OwnC) : Prop := WP l Z CN lay "DemandGate" "admitTask" prog_1_method_24_code 4 (some FieldType.int) R16 n0 0 Q k n pc L S H
def f_admitTask_16 (s : St) : Option (Int32 × St) :=
  some ((-1 : Int32), s)
set_option maxRecDepth 65536 in
set_option maxHeartbeats 4000000 in
theorem ok16_16 (l : Launch) (Z : State) (a0 : Array Value) (hw : HW a0 Z) (n0 : Nat) (s : St) (r : Int32 × St) (h : f_admitTask_16 s = some r) : W16 l Z n0 (P16 r) 0 0 16 [.unset, .unset, .unset, .unset] [] (Hb 0 s) := by
  unfold f_admitTask_16 at h
  refine WP.iconst (-1 : Int32) d16_16 rfl ?_
  cases h
  exact WP.ireturn d16_17 rfl (leb rfl) (leb rfl) ⟨rfl, rfl⟩
def f_admitTask (p1 : Int32) (p2 : Int32) (p3 : Int32) (s : St) : Option (Int32 × St) :=
  if (gI s 2) < 0 then
    f_admitTask_16 s
  else
    if (gI s 2) < (12 : Int32) then
      (wrA s 0 (gI s 2) p1).bind fun s3 =>
      (wrA s3 1 (gI s3 2) p2).bind fun s4 =>
      (wrA s4 2 (gI s4 2) p3).bind fun s5 =>
      lt (sI s5 2 ((gI s5 2) + (1 : Int32))) fun s6 =>
      some ((gI s6 2) - (1 : Int32), s6)
    else
      f_admitTask_16 s
set_option maxRecDepth 65536 in
set_option maxHeartbeats 4000000 in
theorem ok16 (l : Launch) (Z : State) (a0 : Array Value) (hw : HW a0 Z) (p1 : Int32) (p2 : Int32) (p3 : Int32) (s : St) (r : Int32 × St) (h : f_admitTask p1 p2 p3 s = some r) : CS l Z CN lay y16 prog_1_method_24_code 4 (some FieldType.int) R16 0 [.ref 0, .int p1, .int p2, .int p3] (Hb 0 s) (P16 r) := by
  refine CS.of_wp pn_cls (leb rfl) fun n0 => ?_
  show W16 l Z n0 (P16 r) 0 0 0 [.val (.ref 0), .val (.int p1), .val (.int p2), .val (.int p3)] [] (Hb 0 s)
  unfold f_admitTask at h
  refine WP.aloadN d16_0 rfl ?_
  refine WP.getfield (i := 0) (j := 5) d16_1 (hw _ m_42) rfl rfl rfl ?_
  rcases ite_e h with ⟨hc1, h⟩ | ⟨hc1, h⟩
  ·
    refine WP.ifY (pc' := 16) d16_4 (XT.i0_lt_t hc1) (by decide) rfl ?_
    exact WP.weak (L' := [.unset, .unset, .unset, .unset]) trivial (ok16_16 l Z a0 hw n0 s _ h)
  ·
    refine WP.ifN d16_4 (XT.i0_lt_f hc1) ?_
    refine WP.aloadN d16_7 rfl ?_
    refine WP.getfield (i := 0) (j := 5) d16_8 (hw _ m_42) rfl rfl rfl ?_
    refine WP.bipush (12 : Int32) d16_11 rfl ?_
    rcases ite_e h with ⟨hc2, h⟩ | ⟨hc2, h⟩
    ·
      refine WP.icmpY (pc' := 18) d16_13 (XT.ii_lt_t hc2) (by decide) rfl ?_
      refine WP.aloadN d16_18 rfl ?_
      refine WP.getfield (i := 0) (j := 2) d16_19 (hw _ m_10) rfl rfl rfl ?_
      refine WP.aloadN d16_22 rfl ?_
      refine WP.getfield (i := 0) (j := 5) d16_23 (hw _ m_42) rfl rfl rfl ?_
      refine WP.iloadN d16_26 rfl ?_
      obtain ⟨s3, hs3, h⟩ := Option.bind_eq_some_iff.mp h
      obtain ⟨ys3, gs3, es3⟩ := wrA_e hs3
      refine WP.iastore (i := 1) (xs := gA s 0) (H' := (Hb 0 s3)) d16_27 rfl (leb rfl) gs3 (by subst es3; rfl) ?_
      refine WP.aloadN d16_28 rfl ?_
      refine WP.getfield (i := 0) (j := 3) d16_29 (hw _ m_12) rfl rfl rfl ?_
      refine WP.aloadN d16_32 rfl ?_
      refine WP.getfield (i := 0) (j := 5) d16_33 (hw _ m_42) rfl rfl rfl ?_
      refine WP.iloadN d16_36 rfl ?_
      obtain ⟨s4, hs4, h⟩ := Option.bind_eq_some_iff.mp h
      obtain ⟨ys4, gs4, es4⟩ := wrA_e hs4
      refine WP.iastore (i := 2) (xs := gA s3 1) (H' := (Hb 0 s4)) d16_37 rfl (leb rfl) gs4 (by subst es4; rfl) ?_
      refine WP.aloadN d16_38 rfl ?_
      refine WP.getfield (i := 0) (j := 4) d16_39 (hw _ m_14) rfl rfl rfl ?_
      refine WP.aloadN d16_42 rfl ?_
      refine WP.getfield (i := 0) (j := 5) d16_43 (hw _ m_42) rfl rfl rfl ?_
      refine WP.iloadN d16_46 rfl ?_
      obtain ⟨s5, hs5, h⟩ := Option.bind_eq_some_iff.mp h
      obtain ⟨ys5, gs5, es5⟩ := wrA_e hs5
      refine WP.iastore (i := 3) (xs := gA s4 2) (H' := (Hb 0 s5)) d16_47 rfl (leb rfl) gs5 (by subst es5; rfl) ?_
      refine WP.aloadN d16_48 rfl ?_
      refine WP.dup d16_49 rfl ?_
      refine WP.getfield (i := 0) (j := 5) d16_50 (hw _ m_42) rfl rfl rfl ?_
      refine WP.iconst (1 : Int32) d16_53 rfl ?_
      refine WP.iadd d16_54 ?_
      obtain ⟨s6, es6, h⟩ := lt_e h
      refine WP.putI (i := 0) (j := 5) (H' := (Hb 0 s6)) d16_55 (hw _ m_42) (Or.inl (hw _ m_43)) (hw _ m_1) (hlay hw) rfl rfl rfl (leb rfl) (by subst es6; rfl) ?_
      refine WP.aloadN d16_58 rfl ?_
      refine WP.getfield (i := 0) (j := 5) d16_59 (hw _ m_42) rfl rfl rfl ?_
      refine WP.iconst (1 : Int32) d16_62 rfl ?_
      refine WP.isub d16_63 ?_
      cases h
      exact WP.ireturn d16_64 rfl (leb rfl) (leb rfl) ⟨rfl, rfl⟩
    ·
      refine WP.icmpN d16_13 (XT.ii_lt_f hc2) ?_
      exact WP.weak (L' := [.unset, .unset, .unset, .unset]) trivial (ok16_16 l Z a0 hw n0 s _ h)
theorem d3_0 : dc prog_1_method_2_code 0 (.aload_n 0) 1 := by decide +kernel
theorem d3_1 : dc prog_1_method_2_code 1 (.getfield 57) 3 := by decide +kernel
theorem d3_4 : dc prog_1_method_2_code 4 (.aload_n 0) 1 := by decide +kernel
theorem d3_5 : dc prog_1_method_2_code 5 (.getfield 50) 3 := by decide +kernel
theorem d3_8 : dc prog_1_method_2_code 8 (.if_icmp .lt 5) 3 := by decide +kernel
theorem d3_11 : dc prog_1_method_2_code 11 (.iconst (-1)) 1 := by decide +kernel
theorem d3_12 : dc prog_1_method_2_code 12 (.ireturn) 1 := by decide +kernel
theorem d3_13 : dc prog_1_method_2_code 13 (.aload_n 0) 1 := by decide +kernel
theorem d3_14 : dc prog_1_method_2_code 14 (.iload_n 1) 1 := by decide +kernel
theorem d3_15 : dc prog_1_method_2_code 15 (.iload_n 2) 1 := by decide +kernel
theorem d3_16 : dc prog_1_method_2_code 16 (.iload_n 3) 1 := by decide +kernel
theorem d3_17 : dc prog_1_method_2_code 17 (.invokevirtual 88) 3 := by decide +kernel
theorem d3_20 : dc prog_1_method_2_code 20 (.ifCond .ne 6) 3 := by decide +kernel
theorem d3_23 : dc prog_1_method_2_code 23 (.bipush (-2)) 2 := by decide +kernel
theorem d3_25 : dc prog_1_method_2_code 25 (.ireturn) 1 := by decide +kernel
theorem d3_26 : dc prog_1_method_2_code 26 (.aload_n 0) 1 := by decide +kernel
theorem d3_27 : dc prog_1_method_2_code 27 (.invokevirtual 92) 3 := by decide +kernel
theorem d3_30 : dc prog_1_method_2_code 30 (.aload_n 0) 1 := by decide +kernel
theorem d3_31 : dc prog_1_method_2_code 31 (.iload_n 1) 1 := by decide +kernel
theorem d3_32 : dc prog_1_method_2_code 32 (.iload_n 2) 1 := by decide +kernel
theorem d3_33 : dc prog_1_method_2_code 33 (.iload_n 3) 1 := by decide +kernel
theorem d3_34 : dc prog_1_method_2_code 34 (.invokevirtual 95) 3 := by decide +kernel
theorem d3_37 : dc prog_1_method_2_code 37 (.pop) 1 := by decide +kernel
theorem d3_38 : dc prog_1_method_2_code 38 (.aload_n 0) 1 := by decide +kernel
theorem d3_39 : dc prog_1_method_2_code 39 (.aload_n 0) 1 := by decide +kernel
theorem d3_40 : dc prog_1_method_2_code 40 (.getfield 54) 3 := by decide +kernel
theorem d3_43 : dc prog_1_method_2_code 43 (.invokevirtual 98) 3 := by decide +kernel
theorem d3_46 : dc prog_1_method_2_code 46 (.istore 4) 2 := by decide +kernel
theorem d3_48 : dc prog_1_method_2_code 48 (.iload 4) 2 := by decide +kernel
theorem d3_50 : dc prog_1_method_2_code 50 (.aload_n 0) 1 := by decide +kernel
theorem d3_51 : dc prog_1_method_2_code 51 (.getfield 54) 3 := by decide +kernel
theorem d3_54 : dc prog_1_method_2_code 54 (.if_icmp .le 21) 3 := by decide +kernel
theorem d3_57 : dc prog_1_method_2_code 57 (.aload_n 0) 1 := by decide +kernel
theorem d3_58 : dc prog_1_method_2_code 58 (.iconst 0) 1 := by decide +kernel
theorem d3_59 : dc prog_1_method_2_code 59 (.putfield 63) 3 := by decide +kernel
theorem d3_62 : dc prog_1_method_2_code 62 (.aload_n 0) 1 := by decide +kernel
theorem d3_63 : dc prog_1_method_2_code 63 (.iconst 0) 1 := by decide +kernel
theorem d3_64 : dc prog_1_method_2_code 64 (.putfield 73) 3 := by decide +kernel
theorem d3_67 : dc prog_1_method_2_code 67 (.aload_n 0) 1 := by decide +kernel
theorem d3_68 : dc prog_1_method_2_code 68 (.iconst 0) 1 := by decide +kernel
theorem d3_69 : dc prog_1_method_2_code 69 (.putfield 70) 3 := by decide +kernel
theorem d3_72 : dc prog_1_method_2_code 72 (.bipush (-3)) 2 := by decide +kernel
theorem d3_74 : dc prog_1_method_2_code 74 (.ireturn) 1 := by decide +kernel
theorem d3_75 : dc prog_1_method_2_code 75 (.aload_n 0) 1 := by decide +kernel
theorem d3_76 : dc prog_1_method_2_code 76 (.iload 4) 2 := by decide +kernel
theorem d3_78 : dc prog_1_method_2_code 78 (.invokevirtual 102) 3 := by decide +kernel
theorem d3_81 : dc prog_1_method_2_code 81 (.aload_n 0) 1 := by decide +kernel
theorem d3_82 : dc prog_1_method_2_code 82 (.iload 4) 2 := by decide +kernel
theorem d3_84 : dc prog_1_method_2_code 84 (.putfield 73) 3 := by decide +kernel
theorem d3_87 : dc prog_1_method_2_code 87 (.aload_n 0) 1 := by decide +kernel
theorem d3_88 : dc prog_1_method_2_code 88 (.aload_n 0) 1 := by decide +kernel
theorem d3_89 : dc prog_1_method_2_code 89 (.iload 4) 2 := by decide +kernel
theorem d3_91 : dc prog_1_method_2_code 91 (.invokevirtual 106) 3 := by decide +kernel
theorem d3_94 : dc prog_1_method_2_code 94 (.putfield 70) 3 := by decide +kernel
theorem d3_97 : dc prog_1_method_2_code 97 (.aload_n 0) 1 := by decide +kernel
theorem d3_98 : dc prog_1_method_2_code 98 (.getfield 70) 3 := by decide +kernel
theorem d3_101 : dc prog_1_method_2_code 101 (.ifCond .eq 6) 3 := by decide +kernel
theorem d3_104 : dc prog_1_method_2_code 104 (.bipush (-4)) 2 := by decide +kernel
theorem d3_106 : dc prog_1_method_2_code 106 (.ireturn) 1 := by decide +kernel
theorem d3_107 : dc prog_1_method_2_code 107 (.aload_n 0) 1 := by decide +kernel
theorem d3_108 : dc prog_1_method_2_code 108 (.iload_n 1) 1 := by decide +kernel
theorem d3_109 : dc prog_1_method_2_code 109 (.iload_n 2) 1 := by decide +kernel
theorem d3_110 : dc prog_1_method_2_code 110 (.iload_n 3) 1 := by decide +kernel
theorem d3_111 : dc prog_1_method_2_code 111 (.invokevirtual 109) 3 := by decide +kernel
theorem d3_114 : dc prog_1_method_2_code 114 (.ireturn) 1 := by decide +kernel
abbrev y3 : MethodName := ⟨"DemandGate", "propose", "(III)I"⟩
theorem hy3 : y3.cls ≠ "java/lang/invoke/MethodHandle" ∧ y3.cls ≠ "java/lang/invoke/VarHandle" := by decide
theorem pd3 : parseMethodDescriptor y3.desc = some ⟨[.int, .int, .int], some .int⟩ := by decide +kernel
abbrev R3 : Room := { frames := 3, cells := 0, slots := 0, locals := 57 }
abbrev P3 (r : Int32 × St) : Option Value → List OwnC → Prop := fun v H' => v = some (.int r.1) ∧ H' = (Hb 0 r.2)
abbrev W3 (l : Launch) (Z : State) (n0 : Nat) (Q : Option Value → List OwnC → Prop) (k n pc : Nat) (L : List Slot) (S : List Value) (H : List OwnC) : Prop := WP l Z CN lay "DemandGate" "propose" prog_1_method_2_code 5 (some FieldType.int) R3 n0 0 Q k n pc L S H
def f_propose (n : Nat) (p1 : Int32) (p2 : Int32) (p3 : Int32) (s : St) : Option (Int32 × St) :=
  if (gI s 2) < (gI s 0) then
    (f_validParams p1 p2 p3 s).bind fun c2 =>
    if c2 = 0 then
      some ((-2 : Int32), s)
    else
      (f_loadAdmitted n s).bind fun c4 =>
      (f_appendWork p1 p2 p3 c4).bind fun c5 =>
      (f_workHyper n (gI c5.2 1) c5.2).bind fun c6 =>
      if (gI c5.2 1) < c6 then
        lt (sI c5.2 4 (0 : Int32)) fun s8 =>
        lt (sI s8 7 (0 : Int32)) fun s9 =>
        lt (sI s9 6 (0 : Int32)) fun s10 =>
        some ((-3 : Int32), s10)
      else
        (f_storeCandidate n c6 c5.2).bind fun c11 =>
        lt (sI c11 7 c6) fun s12 =>
        (f_overloadOfWork n c6 s12).bind fun c13 =>
        lt (sI c13.2 6 c13.1) fun s14 =>
        if (gI s14 6) = 0 then
          (f_admitTask p1 p2 p3 s14).bind fun c16 =>
          some (c16.1, c16.2)
        else
          some ((-4 : Int32), s14)
  else
    some ((-1 : Int32), s)
set_option maxRecDepth 65536 in
set_option maxHeartbeats 4000000 in
theorem ok3 (l : Launch) (Z : State) (a0 : Array Value) (hw : HW a0 Z) (n : Nat) (p1 : Int32) (p2 : Int32) (p3 : Int32) (s : St) (r : Int32 × St) (h : f_propose n p1 p2 p3 s = some r) : CS l Z CN lay y3 prog_1_method_2_code 5 (some FieldType.int) R3 0 [.ref 0, .int p1, .int p2, .int p3] (Hb 0 s) (P3 r) := by
  refine CS.of_wp pn_cls (leb rfl) fun n0 => ?_
  show W3 l Z n0 (P3 r) 0 0 0 [.val (.ref 0), .val (.int p1), .val (.int p2), .val (.int p3), .unset] [] (Hb 0 s)
  unfold f_propose at h
  refine WP.aloadN d3_0 rfl ?_
  refine WP.getfield (i := 0) (j := 5) d3_1 (hw _ m_42) rfl rfl rfl ?_
  refine WP.aloadN d3_4 rfl ?_
  refine WP.getfield (i := 0) (j := 0) d3_5 (hw _ m_38) rfl rfl rfl ?_
  rcases ite_e h with ⟨hc1, h⟩ | ⟨hc1, h⟩
  ·
    refine WP.icmpY (pc' := 13) d3_8 (XT.ii_lt_t hc1) (by decide) rfl ?_
    refine WP.aloadN d3_13 rfl ?_
    refine WP.iloadN d3_14 rfl ?_
    refine WP.iloadN d3_15 rfl ?_
    refine WP.iloadN d3_16 rfl ?_
    obtain ⟨c2, hc2, h⟩ := Option.bind_eq_some_iff.mp h
    refine WP.callP (i := 0) (y := y4) (as := [.int p1, .int p2, .int p3]) (S := []) d3_17 (hw _ m_72) (hw _ m_74) (hw _ m_1) (hw _ m_73) (hw _ m_75) (hw _ m_2) hy4 rfl (ok4 l Z a0 hw p1 p2 p3 s _ hc2) rfl (lenOf pd4 rfl) (leb rfl) (leb rfl) (leb rfl) (leb rfl) ?_
    rintro _ _ ⟨rfl, rfl⟩
    show W3 l Z n0 (P3 r) 0 0 20 [.val (.ref 0), .val (.int p1), .val (.int p2), .val (.int p3), .unset] [.int c2] (Hb 0 s)
    rcases ite_e h with ⟨hc3, h⟩ | ⟨hc3, h⟩
    ·
      refine WP.ifN d3_20 (XT.i0_ne_f hc3) ?_
      refine WP.bipush (-2 : Int32) d3_23 rfl ?_
      cases h
      exact WP.ireturn d3_25 rfl (leb rfl) (leb rfl) ⟨rfl, rfl⟩
    ·
      refine WP.ifY (pc' := 26) d3_20 (XT.i0_ne_t hc3) (by decide) rfl ?_
      refine WP.aloadN d3_26 rfl ?_
      obtain ⟨c4, hc4, h⟩ := Option.bind_eq_some_iff.mp h
      refine WP.callP (i := 0) (y := y5) (as := []) (S := []) d3_27 (hw _ m_76) (hw _ m_78) (hw _ m_1) (hw _ m_77) (hw _ m_79) (hw _ m_2) hy5 rfl (ok5 l Z a0 hw n s _ hc4) rfl (lenOf pd5 rfl) (leb rfl) (leb rfl) (leb rfl) (leb rfl) ?_
      rintro _ _ ⟨rfl, rfl⟩
      show W3 l Z n0 (P3 r) 0 0 30 [.val (.ref 0), .val (.int p1), .val (.int p2), .val (.int p3), .unset] [] (Hb 0 c4)
      refine WP.aloadN d3_30 rfl ?_
      refine WP.iloadN d3_31 rfl ?_
      refine WP.iloadN d3_32 rfl ?_
      refine WP.iloadN d3_33 rfl ?_
      obtain ⟨c5, hc5, h⟩ := Option.bind_eq_some_iff.mp h
      refine WP.callP (i := 0) (y := y6) (as := [.int p1, .int p2, .int p3]) (S := []) d3_34 (hw _ m_80) (hw _ m_82) (hw _ m_1) (hw _ m_81) (hw _ m_83) (hw _ m_2) hy6 rfl (ok6 l Z a0 hw p1 p2 p3 c4 _ hc5) rfl (lenOf pd6 rfl) (leb rfl) (leb rfl) (leb rfl) (leb rfl) ?_
      rintro _ _ ⟨rfl, rfl⟩
      show W3 l Z n0 (P3 r) 0 0 37 [.val (.ref 0), .val (.int p1), .val (.int p2), .val (.int p3), .unset] [.int c5.1] (Hb 0 c5.2)
      refine WP.pop d3_37 rfl ?_
      refine WP.aloadN d3_38 rfl ?_
      refine WP.aloadN d3_39 rfl ?_
      refine WP.getfield (i := 0) (j := 1) d3_40 (hw _ m_40) rfl rfl rfl ?_
      obtain ⟨c6, hc6, h⟩ := Option.bind_eq_some_iff.mp h
      refine WP.callP (i := 0) (y := y7) (as := [.int (gI c5.2 1)]) (S := []) d3_43 (hw _ m_84) (hw _ m_86) (hw _ m_1) (hw _ m_85) (hw _ m_87) (hw _ m_2) hy7 rfl (ok7 l Z a0 hw n (gI c5.2 1) c5.2 _ hc6) rfl (lenOf pd7 rfl) (leb rfl) (leb rfl) (leb rfl) (leb rfl) ?_
      rintro _ _ ⟨rfl, rfl⟩
      show W3 l Z n0 (P3 r) 0 0 46 [.val (.ref 0), .val (.int p1), .val (.int p2), .val (.int p3), .unset] [.int c6] (Hb 0 c5.2)
      refine WP.istore (L' := [.val (.ref 0), .val (.int p1), .val (.int p2), .val (.int p3), .val (.int c6)]) d3_46 (leb rfl) rfl ?_
      refine WP.iload d3_48 rfl ?_
      refine WP.aloadN d3_50 rfl ?_
      refine WP.getfield (i := 0) (j := 1) d3_51 (hw _ m_40) rfl rfl rfl ?_
      rcases ite_e h with ⟨hc7, h⟩ | ⟨hc7, h⟩
      ·
        refine WP.icmpN d3_54 (XT.ii_le_f hc7) ?_
        refine WP.aloadN d3_57 rfl ?_
        refine WP.iconst (0 : Int32) d3_58 rfl ?_
        obtain ⟨s8, es8, h⟩ := lt_e h
        refine WP.putZ (i := 0) (j := 10) (H' := (Hb 0 s8)) d3_59 (hw _ m_46) (Or.inl (hw _ m_47)) (hw _ m_1) (hlay hw) rfl rfl rfl (leb rfl) (by subst es8; rfl) ?_
        refine WP.aloadN d3_62 rfl ?_
        refine WP.iconst (0 : Int32) d3_63 rfl ?_
        obtain ⟨s9, es9, h⟩ := lt_e h
        refine WP.putI (i := 0) (j := 13) (H' := (Hb 0 s9)) d3_64 (hw _ m_52) (Or.inl (hw _ m_53)) (hw _ m_1) (hlay hw) rfl rfl rfl (leb rfl) (by subst es9; rfl) ?_
        refine WP.aloadN d3_67 rfl ?_
        refine WP.iconst (0 : Int32) d3_68 rfl ?_
        obtain ⟨s10, es10, h⟩ := lt_e h
        refine WP.putI (i := 0) (j := 12) (H' := (Hb 0 s10)) d3_69 (hw _ m_50) (Or.inl (hw _ m_51)) (hw _ m_1) (hlay hw) rfl rfl rfl (leb rfl) (by subst es10; rfl) ?_
        refine WP.bipush (-3 : Int32) d3_72 rfl ?_
        cases h
        exact WP.ireturn d3_74 rfl (leb rfl) (leb rfl) ⟨rfl, rfl⟩
      ·
        refine WP.icmpY (pc' := 75) d3_54 (XT.ii_le_t hc7) (by decide) rfl ?_
        refine WP.aloadN d3_75 rfl ?_
        refine WP.iload d3_76 rfl ?_
        obtain ⟨c11, hc11, h⟩ := Option.bind_eq_some_iff.mp h
        refine WP.callP (i := 0) (y := y10) (as := [.int c6]) (S := []) d3_78 (hw _ m_96) (hw _ m_98) (hw _ m_1) (hw _ m_97) (hw _ m_99) (hw _ m_2) hy10 rfl (ok10 l Z a0 hw n c6 c5.2 _ hc11) rfl (lenOf pd10 rfl) (leb rfl) (leb rfl) (leb rfl) (leb rfl) ?_
        rintro _ _ ⟨rfl, rfl⟩
        show W3 l Z n0 (P3 r) 0 0 81 [.val (.ref 0), .val (.int p1), .val (.int p2), .val (.int p3), .val (.int c6)] [] (Hb 0 c11)
        refine WP.aloadN d3_81 rfl ?_
        refine WP.iload d3_82 rfl ?_
        obtain ⟨s12, es12, h⟩ := lt_e h
        refine WP.putI (i := 0) (j := 13) (H' := (Hb 0 s12)) d3_84 (hw _ m_52) (Or.inl (hw _ m_53)) (hw _ m_1) (hlay hw) rfl rfl rfl (leb rfl) (by subst es12; rfl) ?_
        refine WP.aloadN d3_87 rfl ?_
        refine WP.aloadN d3_88 rfl ?_
        refine WP.iload d3_89 rfl ?_
        obtain ⟨c13, hc13, h⟩ := Option.bind_eq_some_iff.mp h
        refine WP.callP (i := 0) (y := y11) (as := [.int c6]) (S := [.ref 0]) d3_91 (hw _ m_100) (hw _ m_102) (hw _ m_1) (hw _ m_101) (hw _ m_103) (hw _ m_2) hy11 rfl (ok11 l Z a0 hw n c6 s12 _ hc13) rfl (lenOf pd11 rfl) (leb rfl) (leb rfl) (leb rfl) (leb rfl) ?_
        rintro _ _ ⟨rfl, rfl⟩
        show W3 l Z n0 (P3 r) 0 0 94 [.val (.ref 0), .val (.int p1), .val (.int p2), .val (.int p3), .val (.int c6)] [.int c13.1, .ref 0] (Hb 0 c13.2)
        obtain ⟨s14, es14, h⟩ := lt_e h
        refine WP.putI (i := 0) (j := 12) (H' := (Hb 0 s14)) d3_94 (hw _ m_50) (Or.inl (hw _ m_51)) (hw _ m_1) (hlay hw) rfl rfl rfl (leb rfl) (by subst es14; rfl) ?_
        refine WP.aloadN d3_97 rfl ?_
        refine WP.getfield (i := 0) (j := 12) d3_98 (hw _ m_50) rfl rfl rfl ?_
        rcases ite_e h with ⟨hc15, h⟩ | ⟨hc15, h⟩
        ·
          refine WP.ifY (pc' := 107) d3_101 (XT.i0_eq_t hc15) (by decide) rfl ?_
          refine WP.aloadN d3_107 rfl ?_
          refine WP.iloadN d3_108 rfl ?_
          refine WP.iloadN d3_109 rfl ?_
          refine WP.iloadN d3_110 rfl ?_
          obtain ⟨c16, hc16, h⟩ := Option.bind_eq_some_iff.mp h
          refine WP.callP (i := 0) (y := y16) (as := [.int p1, .int p2, .int p3]) (S := []) d3_111 (hw _ m_121) (hw _ m_123) (hw _ m_1) (hw _ m_122) (hw _ m_124) (hw _ m_2) hy16 rfl (ok16 l Z a0 hw p1 p2 p3 s14 _ hc16) rfl (lenOf pd16 rfl) (leb rfl) (leb rfl) (leb rfl) (leb rfl) ?_
          rintro _ _ ⟨rfl, rfl⟩
          show W3 l Z n0 (P3 r) 0 0 114 [.val (.ref 0), .val (.int p1), .val (.int p2), .val (.int p3), .val (.int c6)] [.int c16.1] (Hb 0 c16.2)
          cases h
          exact WP.ireturn d3_114 rfl (leb rfl) (leb rfl) ⟨rfl, rfl⟩
        ·
          refine WP.ifN d3_101 (XT.i0_eq_f hc15) ?_
          refine WP.bipush (-4 : Int32) d3_104 rfl ?_
          cases h
          exact WP.ireturn d3_106 rfl (leb rfl) (leb rfl) ⟨rfl, rfl⟩
  ·
    refine WP.icmpN d3_8 (XT.ii_lt_f hc1) ?_
    refine WP.iconst (-1 : Int32) d3_11 rfl ?_
    cases h
    exact WP.ireturn d3_12 rfl (leb rfl) (leb rfl) ⟨rfl, rfl⟩
theorem d17_0 : dc prog_1_method_13_code 0 (.aload_n 0) 1 := by decide +kernel
theorem d17_1 : dc prog_1_method_13_code 1 (.getfield 73) 3 := by decide +kernel
theorem d17_4 : dc prog_1_method_13_code 4 (.ireturn) 1 := by decide +kernel
abbrev y17 : MethodName := ⟨"DemandGate", "lastHyper", "()I"⟩
theorem hy17 : y17.cls ≠ "java/lang/invoke/MethodHandle" ∧ y17.cls ≠ "java/lang/invoke/VarHandle" := by decide
theorem pd17 : parseMethodDescriptor y17.desc = some ⟨[], some .int⟩ := by decide +kernel
abbrev R17 : Room := { frames := 0, cells := 0, slots := 0, locals := 0 }
abbrev P17 (s : St) (r : Int32) : Option Value → List OwnC → Prop := fun v H' => v = some (.int r) ∧ H' = (Hb 0 s)
abbrev W17 (l : Launch) (Z : State) (n0 : Nat) (Q : Option Value → List OwnC → Prop) (k n pc : Nat) (L : List Slot) (S : List Value) (H : List OwnC) : Prop := WP l Z CN lay "DemandGate" "lastHyper" prog_1_method_13_code 1 (some FieldType.int) R17 n0 0 Q k n pc L S H
def f_lastHyper (s : St) : Option (Int32) :=
  some (gI s 7)
set_option maxRecDepth 65536 in
set_option maxHeartbeats 4000000 in
theorem ok17 (l : Launch) (Z : State) (a0 : Array Value) (hw : HW a0 Z) (s : St) (r : Int32) (h : f_lastHyper s = some r) : CS l Z CN lay y17 prog_1_method_13_code 1 (some FieldType.int) R17 0 [.ref 0] (Hb 0 s) (P17 s r) := by
  refine CS.of_wp pn_cls (leb rfl) fun n0 => ?_
  show W17 l Z n0 (P17 s r) 0 0 0 [.val (.ref 0)] [] (Hb 0 s)
  unfold f_lastHyper at h
  refine WP.aloadN d17_0 rfl ?_
  refine WP.getfield (i := 0) (j := 13) d17_1 (hw _ m_52) rfl rfl rfl ?_
  cases h
  exact WP.ireturn d17_4 rfl (leb rfl) (leb rfl) ⟨rfl, rfl⟩
theorem d18_0 : dc prog_1_method_9_code 0 (.aload_n 0) 1 := by decide +kernel
theorem d18_1 : dc prog_1_method_9_code 1 (.getfield 57) 3 := by decide +kernel
theorem d18_4 : dc prog_1_method_9_code 4 (.ifCond .ne 5) 3 := by decide +kernel
theorem d18_7 : dc prog_1_method_9_code 7 (.iconst 1) 1 := by decide +kernel
theorem d18_8 : dc prog_1_method_9_code 8 (.ireturn) 1 := by decide +kernel
theorem d18_9 : dc prog_1_method_9_code 9 (.aload_n 0) 1 := by decide +kernel
theorem d18_10 : dc prog_1_method_9_code 10 (.invokevirtual 92) 3 := by decide +kernel
theorem d18_13 : dc prog_1_method_9_code 13 (.aload_n 0) 1 := by decide +kernel
theorem d18_14 : dc prog_1_method_9_code 14 (.aload_n 0) 1 := by decide +kernel
theorem d18_15 : dc prog_1_method_9_code 15 (.getfield 54) 3 := by decide +kernel
theorem d18_18 : dc prog_1_method_9_code 18 (.invokevirtual 98) 3 := by decide +kernel
theorem d18_21 : dc prog_1_method_9_code 21 (.ireturn) 1 := by decide +kernel
abbrev y18 : MethodName := ⟨"DemandGate", "hyperperiod", "()I"⟩
theorem hy18 : y18.cls ≠ "java/lang/invoke/MethodHandle" ∧ y18.cls ≠ "java/lang/invoke/VarHandle" := by decide
theorem pd18 : parseMethodDescriptor y18.desc = some ⟨[], some .int⟩ := by decide +kernel
abbrev R18 : Room := { frames := 3, cells := 0, slots := 0, locals := 57 }
abbrev P18 (r : Int32 × St) : Option Value → List OwnC → Prop := fun v H' => v = some (.int r.1) ∧ H' = (Hb 0 r.2)
abbrev W18 (l : Launch) (Z : State) (n0 : Nat) (Q : Option Value → List OwnC → Prop) (k n pc : Nat) (L : List Slot) (S : List Value) (H : List OwnC) : Prop := WP l Z CN lay "DemandGate" "hyperperiod" prog_1_method_9_code 1 (some FieldType.int) R18 n0 0 Q k n pc L S H
def f_hyperperiod (n : Nat) (s : St) : Option (Int32 × St) :=
  if (gI s 2) = 0 then
    some ((1 : Int32), s)
  else
    (f_loadAdmitted n s).bind fun c2 =>
    (f_workHyper n (gI c2 1) c2).bind fun c3 =>
    some (c3, c2)
set_option maxRecDepth 65536 in
set_option maxHeartbeats 4000000 in
theorem ok18 (l : Launch) (Z : State) (a0 : Array Value) (hw : HW a0 Z) (n : Nat) (s : St) (r : Int32 × St) (h : f_hyperperiod n s = some r) : CS l Z CN lay y18 prog_1_method_9_code 1 (some FieldType.int) R18 0 [.ref 0] (Hb 0 s) (P18 r) := by
  refine CS.of_wp pn_cls (leb rfl) fun n0 => ?_
  show W18 l Z n0 (P18 r) 0 0 0 [.val (.ref 0)] [] (Hb 0 s)
  unfold f_hyperperiod at h
  refine WP.aloadN d18_0 rfl ?_
  refine WP.getfield (i := 0) (j := 5) d18_1 (hw _ m_42) rfl rfl rfl ?_
  rcases ite_e h with ⟨hc1, h⟩ | ⟨hc1, h⟩
  ·
    refine WP.ifN d18_4 (XT.i0_ne_f hc1) ?_
    refine WP.iconst (1 : Int32) d18_7 rfl ?_
    cases h
    exact WP.ireturn d18_8 rfl (leb rfl) (leb rfl) ⟨rfl, rfl⟩
  ·
    refine WP.ifY (pc' := 9) d18_4 (XT.i0_ne_t hc1) (by decide) rfl ?_
    refine WP.aloadN d18_9 rfl ?_
    obtain ⟨c2, hc2, h⟩ := Option.bind_eq_some_iff.mp h
    refine WP.callP (i := 0) (y := y5) (as := []) (S := []) d18_10 (hw _ m_76) (hw _ m_78) (hw _ m_1) (hw _ m_77) (hw _ m_79) (hw _ m_2) hy5 rfl (ok5 l Z a0 hw n s _ hc2) rfl (lenOf pd5 rfl) (leb rfl) (leb rfl) (leb rfl) (leb rfl) ?_
    rintro _ _ ⟨rfl, rfl⟩
    show W18 l Z n0 (P18 r) 0 0 13 [.val (.ref 0)] [] (Hb 0 c2)
    refine WP.aloadN d18_13 rfl ?_
    refine WP.aloadN d18_14 rfl ?_
    refine WP.getfield (i := 0) (j := 1) d18_15 (hw _ m_40) rfl rfl rfl ?_
    obtain ⟨c3, hc3, h⟩ := Option.bind_eq_some_iff.mp h
    refine WP.callP (i := 0) (y := y7) (as := [.int (gI c2 1)]) (S := []) d18_18 (hw _ m_84) (hw _ m_86) (hw _ m_1) (hw _ m_85) (hw _ m_87) (hw _ m_2) hy7 rfl (ok7 l Z a0 hw n (gI c2 1) c2 _ hc3) rfl (lenOf pd7 rfl) (leb rfl) (leb rfl) (leb rfl) (leb rfl) ?_
    rintro _ _ ⟨rfl, rfl⟩
    show W18 l Z n0 (P18 r) 0 0 21 [.val (.ref 0)] [.int c3] (Hb 0 c2)
    cases h
    exact WP.ireturn d18_21 rfl (leb rfl) (leb rfl) ⟨rfl, rfl⟩
theorem d19_0 : dc prog_1_method_12_code 0 (.aload_n 0) 1 := by decide +kernel
theorem d19_1 : dc prog_1_method_12_code 1 (.getfield 70) 3 := by decide +kernel
theorem d19_4 : dc prog_1_method_12_code 4 (.ireturn) 1 := by decide +kernel
abbrev y19 : MethodName := ⟨"DemandGate", "lastOverload", "()I"⟩
theorem hy19 : y19.cls ≠ "java/lang/invoke/MethodHandle" ∧ y19.cls ≠ "java/lang/invoke/VarHandle" := by decide
theorem pd19 : parseMethodDescriptor y19.desc = some ⟨[], some .int⟩ := by decide +kernel
abbrev R19 : Room := { frames := 0, cells := 0, slots := 0, locals := 0 }
abbrev P19 (s : St) (r : Int32) : Option Value → List OwnC → Prop := fun v H' => v = some (.int r) ∧ H' = (Hb 0 s)
abbrev W19 (l : Launch) (Z : State) (n0 : Nat) (Q : Option Value → List OwnC → Prop) (k n pc : Nat) (L : List Slot) (S : List Value) (H : List OwnC) : Prop := WP l Z CN lay "DemandGate" "lastOverload" prog_1_method_12_code 1 (some FieldType.int) R19 n0 0 Q k n pc L S H
def f_lastOverload (s : St) : Option (Int32) :=
  some (gI s 6)
set_option maxRecDepth 65536 in
set_option maxHeartbeats 4000000 in
theorem ok19 (l : Launch) (Z : State) (a0 : Array Value) (hw : HW a0 Z) (s : St) (r : Int32) (h : f_lastOverload s = some r) : CS l Z CN lay y19 prog_1_method_12_code 1 (some FieldType.int) R19 0 [.ref 0] (Hb 0 s) (P19 s r) := by
  refine CS.of_wp pn_cls (leb rfl) fun n0 => ?_
  show W19 l Z n0 (P19 s r) 0 0 0 [.val (.ref 0)] [] (Hb 0 s)
  unfold f_lastOverload at h
  refine WP.aloadN d19_0 rfl ?_
  refine WP.getfield (i := 0) (j := 12) d19_1 (hw _ m_50) rfl rfl rfl ?_
  cases h
  exact WP.ireturn d19_4 rfl (leb rfl) (leb rfl) ⟨rfl, rfl⟩
abbrev PLAW (r : Int32) : Option Value → List OwnC → Prop := fun v _ => v = some (.int r)
abbrev WLAW (l : Launch) (Z : State) (n0 : Nat) (Q : Option Value → List OwnC → Prop) (k n pc : Nat) (L : List Slot) (S : List Value) (H : List OwnC) : Prop := WP l Z CN lay "DemandGateL1" "law" code maxLocals ret room_1 n0 0 Q k n pc L S H
def f_law_179 (n : Nat) (t0 : Int32) (s0 : St) : Option (Int32) :=
  some (t0 &&& 1)
set_option maxRecDepth 65536 in
set_option maxHeartbeats 4000000 in
theorem okLAW_179 (l : Launch) (Z : State) (a0 : Array Value) (hw : HW a0 Z) (n0 : Nat) (n : Nat) (t0 : Int32) (s0 : St) (r : Int32) (h : f_law_179 n t0 s0 = some r) : WLAW l Z n0 (PLAW r) 13 168 179 [.unset, .unset, .unset, .unset, .unset, .unset, .unset, .unset, .unset, .unset, .unset, .unset, .unset, .unset, .unset] [.int t0] (Hb 0 s0) := by
  unfold f_law_179 at h
  cases h
  exact WP.zreturn at_179 rfl (leb rfl) (leb rfl) rfl
def f_law_178 (n : Nat) (s0 : St) : Option (Int32) :=
  f_law_179 n (0 : Int32) s0
set_option maxRecDepth 65536 in
set_option maxHeartbeats 4000000 in
theorem okLAW_178 (l : Launch) (Z : State) (a0 : Array Value) (hw : HW a0 Z) (n0 : Nat) (n : Nat) (s0 : St) (r : Int32) (h : f_law_178 n s0 = some r) : WLAW l Z n0 (PLAW r) 13 168 178 [.unset, .unset, .unset, .unset, .unset, .unset, .unset, .unset, .unset, .unset, .unset, .unset, .unset, .unset, .unset] [] (Hb 0 s0) := by
  unfold f_law_178 at h
  refine WP.iconst (0 : Int32) at_178 rfl ?_
  exact WP.weak (L' := [.unset, .unset, .unset, .unset, .unset, .unset, .unset, .unset, .unset, .unset, .unset, .unset, .unset, .unset, .unset]) trivial (okLAW_179 l Z a0 hw n0 n (0 : Int32) s0 _ h)
def f_law_136 (n : Nat) (v4 : Int32) (v5 : Int32) (v6 : Int32) (v7 : Int32) (v8 : Int32) (v9 : Int32) (v11 : Int32) (v12 : Int32) (v13 : Int32) (v14 : Int32) (s0 : St) : Option (Int32) :=
  if v4 = 0 then
    if v5 = v11 then
      if v6 = v12 then
        if v8 = v13 then
          if v7 = v14 then
            if v9 = 0 then
              f_law_179 n (1 : Int32) s0
            else
              f_law_178 n s0
          else
            f_law_178 n s0
        else
          f_law_178 n s0
      else
        f_law_178 n s0
    else
      f_law_178 n s0
  else
    f_law_178 n s0
set_option maxRecDepth 65536 in
set_option maxHeartbeats 4000000 in
theorem okLAW_136 (l : Launch) (Z : State) (a0 : Array Value) (hw : HW a0 Z) (n0 : Nat) (n : Nat) (v4 : Int32) (v5 : Int32) (v6 : Int32) (v7 : Int32) (v8 : Int32) (v9 : Int32) (v11 : Int32) (v12 : Int32) (v13 : Int32) (v14 : Int32) (s0 : St) (r : Int32) (h : f_law_136 n v4 v5 v6 v7 v8 v9 v11 v12 v13 v14 s0 = some r) : WLAW l Z n0 (PLAW r) 13 168 136 [.unset, .unset, .unset, .unset, .val (.int v4), .val (.int v5), .val (.int v6), .val (.int v7), .val (.int v8), .val (.int v9), .unset, .val (.int v11), .val (.int v12), .val (.int v13), .val (.int v14)] [] (Hb 0 s0) := by
  unfold f_law_136 at h
  refine WP.iload at_136 rfl ?_
  rcases ite_e h with ⟨hc1, h⟩ | ⟨hc1, h⟩
  ·
    refine WP.ifN at_138 (XT.i0_ne_f hc1) ?_
    refine WP.iload at_141 rfl ?_
    refine WP.iload at_143 rfl ?_
    rcases ite_e h with ⟨hc2, h⟩ | ⟨hc2, h⟩
    ·
      refine WP.icmpN at_145 (XT.ii_ne_f hc2) ?_
      refine WP.iload at_148 rfl ?_
      refine WP.iload at_150 rfl ?_
      rcases ite_e h with ⟨hc3, h⟩ | ⟨hc3, h⟩
      ·
        refine WP.icmpN at_152 (XT.ii_ne_f hc3) ?_
        refine WP.iload at_155 rfl ?_
        refine WP.iload at_157 rfl ?_
        rcases ite_e h with ⟨hc4, h⟩ | ⟨hc4, h⟩
        ·
          refine WP.icmpN at_159 (XT.ii_ne_f hc4) ?_
          refine WP.iload at_162 rfl ?_
          refine WP.iload at_164 rfl ?_
          rcases ite_e h with ⟨hc5, h⟩ | ⟨hc5, h⟩
          ·
            refine WP.icmpN at_166 (XT.ii_ne_f hc5) ?_
            refine WP.iload at_169 rfl ?_
            rcases ite_e h with ⟨hc6, h⟩ | ⟨hc6, h⟩
            ·
              refine WP.ifN at_171 (XT.i0_ne_f hc6) ?_
              refine WP.iconst (1 : Int32) at_174 rfl ?_
              refine WP.goto (pc' := 179) at_175 (by decide) rfl ?_
              exact WP.weak (L' := [.unset, .unset, .unset, .unset, .unset, .unset, .unset, .unset, .unset, .unset, .unset, .unset, .unset, .unset, .unset]) trivial (okLAW_179 l Z a0 hw n0 n (1 : Int32) s0 _ h)
            ·
              refine WP.ifY (pc' := 178) at_171 (XT.i0_ne_t hc6) (by decide) rfl ?_
              exact WP.weak (L' := [.unset, .unset, .unset, .unset, .unset, .unset, .unset, .unset, .unset, .unset, .unset, .unset, .unset, .unset, .unset]) trivial (okLAW_178 l Z a0 hw n0 n s0 _ h)
          ·
            refine WP.icmpY (pc' := 178) at_166 (XT.ii_ne_t hc5) (by decide) rfl ?_
            exact WP.weak (L' := [.unset, .unset, .unset, .unset, .unset, .unset, .unset, .unset, .unset, .unset, .unset, .unset, .unset, .unset, .unset]) trivial (okLAW_178 l Z a0 hw n0 n s0 _ h)
        ·
          refine WP.icmpY (pc' := 178) at_159 (XT.ii_ne_t hc4) (by decide) rfl ?_
          exact WP.weak (L' := [.unset, .unset, .unset, .unset, .unset, .unset, .unset, .unset, .unset, .unset, .unset, .unset, .unset, .unset, .unset]) trivial (okLAW_178 l Z a0 hw n0 n s0 _ h)
      ·
        refine WP.icmpY (pc' := 178) at_152 (XT.ii_ne_t hc3) (by decide) rfl ?_
        exact WP.weak (L' := [.unset, .unset, .unset, .unset, .unset, .unset, .unset, .unset, .unset, .unset, .unset, .unset, .unset, .unset, .unset]) trivial (okLAW_178 l Z a0 hw n0 n s0 _ h)
    ·
      refine WP.icmpY (pc' := 178) at_145 (XT.ii_ne_t hc2) (by decide) rfl ?_
      exact WP.weak (L' := [.unset, .unset, .unset, .unset, .unset, .unset, .unset, .unset, .unset, .unset, .unset, .unset, .unset, .unset, .unset]) trivial (okLAW_178 l Z a0 hw n0 n s0 _ h)
  ·
    refine WP.ifY (pc' := 178) at_138 (XT.i0_ne_t hc1) (by decide) rfl ?_
    exact WP.weak (L' := [.unset, .unset, .unset, .unset, .unset, .unset, .unset, .unset, .unset, .unset, .unset, .unset, .unset, .unset, .unset]) trivial (okLAW_178 l Z a0 hw n0 n s0 _ h)
def f_law_86 (n : Nat) (v4 : Int32) (v5 : Int32) (v6 : Int32) (v7 : Int32) (v8 : Int32) (v9 : Int32) (s0 : St) : Option (Int32) :=
  f_law_136 n v4 v5 v6 v7 v8 v9 (-2 : Int32) (0 : Int32) (1 : Int32) (0 : Int32) s0
set_option maxRecDepth 65536 in
set_option maxHeartbeats 4000000 in
theorem okLAW_86 (l : Launch) (Z : State) (a0 : Array Value) (hw : HW a0 Z) (n0 : Nat) (n : Nat) (v4 : Int32) (v5 : Int32) (v6 : Int32) (v7 : Int32) (v8 : Int32) (v9 : Int32) (s0 : St) (r : Int32) (h : f_law_86 n v4 v5 v6 v7 v8 v9 s0 = some r) : WLAW l Z n0 (PLAW r) 13 168 86 [.unset, .unset, .unset, .unset, .val (.int v4), .val (.int v5), .val (.int v6), .val (.int v7), .val (.int v8), .val (.int v9), .unset, .unset, .unset, .unset, .unset] [] (Hb 0 s0) := by
  unfold f_law_86 at h
  refine WP.bipush (-2 : Int32) at_86 rfl ?_
  refine WP.istore (L' := [.unset, .unset, .unset, .unset, .val (.int v4), .val (.int v5), .val (.int v6), .val (.int v7), .val (.int v8), .val (.int v9), .unset, .val (.int (-2 : Int32)), .unset, .unset, .unset]) at_88 (leb rfl) rfl ?_
  refine WP.iconst (0 : Int32) at_90 rfl ?_
  refine WP.istore (L' := [.unset, .unset, .unset, .unset, .val (.int v4), .val (.int v5), .val (.int v6), .val (.int v7), .val (.int v8), .val (.int v9), .unset, .val (.int (-2 : Int32)), .val (.int (0 : Int32)), .unset, .unset]) at_91 (leb rfl) rfl ?_
  refine WP.iconst (1 : Int32) at_93 rfl ?_
  refine WP.istore (L' := [.unset, .unset, .unset, .unset, .val (.int v4), .val (.int v5), .val (.int v6), .val (.int v7), .val (.int v8), .val (.int v9), .unset, .val (.int (-2 : Int32)), .val (.int (0 : Int32)), .val (.int (1 : Int32)), .unset]) at_94 (leb rfl) rfl ?_
  refine WP.iconst (0 : Int32) at_96 rfl ?_
  refine WP.istore (L' := [.unset, .unset, .unset, .unset, .val (.int v4), .val (.int v5), .val (.int v6), .val (.int v7), .val (.int v8), .val (.int v9), .unset, .val (.int (-2 : Int32)), .val (.int (0 : Int32)), .val (.int (1 : Int32)), .val (.int (0 : Int32))]) at_97 (leb rfl) rfl ?_
  refine WP.goto (pc' := 136) at_99 (by decide) rfl ?_
  exact WP.weak (L' := [.unset, .unset, .unset, .unset, .val (.int v4), .val (.int v5), .val (.int v6), .val (.int v7), .val (.int v8), .val (.int v9), .unset, .val (.int (-2 : Int32)), .val (.int (0 : Int32)), .val (.int (1 : Int32)), .val (.int (0 : Int32))]) ⟨rfl, rfl, rfl, rfl, rfl, rfl, rfl, rfl, rfl, rfl, trivial⟩ (okLAW_136 l Z a0 hw n0 n v4 v5 v6 v7 v8 v9 (-2 : Int32) (0 : Int32) (1 : Int32) (0 : Int32) s0 _ h)
def f_law_72 (n : Nat) (v2 : Int32) (v4 : Int32) (v5 : Int32) (v6 : Int32) (v7 : Int32) (v8 : Int32) (v9 : Int32) (t0 : Int32) (s0 : St) : Option (Int32) :=
  if v2 < (1 : Int32) then
    f_law_86 n v4 v5 v6 v7 v8 v9 s0
  else
    if (2048 : Int32) < v2 then
      f_law_86 n v4 v5 v6 v7 v8 v9 s0
    else
      if t0 < v2 then
        f_law_136 n v4 v5 v6 v7 v8 v9 (-3 : Int32) (0 : Int32) (1 : Int32) (0 : Int32) s0
      else
        f_law_136 n v4 v5 v6 v7 v8 v9 (0 : Int32) (1 : Int32) v2 v2 s0
set_option maxRecDepth 65536 in
set_option maxHeartbeats 4000000 in
theorem okLAW_72 (l : Launch) (Z : State) (a0 : Array Value) (hw : HW a0 Z) (n0 : Nat) (n : Nat) (v2 : Int32) (v4 : Int32) (v5 : Int32) (v6 : Int32) (v7 : Int32) (v8 : Int32) (v9 : Int32) (t0 : Int32) (s0 : St) (r : Int32) (h : f_law_72 n v2 v4 v5 v6 v7 v8 v9 t0 s0 = some r) : WLAW l Z n0 (PLAW r) 13 168 72 [.unset, .unset, .val (.int v2), .unset, .val (.int v4), .val (.int v5), .val (.int v6), .val (.int v7), .val (.int v8), .val (.int v9), .unset, .unset, .unset, .unset, .unset] [.int t0] (Hb 0 s0) := by
  unfold f_law_72 at h
  refine WP.istore (L' := [.unset, .unset, .val (.int v2), .unset, .val (.int v4), .val (.int v5), .val (.int v6), .val (.int v7), .val (.int v8), .val (.int v9), .val (.int t0), .unset, .unset, .unset, .unset]) at_72 (leb rfl) rfl ?_
  refine WP.iloadN at_74 rfl ?_
  refine WP.iconst (1 : Int32) at_75 rfl ?_
  rcases ite_e h with ⟨hc1, h⟩ | ⟨hc1, h⟩
  ·
    refine WP.icmpY (pc' := 86) at_76 (XT.ii_lt_t hc1) (by decide) rfl ?_
    exact WP.weak (L' := [.unset, .unset, .unset, .unset, .val (.int v4), .val (.int v5), .val (.int v6), .val (.int v7), .val (.int v8), .val (.int v9), .unset, .unset, .unset, .unset, .unset]) ⟨rfl, rfl, rfl, rfl, rfl, rfl, trivial⟩ (okLAW_86 l Z a0 hw n0 n v4 v5 v6 v7 v8 v9 s0 _ h)
  ·
    refine WP.icmpN at_76 (XT.ii_lt_f hc1) ?_
    refine WP.iloadN at_79 rfl ?_
    refine WP.sipush (2048 : Int32) at_80 rfl ?_
    rcases ite_e h with ⟨hc2, h⟩ | ⟨hc2, h⟩
    ·
      refine WP.icmpN at_83 (XT.ii_le_f hc2) ?_
      exact WP.weak (L' := [.unset, .unset, .unset, .unset, .val (.int v4), .val (.int v5), .val (.int v6), .val (.int v7), .val (.int v8), .val (.int v9), .unset, .unset, .unset, .unset, .unset]) ⟨rfl, rfl, rfl, rfl, rfl, rfl, trivial⟩ (okLAW_86 l Z a0 hw n0 n v4 v5 v6 v7 v8 v9 s0 _ h)
    ·
      refine WP.icmpY (pc' := 102) at_83 (XT.ii_le_t hc2) (by decide) rfl ?_
      refine WP.iloadN at_102 rfl ?_
      refine WP.iload at_103 rfl ?_
      rcases ite_e h with ⟨hc3, h⟩ | ⟨hc3, h⟩
      ·
        refine WP.icmpN at_105 (XT.ii_le_f hc3) ?_
        refine WP.bipush (-3 : Int32) at_108 rfl ?_
        refine WP.istore (L' := [.unset, .unset, .val (.int v2), .unset, .val (.int v4), .val (.int v5), .val (.int v6), .val (.int v7), .val (.int v8), .val (.int v9), .val (.int t0), .val (.int (-3 : Int32)), .unset, .unset, .unset]) at_110 (leb rfl) rfl ?_
        refine WP.iconst (0 : Int32) at_112 rfl ?_
        refine WP.istore (L' := [.unset, .unset, .val (.int v2), .unset, .val (.int v4), .val (.int v5), .val (.int v6), .val (.int v7), .val (.int v8), .val (.int v9), .val (.int t0), .val (.int (-3 : Int32)), .val (.int (0 : Int32)), .unset, .unset]) at_113 (leb rfl) rfl ?_
        refine WP.iconst (1 : Int32) at_115 rfl ?_
        refine WP.istore (L' := [.unset, .unset, .val (.int v2), .unset, .val (.int v4), .val (.int v5), .val (.int v6), .val (.int v7), .val (.int v8), .val (.int v9), .val (.int t0), .val (.int (-3 : Int32)), .val (.int (0 : Int32)), .val (.int (1 : Int32)), .unset]) at_116 (leb rfl) rfl ?_
        refine WP.iconst (0 : Int32) at_118 rfl ?_
        refine WP.istore (L' := [.unset, .unset, .val (.int v2), .unset, .val (.int v4), .val (.int v5), .val (.int v6), .val (.int v7), .val (.int v8), .val (.int v9), .val (.int t0), .val (.int (-3 : Int32)), .val (.int (0 : Int32)), .val (.int (1 : Int32)), .val (.int (0 : Int32))]) at_119 (leb rfl) rfl ?_
        refine WP.goto (pc' := 136) at_121 (by decide) rfl ?_
        exact WP.weak (L' := [.unset, .unset, .unset, .unset, .val (.int v4), .val (.int v5), .val (.int v6), .val (.int v7), .val (.int v8), .val (.int v9), .unset, .val (.int (-3 : Int32)), .val (.int (0 : Int32)), .val (.int (1 : Int32)), .val (.int (0 : Int32))]) ⟨rfl, rfl, rfl, rfl, rfl, rfl, rfl, rfl, rfl, rfl, trivial⟩ (okLAW_136 l Z a0 hw n0 n v4 v5 v6 v7 v8 v9 (-3 : Int32) (0 : Int32) (1 : Int32) (0 : Int32) s0 _ h)
      ·
        refine WP.icmpY (pc' := 124) at_105 (XT.ii_le_t hc3) (by decide) rfl ?_
        refine WP.iconst (0 : Int32) at_124 rfl ?_
        refine WP.istore (L' := [.unset, .unset, .val (.int v2), .unset, .val (.int v4), .val (.int v5), .val (.int v6), .val (.int v7), .val (.int v8), .val (.int v9), .val (.int t0), .val (.int (0 : Int32)), .unset, .unset, .unset]) at_125 (leb rfl) rfl ?_
        refine WP.iconst (1 : Int32) at_127 rfl ?_
        refine WP.istore (L' := [.unset, .unset, .val (.int v2), .unset, .val (.int v4), .val (.int v5), .val (.int v6), .val (.int v7), .val (.int v8), .val (.int v9), .val (.int t0), .val (.int (0 : Int32)), .val (.int (1 : Int32)), .unset, .unset]) at_128 (leb rfl) rfl ?_
        refine WP.iloadN at_130 rfl ?_
        refine WP.istore (L' := [.unset, .unset, .val (.int v2), .unset, .val (.int v4), .val (.int v5), .val (.int v6), .val (.int v7), .val (.int v8), .val (.int v9), .val (.int t0), .val (.int (0 : Int32)), .val (.int (1 : Int32)), .val (.int v2), .unset]) at_131 (leb rfl) rfl ?_
        refine WP.iloadN at_133 rfl ?_
        refine WP.istore (L' := [.unset, .unset, .val (.int v2), .unset, .val (.int v4), .val (.int v5), .val (.int v6), .val (.int v7), .val (.int v8), .val (.int v9), .val (.int t0), .val (.int (0 : Int32)), .val (.int (1 : Int32)), .val (.int v2), .val (.int v2)]) at_134 (leb rfl) rfl ?_
        exact WP.weak (L' := [.unset, .unset, .unset, .unset, .val (.int v4), .val (.int v5), .val (.int v6), .val (.int v7), .val (.int v8), .val (.int v9), .unset, .val (.int (0 : Int32)), .val (.int (1 : Int32)), .val (.int v2), .val (.int v2)]) ⟨rfl, rfl, rfl, rfl, rfl, rfl, rfl, rfl, rfl, rfl, trivial⟩ (okLAW_136 l Z a0 hw n0 n v4 v5 v6 v7 v8 v9 (0 : Int32) (1 : Int32) v2 v2 s0 _ h)
def f_law (n : Nat) (p0 : Int32) (p1 : Int32) (p2 : Int32) : Option (Int32) :=
  (f_init p0 p1).bind fun c1 =>
  (f_count c1).bind fun c2 =>
  (f_propose n (1 : Int32) (1 : Int32) p2 c1).bind fun c3 =>
  (f_count c3.2).bind fun c4 =>
  (f_lastHyper c3.2).bind fun c5 =>
  (f_hyperperiod n c3.2).bind fun c6 =>
  (f_lastOverload c6.2).bind fun c7 =>
  if p1 < (1 : Int32) then
    f_law_72 n p2 c2 c3.1 c4 c5 c6.1 c7 (1 : Int32) c6.2
  else
    if (2048 : Int32) < p1 then
      f_law_72 n p2 c2 c3.1 c4 c5 c6.1 c7 (2048 : Int32) c6.2
    else
      f_law_72 n p2 c2 c3.1 c4 c5 c6.1 c7 p1 c6.2
set_option maxRecDepth 65536 in
set_option maxHeartbeats 4000000 in
theorem okLAW (l : Launch) (Z : State) (a0 : Array Value) (hw : HW a0 Z) (n : Nat) (p0 : Int32) (p1 : Int32) (p2 : Int32) (r : Int32) (h : f_law n p0 p1 p2 = some r) : CS l Z CN lay x code maxLocals ret room_1 0 [.int p0, .int p1, .int p2] ([] : List OwnC) (PLAW r) := by
  refine CS.of_wp pn_law (leb rfl) fun n0 => ?_
  show WLAW l Z n0 (PLAW r) 0 0 0 [.val (.int p0), .val (.int p1), .val (.int p2), .unset, .unset, .unset, .unset, .unset, .unset, .unset, .unset, .unset, .unset, .unset, .unset] [] ([] : List OwnC)
  unfold f_law at h
  refine WP.new (vs := vs0) at_0 (hw _ m_0) (hw _ m_1) (hw _ m_2) (leb rfl) (leb rfl) (vs0_ok hw) ?_
  show WLAW l Z n0 (PLAW r) 1 24 3 [.val (.int p0), .val (.int p1), .val (.int p2), .unset, .unset, .unset, .unset, .unset, .unset, .unset, .unset, .unset, .unset, .unset, .unset] [.ref 0] ([cO vs0])
  refine WP.dup at_3 rfl ?_
  refine WP.iloadN at_4 rfl ?_
  refine WP.iloadN at_5 rfl ?_
  obtain ⟨c1, hc1, h⟩ := Option.bind_eq_some_iff.mp h
  refine WP.callI (i := 0) (y := y0) (as := [.int p0, .int p1]) (S := [.ref 0]) at_6 rfl (hw _ m_3) (hw _ m_4) (hw _ m_5) (hw _ m_2) hy0 (ok0 l Z a0 hw p0 p1 _ hc1) rfl (lenOf pd0 rfl) (leb rfl) (leb rfl) (leb rfl) (leb rfl) ?_
  rintro _ _ ⟨rfl, rfl⟩
  show WLAW l Z n0 (PLAW r) 13 168 9 [.val (.int p0), .val (.int p1), .val (.int p2), .unset, .unset, .unset, .unset, .unset, .unset, .unset, .unset, .unset, .unset, .unset, .unset] [.ref 0] (Hb 0 c1)
  refine WP.astoreN (L' := [.val (.int p0), .val (.int p1), .val (.int p2), .val (.ref 0), .unset, .unset, .unset, .unset, .unset, .unset, .unset, .unset, .unset, .unset, .unset]) at_9 (leb rfl) rfl ?_
  refine WP.aloadN at_10 rfl ?_
  obtain ⟨c2, hc2, h⟩ := Option.bind_eq_some_iff.mp h
  refine WP.callV (i := 0) (y := y2) (as := []) (S := []) at_11 (hw _ m_62) (hw _ m_63) (hw _ m_65) (hw _ m_64) (hw _ m_66) (hw _ m_2) hy2 rfl (ok2 l Z a0 hw c1 _ hc2) rfl (lenOf pd2 rfl) (leb rfl) (leb rfl) (leb rfl) (leb rfl) ?_
  rintro _ _ ⟨rfl, rfl⟩
  show WLAW l Z n0 (PLAW r) 13 168 14 [.val (.int p0), .val (.int p1), .val (.int p2), .val (.ref 0), .unset, .unset, .unset, .unset, .unset, .unset, .unset, .unset, .unset, .unset, .unset] [.int c2] (Hb 0 c1)
  refine WP.istore (L' := [.val (.int p0), .val (.int p1), .val (.int p2), .val (.ref 0), .val (.int c2), .unset, .unset, .unset, .unset, .unset, .unset, .unset, .unset, .unset, .unset]) at_14 (leb rfl) rfl ?_
  refine WP.aloadN at_16 rfl ?_
  refine WP.iconst (1 : Int32) at_17 rfl ?_
  refine WP.iconst (1 : Int32) at_18 rfl ?_
  refine WP.iloadN at_19 rfl ?_
  obtain ⟨c3, hc3, h⟩ := Option.bind_eq_some_iff.mp h
  refine WP.callV (i := 0) (y := y3) (as := [.int (1 : Int32), .int (1 : Int32), .int p2]) (S := []) at_20 (hw _ m_67) (hw _ m_68) (hw _ m_70) (hw _ m_69) (hw _ m_71) (hw _ m_2) hy3 rfl (ok3 l Z a0 hw n (1 : Int32) (1 : Int32) p2 c1 _ hc3) rfl (lenOf pd3 rfl) (leb rfl) (leb rfl) (leb rfl) (leb rfl) ?_
  rintro _ _ ⟨rfl, rfl⟩
  show WLAW l Z n0 (PLAW r) 13 168 23 [.val (.int p0), .val (.int p1), .val (.int p2), .val (.ref 0), .val (.int c2), .unset, .unset, .unset, .unset, .unset, .unset, .unset, .unset, .unset, .unset] [.int c3.1] (Hb 0 c3.2)
  refine WP.istore (L' := [.val (.int p0), .val (.int p1), .val (.int p2), .val (.ref 0), .val (.int c2), .val (.int c3.1), .unset, .unset, .unset, .unset, .unset, .unset, .unset, .unset, .unset]) at_23 (leb rfl) rfl ?_
  refine WP.aloadN at_25 rfl ?_
  obtain ⟨c4, hc4, h⟩ := Option.bind_eq_some_iff.mp h
  refine WP.callV (i := 0) (y := y2) (as := []) (S := []) at_26 (hw _ m_62) (hw _ m_63) (hw _ m_65) (hw _ m_64) (hw _ m_66) (hw _ m_2) hy2 rfl (ok2 l Z a0 hw c3.2 _ hc4) rfl (lenOf pd2 rfl) (leb rfl) (leb rfl) (leb rfl) (leb rfl) ?_
  rintro _ _ ⟨rfl, rfl⟩
  show WLAW l Z n0 (PLAW r) 13 168 29 [.val (.int p0), .val (.int p1), .val (.int p2), .val (.ref 0), .val (.int c2), .val (.int c3.1), .unset, .unset, .unset, .unset, .unset, .unset, .unset, .unset, .unset] [.int c4] (Hb 0 c3.2)
  refine WP.istore (L' := [.val (.int p0), .val (.int p1), .val (.int p2), .val (.ref 0), .val (.int c2), .val (.int c3.1), .val (.int c4), .unset, .unset, .unset, .unset, .unset, .unset, .unset, .unset]) at_29 (leb rfl) rfl ?_
  refine WP.aloadN at_31 rfl ?_
  obtain ⟨c5, hc5, h⟩ := Option.bind_eq_some_iff.mp h
  refine WP.callV (i := 0) (y := y17) (as := []) (S := []) at_32 (hw _ m_125) (hw _ m_126) (hw _ m_128) (hw _ m_127) (hw _ m_129) (hw _ m_2) hy17 rfl (ok17 l Z a0 hw c3.2 _ hc5) rfl (lenOf pd17 rfl) (leb rfl) (leb rfl) (leb rfl) (leb rfl) ?_
  rintro _ _ ⟨rfl, rfl⟩
  show WLAW l Z n0 (PLAW r) 13 168 35 [.val (.int p0), .val (.int p1), .val (.int p2), .val (.ref 0), .val (.int c2), .val (.int c3.1), .val (.int c4), .unset, .unset, .unset, .unset, .unset, .unset, .unset, .unset] [.int c5] (Hb 0 c3.2)
  refine WP.istore (L' := [.val (.int p0), .val (.int p1), .val (.int p2), .val (.ref 0), .val (.int c2), .val (.int c3.1), .val (.int c4), .val (.int c5), .unset, .unset, .unset, .unset, .unset, .unset, .unset]) at_35 (leb rfl) rfl ?_
  refine WP.aloadN at_37 rfl ?_
  obtain ⟨c6, hc6, h⟩ := Option.bind_eq_some_iff.mp h
  refine WP.callV (i := 0) (y := y18) (as := []) (S := []) at_38 (hw _ m_130) (hw _ m_131) (hw _ m_133) (hw _ m_132) (hw _ m_134) (hw _ m_2) hy18 rfl (ok18 l Z a0 hw n c3.2 _ hc6) rfl (lenOf pd18 rfl) (leb rfl) (leb rfl) (leb rfl) (leb rfl) ?_
  rintro _ _ ⟨rfl, rfl⟩
  show WLAW l Z n0 (PLAW r) 13 168 41 [.val (.int p0), .val (.int p1), .val (.int p2), .val (.ref 0), .val (.int c2), .val (.int c3.1), .val (.int c4), .val (.int c5), .unset, .unset, .unset, .unset, .unset, .unset, .unset] [.int c6.1] (Hb 0 c6.2)
  refine WP.istore (L' := [.val (.int p0), .val (.int p1), .val (.int p2), .val (.ref 0), .val (.int c2), .val (.int c3.1), .val (.int c4), .val (.int c5), .val (.int c6.1), .unset, .unset, .unset, .unset, .unset, .unset]) at_41 (leb rfl) rfl ?_
  refine WP.aloadN at_43 rfl ?_
  obtain ⟨c7, hc7, h⟩ := Option.bind_eq_some_iff.mp h
  refine WP.callV (i := 0) (y := y19) (as := []) (S := []) at_44 (hw _ m_135) (hw _ m_136) (hw _ m_138) (hw _ m_137) (hw _ m_139) (hw _ m_2) hy19 rfl (ok19 l Z a0 hw c6.2 _ hc7) rfl (lenOf pd19 rfl) (leb rfl) (leb rfl) (leb rfl) (leb rfl) ?_
  rintro _ _ ⟨rfl, rfl⟩
  show WLAW l Z n0 (PLAW r) 13 168 47 [.val (.int p0), .val (.int p1), .val (.int p2), .val (.ref 0), .val (.int c2), .val (.int c3.1), .val (.int c4), .val (.int c5), .val (.int c6.1), .unset, .unset, .unset, .unset, .unset, .unset] [.int c7] (Hb 0 c6.2)
  refine WP.istore (L' := [.val (.int p0), .val (.int p1), .val (.int p2), .val (.ref 0), .val (.int c2), .val (.int c3.1), .val (.int c4), .val (.int c5), .val (.int c6.1), .val (.int c7), .unset, .unset, .unset, .unset, .unset]) at_47 (leb rfl) rfl ?_
  refine WP.iloadN at_49 rfl ?_
  refine WP.iconst (1 : Int32) at_50 rfl ?_
  rcases ite_e h with ⟨hc8, h⟩ | ⟨hc8, h⟩
  ·
    refine WP.icmpN at_51 (XT.ii_ge_f hc8) ?_
    refine WP.iconst (1 : Int32) at_54 rfl ?_
    refine WP.goto (pc' := 72) at_55 (by decide) rfl ?_
    exact WP.weak (L' := [.unset, .unset, .val (.int p2), .unset, .val (.int c2), .val (.int c3.1), .val (.int c4), .val (.int c5), .val (.int c6.1), .val (.int c7), .unset, .unset, .unset, .unset, .unset]) ⟨rfl, rfl, rfl, rfl, rfl, rfl, rfl, trivial⟩ (okLAW_72 l Z a0 hw n0 n p2 c2 c3.1 c4 c5 c6.1 c7 (1 : Int32) c6.2 _ h)
  ·
    refine WP.icmpY (pc' := 58) at_51 (XT.ii_ge_t hc8) (by decide) rfl ?_
    refine WP.iloadN at_58 rfl ?_
    refine WP.sipush (2048 : Int32) at_59 rfl ?_
    rcases ite_e h with ⟨hc9, h⟩ | ⟨hc9, h⟩
    ·
      refine WP.icmpN at_62 (XT.ii_le_f hc9) ?_
      refine WP.sipush (2048 : Int32) at_65 rfl ?_
      refine WP.goto (pc' := 72) at_68 (by decide) rfl ?_
      exact WP.weak (L' := [.unset, .unset, .val (.int p2), .unset, .val (.int c2), .val (.int c3.1), .val (.int c4), .val (.int c5), .val (.int c6.1), .val (.int c7), .unset, .unset, .unset, .unset, .unset]) ⟨rfl, rfl, rfl, rfl, rfl, rfl, rfl, trivial⟩ (okLAW_72 l Z a0 hw n0 n p2 c2 c3.1 c4 c5 c6.1 c7 (2048 : Int32) c6.2 _ h)
    ·
      refine WP.icmpY (pc' := 71) at_62 (XT.ii_le_t hc9) (by decide) rfl ?_
      refine WP.iloadN at_71 rfl ?_
      exact WP.weak (L' := [.unset, .unset, .val (.int p2), .unset, .val (.int c2), .val (.int c3.1), .val (.int c4), .val (.int c5), .val (.int c6.1), .val (.int c7), .unset, .unset, .unset, .unset, .unset]) ⟨rfl, rfl, rfl, rfl, rfl, rfl, rfl, trivial⟩ (okLAW_72 l Z a0 hw n0 n p2 c2 c3.1 c4 c5 c6.1 c7 p1 c6.2 _ h)
theorem own_one : ((1 : Int64) : Int64).toInt = 1 := rfl
theorem own_gcd (n : Nat) (t : Int64) (h1 : 1 ≤ t.toInt) (h2 : t.toInt ≤ 2048) (s : St) : f_gcd (n + 3) 1 t s = some 1 := by
  have t0 : ¬ t = 0 := fun q => by rw [q] at h1; exact absurd h1 (by decide)
  show g_gcd_9 (f_gcd_9 (n + 2)) (n + 2) 1 t 0 s = _
  unfold g_gcd_9 lt
  rw [if_pos (by decide), if_neg t0, if_neg t0]
  have last : f_gcd_9 (n + 1) 1 0 2 s = some 1 := by
    show g_gcd_9 (f_gcd_9 n) n 1 0 2 s = _
    unfold g_gcd_9
    rw [if_pos (by decide), if_pos rfl]; rfl
  have last' : f_gcd_9 (n + 2) 1 0 1 s = some 1 := by
    show g_gcd_9 (f_gcd_9 (n + 1)) (n + 1) 1 0 1 s = _
    unfold g_gcd_9
    rw [if_pos (by decide), if_pos rfl]; rfl
  by_cases c : t = 1
  · rw [c, show (1 : Int64) % 1 = 0 from by decide]; exact last'
  · have h3 : 1 < t.toInt := by
      have : t.toInt ≠ 1 := fun q => c (x64_eq.mpr q)
      omega
    have e : (1 : Int64) % t = 1 := x64_eq.mpr (by rw [Int64.toInt_mod]; exact Int.tmod_eq_of_lt (by decide) h3)
    have e' : t % 1 = 0 := x64_eq.mpr (by rw [Int64.toInt_mod]; exact Int.tmod_one _)
    rw [e]
    show g_gcd_9 (f_gcd_9 (n + 1)) (n + 1) t 1 1 s = _
    unfold g_gcd_9 lt
    rw [if_pos (by decide), if_neg (by decide), if_neg (by decide), e']
    exact last
theorem own_lcm (n : Nat) (t : Int64) (h1 : 1 ≤ t.toInt) (h2 : t.toInt ≤ 2048) (s : St) : f_lcm (n + 3) 1 t s = some t := by
  unfold f_lcm f_lcm_18
  rw [own_gcd n t h1 h2 s, Option.bind_some, if_neg (by decide), if_neg (by decide), show (1 : Int64) / 1 = 1 from by decide, Int64.one_mul]
theorem own_wh (n : Nat) (L t : Int32) (s : St) (h11 : gI s 11 = 1) (h8 : rd (gA s 8) 0 = some t) (h1 : 1 ≤ t.toInt) (h2 : t.toInt ≤ 2048) : f_workHyper (n + 4) L s = if L < t then some (L + 1) else some t := by
  show g_workHyper_5 (f_workHyper_5 (n + 3)) (n + 3) L 1 0 s = _
  unfold g_workHyper_5 lt
  have t1 : ¬ t < 1 := fun q => by rw [x32_lt] at q; have : (1 : Int32).toInt = 1 := rfl; omega
  have e : (L.toInt64 < t.toInt64) ↔ L < t := by rw [x64_lt, Int32.toInt_toInt64, Int32.toInt_toInt64, x32_lt]
  rw [h11, if_pos (by decide), h8, Option.bind_some, if_neg t1, Option.bind_some, own_lcm n t.toInt64 (by rw [Int32.toInt_toInt64]; exact h1) (by rw [Int32.toInt_toInt64]; exact h2), Option.bind_some]
  by_cases c : L < t
  · rw [if_pos (e.mpr c), if_pos c]
  · rw [if_neg (fun q => c (e.mp q)), if_neg c]
    show g_workHyper_5 (f_workHyper_5 (n + 2)) (n + 2) L t.toInt64 1 s = _
    unfold g_workHyper_5
    rw [h11, if_neg (by decide), Int32.toInt32_toInt64]
def own_ap (t : Int32) (s : St) : St := sI (sA (sA (sA s 6 ((gA s 6).set 0 1)) 7 ((gA s 7).set 0 1)) 8 ((gA s 8).set 0 t)) 11 1
theorem own_app (t : Int32) (s : St) (h : gI s 11 = 0) (l6 : (gA s 6).length = 12) (l7 : (gA s 7).length = 12) (l8 : (gA s 8).length = 12) : f_appendWork 1 1 t s = some (1, own_ap t s) := by
  have e0 : (0 : Int32).toInt = ((0 : Nat) : Int) := rfl
  unfold f_appendWork lt
  rw [h, if_neg (by decide), if_pos (by decide)]
  rw [wrA_of (k := 0) 1 e0 (by omega), Option.bind_some]
  rw [show gI (sA s 6 ((gA s 6).set 0 1)) 11 = 0 from h, wrA_of (s := sA s 6 ((gA s 6).set 0 1)) (f := 7) (k := 0) 1 e0 (show 0 < (gA s 7).length by omega), Option.bind_some]
  rw [show gI (sA (sA s 6 ((gA s 6).set 0 1)) 7 ((gA (sA s 6 ((gA s 6).set 0 1)) 7).set 0 1)) 11 = 0 from h, wrA_of (s := sA (sA s 6 ((gA s 6).set 0 1)) 7 ((gA (sA s 6 ((gA s 6).set 0 1)) 7).set 0 1)) (f := 8) (k := 0) t e0 (show 0 < (gA s 8).length by omega), Option.bind_some]
  dsimp only
  rw [show ∀ x, gI (sA (sA (sA s 6 ((gA s 6).set 0 1)) 7 ((gA (sA s 6 ((gA s 6).set 0 1)) 7).set 0 1)) 8 x) 11 = 0 from fun _ => h]
  rfl
theorem own_r0 {xs : List Int32} (x : Int32) (h : xs.length = 12) : rd (xs.set 0 x) 0 = some x := rd_of (k := 0) rfl (get_set_self x (by omega))
theorem own_ap8 (t : Int32) (s : St) (l8 : (gA s 8).length = 12) : rd (gA (own_ap t s) 8) 0 = some t := own_r0 t l8
def own_sc (t : Int32) (s : St) : St := sI (sI (sI (sA (sA (sA (sI s 3 0) 3 ((gA s 3).set 0 1)) 4 ((gA s 4).set 0 1)) 5 ((gA s 5).set 0 t)) 3 1) 4 1) 5 t
theorem own_store (n : Nat) (t : Int32) (s : St) (h11 : gI s 11 = 1) (r6 : rd (gA s 6) 0 = some 1) (r7 : rd (gA s 7) 0 = some 1) (r8 : rd (gA s 8) 0 = some t) (l3 : (gA s 3).length = 12) (l4 : (gA s 4).length = 12) (l5 : (gA s 5).length = 12) : f_storeCandidate (n + 2) t s = some (own_sc t s) := by
  have e0 : (0 : Int32).toInt = ((0 : Nat) : Int) := rfl
  show g_storeCandidate_7 (f_storeCandidate_7 (n + 1)) (n + 1) t 0 (sI s 3 0) = _
  unfold g_storeCandidate_7 lt
  rw [show gI (sI s 3 0) 11 = 1 from h11, if_pos (by decide), if_pos (by decide)]
  rw [show rd (gA (sI s 3 0) 6) 0 = some 1 from r6, Option.bind_some]
  rw [wrA_of (s := sI s 3 0) (f := 3) (k := 0) 1 e0 (show 0 < (gA s 3).length by omega), Option.bind_some]
  rw [show ∀ x, rd (gA (sA (sI s 3 0) 3 x) 7) 0 = some 1 from fun _ => r7, Option.bind_some]
  rw [wrA_of (s := sA (sI s 3 0) 3 _) (f := 4) (k := 0) 1 e0 (show 0 < (gA s 4).length by omega), Option.bind_some]
  rw [show ∀ x y, rd (gA (sA (sA (sI s 3 0) 3 x) 4 y) 8) 0 = some t from fun _ _ => r8, Option.bind_some]
  rw [wrA_of (s := sA (sA (sI s 3 0) 3 _) 4 _) (f := 5) (k := 0) t e0 (show 0 < (gA s 5).length by omega), Option.bind_some]
  dsimp only
  show g_storeCandidate_7 (f_storeCandidate_7 n) n t 1 (sI (sA (sA (sA (sI s 3 0) 3 ((gA s 3).set 0 1)) 4 ((gA s 4).set 0 1)) 5 ((gA s 5).set 0 t)) 3 1) = _
  unfold g_storeCandidate_7
  rw [show gI (sI (sA (sA (sA (sI s 3 0) 3 ((gA s 3).set 0 1)) 4 ((gA s 4).set 0 1)) 5 ((gA s 5).set 0 t)) 3 1) 11 = 1 from h11, if_neg (by decide)]
  rfl
theorem own_end (n : Nat) (x : Int32) (s : St) (h11 : gI s 11 = 1) (r9 : rd (gA s 9) 0 = some x) (hx : x.toInt ≤ 4096) : f_earliestNextDeadline (n + 2) s = some x := by
  show g_earliestNextDeadline_5 (f_earliestNextDeadline_5 (n + 1)) (n + 1) 2147483647 0 s = _
  unfold g_earliestNextDeadline_5 f_earliestNextDeadline_30 lt
  have c : x < 2147483647 := by rw [x32_lt]; have : (2147483647 : Int32).toInt = 2147483647 := rfl; omega
  rw [h11, if_pos (by decide), r9, Option.bind_some, if_pos c, Option.bind_some]
  show g_earliestNextDeadline_5 (f_earliestNextDeadline_5 n) n x 1 s = _
  unfold g_earliestNextDeadline_5
  rw [h11, if_neg (by decide)]
theorem own_cons (n : Nat) (t : Int32) (s : St) (h11 : gI s 11 = 1) (r9 : rd (gA s 9) 0 = some 1) (r6 : rd (gA s 6) 0 = some 1) (r8 : rd (gA s 8) 0 = some t) (l9 : (gA s 9).length = 12) : f_consumeDeadlinesAt (n + 2) 1 s = some (1, sA s 9 ((gA s 9).set 0 (1 + t))) := by
  have e0 : (0 : Int32).toInt = ((0 : Nat) : Int) := rfl
  show g_consumeDeadlinesAt_5 (f_consumeDeadlinesAt_5 (n + 1)) (n + 1) 1 0 0 s = _
  unfold g_consumeDeadlinesAt_5 f_consumeDeadlinesAt_58 lt
  rw [h11, if_pos (by decide), r9, Option.bind_some, if_pos rfl, r6, Option.bind_some]
  dsimp only
  rw [Option.bind_some, r8, Option.bind_some, wrA_of (k := 0) (1 + t) e0 (by omega), Option.bind_some]
  show g_consumeDeadlinesAt_5 (f_consumeDeadlinesAt_5 n) n 1 1 1 (sA s 9 ((gA s 9).set 0 (1 + t))) = _
  unfold g_consumeDeadlinesAt_5
  rw [show gI (sA s 9 ((gA s 9).set 0 (1 + t))) 11 = 1 from h11, if_neg (by decide)]
/-- the scan of the one task: two points -/
theorem own_scan (n : Nat) (t : Int32) (s : St) (h11 : gI s 11 = 1) (r6 : rd (gA s 6) 0 = some 1) (r7 : rd (gA s 7) 0 = some 1) (r8 : rd (gA s 8) 0 = some t) (l9 : (gA s 9).length = 12) (h1 : 1 ≤ t.toInt) (h2 : t.toInt ≤ 2048) : ∃ xs, f_scanDeadlinePoints (n + 6) t s = some (0, sA s 9 xs) := by
  have e0 : (0 : Int32).toInt = ((0 : Nat) : Int) := rfl
  have o1 : (1 : Int32).toInt = 1 := rfl
  let s1 := sA s 9 ((gA s 9).set 0 1)
  have l1 : (gA s1 9).length = 12 := by show ((gA s 9).set 0 1).length = 12; rw [set_len]; exact l9
  have a : f_scanDeadlinePoints (n + 6) t s = f_scanDeadlinePoints_33 (n + 4) t 0 0 s1 := by
    show g_scanDeadlinePoints_2 (f_scanDeadlinePoints_2 (n + 5)) (n + 5) t 0 s = _
    unfold g_scanDeadlinePoints_2 lt
    rw [h11, if_pos (by decide), r7, Option.bind_some, wrA_of (k := 0) 1 e0 (by omega), Option.bind_some]
    show g_scanDeadlinePoints_2 (f_scanDeadlinePoints_2 (n + 4)) (n + 4) t 1 s1 = _
    unfold g_scanDeadlinePoints_2
    rw [show gI s1 11 = 1 from h11, if_neg (by decide)]
  have t1 : ¬ t < 1 := fun q => by rw [x32_lt] at q; omega
  have e1t : (1 + t).toInt = 1 + t.toInt := by rw [x32_add (by omega) (by omega), o1]
  let s2 := sA s1 9 ((gA s1 9).set 0 (1 + t))
  have b : f_scanDeadlinePoints_33 (n + 4) t 0 0 s1 = f_scanDeadlinePoints_33 (n + 3) t 1 1 s2 := by
    show g_scanDeadlinePoints_33 (f_scanDeadlinePoints_33 (n + 3)) (n + 3) t 0 0 s1 = _
    unfold g_scanDeadlinePoints_33 lt
    rw [if_neg (by decide), own_end (n + 1) 1 s1 h11 (own_r0 1 l9) (by decide), Option.bind_some, if_neg t1, own_cons (n + 1) t s1 h11 (own_r0 1 l9) r6 r8 l1, Option.bind_some]
    dsimp only
    rw [if_neg (by decide)]; rfl
  have c : f_scanDeadlinePoints_33 (n + 3) t 1 1 s2 = some (0, s2) := by
    show g_scanDeadlinePoints_33 (f_scanDeadlinePoints_33 (n + 2)) (n + 2) t 1 1 s2 = _
    unfold g_scanDeadlinePoints_33
    rw [if_neg (by decide), own_end n (1 + t) s2 h11 (own_r0 (1 + t) l1) (by omega), Option.bind_some, if_pos (by rw [x32_lt]; omega)]
  exact ⟨(gA s1 9).set 0 (1 + t), by rw [a, b, c]; show some ((0 : Int32), sA (sA s 9 _) 9 _) = _; rw [sA_sA]⟩
theorem own_over (n : Nat) (t : Int32) (s : St) (h11 : gI s 11 = 1) (r6 : rd (gA s 6) 0 = some 1) (r7 : rd (gA s 7) 0 = some 1) (r8 : rd (gA s 8) 0 = some t) (l9 : (gA s 9).length = 12) (h1 : 1 ≤ t.toInt) (h2 : t.toInt ≤ 2048) : ∃ xs, f_overloadOfWork (n + 6) t s = some (0, sA s 9 xs) := by
  have t1 : ¬ t < 1 := fun q => by rw [x32_lt] at q; have : (1 : Int32).toInt = 1 := rfl; omega
  unfold f_overloadOfWork
  by_cases c : 1 = t
  · have e : f_implicitWithinCapacity (n + 6) t s = some 1 := by
      show g_implicitWithinCapacity_5 (f_implicitWithinCapacity_5 (n + 5)) (n + 5) t 0 0 s = _
      unfold g_implicitWithinCapacity_5 lt
      rw [h11, if_pos (by decide), r8, Option.bind_some, if_neg t1, r7, Option.bind_some, Option.bind_some, if_pos c, r6, Option.bind_some, Option.bind_some, ← c, if_neg (by decide)]
      show g_implicitWithinCapacity_5 (f_implicitWithinCapacity_5 (n + 4)) (n + 4) 1 1 1 s = _
      unfold g_implicitWithinCapacity_5
      rw [h11, if_neg (by decide), if_neg (by decide)]; rfl
    rw [e, Option.bind_some, if_neg (by decide)]
    exact ⟨gA s 9, by rw [sA_self rfl]⟩
  · have e : f_implicitWithinCapacity (n + 6) t s = some 0 := by
      show g_implicitWithinCapacity_5 (f_implicitWithinCapacity_5 (n + 5)) (n + 5) t 0 0 s = _
      unfold g_implicitWithinCapacity_5
      rw [h11, if_pos (by decide), r8, Option.bind_some, if_neg t1, r7, Option.bind_some, Option.bind_some, if_neg c]; rfl
    obtain ⟨xs, f⟩ := own_scan n t s h11 r6 r7 r8 l9 h1 h2
    exact ⟨xs, by rw [e, Option.bind_some, if_pos rfl, f, Option.bind_some]⟩
def own_ad (t : Int32) (s : St) : St := sI (sA (sA (sA s 0 ((gA s 0).set 0 1)) 1 ((gA s 1).set 0 1)) 2 ((gA s 2).set 0 t)) 2 1
theorem own_admit (t : Int32) (s : St) (h : gI s 2 = 0) (l6 : (gA s 0).length = 12) (l7 : (gA s 1).length = 12) (l8 : (gA s 2).length = 12) : f_admitTask 1 1 t s = some (0, own_ad t s) := by
  have e0 : (0 : Int32).toInt = ((0 : Nat) : Int) := rfl
  unfold f_admitTask lt
  rw [h, if_neg (by decide), if_pos (by decide)]
  rw [wrA_of (k := 0) 1 e0 (by omega), Option.bind_some]
  rw [show gI (sA s 0 ((gA s 0).set 0 1)) 2 = 0 from h, wrA_of (s := sA s 0 ((gA s 0).set 0 1)) (f := 1) (k := 0) 1 e0 (show 0 < (gA s 1).length by omega), Option.bind_some]
  rw [show gI (sA (sA s 0 ((gA s 0).set 0 1)) 1 ((gA (sA s 0 ((gA s 0).set 0 1)) 1).set 0 1)) 2 = 0 from h, wrA_of (s := sA (sA s 0 ((gA s 0).set 0 1)) 1 ((gA (sA s 0 ((gA s 0).set 0 1)) 1).set 0 1)) (f := 2) (k := 0) t e0 (show 0 < (gA s 2).length by omega), Option.bind_some]
  dsimp only
  rw [show ∀ x, gI (sA (sA (sA s 0 ((gA s 0).set 0 1)) 1 ((gA (sA s 0 ((gA s 0).set 0 1)) 1).set 0 1)) 2 x) 2 = 0 from fun _ => h]
  rw [show (0 : Int32) + 1 = 1 from by decide]
  show some ((1 : Int32) - 1, own_ad t s) = _
  rw [show (1 : Int32) - 1 = 0 from by decide]
/-- the one admitted task is loaded -/
theorem own_load (n : Nat) (t : Int32) (s : St) (h2 : gI s 2 = 1) (r0 : rd (gA s 0) 0 = some 1) (r1 : rd (gA s 1) 0 = some 1) (r2 : rd (gA s 2) 0 = some t) (l6 : (gA s 6).length = 12) (l7 : (gA s 7).length = 12) (l8 : (gA s 8).length = 12) : f_loadAdmitted (n + 2) s = some (own_ap t (sI s 11 0)) := by
  show g_loadAdmitted_7 (f_loadAdmitted_7 (n + 1)) (n + 1) 0 (sI s 11 0) = _
  unfold g_loadAdmitted_7 lt
  rw [show gI (sI s 11 0) 2 = 1 from h2, if_pos (by decide), if_pos (by decide)]
  rw [show rd (gA (sI s 11 0) 0) 0 = some 1 from r0, Option.bind_some, show rd (gA (sI s 11 0) 1) 0 = some 1 from r1, Option.bind_some, show rd (gA (sI s 11 0) 2) 0 = some t from r2, Option.bind_some]
  rw [own_app t (sI s 11 0) rfl l6 l7 l8, Option.bind_some]
  show g_loadAdmitted_7 (f_loadAdmitted_7 n) n 1 (own_ap t (sI s 11 0)) = _
  unfold g_loadAdmitted_7
  rw [show gI (own_ap t (sI s 11 0)) 2 = 1 from h2, if_neg (by decide)]; rfl
def own_I (C L : Int32) : St := sI (sI (sI (sI (sI (sI (sI (sI (sI (sI (sI (sI st0 0 C) 1 L) 2 0) 3 0) 4 0) 5 1) 6 0) 7 0) 8 0) 9 (-1)) 10 0) 11 0
def own_cl (x b : Int32) : Int32 := if x < 1 then 1 else if b < x then b else x
theorem own_init (p0 p1 : Int32) : f_init p0 p1 = some (own_I (own_cl p0 12) (own_cl p1 2048)) := by
  have e : ∀ x b s, f_clamp x 1 b s = some (own_cl x b) := fun x b s => by
    unfold f_clamp own_cl
    split
    · rfl
    · split <;> rfl
  unfold f_init lt
  dsimp only
  rw [e, Option.bind_some, e, Option.bind_some]; rfl
theorem own_cl1 (x b : Int32) (hb : 1 ≤ b.toInt) : 1 ≤ (own_cl x b).toInt ∧ (own_cl x b).toInt ≤ b.toInt := by
  have o1 : (1 : Int32).toInt = 1 := rfl
  unfold own_cl
  by_cases c : x < 1
  · rw [if_pos c]; omega
  · rw [if_neg c]
    by_cases d : b < x
    · rw [if_pos d]; omega
    · rw [if_neg d]; rw [x32_lt] at c d; omega
theorem own_law72 (n : Nat) (p1 t : Int32) (a b c d e f : Int32) (s : St) : (if p1 < 1 then f_law_72 n t a b c d e f 1 s else if 2048 < p1 then f_law_72 n t a b c d e f 2048 s else f_law_72 n t a b c d e f p1 s) = f_law_72 n t a b c d e f (own_cl p1 2048) s := by
  unfold own_cl
  split
  · rfl
  · split <;> rfl
theorem own_136 (n : Nat) (a b c d : Int32) (s : St) : f_law_136 n 0 a b d c 0 a b c d s = some 1 := by
  unfold f_law_136
  rw [if_pos rfl, if_pos rfl, if_pos rfl, if_pos rfl, if_pos rfl, if_pos rfl]; rfl
theorem owed (p0 p1 p2 : Int32) : ∃ fu, f_law fu p0 p1 p2 = some 1 := by
  refine ⟨10, ?_⟩
  unfold f_law
  rw [own_init, Option.bind_some]
  obtain ⟨c1, c2⟩ := own_cl1 p0 12 (by decide)
  obtain ⟨d1, d2⟩ := own_cl1 p1 2048 (by decide)
  have o0 : (0 : Int32).toInt = 0 := rfl
  have o1 : (1 : Int32).toInt = 1 := rfl
  have o2 : (2048 : Int32).toInt = 2048 := rfl
  simp only [own_law72]
  generalize own_cl p0 12 = C at *
  generalize own_cl p1 2048 = L at *
  have hp : gI (own_I C L) 2 < gI (own_I C L) 0 := by show (0 : Int32) < C; rw [x32_lt]; omega
  have bad : ∀ v, f_validParams 1 1 p2 (own_I C L) = some v → v = 0 → f_propose 10 1 1 p2 (own_I C L) = some (-2, own_I C L) := fun v h e => by
    unfold f_propose
    rw [if_pos hp, h, Option.bind_some, if_pos e]
  unfold f_count f_lastHyper f_lastOverload
  rw [Option.bind_some]
  have fin : f_hyperperiod 10 (own_I C L) = some (1, own_I C L) := by unfold f_hyperperiod; rw [show gI (own_I C L) 2 = 0 from rfl, if_pos rfl]
  by_cases a1 : p2 < 1
  · rw [bad 0 (by unfold f_validParams; rw [if_neg (by decide), if_neg (by decide), if_pos a1]; rfl) rfl, Option.bind_some, Option.bind_some, Option.bind_some, fin, Option.bind_some, Option.bind_some]
    unfold f_law_72 f_law_86
    rw [if_pos a1]; exact own_136 10 (-2) 0 1 0 _
  by_cases a2 : 2048 < p2
  · rw [bad 0 (by unfold f_validParams; rw [if_neg (by decide), if_neg (by decide), if_neg a1, if_pos a2]; rfl) rfl, Option.bind_some, Option.bind_some, Option.bind_some, fin, Option.bind_some, Option.bind_some]
    unfold f_law_72 f_law_86
    rw [if_neg a1, if_pos a2]; exact own_136 10 (-2) 0 1 0 _
  have h1 : 1 ≤ p2.toInt := by rw [x32_lt] at a1; omega
  have h2 : p2.toInt ≤ 2048 := by rw [x32_lt] at a2; omega
  have hv : f_validParams 1 1 p2 (own_I C L) = some 1 := by
    unfold f_validParams
    rw [if_neg (by decide), if_neg (by decide), if_neg a1, if_neg a2, if_neg (by decide), if_neg a1]; rfl
  have hl : f_loadAdmitted 10 (own_I C L) = some (sI (own_I C L) 11 0) := by
    show g_loadAdmitted_7 (f_loadAdmitted_7 9) 9 0 (sI (own_I C L) 11 0) = _
    unfold g_loadAdmitted_7
    rw [show gI (sI (own_I C L) 11 0) 2 = 0 from rfl, if_neg (by decide)]; rfl
  let s1 := own_ap p2 (sI (own_I C L) 11 0)
  have ha : f_appendWork 1 1 p2 (sI (own_I C L) 11 0) = some (1, s1) := own_app p2 _ rfl rfl rfl rfl
  have hw := own_wh 6 L p2 s1 rfl (own_ap8 p2 _ rfl) h1 h2
  have hpr : f_propose 10 1 1 p2 (own_I C L) = (f_workHyper 10 L s1).bind fun c6 =>
      if L < c6 then some ((-3 : Int32), sI (sI (sI s1 4 0) 7 0) 6 0)
      else (f_storeCandidate 10 c6 s1).bind fun c11 => (f_overloadOfWork 10 c6 (sI c11 7 c6)).bind fun c13 =>
        if gI (sI c13.2 6 c13.1) 6 = 0 then (f_admitTask 1 1 p2 (sI c13.2 6 c13.1)).bind fun c16 => some (c16.1, c16.2) else some ((-4 : Int32), sI c13.2 6 c13.1) := by
    unfold f_propose
    rw [if_pos hp, hv, Option.bind_some, if_neg (by decide), hl, Option.bind_some, ha, Option.bind_some]
    rfl
  by_cases a3 : L < p2
  · rw [if_pos a3] at hw
    have : L < L + 1 := by rw [x32_lt, x32_add (by omega) (by omega), o1]; omega
    rw [hpr, hw, Option.bind_some, if_pos this, Option.bind_some, Option.bind_some, Option.bind_some]
    have : f_hyperperiod 10 (sI (sI (sI s1 4 0) 7 0) 6 0) = some (1, sI (sI (sI s1 4 0) 7 0) 6 0) := by unfold f_hyperperiod; rw [show gI (sI (sI (sI s1 4 0) 7 0) 6 0) 2 = 0 from rfl, if_pos rfl]
    dsimp only
    rw [this, Option.bind_some, Option.bind_some]
    unfold f_law_72
    rw [if_neg a1, if_neg a2, if_pos a3]; exact own_136 10 (-3) 0 1 0 _
  · rw [if_neg a3] at hw
    have hs := own_store 8 p2 s1 rfl (own_r0 1 rfl) (own_r0 1 rfl) (own_ap8 p2 _ rfl) rfl rfl rfl
    let s4 := sI (own_sc p2 s1) 7 p2
    obtain ⟨xs, ho⟩ := own_over 4 p2 s4 rfl (own_r0 1 rfl) (own_r0 1 rfl) (own_ap8 p2 _ rfl) rfl h1 h2
    let s6 := sI (sA s4 9 xs) 6 0
    have hd := own_admit p2 s6 rfl rfl rfl rfl
    have hq : f_propose 10 1 1 p2 (own_I C L) = some (0, own_ad p2 s6) := by
      rw [hpr, hw, Option.bind_some, if_neg a3, hs, Option.bind_some, ho, Option.bind_some]
      dsimp only
      rw [show gI (sI (sA s4 9 xs) 6 0) 6 = 0 from rfl, if_pos rfl, hd, Option.bind_some]
    have hh : f_hyperperiod 10 (own_ad p2 s6) = some (p2, own_ap p2 (sI (own_ad p2 s6) 11 0)) := by
      unfold f_hyperperiod
      rw [show gI (own_ad p2 s6) 2 = 1 from rfl, if_neg (by decide), own_load 8 p2 (own_ad p2 s6) rfl (own_r0 1 rfl) (own_r0 1 rfl) (own_r0 p2 rfl) rfl rfl rfl, Option.bind_some]
      have := own_wh 6 L p2 (own_ap p2 (sI (own_ad p2 s6) 11 0)) rfl (own_ap8 p2 _ rfl) h1 h2
      rw [if_neg a3] at this
      rw [show gI (own_ap p2 (sI (own_ad p2 s6) 11 0)) 1 = L from rfl, this, Option.bind_some]
    rw [hq, Option.bind_some, Option.bind_some, Option.bind_some]
    dsimp only
    rw [hh, Option.bind_some, Option.bind_some]
    unfold f_law_72
    rw [if_neg a1, if_neg a2, if_neg a3]; exact own_136 10 0 1 p2 p2 _

set_option maxRecDepth 65536 in
set_option maxHeartbeats 40000000 in
theorem comes_1 {Post : Tables → Env → Array Value → State → Outcome → State → Prop} (hpost : ∀ tb e args s v u, (limb_1_1.after args s (.returned v) u = true ∧ limb_1_2.after args s (.returned v) u = true ∧ True) → FrameEnd s (.returned v) u (Jvm.fieldLocs frame_1_writes args s ++ Jvm.arrayLocs frame_1_arrays args s ++ Jvm.staticLocs frame_1_statics s) 40 448 → Post tb e args s (.returned v) u) :
    ArmFor flags0 classFile x code maxLocals ret World_1 tables_1 room_1 Calls_1 rest_1 Pre_1 Post := by
  intro l hfl _ _ p e ha hc hk s m args below hf hA hF happ hP
  obtain ⟨hcalls, hrest, hpre⟩ := hP
  obtain ⟨-, -, -, hnamed, -, -, -, hat⟩ := (Spec.applies_iff hf).mp happ
  obtain ⟨hg, hn⟩ := and_e (Cond.before_iff.mp (show (Jvm.Cond.and given_1 narrow_1).before args s = true from hpre))
  obtain ⟨g0, q0⟩ := and_e hg
  obtain ⟨w0, w1, w2, rfl⟩ : ∃ w0 w1 w2 : Value, args = #[w0, w1, w2] := by
    have hs : args.size = 3 := by simpa [Cond.value, given_1] using g0
    obtain ⟨L⟩ := args
    match L, hs with
    | [w0, w1, w2], _ => exact ⟨w0, w1, w2, rfl⟩
  have hw := fun d (hd : d ∈ tables_1) => atoms_spec (ws := Jvm.Cond.code x code maxLocals ret :: tables_1) hat d (List.mem_cons_of_mem _ hd)
  obtain ⟨h0, q1⟩ := and_e q0
  obtain ⟨i0, e0⟩ := is_v h0
  obtain rfl : w0 = (.int i0) := Option.some.inj e0
  obtain ⟨h1, q2⟩ := and_e q1
  obtain ⟨i1, e1⟩ := is_v h1
  obtain rfl : w1 = (.int i1) := Option.some.inj e1
  obtain ⟨i2, e2⟩ := is_v q2
  obtain rfl : w2 = (.int i2) := Option.some.inj e2
  obtain ⟨fu, hfu⟩ := owed i0 i1 i2
  obtain ⟨n, o, h1, h2, h3, _, L, rfl, ⟨w, H', rfl, hv, -, -, N⟩, hq⟩ := okLAW l s _ hw fu i0 i1 i2 1 hfu tables_1 s.heap.size _ s.heap (HR.start0 s CN lay) p e ha hc hk s m _ below hf ((Spec.applies_iff_loose hf).mp happ).1 ⟨rfl, State.Warmed39.refl s, rfl⟩ trivial
  obtain rfl : w = some (.int 1) := hv
  refine ⟨n, _, h1, h2, h3, hpost _ _ _ _ _ _ ⟨Cond.after_iff.mpr rfl, Cond.after_iff.mpr (eq_i res_at (Term.int_eval (1)) rfl), trivial⟩ ⟨hq.1, hq.2.1, (hq.2.2.sift fun y hy => Or.inr (N y hy)).mono (by decide) (by decide)⟩⟩
theorem main_1_1 : Claimed_1_1 := comes_1 fun _ _ _ _ _ _ h hF => ⟨h.1, hF⟩
theorem main_1_2 : Claimed_1_2 := comes_1 fun _ _ _ _ _ _ h hF => ⟨h.2.1, hF⟩

end Jvm.Pilot.@@N@@
namespace Jvm.Pilot.@@N@@
open Jvm Jvm.ClassFile Sem Op Lib Jvm.Free Jvm.Stand Jvm.Pilot.@@N@@.Jvm.D
/-! MADE BY PROGRAM (witnessworld.py) out of the Statement's table words and the real class files: 9 classes; the members and pool entries that the words name. The judged class is class 1, her method 1. -/
namespace start1
open Jvm.ClassFile
def u (s : String) : CpInfo := .utf8 (stringToUtf16 s)
/-- a pool by its gaps: so many unusable entries, then the entry; so many at the end -/
def gap : Nat → List CpInfo → List CpInfo
  | 0, r => r
  | n + 1, r => .unusable :: gap n r
def poolList (es : List (Nat × CpInfo)) (last : Nat) : List CpInfo := es.foldr (fun e r => gap e.1 (e.2 :: r)) (gap last [])
def pool (es : List (Nat × CpInfo)) (last : Nat) : Array CpInfo := ⟨poolList es last⟩
def fileOf (pool : Array CpInfo) (this : Nat) (attrs : Array Attribute := #[]) (ms : Array MethodInfo := #[]) (fl : Nat := 33) (sup : Nat := 0) (ifs : Array Nat := #[]) (fds : Array FieldInfo := #[]) : ClassFile where
  minorVersion := 0
  majorVersion := 65
  constantPool := pool
  accessFlags := fl
  thisClass := this
  superClass := sup
  interfaces := ifs
  fields := fds
  methods := ms
  attributes := attrs
def plain (name : String) (sup : Option ClassId) : Class where
  name := name
  kind := .ordinary
  loader := none
  accessFlags := 33
  super := sup
  interfaces := #[]
  cf := none
  fields := #[]
  methods := #[]
  instanceTypes := #[]
  staticTypes := #[]
  resolved := #[]
  callSites := []
  init := .initialized
  statics := none
  mirror := none

def pool0 : Array CpInfo := pool [(5, u "<init>"), (0, u "()V"), (1, .class_ 10), (1, u "java/lang/Object")] 113

def k0c0 : Code := { maxStack := 0, maxLocals := 1, code := object_method_1_code, exceptionTable := #[], attributes := #[] }
def k0m0 : Method := { name := "<init>", desc := "()V", sig := { parameters := [], returnType := none }, accessFlags := 1, code := some k0c0 }
/-- java/lang/Object -/
def k0 : Class := { plain "java/lang/Object" none with
  accessFlags := 33
  interfaces := #[]
  cf := some (fileOf pool0 8 #[] #[{ accessFlags := 1, nameIndex := 5, descriptorIndex := 6, attributes := #[] }] 33 0 #[] #[])
  fields := #[]
  methods := #[k0m0]
  instanceTypes := #[]
  staticTypes := #[]
  resolved := Array.replicate 124 none
  statics := none }

def pool1 : Array CpInfo := pool [(2, .class_ 4), (1, u "java/lang/Object"), (0, u "<init>"), (0, u "()V"), (0, .class_ 8), (0, u "DemandGate"), (0, .methodref 7 10), (0, .nameAndType 5 11), (0, u "(II)V"), (0, .methodref 7 13), (0, .nameAndType 14 15), (0, u "count"), (0, u "()I"), (0, .methodref 7 17), (0, .nameAndType 18 19), (0, u "propose"), (0, u "(III)I"), (0, .methodref 7 21), (0, .nameAndType 22 15), (0, u "lastHyper"), (0, .methodref 7 24), (0, .nameAndType 25 15), (0, u "hyperperiod"), (0, .methodref 7 27), (0, .nameAndType 28 15), (0, u "lastOverload"), (0, .class_ 30), (0, u "DemandGateL1"), (2, u "law"), (0, u "(III)Z")] 3

def k1m0 : Method := { name := "<init>", desc := "()V", sig := { parameters := [], returnType := none }, accessFlags := 1, code := none }
def k1c1 : Code := { maxStack := 4, maxLocals := 15, code := code, exceptionTable := #[], attributes := #[] }
def k1m1 : Method := { name := "law", desc := "(III)Z", sig := { parameters := [.int, .int, .int], returnType := some .boolean }, accessFlags := 9, code := some k1c1 }
/-- DemandGateL1 -/
def k1 : Class := { plain "DemandGateL1" (some 0) with
  accessFlags := 33
  interfaces := #[]
  cf := some (fileOf pool1 29 #[] #[{ accessFlags := 1, nameIndex := 5, descriptorIndex := 6, attributes := #[] }, { accessFlags := 9, nameIndex := 33, descriptorIndex := 34, attributes := #[] }] 33 2 #[] #[])
  fields := #[]
  methods := #[k1m0, k1m1]
  instanceTypes := #[]
  staticTypes := #[]
  resolved := Array.replicate 38 none
  statics := none }

def pool2 : Array CpInfo := pool [(1, .methodref 2 3), (0, .class_ 4), (0, .nameAndType 5 6), (0, u "java/lang/Object"), (0, u "<init>"), (0, u "()V"), (0, .fieldref 8 9), (0, .class_ 10), (0, .nameAndType 11 12), (0, u "DemandGate"), (0, u "admC"), (0, u "[I"), (0, .fieldref 8 14), (0, .nameAndType 15 12), (0, u "admD"), (0, .fieldref 8 17), (0, .nameAndType 18 12), (0, u "admT"), (0, .fieldref 8 20), (0, .nameAndType 21 12), (0, u "candC"), (0, .fieldref 8 23), (0, .nameAndType 24 12), (0, u "candD"), (0, .fieldref 8 26), (0, .nameAndType 27 12), (0, u "candT"), (0, .fieldref 8 29), (0, .nameAndType 30 12), (0, u "wC"), (0, .fieldref 8 32), (0, .nameAndType 33 12), (0, u "wD"), (0, .fieldref 8 35), (0, .nameAndType 36 12), (0, u "wT"), (0, .fieldref 8 38), (0, .nameAndType 39 12), (0, u "nextDl"), (0, .fieldref 8 41), (0, .nameAndType 42 12), (0, u "rem"), (0, .fieldref 8 44), (0, .nameAndType 45 12), (0, u "absDl"), (0, .methodref 8 47), (0, .nameAndType 48 49), (0, u "clamp"), (0, u "(III)I"), (0, .fieldref 8 51), (0, .nameAndType 52 53), (0, u "cap"), (0, u "I"), (0, .fieldref 8 55), (0, .nameAndType 56 53), (0, u "limit"), (0, .fieldref 8 58), (0, .nameAndType 59 53), (0, u "admN"), (0, .fieldref 8 61), (0, .nameAndType 62 53), (0, u "candN"), (0, .fieldref 8 64), (0, .nameAndType 65 66), (0, u "candHeld"), (0, u "Z"), (0, .fieldref 8 68), (0, .nameAndType 69 53), (0, u "candH"), (0, .fieldref 8 71), (0, .nameAndType 72 53), (0, u "lastOverload"), (0, .fieldref 8 74), (0, .nameAndType 75 53), (0, u "lastHyper"), (0, .fieldref 8 77), (0, .nameAndType 78 53), (0, u "missDeadline"), (0, .fieldref 8 80), (0, .nameAndType 81 53), (0, u "missTask"), (0, .fieldref 8 83), (0, .nameAndType 84 53), (0, u "idleUnits"), (0, .fieldref 8 86), (0, .nameAndType 87 53), (0, u "wN"), (0, .methodref 8 89), (0, .nameAndType 90 91), (0, u "validParams"), (0, u "(III)Z"), (0, .methodref 8 93), (0, .nameAndType 94 6), (0, u "loadAdmitted"), (0, .methodref 8 96), (0, .nameAndType 97 91), (0, u "appendWork"), (0, .methodref 8 99), (0, .nameAndType 100 101), (0, u "workHyper"), (0, u "(I)I"), (0, .methodref 8 103), (0, .nameAndType 104 105), (0, u "storeCandidate"), (0, u "(I)V"), (0, .methodref 8 107), (0, .nameAndType 108 101), (0, u "overloadOfWork"), (0, .methodref 8 110), (0, .nameAndType 111 49), (0, u "admitTask"), (10, .methodref 8 123), (0, .nameAndType 124 125), (0, u "gcd"), (0, u "(JJ)J"), (0, .methodref 8 127), (0, .nameAndType 128 125), (0, u "lcm"), (0, .methodref 8 130), (0, .nameAndType 131 132), (0, u "implicitWithinCapacity"), (0, u "(I)Z"), (0, .methodref 8 134), (0, .nameAndType 135 101), (0, u "scanDeadlinePoints"), (0, .methodref 8 137), (0, .nameAndType 138 139), (0, u "earliestNextDeadline"), (0, u "()I"), (0, .methodref 8 141), (0, .nameAndType 142 143), (0, u "consumeDeadlinesAt"), (0, u "(I)J"), (0, .integer 2147483647), (24, u "MAX_CAPACITY"), (2, u "MAX_HYPER_LIMIT"), (1, u "MAX_PARAM"), (0, u "REFUSED_FULL"), (1, u "REFUSED_PARAM"), (1, u "REFUSED_HYPER"), (1, u "REFUSED_DEMAND"), (1, u "SIM_ADMITTED"), (1, u "SIM_CANDIDATE"), (1, u "SIM_NONE"), (0, u "SIM_MET"), (0, u "SIM_MISSED"), (1, u "(II)V"), (2, u "propose"), (3, u "count"), (3, u "hyperperiod")] 5

def k2c0 : Code := { maxStack := 5, maxLocals := 3, code := prog_1_method_1_code, exceptionTable := #[], attributes := #[] }
def k2m0 : Method := { name := "<init>", desc := "(II)V", sig := { parameters := [.int, .int], returnType := none }, accessFlags := 1, code := some k2c0 }
def k2c1 : Code := { maxStack := 4, maxLocals := 5, code := prog_1_method_2_code, exceptionTable := #[], attributes := #[] }
def k2m1 : Method := { name := "propose", desc := "(III)I", sig := { parameters := [.int, .int, .int], returnType := some .int }, accessFlags := 1, code := some k2c1 }
def k2c2 : Code := { maxStack := 1, maxLocals := 1, code := prog_1_method_5_code, exceptionTable := #[], attributes := #[] }
def k2m2 : Method := { name := "count", desc := "()I", sig := { parameters := [], returnType := some .int }, accessFlags := 1, code := some k2c2 }
def k2c3 : Code := { maxStack := 2, maxLocals := 1, code := prog_1_method_9_code, exceptionTable := #[], attributes := #[] }
def k2m3 : Method := { name := "hyperperiod", desc := "()I", sig := { parameters := [], returnType := some .int }, accessFlags := 1, code := some k2c3 }
def k2c4 : Code := { maxStack := 1, maxLocals := 1, code := prog_1_method_12_code, exceptionTable := #[], attributes := #[] }
def k2m4 : Method := { name := "lastOverload", desc := "()I", sig := { parameters := [], returnType := some .int }, accessFlags := 1, code := some k2c4 }
def k2c5 : Code := { maxStack := 1, maxLocals := 1, code := prog_1_method_13_code, exceptionTable := #[], attributes := #[] }
def k2m5 : Method := { name := "lastHyper", desc := "()I", sig := { parameters := [], returnType := some .int }, accessFlags := 1, code := some k2c5 }
def k2c6 : Code := { maxStack := 2, maxLocals := 4, code := prog_1_method_18_code, exceptionTable := #[], attributes := #[] }
def k2m6 : Method := { name := "clamp", desc := "(III)I", sig := { parameters := [.int, .int, .int], returnType := some .int }, accessFlags := 2, code := some k2c6 }
def k2c7 : Code := { maxStack := 2, maxLocals := 4, code := prog_1_method_19_code, exceptionTable := #[], attributes := #[] }
def k2m7 : Method := { name := "validParams", desc := "(III)Z", sig := { parameters := [.int, .int, .int], returnType := some .boolean }, accessFlags := 2, code := some k2c7 }
def k2c8 : Code := { maxStack := 5, maxLocals := 2, code := prog_1_method_20_code, exceptionTable := #[], attributes := #[] }
def k2m8 : Method := { name := "loadAdmitted", desc := "()V", sig := { parameters := [], returnType := none }, accessFlags := 2, code := some k2c8 }
def k2c9 : Code := { maxStack := 3, maxLocals := 4, code := prog_1_method_22_code, exceptionTable := #[], attributes := #[] }
def k2m9 : Method := { name := "appendWork", desc := "(III)Z", sig := { parameters := [.int, .int, .int], returnType := some .boolean }, accessFlags := 2, code := some k2c9 }
def k2c10 : Code := { maxStack := 4, maxLocals := 3, code := prog_1_method_23_code, exceptionTable := #[], attributes := #[] }
def k2m10 : Method := { name := "storeCandidate", desc := "(I)V", sig := { parameters := [.int], returnType := none }, accessFlags := 2, code := some k2c10 }
def k2c11 : Code := { maxStack := 3, maxLocals := 4, code := prog_1_method_24_code, exceptionTable := #[], attributes := #[] }
def k2m11 : Method := { name := "admitTask", desc := "(III)I", sig := { parameters := [.int, .int, .int], returnType := some .int }, accessFlags := 2, code := some k2c11 }
def k2c12 : Code := { maxStack := 4, maxLocals := 12, code := prog_1_method_25_code, exceptionTable := #[], attributes := #[] }
def k2m12 : Method := { name := "gcd", desc := "(JJ)J", sig := { parameters := [.long, .long], returnType := some .long }, accessFlags := 2, code := some k2c12 }
def k2c13 : Code := { maxStack := 5, maxLocals := 7, code := prog_1_method_26_code, exceptionTable := #[], attributes := #[] }
def k2m13 : Method := { name := "lcm", desc := "(JJ)J", sig := { parameters := [.long, .long], returnType := some .long }, accessFlags := 2, code := some k2c13 }
def k2c14 : Code := { maxStack := 5, maxLocals := 5, code := prog_1_method_27_code, exceptionTable := #[], attributes := #[] }
def k2m14 : Method := { name := "workHyper", desc := "(I)I", sig := { parameters := [.int], returnType := some .int }, accessFlags := 2, code := some k2c14 }
def k2c15 : Code := { maxStack := 2, maxLocals := 2, code := prog_1_method_28_code, exceptionTable := #[], attributes := #[] }
def k2m15 : Method := { name := "overloadOfWork", desc := "(I)I", sig := { parameters := [.int], returnType := some .int }, accessFlags := 2, code := some k2c15 }
def k2c16 : Code := { maxStack := 7, maxLocals := 5, code := prog_1_method_29_code, exceptionTable := #[], attributes := #[] }
def k2m16 : Method := { name := "implicitWithinCapacity", desc := "(I)Z", sig := { parameters := [.int], returnType := some .boolean }, accessFlags := 2, code := some k2c16 }
def k2c17 : Code := { maxStack := 4, maxLocals := 6, code := prog_1_method_30_code, exceptionTable := #[], attributes := #[] }
def k2m17 : Method := { name := "scanDeadlinePoints", desc := "(I)I", sig := { parameters := [.int], returnType := some .int }, accessFlags := 2, code := some k2c17 }
def k2c18 : Code := { maxStack := 2, maxLocals := 3, code := prog_1_method_31_code, exceptionTable := #[], attributes := #[] }
def k2m18 : Method := { name := "earliestNextDeadline", desc := "()I", sig := { parameters := [], returnType := some .int }, accessFlags := 2, code := some k2c18 }
def k2c19 : Code := { maxStack := 5, maxLocals := 5, code := prog_1_method_32_code, exceptionTable := #[], attributes := #[] }
def k2m19 : Method := { name := "consumeDeadlinesAt", desc := "(I)J", sig := { parameters := [.int], returnType := some .long }, accessFlags := 2, code := some k2c19 }
/-- DemandGate -/
def k2 : Class := { plain "DemandGate" (some 0) with
  accessFlags := 49
  interfaces := #[]
  cf := some (fileOf pool2 8 #[] #[{ accessFlags := 1, nameIndex := 5, descriptorIndex := 191, attributes := #[] }, { accessFlags := 1, nameIndex := 194, descriptorIndex := 49, attributes := #[] }, { accessFlags := 1, nameIndex := 198, descriptorIndex := 139, attributes := #[] }, { accessFlags := 1, nameIndex := 202, descriptorIndex := 139, attributes := #[] }, { accessFlags := 1, nameIndex := 72, descriptorIndex := 139, attributes := #[] }, { accessFlags := 1, nameIndex := 75, descriptorIndex := 139, attributes := #[] }, { accessFlags := 2, nameIndex := 48, descriptorIndex := 49, attributes := #[] }, { accessFlags := 2, nameIndex := 90, descriptorIndex := 91, attributes := #[] }, { accessFlags := 2, nameIndex := 94, descriptorIndex := 6, attributes := #[] }, { accessFlags := 2, nameIndex := 97, descriptorIndex := 91, attributes := #[] }, { accessFlags := 2, nameIndex := 104, descriptorIndex := 105, attributes := #[] }, { accessFlags := 2, nameIndex := 111, descriptorIndex := 49, attributes := #[] }, { accessFlags := 2, nameIndex := 124, descriptorIndex := 125, attributes := #[] }, { accessFlags := 2, nameIndex := 128, descriptorIndex := 125, attributes := #[] }, { accessFlags := 2, nameIndex := 100, descriptorIndex := 101, attributes := #[] }, { accessFlags := 2, nameIndex := 108, descriptorIndex := 101, attributes := #[] }, { accessFlags := 2, nameIndex := 131, descriptorIndex := 132, attributes := #[] }, { accessFlags := 2, nameIndex := 135, descriptorIndex := 101, attributes := #[] }, { accessFlags := 2, nameIndex := 138, descriptorIndex := 139, attributes := #[] }, { accessFlags := 2, nameIndex := 142, descriptorIndex := 143, attributes := #[] }] 49 2 #[] #[{ accessFlags := 25, nameIndex := 169, descriptorIndex := 53, attributes := #[] }, { accessFlags := 25, nameIndex := 172, descriptorIndex := 53, attributes := #[] }, { accessFlags := 25, nameIndex := 174, descriptorIndex := 53, attributes := #[] }, { accessFlags := 25, nameIndex := 175, descriptorIndex := 53, attributes := #[] }, { accessFlags := 25, nameIndex := 177, descriptorIndex := 53, attributes := #[] }, { accessFlags := 25, nameIndex := 179, descriptorIndex := 53, attributes := #[] }, { accessFlags := 25, nameIndex := 181, descriptorIndex := 53, attributes := #[] }, { accessFlags := 25, nameIndex := 183, descriptorIndex := 53, attributes := #[] }, { accessFlags := 25, nameIndex := 185, descriptorIndex := 53, attributes := #[] }, { accessFlags := 25, nameIndex := 187, descriptorIndex := 53, attributes := #[] }, { accessFlags := 25, nameIndex := 188, descriptorIndex := 53, attributes := #[] }, { accessFlags := 25, nameIndex := 189, descriptorIndex := 53, attributes := #[] }, { accessFlags := 2, nameIndex := 52, descriptorIndex := 53, attributes := #[] }, { accessFlags := 2, nameIndex := 56, descriptorIndex := 53, attributes := #[] }, { accessFlags := 18, nameIndex := 11, descriptorIndex := 12, attributes := #[] }, { accessFlags := 18, nameIndex := 15, descriptorIndex := 12, attributes := #[] }, { accessFlags := 18, nameIndex := 18, descriptorIndex := 12, attributes := #[] }, { accessFlags := 2, nameIndex := 59, descriptorIndex := 53, attributes := #[] }, { accessFlags := 18, nameIndex := 21, descriptorIndex := 12, attributes := #[] }, { accessFlags := 18, nameIndex := 24, descriptorIndex := 12, attributes := #[] }, { accessFlags := 18, nameIndex := 27, descriptorIndex := 12, attributes := #[] }, { accessFlags := 2, nameIndex := 62, descriptorIndex := 53, attributes := #[] }, { accessFlags := 2, nameIndex := 65, descriptorIndex := 66, attributes := #[] }, { accessFlags := 2, nameIndex := 69, descriptorIndex := 53, attributes := #[] }, { accessFlags := 2, nameIndex := 72, descriptorIndex := 53, attributes := #[] }, { accessFlags := 2, nameIndex := 75, descriptorIndex := 53, attributes := #[] }, { accessFlags := 2, nameIndex := 78, descriptorIndex := 53, attributes := #[] }, { accessFlags := 2, nameIndex := 81, descriptorIndex := 53, attributes := #[] }, { accessFlags := 2, nameIndex := 84, descriptorIndex := 53, attributes := #[] }, { accessFlags := 18, nameIndex := 30, descriptorIndex := 12, attributes := #[] }, { accessFlags := 18, nameIndex := 33, descriptorIndex := 12, attributes := #[] }, { accessFlags := 18, nameIndex := 36, descriptorIndex := 12, attributes := #[] }, { accessFlags := 2, nameIndex := 87, descriptorIndex := 53, attributes := #[] }, { accessFlags := 18, nameIndex := 39, descriptorIndex := 12, attributes := #[] }, { accessFlags := 18, nameIndex := 42, descriptorIndex := 12, attributes := #[] }, { accessFlags := 18, nameIndex := 45, descriptorIndex := 12, attributes := #[] }])
  fields := #[{ name := "MAX_CAPACITY", type := .int, accessFlags := 25, slot := 0, constantValue := 0 }, { name := "MAX_HYPER_LIMIT", type := .int, accessFlags := 25, slot := 1, constantValue := 0 }, { name := "MAX_PARAM", type := .int, accessFlags := 25, slot := 2, constantValue := 0 }, { name := "REFUSED_FULL", type := .int, accessFlags := 25, slot := 3, constantValue := 0 }, { name := "REFUSED_PARAM", type := .int, accessFlags := 25, slot := 4, constantValue := 0 }, { name := "REFUSED_HYPER", type := .int, accessFlags := 25, slot := 5, constantValue := 0 }, { name := "REFUSED_DEMAND", type := .int, accessFlags := 25, slot := 6, constantValue := 0 }, { name := "SIM_ADMITTED", type := .int, accessFlags := 25, slot := 7, constantValue := 0 }, { name := "SIM_CANDIDATE", type := .int, accessFlags := 25, slot := 8, constantValue := 0 }, { name := "SIM_NONE", type := .int, accessFlags := 25, slot := 9, constantValue := 0 }, { name := "SIM_MET", type := .int, accessFlags := 25, slot := 10, constantValue := 0 }, { name := "SIM_MISSED", type := .int, accessFlags := 25, slot := 11, constantValue := 0 }, { name := "cap", type := .int, accessFlags := 2, slot := 0, constantValue := 0 }, { name := "limit", type := .int, accessFlags := 2, slot := 1, constantValue := 0 }, { name := "admC", type := (.array .int), accessFlags := 18, slot := 2, constantValue := 0 }, { name := "admD", type := (.array .int), accessFlags := 18, slot := 3, constantValue := 0 }, { name := "admT", type := (.array .int), accessFlags := 18, slot := 4, constantValue := 0 }, { name := "admN", type := .int, accessFlags := 2, slot := 5, constantValue := 0 }, { name := "candC", type := (.array .int), accessFlags := 18, slot := 6, constantValue := 0 }, { name := "candD", type := (.array .int), accessFlags := 18, slot := 7, constantValue := 0 }, { name := "candT", type := (.array .int), accessFlags := 18, slot := 8, constantValue := 0 }, { name := "candN", type := .int, accessFlags := 2, slot := 9, constantValue := 0 }, { name := "candHeld", type := .boolean, accessFlags := 2, slot := 10, constantValue := 0 }, { name := "candH", type := .int, accessFlags := 2, slot := 11, constantValue := 0 }, { name := "lastOverload", type := .int, accessFlags := 2, slot := 12, constantValue := 0 }, { name := "lastHyper", type := .int, accessFlags := 2, slot := 13, constantValue := 0 }, { name := "missDeadline", type := .int, accessFlags := 2, slot := 14, constantValue := 0 }, { name := "missTask", type := .int, accessFlags := 2, slot := 15, constantValue := 0 }, { name := "idleUnits", type := .int, accessFlags := 2, slot := 16, constantValue := 0 }, { name := "wC", type := (.array .int), accessFlags := 18, slot := 17, constantValue := 0 }, { name := "wD", type := (.array .int), accessFlags := 18, slot := 18, constantValue := 0 }, { name := "wT", type := (.array .int), accessFlags := 18, slot := 19, constantValue := 0 }, { name := "wN", type := .int, accessFlags := 2, slot := 20, constantValue := 0 }, { name := "nextDl", type := (.array .int), accessFlags := 18, slot := 21, constantValue := 0 }, { name := "rem", type := (.array .int), accessFlags := 18, slot := 22, constantValue := 0 }, { name := "absDl", type := (.array .int), accessFlags := 18, slot := 23, constantValue := 0 }]
  methods := #[k2m0, k2m1, k2m2, k2m3, k2m4, k2m5, k2m6, k2m7, k2m8, k2m9, k2m10, k2m11, k2m12, k2m13, k2m14, k2m15, k2m16, k2m17, k2m18, k2m19]
  instanceTypes := #[.int, .int, (.array .int), (.array .int), (.array .int), .int, (.array .int), (.array .int), (.array .int), .int, .boolean, .int, .int, .int, .int, .int, .int, (.array .int), (.array .int), (.array .int), .int, (.array .int), (.array .int), (.array .int)]
  staticTypes := #[.int, .int, .int, .int, .int, .int, .int, .int, .int, .int, .int, .int]
  resolved := Array.replicate 208 none
  statics := none }

def pool3 : Array CpInfo := pool [(1, u "java/lang/Cloneable"), (0, .class_ 1), (0, u "java/lang/Object"), (0, .class_ 3)] 3

/-- java/lang/Cloneable -/
def k3 : Class := { plain "java/lang/Cloneable" (some 0) with
  accessFlags := 1537
  interfaces := #[]
  cf := some (fileOf pool3 2 #[] #[] 1537 4 #[] #[])
  fields := #[]
  methods := #[]
  instanceTypes := #[]
  staticTypes := #[]
  resolved := Array.replicate 8 none
  statics := none }

def pool4 : Array CpInfo := pool [(1, u "java/io/Serializable"), (0, .class_ 1), (0, u "java/lang/Object"), (0, .class_ 3)] 3

/-- java/io/Serializable -/
def k4 : Class := { plain "java/io/Serializable" (some 0) with
  accessFlags := 1537
  interfaces := #[]
  cf := some (fileOf pool4 2 #[] #[] 1537 4 #[] #[])
  fields := #[]
  methods := #[]
  instanceTypes := #[]
  staticTypes := #[]
  resolved := Array.replicate 8 none
  statics := none }

/-- the primitive byte -/
def k5 : Class := { plain "byte" none with kind := .primitive 'B', accessFlags := 0x411 }
/-- [B -/
def k6 : Class := { plain "[B" (some 0) with kind := .array 5 .byte, interfaces := #[3, 4], accessFlags := 1041 }

/-- the primitive int -/
def k7 : Class := { plain "int" none with kind := .primitive 'I', accessFlags := 0x411 }
/-- [I -/
def k8 : Class := { plain "[I" (some 0) with kind := .array 7 .int, interfaces := #[3, 4], accessFlags := 1041 }

def heap : Heap := #[]
def classes : Array Class := #[k0, k1, k2, k3, k4, k5, k6, k7, k8]
def interned : List (Array UInt16 × Addr) := []
def slotsUsed : Nat := 0
def theMethod : MethodId := ⟨1, 1⟩
def args0 : Array Value := #[.int 1, .int 1, .int 1]
def aboutOver (below : List Frame) : State where
  vm := { classes := classes, interned := interned.toArray }
  heap := heap
  slotsUsed := slotsUsed
  threads := #[{ frames := .invoking theMethod args0 :: below }]
def below0 : List Frame := [.native { method := ⟨0, 0⟩, args := #[] }]
def about1 : State := aboutOver below0
def p0 : Program := .bare "" "" ""
def e0 : Env := launch0.env 0 0 0
theorem w_frames : about1.frames = Frame.invoking theMethod args0 :: below0 := rfl
set_option maxRecDepth 65536 in
theorem w_args : argsFit about1.vm theMethod args0 = true := by decide +kernel
set_option maxRecDepth 65536 in
theorem w_heap : heapFits about1 = true := by decide +kernel
set_option maxRecDepth 65536 in
theorem w_runnable : about1.curStatus? = some .runnable := by decide +kernel
set_option maxRecDepth 65536 in
theorem w_alone : about1.alone = true := by decide +kernel
set_option maxRecDepth 65536 in
theorem w_named : about1.methodNamed? x = some theMethod := by decide +kernel
set_option maxRecDepth 65536 in
theorem w_hears : about1.hears theMethod below0 = true := by decide +kernel
set_option maxRecDepth 65536 in
theorem w_ripe : about1.ripe theMethod args0 below0 = true := by decide +kernel
theorem w_running : about1.status = .running := rfl
set_option maxRecDepth 65536 in
theorem w_room : about1.hasRoom e0.platform room_1 = true :=
  launch0.hasRoom_least _ room_1 (by decide +kernel) (by decide +kernel) (by decide +kernel) (by decide +kernel) (by decide +kernel) (by decide +kernel)
theorem allAtoms_all (ts : List Jvm.Cond) (a : Array Jvm.Value) (st : Jvm.State) : (allAtoms ts).before a st = ts.all (fun c => c.before a st) := by
  induction ts with
  | nil => rfl
  | cons c t ih =>
    show (Jvm.Cond.and c (allAtoms t)).before a st = _
    rw [Jvm.Cond.before_and, ih, List.all_cons]
def words1 : List Jvm.Cond := Jvm.Cond.code x code maxLocals ret :: tables_1
/-- a 'code' word, met by the world's own term for the bytes: nothing is compared byte by byte -/
theorem code_word {y : MethodName} {bytes : ByteArray} {mx : Nat} {rt : Option FieldType} {a : Array Value} {s : State} {m : MethodId} {meth : Method} {c : Code} (h1 : s.methodNamed? y = some m) (h2 : s.vm.method? m = some meth) (h3 : meth.code = some c) (h4 : c.code = bytes)
    (h5 : (c.maxLocals == mx && c.exceptionTable.isEmpty && decide (c.maxStack ≤ mostOperands) && decide (meth.sig.returnType = rt) && !meth.locks && decide (parseMethodDescriptor y.desc = some meth.sig)) = true) : (Jvm.Cond.code y bytes mx rt).before a s = true := by
  simp only [Bool.and_eq_true, beq_iff_eq, Bool.not_eq_true', decide_eq_true_eq] at h5
  obtain ⟨⟨⟨⟨⟨g1, g2⟩, g3⟩, g4⟩, g5⟩, g6⟩ := h5
  simp [Cond.before, Cond.holds, Cond.value, h1, h2, h3, h4, g1, g2, g3, g4, g5, g6]
def isCode : Jvm.Cond → Bool
  | .code _ _ _ _ => true
  | _ => false
theorem all_split {L : List Jvm.Cond} {P : Jvm.Cond → Bool} (h1 : L.all (fun c => isCode c || P c) = true) (h2 : ∀ c ∈ L.filter isCode, P c = true) : L.all P = true := by
  refine List.all_eq_true.mpr fun c hc => ?_
  have h := List.all_eq_true.mp h1 c hc
  rcases Bool.eq_false_or_eq_true (isCode c) with hi | hi
  · exact h2 c (List.mem_filter.mpr ⟨hc, hi⟩)
  · simpa [hi] using h
set_option maxRecDepth 65536 in
theorem w_c0 : (Jvm.Cond.code x code maxLocals ret).before args0 about1 = true := code_word (m := ⟨1, 1⟩) (meth := k1m1) (c := k1c1) (by decide +kernel) rfl rfl rfl (by decide +kernel)
set_option maxRecDepth 65536 in
theorem w_c1 : (Jvm.Cond.code ({ cls := "DemandGate", name := "<init>", desc := "(II)V" } : Jvm.MethodName) prog_1_method_1_code (3 : Nat) (Option.none : Option Jvm.ClassFile.FieldType)).before args0 about1 = true := code_word (m := ⟨2, 0⟩) (meth := k2m0) (c := k2c0) (by decide +kernel) rfl rfl rfl (by decide +kernel)
set_option maxRecDepth 65536 in
theorem w_c2 : (Jvm.Cond.code ({ cls := "java/lang/Object", name := "<init>", desc := "()V" } : Jvm.MethodName) object_method_1_code (1 : Nat) (Option.none : Option Jvm.ClassFile.FieldType)).before args0 about1 = true := code_word (m := ⟨0, 0⟩) (meth := k0m0) (c := k0c0) (by decide +kernel) rfl rfl rfl (by decide +kernel)
set_option maxRecDepth 65536 in
theorem w_c3 : (Jvm.Cond.code ({ cls := "DemandGate", name := "clamp", desc := "(III)I" } : Jvm.MethodName) prog_1_method_18_code (4 : Nat) (Option.some Jvm.ClassFile.FieldType.int)).before args0 about1 = true := code_word (m := ⟨2, 6⟩) (meth := k2m6) (c := k2c6) (by decide +kernel) rfl rfl rfl (by decide +kernel)
set_option maxRecDepth 65536 in
theorem w_c4 : (Jvm.Cond.code ({ cls := "DemandGate", name := "count", desc := "()I" } : Jvm.MethodName) prog_1_method_5_code (1 : Nat) (Option.some Jvm.ClassFile.FieldType.int)).before args0 about1 = true := code_word (m := ⟨2, 2⟩) (meth := k2m2) (c := k2c2) (by decide +kernel) rfl rfl rfl (by decide +kernel)
set_option maxRecDepth 65536 in
theorem w_c5 : (Jvm.Cond.code ({ cls := "DemandGate", name := "propose", desc := "(III)I" } : Jvm.MethodName) prog_1_method_2_code (5 : Nat) (Option.some Jvm.ClassFile.FieldType.int)).before args0 about1 = true := code_word (m := ⟨2, 1⟩) (meth := k2m1) (c := k2c1) (by decide +kernel) rfl rfl rfl (by decide +kernel)
set_option maxRecDepth 65536 in
theorem w_c6 : (Jvm.Cond.code ({ cls := "DemandGate", name := "validParams", desc := "(III)Z" } : Jvm.MethodName) prog_1_method_19_code (4 : Nat) (Option.some Jvm.ClassFile.FieldType.boolean)).before args0 about1 = true := code_word (m := ⟨2, 7⟩) (meth := k2m7) (c := k2c7) (by decide +kernel) rfl rfl rfl (by decide +kernel)
set_option maxRecDepth 65536 in
theorem w_c7 : (Jvm.Cond.code ({ cls := "DemandGate", name := "loadAdmitted", desc := "()V" } : Jvm.MethodName) prog_1_method_20_code (2 : Nat) (Option.none : Option Jvm.ClassFile.FieldType)).before args0 about1 = true := code_word (m := ⟨2, 8⟩) (meth := k2m8) (c := k2c8) (by decide +kernel) rfl rfl rfl (by decide +kernel)
set_option maxRecDepth 65536 in
theorem w_c8 : (Jvm.Cond.code ({ cls := "DemandGate", name := "appendWork", desc := "(III)Z" } : Jvm.MethodName) prog_1_method_22_code (4 : Nat) (Option.some Jvm.ClassFile.FieldType.boolean)).before args0 about1 = true := code_word (m := ⟨2, 9⟩) (meth := k2m9) (c := k2c9) (by decide +kernel) rfl rfl rfl (by decide +kernel)
set_option maxRecDepth 65536 in
theorem w_c9 : (Jvm.Cond.code ({ cls := "DemandGate", name := "workHyper", desc := "(I)I" } : Jvm.MethodName) prog_1_method_27_code (5 : Nat) (Option.some Jvm.ClassFile.FieldType.int)).before args0 about1 = true := code_word (m := ⟨2, 14⟩) (meth := k2m14) (c := k2c14) (by decide +kernel) rfl rfl rfl (by decide +kernel)
set_option maxRecDepth 65536 in
theorem w_c10 : (Jvm.Cond.code ({ cls := "DemandGate", name := "lcm", desc := "(JJ)J" } : Jvm.MethodName) prog_1_method_26_code (7 : Nat) (Option.some Jvm.ClassFile.FieldType.long)).before args0 about1 = true := code_word (m := ⟨2, 13⟩) (meth := k2m13) (c := k2c13) (by decide +kernel) rfl rfl rfl (by decide +kernel)
set_option maxRecDepth 65536 in
theorem w_c11 : (Jvm.Cond.code ({ cls := "DemandGate", name := "gcd", desc := "(JJ)J" } : Jvm.MethodName) prog_1_method_25_code (12 : Nat) (Option.some Jvm.ClassFile.FieldType.long)).before args0 about1 = true := code_word (m := ⟨2, 12⟩) (meth := k2m12) (c := k2c12) (by decide +kernel) rfl rfl rfl (by decide +kernel)
set_option maxRecDepth 65536 in
theorem w_c12 : (Jvm.Cond.code ({ cls := "DemandGate", name := "storeCandidate", desc := "(I)V" } : Jvm.MethodName) prog_1_method_23_code (3 : Nat) (Option.none : Option Jvm.ClassFile.FieldType)).before args0 about1 = true := code_word (m := ⟨2, 10⟩) (meth := k2m10) (c := k2c10) (by decide +kernel) rfl rfl rfl (by decide +kernel)
set_option maxRecDepth 65536 in
theorem w_c13 : (Jvm.Cond.code ({ cls := "DemandGate", name := "overloadOfWork", desc := "(I)I" } : Jvm.MethodName) prog_1_method_28_code (2 : Nat) (Option.some Jvm.ClassFile.FieldType.int)).before args0 about1 = true := code_word (m := ⟨2, 15⟩) (meth := k2m15) (c := k2c15) (by decide +kernel) rfl rfl rfl (by decide +kernel)
set_option maxRecDepth 65536 in
theorem w_c14 : (Jvm.Cond.code ({ cls := "DemandGate", name := "implicitWithinCapacity", desc := "(I)Z" } : Jvm.MethodName) prog_1_method_29_code (5 : Nat) (Option.some Jvm.ClassFile.FieldType.boolean)).before args0 about1 = true := code_word (m := ⟨2, 16⟩) (meth := k2m16) (c := k2c16) (by decide +kernel) rfl rfl rfl (by decide +kernel)
set_option maxRecDepth 65536 in
theorem w_c15 : (Jvm.Cond.code ({ cls := "DemandGate", name := "scanDeadlinePoints", desc := "(I)I" } : Jvm.MethodName) prog_1_method_30_code (6 : Nat) (Option.some Jvm.ClassFile.FieldType.int)).before args0 about1 = true := code_word (m := ⟨2, 17⟩) (meth := k2m17) (c := k2c17) (by decide +kernel) rfl rfl rfl (by decide +kernel)
set_option maxRecDepth 65536 in
theorem w_c16 : (Jvm.Cond.code ({ cls := "DemandGate", name := "earliestNextDeadline", desc := "()I" } : Jvm.MethodName) prog_1_method_31_code (3 : Nat) (Option.some Jvm.ClassFile.FieldType.int)).before args0 about1 = true := code_word (m := ⟨2, 18⟩) (meth := k2m18) (c := k2c18) (by decide +kernel) rfl rfl rfl (by decide +kernel)
set_option maxRecDepth 65536 in
theorem w_c17 : (Jvm.Cond.code ({ cls := "DemandGate", name := "consumeDeadlinesAt", desc := "(I)J" } : Jvm.MethodName) prog_1_method_32_code (5 : Nat) (Option.some Jvm.ClassFile.FieldType.long)).before args0 about1 = true := code_word (m := ⟨2, 19⟩) (meth := k2m19) (c := k2c19) (by decide +kernel) rfl rfl rfl (by decide +kernel)
set_option maxRecDepth 65536 in
theorem w_c18 : (Jvm.Cond.code ({ cls := "DemandGate", name := "admitTask", desc := "(III)I" } : Jvm.MethodName) prog_1_method_24_code (4 : Nat) (Option.some Jvm.ClassFile.FieldType.int)).before args0 about1 = true := code_word (m := ⟨2, 11⟩) (meth := k2m11) (c := k2c11) (by decide +kernel) rfl rfl rfl (by decide +kernel)
set_option maxRecDepth 65536 in
theorem w_c19 : (Jvm.Cond.code ({ cls := "DemandGate", name := "lastHyper", desc := "()I" } : Jvm.MethodName) prog_1_method_13_code (1 : Nat) (Option.some Jvm.ClassFile.FieldType.int)).before args0 about1 = true := code_word (m := ⟨2, 5⟩) (meth := k2m5) (c := k2c5) (by decide +kernel) rfl rfl rfl (by decide +kernel)
set_option maxRecDepth 65536 in
theorem w_c20 : (Jvm.Cond.code ({ cls := "DemandGate", name := "hyperperiod", desc := "()I" } : Jvm.MethodName) prog_1_method_9_code (1 : Nat) (Option.some Jvm.ClassFile.FieldType.int)).before args0 about1 = true := code_word (m := ⟨2, 3⟩) (meth := k2m3) (c := k2c3) (by decide +kernel) rfl rfl rfl (by decide +kernel)
set_option maxRecDepth 65536 in
theorem w_c21 : (Jvm.Cond.code ({ cls := "DemandGate", name := "lastOverload", desc := "()I" } : Jvm.MethodName) prog_1_method_12_code (1 : Nat) (Option.some Jvm.ClassFile.FieldType.int)).before args0 about1 = true := code_word (m := ⟨2, 4⟩) (meth := k2m4) (c := k2c4) (by decide +kernel) rfl rfl rfl (by decide +kernel)
def codes1 : List Jvm.Cond := [Jvm.Cond.code x code maxLocals ret, Jvm.Cond.code ({ cls := "DemandGate", name := "<init>", desc := "(II)V" } : Jvm.MethodName) prog_1_method_1_code (3 : Nat) (Option.none : Option Jvm.ClassFile.FieldType), Jvm.Cond.code ({ cls := "java/lang/Object", name := "<init>", desc := "()V" } : Jvm.MethodName) object_method_1_code (1 : Nat) (Option.none : Option Jvm.ClassFile.FieldType), Jvm.Cond.code ({ cls := "DemandGate", name := "clamp", desc := "(III)I" } : Jvm.MethodName) prog_1_method_18_code (4 : Nat) (Option.some Jvm.ClassFile.FieldType.int), Jvm.Cond.code ({ cls := "DemandGate", name := "count", desc := "()I" } : Jvm.MethodName) prog_1_method_5_code (1 : Nat) (Option.some Jvm.ClassFile.FieldType.int), Jvm.Cond.code ({ cls := "DemandGate", name := "propose", desc := "(III)I" } : Jvm.MethodName) prog_1_method_2_code (5 : Nat) (Option.some Jvm.ClassFile.FieldType.int), Jvm.Cond.code ({ cls := "DemandGate", name := "validParams", desc := "(III)Z" } : Jvm.MethodName) prog_1_method_19_code (4 : Nat) (Option.some Jvm.ClassFile.FieldType.boolean), Jvm.Cond.code ({ cls := "DemandGate", name := "loadAdmitted", desc := "()V" } : Jvm.MethodName) prog_1_method_20_code (2 : Nat) (Option.none : Option Jvm.ClassFile.FieldType), Jvm.Cond.code ({ cls := "DemandGate", name := "appendWork", desc := "(III)Z" } : Jvm.MethodName) prog_1_method_22_code (4 : Nat) (Option.some Jvm.ClassFile.FieldType.boolean), Jvm.Cond.code ({ cls := "DemandGate", name := "workHyper", desc := "(I)I" } : Jvm.MethodName) prog_1_method_27_code (5 : Nat) (Option.some Jvm.ClassFile.FieldType.int), Jvm.Cond.code ({ cls := "DemandGate", name := "lcm", desc := "(JJ)J" } : Jvm.MethodName) prog_1_method_26_code (7 : Nat) (Option.some Jvm.ClassFile.FieldType.long), Jvm.Cond.code ({ cls := "DemandGate", name := "gcd", desc := "(JJ)J" } : Jvm.MethodName) prog_1_method_25_code (12 : Nat) (Option.some Jvm.ClassFile.FieldType.long), Jvm.Cond.code ({ cls := "DemandGate", name := "storeCandidate", desc := "(I)V" } : Jvm.MethodName) prog_1_method_23_code (3 : Nat) (Option.none : Option Jvm.ClassFile.FieldType), Jvm.Cond.code ({ cls := "DemandGate", name := "overloadOfWork", desc := "(I)I" } : Jvm.MethodName) prog_1_method_28_code (2 : Nat) (Option.some Jvm.ClassFile.FieldType.int), Jvm.Cond.code ({ cls := "DemandGate", name := "implicitWithinCapacity", desc := "(I)Z" } : Jvm.MethodName) prog_1_method_29_code (5 : Nat) (Option.some Jvm.ClassFile.FieldType.boolean), Jvm.Cond.code ({ cls := "DemandGate", name := "scanDeadlinePoints", desc := "(I)I" } : Jvm.MethodName) prog_1_method_30_code (6 : Nat) (Option.some Jvm.ClassFile.FieldType.int), Jvm.Cond.code ({ cls := "DemandGate", name := "earliestNextDeadline", desc := "()I" } : Jvm.MethodName) prog_1_method_31_code (3 : Nat) (Option.some Jvm.ClassFile.FieldType.int), Jvm.Cond.code ({ cls := "DemandGate", name := "consumeDeadlinesAt", desc := "(I)J" } : Jvm.MethodName) prog_1_method_32_code (5 : Nat) (Option.some Jvm.ClassFile.FieldType.long), Jvm.Cond.code ({ cls := "DemandGate", name := "admitTask", desc := "(III)I" } : Jvm.MethodName) prog_1_method_24_code (4 : Nat) (Option.some Jvm.ClassFile.FieldType.int), Jvm.Cond.code ({ cls := "DemandGate", name := "lastHyper", desc := "()I" } : Jvm.MethodName) prog_1_method_13_code (1 : Nat) (Option.some Jvm.ClassFile.FieldType.int), Jvm.Cond.code ({ cls := "DemandGate", name := "hyperperiod", desc := "()I" } : Jvm.MethodName) prog_1_method_9_code (1 : Nat) (Option.some Jvm.ClassFile.FieldType.int), Jvm.Cond.code ({ cls := "DemandGate", name := "lastOverload", desc := "()I" } : Jvm.MethodName) prog_1_method_12_code (1 : Nat) (Option.some Jvm.ClassFile.FieldType.int)]
set_option maxRecDepth 65536 in
theorem codes_eq : words1.filter isCode = codes1 := rfl
theorem w_codes : ∀ c ∈ words1.filter isCode, c.before args0 about1 = true := by
  rw [codes_eq]
  intro c hc
  simp only [codes1, List.mem_cons, List.not_mem_nil, or_false] at hc
  rcases hc with rfl | rfl | rfl | rfl | rfl | rfl | rfl | rfl | rfl | rfl | rfl | rfl | rfl | rfl | rfl | rfl | rfl | rfl | rfl | rfl | rfl | rfl
  · exact w_c0
  · exact w_c1
  · exact w_c2
  · exact w_c3
  · exact w_c4
  · exact w_c5
  · exact w_c6
  · exact w_c7
  · exact w_c8
  · exact w_c9
  · exact w_c10
  · exact w_c11
  · exact w_c12
  · exact w_c13
  · exact w_c14
  · exact w_c15
  · exact w_c16
  · exact w_c17
  · exact w_c18
  · exact w_c19
  · exact w_c20
  · exact w_c21
set_option maxRecDepth 65536 in
theorem w_t1 : (words1.take 24).all (fun c => isCode c || c.before args0 about1) = true := by decide +kernel
set_option maxRecDepth 65536 in
theorem w_t2 : ((words1.drop 24).take 24).all (fun c => isCode c || c.before args0 about1) = true := by decide +kernel
set_option maxRecDepth 65536 in
theorem w_t3 : (((words1.drop 24).drop 24).take 24).all (fun c => isCode c || c.before args0 about1) = true := by decide +kernel
set_option maxRecDepth 65536 in
theorem w_t4 : ((((words1.drop 24).drop 24).drop 24).take 24).all (fun c => isCode c || c.before args0 about1) = true := by decide +kernel
set_option maxRecDepth 65536 in
theorem w_t5 : (((((words1.drop 24).drop 24).drop 24).drop 24).take 24).all (fun c => isCode c || c.before args0 about1) = true := by decide +kernel
set_option maxRecDepth 65536 in
theorem w_t6 : (((((words1.drop 24).drop 24).drop 24).drop 24).drop 24).all (fun c => isCode c || c.before args0 about1) = true := by decide +kernel
theorem w_tables : (allAtoms (Jvm.Cond.code x code maxLocals ret :: tables_1)).before args0 about1 = true := by
  rw [allAtoms_all]
  show words1.all (fun c => c.before args0 about1) = true
  refine all_split ?_ w_codes
  rw [← List.take_append_drop 24 words1, List.all_append, w_t1, ← List.take_append_drop 24 (words1.drop 24), List.all_append, w_t2, ← List.take_append_drop 24 ((words1.drop 24).drop 24), List.all_append, w_t3, ← List.take_append_drop 24 (((words1.drop 24).drop 24).drop 24), List.all_append, w_t4, ← List.take_append_drop 24 ((((words1.drop 24).drop 24).drop 24).drop 24), List.all_append, w_t5, w_t6]
  rfl
set_option maxRecDepth 65536 in
theorem w_case : (Jvm.Cond.and given_1 narrow_1).before args0 about1 = true := by decide +kernel
theorem w_applies : (headSpec (Jvm.Cond.code x code maxLocals ret :: tables_1) room_1).applies x e0.platform about1 = true :=
  (Spec.applies_iff w_frames).mpr ⟨w_running, w_runnable, w_alone, w_named, w_hears, w_ripe, w_room, w_tables⟩
theorem atStart : AtStart classFile x code maxLocals ret World_1 tables_1 room_1 Calls_1 rest_1 Pre_1 launch0 p0 e0 about1 theMethod args0 below0 :=
  ⟨lists_1, trivial, launch0.admits_env _ _ _, launch0.least_env, fairChoices_fair.cas, fairChoices_fair.clock, w_frames, w_args, w_heap, w_applies, trivial, trivial, w_case⟩
end start1
theorem witness_1 : WitnessClaimed_1 := ⟨start1.p0, start1.e0, start1.about1, start1.theMethod, start1.args0, start1.below0, start1.atStart⟩
end Jvm.Pilot.@@N@@
