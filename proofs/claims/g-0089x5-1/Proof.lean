import JvmDerived
import JvmDerived.Pilot.@@N@@Statement
import JvmDerived.Pilot.@@N@@Code
set_option linter.unusedVariables false
set_option linter.unusedSimpArgs false
namespace Jvm.Own
open Jvm Jvm.ClassFile Sem Op Lib Jvm.Free Jvm.Stand Jvm.LawKit Jvm.RoadKit Bundle
/-! ## values, cells, heaps of the small view -/
theorem leb {a b : Nat} (h : Nat.ble a b = true) : a ≤ b := Nat.le_of_ble_eq_true h
abbrev dc (b : ByteArray) (pc : Nat) (i : Instr) (n : Nat) : Prop := decode b pc = .ok (i, n)
abbrev OwnC : Type := Sum (List Value) (Sum (List Int32) (Sum (List Int64) (List Int32)))
abbrev cO (vs : List Value) : OwnC := .inl vs
abbrev cI (xs : List Int32) : OwnC := .inr (.inl xs)
abbrev cJ (xs : List Int64) : OwnC := .inr (.inr (.inl xs))
abbrev cZ (xs : List Int32) : OwnC := .inr (.inr (.inr xs))
def rf (ad : Nat → Addr) : Value → Value
  | .ref i => .ref (ad i)
  | .int x => .int x
  | .long x => .long x
  | .float x => .float x
  | .double x => .double x
  | .null => .null
  | .retAddr x => .retAddr x
theorem rf_cat (ad : Nat → Addr) (v : Value) : (rf ad v).category = v.category := by cases v <;> rfl
theorem rf_isRef (ad : Nat → Addr) (v : Value) : (rf ad v).isRef = v.isRef := by cases v <;> rfl
theorem rf_cats (ad : Nat → Addr) (S : List Value) : ((S.map (rf ad)).map fun v => v.category) = S.map fun v => v.category := by
  simp [List.map_map, Function.comp_def, rf_cat]
def CelOk (Z : State) (C : String) (lay : List (String × String)) (ad : Nat → Addr) (h : Heap) (a : Addr) : OwnC → Prop
  | .inl vs => Exa Z h a C ∧ ∀ (i : Nat) (f : String × String) (v : Value), lay[i]? = some f → vs[i]? = some v → Fld Z h a C f.1 f.2 (rf ad v)
  | .inr (.inl xs) => ∃ cl : Cell, Arr Z h a cl .int ∧ cl.slots.toList = xs.map Value.int
  | .inr (.inr (.inl xs)) => ∃ cl : Cell, Arr Z h a cl .long ∧ cl.slots.toList = xs.map Value.long
  | .inr (.inr (.inr xs)) => ∃ cl : Cell, Arr Z h a cl .boolean ∧ cl.slots.toList = xs.map Value.int
def HR (Z : State) (C : String) (lay : List (String × String)) (n0 ro : Nat) (ad : Nat → Addr) (H : List OwnC) (h : Heap) : Prop :=
  (∀ i c, H[i]? = some c → CelOk Z C lay ad h (ad i) c) ∧ (∀ i j, i < H.length → j < H.length → ad i = ad j → i = j) ∧ (∀ t, ad (H.length + t) = h.size + t) ∧ (∀ i, i < H.length → ro ≤ i → n0 ≤ ad i) ∧ n0 ≤ h.size
def Kp (ad : Nat → Addr) (N : Nat) (h h' : Heap) : Prop := h.size ≤ h'.size ∧ ∀ (a : Addr) (c : Cell), h[a]? = some c → (∀ i, i < N → ad i ≠ a) → h'[a]? = some c
theorem CelOk.keep {Z : State} {C : String} {lay : List (String × String)} {ad : Nat → Addr} {h h' : Heap} {a : Addr} {c : OwnC} (q : ∀ cz : Cell, h[a]? = some cz → h'[a]? = some cz) (F : CelOk Z C lay ad h a c) : CelOk Z C lay ad h' a c := by
  rcases c with vs | xs | xs | xs
  · obtain ⟨⟨cell, k, h1, r⟩, F2⟩ := F
    refine ⟨⟨cell, k, q _ h1, r⟩, fun i f v hf hv => ?_⟩
    obtain ⟨cell, cf, k, i, f, h1, r⟩ := F2 i f v hf hv
    exact ⟨cell, cf, k, i, f, q _ h1, r⟩
  all_goals
    obtain ⟨cl, ⟨h1, r⟩, h2⟩ := F
    exact ⟨cl, ⟨q _ h1, r⟩, h2⟩
theorem CelOk.lt {Z : State} {C : String} {lay : List (String × String)} {ad : Nat → Addr} {h : Heap} {a : Addr} {c : OwnC} (F : CelOk Z C lay ad h a c) : a < h.size := by
  rcases c with vs | xs | xs | xs
  · exact F.1.lt
  all_goals
    obtain ⟨cl, A, h2⟩ := F
    exact A.lt
theorem Kp.refl (ad : Nat → Addr) (N : Nat) (h : Heap) : Kp ad N h h := ⟨Nat.le_refl _, fun _ _ q _ => q⟩
theorem get_lt {α : Type} {L : List α} {i : Nat} {c : α} (h : L[i]? = some c) : i < L.length := (List.getElem?_eq_some_iff.mp h).1
section HRs
variable {Z : State} {C : String} {lay : List (String × String)} {n0 ro : Nat} {ad : Nat → Addr} {H H' : List OwnC} {h h' h'' : Heap}
/-- the addresses at or above H.length lie at or above the heap's size -/
theorem HR.new (R : HR Z C lay n0 ro ad H h) {i : Nat} (hi : H.length ≤ i) : h.size ≤ ad i := by
  obtain ⟨t, rfl⟩ := Nat.exists_eq_add_of_le hi
  rw [R.2.2.1 t]; exact Nat.le_add_right _ _
theorem Kp.trans (R : HR Z C lay n0 ro ad H h) (K : Kp ad H.length h h') {N : Nat} (K' : Kp ad N h' h'') : Kp ad H.length h h'' := by
  refine ⟨Nat.le_trans K.1 K'.1, fun a c hc hn => K'.2 a c (K.2 a c hc hn) fun i hi q => ?_⟩
  by_cases hl : i < H.length
  · exact hn i hl q
  · have h1 := R.new (Nat.le_of_not_lt hl)
    rw [q] at h1
    exact absurd (Array.getElem?_eq_some_iff.mp hc).1 (Nat.not_lt.mpr h1)
/-- one cell of the small heap is written anew, at its own address -/
theorem HR.put (R : HR Z C lay n0 ro ad H h) {i : Nat} {c : OwnC} (hi : i < H.length) (hs : h'.size = h.size) (ho : ∀ a cz, a ≠ ad i → h[a]? = some cz → h'[a]? = some cz) (hc : CelOk Z C lay ad h' (ad i) c) :
    HR Z C lay n0 ro ad (H.set i c) h' ∧ Kp ad H.length h h' := by
  refine ⟨⟨fun j c' hj => ?_, fun i' j' hi' hj' => ?_, fun t => ?_, fun i' hi' => ?_, by rw [hs]; exact R.2.2.2.2⟩, by rw [hs]; exact Nat.le_refl _, fun a cz hz hn => ho a cz (fun q => hn i hi q.symm) hz⟩
  · rw [List.getElem?_set] at hj
    by_cases e : i = j
    · subst e
      simp [hi] at hj
      subst hj; exact hc
    · rw [if_neg e] at hj
      exact (R.1 j c' hj).keep fun cz q => ho _ cz (fun q' => e (R.2.1 _ _ hi (get_lt hj) q'.symm)) q
  · simp only [List.length_set] at hi' hj'; exact R.2.1 _ _ hi' hj'
  · rw [List.length_set, hs]; exact R.2.2.1 t
  · simp only [List.length_set] at hi'; exact R.2.2.2.1 _ hi'
/-- a new cell behind all others -/
theorem HR.push (R : HR Z C lay n0 ro ad H h) {c : OwnC} (hs : h'.size = h.size + 1) (hE : Ext h h') (hc : CelOk Z C lay ad h' h.size c) :
    HR Z C lay n0 ro ad (H ++ [c]) h' ∧ Kp ad H.length h h' ∧ ad H.length = h.size := by
  have e0 : ad H.length = h.size := R.2.2.1 0
  refine ⟨⟨fun j c' hj => ?_, fun i j hi hj q => ?_, fun t => ?_, fun i hi hr => ?_, by rw [hs]; exact Nat.le_succ_of_le R.2.2.2.2⟩, ⟨hE.1, fun a cz hz _ => hE.2 _ _ hz⟩, e0⟩
  · by_cases hl : j < H.length
    · rw [List.getElem?_append_left hl] at hj
      exact (R.1 j c' hj).keep fun cz q => hE.2 _ _ q
    · have hl' := get_lt hj
      simp only [List.length_append, List.length_singleton] at hl'
      obtain rfl : j = H.length := by omega
      simp at hj
      subst hj; rw [e0]; exact hc
  · simp only [List.length_append, List.length_singleton] at hi hj
    by_cases h1 : i < H.length
    · by_cases h2 : j < H.length
      · exact R.2.1 _ _ h1 h2 q
      · have a1 := (R.1 i _ (List.getElem?_eq_getElem h1)).lt
        have a2 := R.new (Nat.le_of_not_lt h2)
        rw [q] at a1
        exact absurd a1 (Nat.not_lt.mpr a2)
    · by_cases h2 : j < H.length
      · have a1 := (R.1 j _ (List.getElem?_eq_getElem h2)).lt
        have a2 := R.new (Nat.le_of_not_lt h1)
        rw [q] at a2
        exact absurd a1 (Nat.not_lt.mpr a2)
      · omega
  · rw [hs]
    have := R.2.2.1 (1 + t)
    simp only [List.length_append, List.length_singleton]
    rw [Nat.add_assoc, this]; exact (Nat.add_assoc _ _ _).symm
  · simp only [List.length_append, List.length_singleton] at hi
    by_cases h1 : i < H.length
    · exact R.2.2.2.1 _ h1 hr
    · exact Nat.le_trans R.2.2.2.2 (R.new (Nat.le_of_not_lt h1))
end HRs
/-! ## local variables: 'unset' in the small view says nothing -/
def WFs (f : Nat → Option Slot) : Prop := (∀ i, f i = some .second → ∃ j v, i = j + 1 ∧ f j = some (.val v) ∧ v.category = 2) ∧ ∀ i v, f i = some (.val v) → v.category = 2 → f (i + 1) = some .second
def LR (ad : Nat → Addr) (L : List Slot) (Ls : Array Slot) : Prop :=
  L.length = Ls.size ∧ (∀ (i : Nat) (v : Value), L[i]? = some (.val v) → Ls[i]? = some (.val (rf ad v))) ∧ (∀ i : Nat, L[i]? = some .second → Ls[i]? = some .second) ∧ WFs fun i => Ls[i]?
def kill2 : Slot → Slot
  | .val (.long _) => .unset
  | .val (.double _) => .unset
  | s => s
def killS : Slot → Slot
  | .second => .unset
  | s => s
def hd1 (f : Slot → Slot) : List Slot → List Slot
  | [] => []
  | y :: t => f y :: t
def st1 : List Slot → Nat → Value → List Slot
  | [], _, _ => []
  | _ :: t, 0, v => .val v :: hd1 killS t
  | y :: t, n + 1, v => match n with
    | 0 => kill2 y :: st1 t 0 v
    | k + 1 => y :: st1 t (k + 1) v
def st2 : List Slot → Nat → Value → List Slot
  | [], _, _ => []
  | _ :: t, 0, v => .val v :: (match t with | [] => [] | _ :: t' => .second :: hd1 killS t')
  | y :: t, n + 1, v => match n with
    | 0 => kill2 y :: st2 t 0 v
    | k + 1 => y :: st2 t (k + 1) v
theorem st1_len (v : Value) : ∀ (L : List Slot) (i : Nat), (st1 L i v).length = L.length
  | [], _ => rfl
  | y :: [], 0 => rfl
  | y :: z :: t, 0 => rfl
  | y :: t, 1 => congrArg Nat.succ (st1_len v t 0)
  | y :: t, k + 2 => congrArg Nat.succ (st1_len v t (k + 1))
theorem st2_len (v : Value) : ∀ (L : List Slot) (i : Nat), (st2 L i v).length = L.length
  | [], _ => rfl
  | y :: [], 0 => rfl
  | y :: z :: [], 0 => rfl
  | y :: z :: w :: t, 0 => rfl
  | y :: t, 1 => congrArg Nat.succ (st2_len v t 0)
  | y :: t, k + 2 => congrArg Nat.succ (st2_len v t (k + 1))
theorem kill2_e {y s : Slot} (h : kill2 y = s) (hs : s ≠ .unset) : y = s ∧ ∀ w, s = .val w → w.category = 1 := by
  subst h
  rcases y with _ | _ | w
  · exact absurd rfl hs
  · exact ⟨rfl, fun w h => by cases h⟩
  · cases w <;> first | exact absurd rfl hs | exact ⟨rfl, fun w h => by cases h; rfl⟩
theorem killS_e {y s : Slot} (h : killS y = s) (hs : s ≠ .unset) : y = s ∧ s ≠ .second := by
  subst h
  rcases y with _ | _ | w
  · exact absurd rfl hs
  · exact absurd rfl hs
  · exact ⟨rfl, fun h => by cases h⟩
theorem hd1_e {t : List Slot} {j : Nat} {s : Slot} (h : (hd1 killS t)[j]? = some s) (hs : s ≠ .unset) : t[j]? = some s ∧ (j = 0 → s ≠ .second) := by
  cases t with
  | nil => simp [hd1] at h
  | cons y t =>
    cases j with
    | zero =>
      have h' : killS y = s := by simpa [hd1] using h
      obtain ⟨e1, e2⟩ := killS_e h' hs
      exact ⟨by simp [e1], fun _ => e2⟩
    | succ j => exact ⟨by simpa [hd1] using h, fun q => by cases q⟩
theorem st1_at (v : Value) : ∀ (L : List Slot) (i : Nat), i < L.length → (st1 L i v)[i]? = some (.val v)
  | [], _, h => absurd h (by simp)
  | y :: t, 0, _ => rfl
  | y :: t, 1, h => by simpa [st1] using st1_at v t 0 (by simp at h; omega)
  | y :: t, k + 2, h => by simpa [st1] using st1_at v t (k + 1) (by simp at h; omega)
theorem st1_else (v : Value) : ∀ (L : List Slot) (i j : Nat) (s : Slot), j ≠ i → (st1 L i v)[j]? = some s → s ≠ .unset → L[j]? = some s ∧ (j + 1 = i → ∀ w, s = .val w → w.category = 1) ∧ (j = i + 1 → s ≠ .second)
  | [], _, j, s, _, h, _ => by simp [st1] at h
  | y :: t, 0, 0, s, hj, _, _ => absurd rfl hj
  | y :: t, 0, j + 1, s, hj, h, hs => by
    obtain ⟨e1, e2⟩ := hd1_e (t := t) (j := j) (by simpa [st1] using h) hs
    exact ⟨by simpa using e1, fun q => by omega, fun q => e2 (by omega)⟩
  | y :: t, 1, 0, s, hj, h, hs => by
    obtain ⟨e1, e2⟩ := kill2_e (y := y) (by simpa [st1] using h) hs
    exact ⟨by simp [e1], fun _ => e2, fun q => by omega⟩
  | y :: t, 1, j + 1, s, hj, h, hs => by
    obtain ⟨e1, e2, e3⟩ := st1_else v t 0 j s (by omega) (by simpa [st1] using h) hs
    exact ⟨by simpa using e1, fun q => by omega, fun q => e3 (by omega)⟩
  | y :: t, k + 2, 0, s, hj, h, hs => ⟨by simpa [st1] using h, fun q => by omega, fun q => by omega⟩
  | y :: t, k + 2, j + 1, s, hj, h, hs => by
    obtain ⟨e1, e2, e3⟩ := st1_else v t (k + 1) j s (by omega) (by simpa [st1] using h) hs
    exact ⟨by simpa using e1, fun q => e2 (by omega), fun q => e3 (by omega)⟩
theorem st2_at (v : Value) : ∀ (L : List Slot) (i : Nat), i + 1 < L.length → (st2 L i v)[i]? = some (.val v) ∧ (st2 L i v)[i + 1]? = some .second
  | [], _, h => absurd h (by simp)
  | y :: [], 0, h => absurd h (by simp)
  | y :: z :: t, 0, _ => ⟨rfl, rfl⟩
  | y :: t, 1, h => by simpa [st2] using st2_at v t 0 (by simp at h; omega)
  | y :: t, k + 2, h => by simpa [st2] using st2_at v t (k + 1) (by simp at h; omega)
theorem st2_else (v : Value) : ∀ (L : List Slot) (i j : Nat) (s : Slot), j ≠ i → j ≠ i + 1 → (st2 L i v)[j]? = some s → s ≠ .unset → L[j]? = some s ∧ (j + 1 = i → ∀ w, s = .val w → w.category = 1) ∧ (j = i + 2 → s ≠ .second)
  | [], _, j, s, _, _, h, _ => by simp [st2] at h
  | y :: t, 0, 0, s, hj, _, _, _ => absurd rfl hj
  | y :: t, 0, 1, s, _, hj, _, _ => absurd rfl hj
  | y :: [], 0, j + 2, s, _, _, h, _ => by simp [st2] at h
  | y :: z :: t, 0, j + 2, s, hj, _, h, hs => by
    obtain ⟨e1, e2⟩ := hd1_e (t := t) (j := j) (by simpa [st2] using h) hs
    exact ⟨by simpa using e1, fun q => by omega, fun q => e2 (by omega)⟩
  | y :: t, 1, 0, s, hj, _, h, hs => by
    obtain ⟨e1, e2⟩ := kill2_e (y := y) (by simpa [st2] using h) hs
    exact ⟨by simp [e1], fun _ => e2, fun q => by omega⟩
  | y :: t, 1, j + 1, s, hj, hj', h, hs => by
    obtain ⟨e1, e2, e3⟩ := st2_else v t 0 j s (by omega) (by omega) (by simpa [st2] using h) hs
    exact ⟨by simpa using e1, fun q => by omega, fun q => e3 (by omega)⟩
  | y :: t, k + 2, 0, s, hj, _, h, hs => ⟨by simpa [st2] using h, fun q => by omega, fun q => by omega⟩
  | y :: t, k + 2, j + 1, s, hj, hj', h, hs => by
    obtain ⟨e1, e2, e3⟩ := st2_else v t (k + 1) j s (by omega) (by omega) (by simpa [st2] using h) hs
    exact ⟨by simpa using e1, fun q => e2 (by omega), fun q => e3 (by omega)⟩
theorem setAt_ok {l : Array Slot} {i : Nat} (h : i < l.size) (x : Slot) : setAt l i x = some (l.setIfInBounds i x) := if_pos h
/-- which neighbours a store at i wipes -/
def Bad (Ls : Array Slot) (i j : Nat) : Prop := (j + 1 = i ∧ Ls[i]? = some .second) ∨ (j = i + 1 ∧ ∃ o, Ls[i]? = some (.val o) ∧ o.category = 2)
def Pre1 (Ls Ls1 : Array Slot) (i : Nat) : Prop := Ls1.size = Ls.size ∧ ∀ j, j ≠ i → (¬ Bad Ls i j ∧ Ls1[j]? = Ls[j]?) ∨ (Bad Ls i j ∧ Ls1[j]? = some .unset)
theorem storeLocals_pre {Ls : Array Slot} (wf : WFs fun i => Ls[i]?) {i : Nat} (hi : i < Ls.size) (w : Value) : ∃ Ls1, Pre1 Ls Ls1 i ∧ storeLocals Ls i w = storeSelf Ls1 i w := by
  have hg : Ls[i]? = some Ls[i] := Array.getElem?_eq_getElem hi
  rcases hs : Ls[i] with _ | _ | old
  · rw [hs] at hg
    refine ⟨Ls, ⟨rfl, fun j hj => Or.inl ⟨?_, rfl⟩⟩, ?_⟩
    · rintro (⟨-, q⟩ | ⟨-, o, q, -⟩) <;> (rw [hg] at q; cases q)
    · show (Ls[i]?).bind _ = _; rw [hg]; rfl
  · rw [hs] at hg
    obtain ⟨j0, v, rfl, hv, hc⟩ := wf.1 i hg
    have h0 : j0 < Ls.size := by omega
    refine ⟨Ls.setIfInBounds j0 .unset, ⟨by simp, fun j hj => ?_⟩, ?_⟩
    · by_cases e : j = j0
      · subst e; right; exact ⟨Or.inl ⟨rfl, hg⟩, by simp [h0]⟩
      · left
        refine ⟨?_, by rw [Array.getElem?_setIfInBounds_ne (Ne.symm e)]⟩
        rintro (⟨q', q⟩ | ⟨-, o, q, -⟩)
        · exact e (by omega)
        · rw [hg] at q; cases q
    · show (Ls[j0 + 1]?).bind _ = _; rw [hg]
      show (setAt Ls (j0 + 1 - 1) .unset).bind _ = _
      rw [Nat.add_sub_cancel, setAt_ok h0]; rfl
  · rw [hs] at hg
    by_cases hc : old.category = 2
    · have h1 := wf.2 i old hg hc
      have h1' : i + 1 < Ls.size := (Array.getElem?_eq_some_iff.mp h1).1
      refine ⟨Ls.setIfInBounds (i + 1) .unset, ⟨by simp, fun j hj => ?_⟩, ?_⟩
      · by_cases e : j = i + 1
        · subst e; right; exact ⟨Or.inr ⟨rfl, old, hg, hc⟩, by simp [h1']⟩
        · left
          refine ⟨?_, by rw [Array.getElem?_setIfInBounds_ne (Ne.symm e)]⟩
          rintro (⟨-, q⟩ | ⟨q, -⟩)
          · rw [hg] at q; cases q
          · exact e q
      · show (Ls[i]?).bind _ = _; rw [hg]
        show (if old.category = 2 then _ else _) = _
        rw [if_pos hc]
        show (setAt Ls (i + 1) .unset).bind _ = _
        rw [setAt_ok h1']; rfl
    · refine ⟨Ls, ⟨rfl, fun j hj => Or.inl ⟨?_, rfl⟩⟩, ?_⟩
      · rintro (⟨-, q⟩ | ⟨-, o, q, q'⟩) <;> (rw [hg] at q; cases q)
        exact hc q'
      · show (Ls[i]?).bind _ = _; rw [hg]
        show (if old.category = 2 then _ else _) = _
        rw [if_neg hc]
section St
variable {Ls : Array Slot} {i j : Nat}
/-- a value of one word is not wiped -/
theorem not_bad_val (wf : WFs fun i => Ls[i]?) {w : Value} (hj : Ls[j]? = some (.val w)) (hw : j + 1 = i → w.category = 1) : ¬ Bad Ls i j := by
  rintro (⟨rfl, q⟩ | ⟨rfl, o, q, q'⟩)
  · obtain ⟨j0, v, e, h1, h2⟩ := wf.1 _ q
    obtain rfl : j0 = j := by omega
    cases h1.symm.trans hj
    rw [hw rfl] at h2; cases h2
  · have := wf.2 _ _ q q'
    cases this.symm.trans hj
theorem not_bad_second (wf : WFs fun i => Ls[i]?) (hj : Ls[j]? = some .second) (hne : j ≠ i + 1) : ¬ Bad Ls i j := by
  rintro (⟨rfl, q⟩ | ⟨q, -⟩)
  · obtain ⟨j0, v, e, h1, h2⟩ := wf.1 _ q
    obtain rfl : j0 = j := by omega
    cases h1.symm.trans hj
  · exact hne q
end St
theorem LR.store1 {ad : Nat → Addr} {L : List Slot} {Ls : Array Slot} (hL : LR ad L Ls) {i : Nat} (hi : i < L.length) {v : Value} (hv : v.category = 1) : ∃ Ls', storeLocals Ls i (rf ad v) = some Ls' ∧ LR ad (st1 L i v) Ls' ∧ Ls'.size = Ls.size := by
  obtain ⟨l1, l2, l3, wf⟩ := hL
  have hi' : i < Ls.size := l1 ▸ hi
  have hv' : (rf ad v).category = 1 := by rw [rf_cat]; exact hv
  obtain ⟨Ls1, ⟨p1, p2⟩, e⟩ := storeLocals_pre wf hi' (rf ad v)
  have hi1 : i < Ls1.size := by rw [p1]; exact hi'
  have e2 : storeSelf Ls1 i (rf ad v) = some (Ls1.setIfInBounds i (.val (rf ad v))) := by
    show (setAt Ls1 i _).bind _ = _
    rw [setAt_ok hi1]
    show (if (rf ad v).category = 2 then _ else _) = _
    rw [if_neg (by rw [hv']; decide)]
  have at_i : (Ls1.setIfInBounds i (.val (rf ad v)))[i]? = some (.val (rf ad v)) := by simp [hi1]
  have at_j : ∀ j, j ≠ i → (Ls1.setIfInBounds i (.val (rf ad v)))[j]? = Ls1[j]? := fun j hj => Array.getElem?_setIfInBounds_ne (Ne.symm hj)
  have good : ∀ j, j ≠ i → ¬ Bad Ls i j → (Ls1.setIfInBounds i (.val (rf ad v)))[j]? = Ls[j]? := fun j hj hb => by
    rw [at_j j hj]
    rcases p2 j hj with ⟨-, q⟩ | ⟨q, -⟩
    · exact q
    · exact absurd q hb
  have back : ∀ j s, j ≠ i → s ≠ .unset → (Ls1.setIfInBounds i (.val (rf ad v)))[j]? = some s → ¬ Bad Ls i j ∧ Ls[j]? = some s := fun j s hj hs h => by
    rw [at_j j hj] at h
    rcases p2 j hj with ⟨q, q'⟩ | ⟨-, q⟩
    · exact ⟨q, by rw [← q']; exact h⟩
    · rw [q] at h; cases h; exact absurd rfl hs
  refine ⟨_, e.trans e2, ⟨by rw [st1_len, l1]; simp [p1], fun j w hj => ?_, fun j hj => ?_, fun j hj => ?_, fun j w hj hc => ?_⟩, by simp [p1]⟩
  · by_cases q : j = i
    · subst q
      rw [st1_at v L j hi] at hj
      cases hj; exact at_i
    · obtain ⟨a1, a2, -⟩ := st1_else v L i j _ q hj (by simp)
      have b1 := l2 j w a1
      rw [good j q (not_bad_val wf b1 fun z => by rw [rf_cat]; exact a2 z w rfl)]; exact b1
  · by_cases q : j = i
    · subst q
      rw [st1_at v L j hi] at hj
      cases hj
    · obtain ⟨a1, -, a3⟩ := st1_else v L i j _ q hj (by simp)
      have b1 := l3 j a1
      rw [good j q (not_bad_second wf b1 fun z => a3 z rfl)]; exact b1
  · dsimp only at hj ⊢
    have q : j ≠ i := fun q => by subst q; rw [at_i] at hj; cases hj
    obtain ⟨b1, b2⟩ := back j _ q (by simp) hj
    obtain ⟨j0, v', rfl, h1, h2⟩ := wf.1 j b2
    refine ⟨j0, v', rfl, ?_, h2⟩
    have q0 : j0 ≠ i := fun z => b1 (Or.inr ⟨by omega, v', z ▸ h1, h2⟩)
    rw [good j0 q0 ?_]; exact h1
    rintro (⟨z, -⟩ | ⟨z, o, z1, z2⟩)
    · exact q z
    · have := wf.2 _ _ z1 z2
      rw [← z] at this
      cases this.symm.trans h1
  · dsimp only at hj ⊢
    have q : j ≠ i := fun q => by subst q; rw [at_i] at hj; cases hj; rw [hv'] at hc; cases hc
    obtain ⟨b1, b2⟩ := back j _ q (by simp) hj
    have h1 := wf.2 j w b2 hc
    dsimp only at h1
    have q0 : j + 1 ≠ i := fun z => b1 (Or.inl ⟨z, z ▸ h1⟩)
    rw [good (j + 1) q0 ?_]; exact h1
    rintro (⟨z, z1⟩ | ⟨z, -⟩)
    · obtain ⟨j1, v1, e1, e2, -⟩ := wf.1 _ z1
      obtain rfl : j1 = j + 1 := by omega
      cases h1.symm.trans e2
    · omega
theorem LR.store2 {ad : Nat → Addr} {L : List Slot} {Ls : Array Slot} (hL : LR ad L Ls) {i : Nat} (hi : i + 1 < L.length) {v : Value} (hv : v.category = 2) : ∃ Ls', storeLocals Ls i (rf ad v) = some Ls' ∧ LR ad (st2 L i v) Ls' ∧ Ls'.size = Ls.size := by
  obtain ⟨l1, l2, l3, wf⟩ := hL
  have hi' : i + 1 < Ls.size := l1 ▸ hi
  have hv' : (rf ad v).category = 2 := by rw [rf_cat]; exact hv
  obtain ⟨Ls1, ⟨p1, p2⟩, e⟩ := storeLocals_pre wf (by omega : i < Ls.size) (rf ad v)
  have hi1 : i < Ls1.size := by rw [p1]; omega
  have hi2 : i + 1 < Ls1.size := by rw [p1]; omega
  -- what the second half leaves: two slots, and the one behind wiped where a long began at i + 1
  have key : ∃ Ls', storeSelf Ls1 i (rf ad v) = some Ls' ∧ Ls'.size = Ls1.size ∧ Ls'[i]? = some (.val (rf ad v)) ∧ Ls'[i + 1]? = some .second ∧ ∀ j, j ≠ i → j ≠ i + 1 → (Ls'[j]? = Ls1[j]? ∧ ¬ (j = i + 2 ∧ ∃ o, Ls1[i + 1]? = some (.val o) ∧ o.category = 2)) ∨ (Ls'[j]? = some .unset ∧ j = i + 2 ∧ ∃ o, Ls1[i + 1]? = some (.val o) ∧ o.category = 2) := by
    have n1 : (Ls1.setIfInBounds i (.val (rf ad v)))[i + 1]? = Ls1[i + 1]? := Array.getElem?_setIfInBounds_ne (by omega)
    have g1 : Ls1[i + 1]? = some Ls1[i + 1] := Array.getElem?_eq_getElem hi2
    have open1 : storeSelf Ls1 i (rf ad v) = ((Ls1.setIfInBounds i (.val (rf ad v)))[i + 1]?).bind fun x => match x with
      | .val old => if old.category = 2 then (setAt (Ls1.setIfInBounds i (.val (rf ad v))) (i + 2) .unset).bind fun z => setAt z (i + 1) .second else setAt (Ls1.setIfInBounds i (.val (rf ad v))) (i + 1) .second
      | _ => setAt (Ls1.setIfInBounds i (.val (rf ad v))) (i + 1) .second := by
      show (setAt Ls1 i _).bind _ = _
      rw [setAt_ok hi1]
      show (if (rf ad v).category = 2 then _ else _) = _
      rw [if_pos hv']; rfl
    have plain : (∀ o, Ls1[i + 1]? = some (.val o) → o.category ≠ 2) → storeSelf Ls1 i (rf ad v) = setAt (Ls1.setIfInBounds i (.val (rf ad v))) (i + 1) .second := fun hno => by
      rw [open1, n1, g1]
      rcases hs : Ls1[i + 1] with _ | _ | old
      · rfl
      · rfl
      · show (if old.category = 2 then _ else _) = _
        rw [if_neg (hno old (by rw [g1, hs]))]
    have szz : i + 1 < (Ls1.setIfInBounds i (.val (rf ad v))).size := by simpa using hi2
    by_cases hb : ∃ o, Ls1[i + 1]? = some (.val o) ∧ o.category = 2
    · obtain ⟨o, ho, ho2⟩ := hb
      have b1 : Ls[i + 1]? = some (.val o) := by
        rcases p2 (i + 1) (by omega) with ⟨-, q⟩ | ⟨-, q⟩
        · rw [← q]; exact ho
        · rw [q] at ho; cases ho
      have h3 : i + 2 < Ls1.size := by rw [p1]; exact (Array.getElem?_eq_some_iff.mp (wf.2 _ _ b1 ho2)).1
      refine ⟨((Ls1.setIfInBounds i (.val (rf ad v))).setIfInBounds (i + 2) .unset).setIfInBounds (i + 1) .second, ?_, by simp, ?_, ?_, fun j hj hj' => ?_⟩
      · rw [open1, n1, ho]
        show (if o.category = 2 then _ else _) = _
        rw [if_pos ho2, setAt_ok (by simpa using h3)]
        show setAt _ (i + 1) .second = _
        rw [setAt_ok (by simpa using hi2)]
      · rw [Array.getElem?_setIfInBounds_ne (by omega), Array.getElem?_setIfInBounds_ne (by omega)]; simp [hi1]
      · simp [hi2]
      · rw [Array.getElem?_setIfInBounds_ne (by omega)]
        by_cases z : j = i + 2
        · subst z; right; exact ⟨by simp [h3], rfl, o, ho, ho2⟩
        · left; exact ⟨by rw [Array.getElem?_setIfInBounds_ne (by omega), Array.getElem?_setIfInBounds_ne (by omega)], fun q => z q.1⟩
    · refine ⟨(Ls1.setIfInBounds i (.val (rf ad v))).setIfInBounds (i + 1) .second, ?_, by simp, ?_, ?_, fun j hj hj' => Or.inl ⟨?_, fun q => hb q.2⟩⟩
      · rw [plain fun o ho q => hb ⟨o, ho, q⟩, setAt_ok szz]
      · rw [Array.getElem?_setIfInBounds_ne (by omega)]; simp [hi1]
      · simp [hi2]
      · rw [Array.getElem?_setIfInBounds_ne (by omega), Array.getElem?_setIfInBounds_ne (by omega)]
  obtain ⟨Ls', e2, sz, at_i, at_i1, at_j⟩ := key
  -- i + 1 seen from Ls
  have up : ∀ o, Ls1[i + 1]? = some (.val o) → Ls[i + 1]? = some (.val o) := fun o ho => by
    rcases p2 (i + 1) (by omega) with ⟨-, q⟩ | ⟨-, q⟩
    · rw [← q]; exact ho
    · rw [q] at ho; cases ho
  have good : ∀ j, j ≠ i → j ≠ i + 1 → ¬ Bad Ls i j → ¬ (j = i + 2 ∧ ∃ o, Ls[i + 1]? = some (.val o) ∧ o.category = 2) → Ls'[j]? = Ls[j]? := fun j hj hj' hb hb' => by
    rcases at_j j hj hj' with ⟨q, -⟩ | ⟨-, q1, o, q2, q3⟩
    · rw [q]
      rcases p2 j hj with ⟨-, q⟩ | ⟨q, -⟩
      · exact q
      · exact absurd q hb
    · exact absurd ⟨q1, o, up o q2, q3⟩ hb'
  have back : ∀ j s, j ≠ i → j ≠ i + 1 → s ≠ .unset → Ls'[j]? = some s → ¬ Bad Ls i j ∧ Ls[j]? = some s ∧ ¬ (j = i + 2 ∧ ∃ o, Ls1[i + 1]? = some (.val o) ∧ o.category = 2) := fun j s hj hj' hs h => by
    rcases at_j j hj hj' with ⟨q, q0⟩ | ⟨q, -⟩
    · rw [q] at h
      rcases p2 j hj with ⟨q1, q'⟩ | ⟨-, q'⟩
      · exact ⟨q1, by rw [← q']; exact h, q0⟩
      · rw [q'] at h; cases h; exact absurd rfl hs
    · rw [q] at h; cases h; exact absurd rfl hs
  have s2 := st2_at v L i hi
  refine ⟨_, e.trans e2, ⟨by rw [st2_len, l1, sz, p1], fun j w hj => ?_, fun j hj => ?_, fun j hj => ?_, fun j w hj hc => ?_⟩, by rw [sz, p1]⟩
  · by_cases q : j = i
    · subst q
      rw [s2.1] at hj
      cases hj; exact at_i
    · by_cases q1 : j = i + 1
      · subst q1; rw [s2.2] at hj; cases hj
      · obtain ⟨a1, a2, -⟩ := st2_else v L i j _ q q1 hj (by simp)
        have b1 := l2 j w a1
        rw [good j q q1 (not_bad_val wf b1 fun z => by rw [rf_cat]; exact a2 z w rfl) ?_]; exact b1
        rintro ⟨rfl, o, z1, z2⟩
        have := wf.2 _ _ z1 z2
        cases this.symm.trans b1
  · by_cases q : j = i
    · subst q
      rw [s2.1] at hj
      cases hj
    · by_cases q1 : j = i + 1
      · subst q1; exact at_i1
      · obtain ⟨a1, -, a3⟩ := st2_else v L i j _ q q1 hj (by simp)
        have b1 := l3 j a1
        rw [good j q q1 (not_bad_second wf b1 q1) fun z => a3 z.1 rfl]; exact b1
  · dsimp only at hj ⊢
    by_cases q1 : j = i + 1
    · subst q1; exact ⟨i, _, rfl, at_i, hv'⟩
    have q : j ≠ i := fun q => by subst q; rw [at_i] at hj; cases hj
    obtain ⟨b1, b2, b3⟩ := back j _ q q1 (by simp) hj
    obtain ⟨j0, v', rfl, h1, h2⟩ := wf.1 j b2
    dsimp only at h1
    have q0 : j0 ≠ i := fun z => b1 (Or.inr ⟨by omega, v', z ▸ h1, h2⟩)
    -- j0 = i + 1: then j = i + 2 was wiped
    have q0' : j0 ≠ i + 1 := fun z => by
      subst z
      rcases p2 (i + 1) (by omega) with ⟨-, w1⟩ | ⟨w1, -⟩
      · exact b3 ⟨rfl, v', by rw [w1]; exact h1, h2⟩
      · rcases w1 with ⟨w1, -⟩ | ⟨-, o, w1, w2⟩
        · omega
        · have := wf.2 _ _ w1 w2
          cases this.symm.trans h1
    refine ⟨j0, v', rfl, ?_, h2⟩
    rw [good j0 q0 q0' ?_ ?_]; exact h1
    · rintro (⟨z, -⟩ | ⟨z, -⟩)
      · exact q z
      · exact q0' z
    · rintro ⟨rfl, o, z1, z2⟩
      have := wf.2 _ _ z1 z2
      cases this.symm.trans h1
  · dsimp only at hj ⊢
    by_cases q1 : j = i
    · subst q1; exact at_i1
    have q : j ≠ i + 1 := fun q => by subst q; rw [at_i1] at hj; cases hj
    obtain ⟨b1, b2, -⟩ := back j _ q1 q (by simp) hj
    have h1 := wf.2 j w b2 hc
    dsimp only at h1
    have q0 : j + 1 ≠ i := fun z => b1 (Or.inl ⟨z, z ▸ h1⟩)
    rw [good (j + 1) q0 (by omega) ?_ ?_]; exact h1
    · rintro (⟨z, z1⟩ | ⟨z, -⟩)
      · obtain ⟨j1, v1, e1, e2, -⟩ := wf.1 _ z1
        obtain rfl : j1 = j + 1 := by omega
        cases h1.symm.trans e2
      · omega
    · rintro ⟨z, -⟩; omega
/-! what is known less of -/
def leL : List Slot → List Slot → Prop
  | [], [] => True
  | .unset :: a, _ :: b => leL a b
  | x :: a, y :: b => x = y ∧ leL a b
  | _, _ => False
theorem leL_len : ∀ {A B : List Slot}, leL A B → A.length = B.length
  | [], [], _ => rfl
  | .unset :: a, _ :: b, h => congrArg Nat.succ (leL_len (A := a) (B := b) h)
  | .second :: a, _ :: b, h => congrArg Nat.succ (leL_len (A := a) (B := b) h.2)
  | .val _ :: a, _ :: b, h => congrArg Nat.succ (leL_len (A := a) (B := b) h.2)
theorem leL_get : ∀ {A B : List Slot}, leL A B → ∀ {i : Nat} {s : Slot}, A[i]? = some s → s ≠ .unset → B[i]? = some s
  | [], [], _, i, s, h, _ => by simp at h
  | .unset :: a, _ :: b, _, 0, s, h, hs => by simp at h; exact absurd h.symm hs
  | .unset :: a, _ :: b, hl, i + 1, s, h, hs => by simpa using leL_get (A := a) (B := b) hl (by simpa using h) hs
  | .second :: a, _ :: b, hl, 0, s, h, hs => by simp at h; subst h; simp [← hl.1]
  | .second :: a, _ :: b, hl, i + 1, s, h, hs => by simpa using leL_get (A := a) (B := b) hl.2 (by simpa using h) hs
  | .val _ :: a, _ :: b, hl, 0, s, h, hs => by simp at h; subst h; simp [← hl.1]
  | .val _ :: a, _ :: b, hl, i + 1, s, h, hs => by simpa using leL_get (A := a) (B := b) hl.2 (by simpa using h) hs
theorem LR.weak {ad : Nat → Addr} {A B : List Slot} {Ls : Array Slot} (h : leL A B) (hL : LR ad B Ls) : LR ad A Ls :=
  ⟨(leL_len h).trans hL.1, fun i v q => hL.2.1 i v (leL_get h q (by simp)), fun i q => hL.2.2.1 i (leL_get h q (by simp)), hL.2.2.2⟩
theorem wf_cons {x : Slot} {M : List Slot} (hx : x = .unset ∨ ∃ v, x = .val v ∧ v.category = 1) (h : WFs fun i => M[i]?) : WFs fun i => (x :: M)[i]? := by
  refine ⟨fun i hi => ?_, fun i v hi hc => ?_⟩
  · cases i with
    | zero => rcases hx with rfl | ⟨v, rfl, -⟩ <;> (simp at hi)
    | succ i =>
      obtain ⟨j, v, rfl, h1, h2⟩ := h.1 i (by simpa using hi)
      exact ⟨j + 1, v, rfl, by simpa using h1, h2⟩
  · cases i with
    | zero =>
      rcases hx with rfl | ⟨w, rfl, hw⟩
      · simp at hi
      · simp at hi; subst hi; rw [hw] at hc; cases hc
    | succ i => simpa using h.2 i v (by simpa using hi) hc
theorem wf_cons2 {w : Value} {M : List Slot} (hw : w.category = 2) (h : WFs fun i => M[i]?) : WFs fun i => (.val w :: .second :: M)[i]? := by
  refine ⟨fun i hi => ?_, fun i v hi hc => ?_⟩
  · match i, hi with
    | 0, hi => simp at hi
    | 1, _ => exact ⟨0, w, rfl, rfl, hw⟩
    | i + 2, hi =>
      obtain ⟨j, v, rfl, h1, h2⟩ := h.1 i (by simpa using hi)
      exact ⟨j + 2, v, rfl, by simpa using h1, h2⟩
  · match i, hi with
    | 0, _ => rfl
    | 1, hi => simp at hi
    | i + 2, hi => simpa using h.2 i v (by simpa using hi) hc
/-- the local variables at the entry -/
def laid : List Value → List Slot
  | [] => []
  | v :: vs => if v.category = 2 then .val v :: .second :: laid vs else .val v :: laid vs
def entL (as : List Value) (n : Nat) : List Slot := laid as ++ List.replicate (n - (laid as).length) Slot.unset
theorem laid_rel (ad : Nat → Addr) (k : Nat) : ∀ as : List Value, (laid as ++ List.replicate k Slot.unset).length = (laid (as.map (rf ad)) ++ List.replicate k Slot.unset).length ∧ (∀ (i : Nat) (v : Value), (laid as ++ List.replicate k Slot.unset)[i]? = some (.val v) → (laid (as.map (rf ad)) ++ List.replicate k Slot.unset)[i]? = some (.val (rf ad v))) ∧
    (∀ i : Nat, (laid as ++ List.replicate k Slot.unset)[i]? = some .second → (laid (as.map (rf ad)) ++ List.replicate k Slot.unset)[i]? = some .second) ∧ WFs fun i => (laid (as.map (rf ad)) ++ List.replicate k Slot.unset)[i]?
  | [] => by
    refine ⟨rfl, fun i v h => ?_, fun i h => h, fun i h => ?_, fun i v h => ?_⟩
    · simp [laid, List.getElem?_replicate] at h
    · simp [laid, List.getElem?_replicate] at h
    · simp [laid, List.getElem?_replicate] at h
  | v :: vs => by
    obtain ⟨a1, a2, a3, a4⟩ := laid_rel ad k vs
    have hc : (rf ad v).category = v.category := rf_cat ad v
    by_cases h : v.category = 2
    · have e1 : laid (v :: vs) = .val v :: .second :: laid vs := if_pos h
      have e2 : laid ((v :: vs).map (rf ad)) = .val (rf ad v) :: .second :: laid (vs.map (rf ad)) := if_pos (hc.trans h)
      rw [e1, e2]
      refine ⟨by simpa using a1, fun i w hi => ?_, fun i hi => ?_, wf_cons2 (hc.trans h) a4⟩
      · match i, hi with
        | 0, hi => simp at hi; subst hi; rfl
        | 1, hi => simp at hi
        | i + 2, hi => simpa using a2 i w (by simpa using hi)
      · match i, hi with
        | 0, hi => simp at hi
        | 1, hi => rfl
        | i + 2, hi => simpa using a3 i (by simpa using hi)
    · have e1 : laid (v :: vs) = .val v :: laid vs := if_neg h
      have e2 : laid ((v :: vs).map (rf ad)) = .val (rf ad v) :: laid (vs.map (rf ad)) := if_neg (by rw [hc]; exact h)
      have h1 : (rf ad v).category = 1 := by
        rw [hc]; cases v <;> first | rfl | exact absurd rfl h
      rw [e1, e2]
      refine ⟨by simpa using a1, fun i w hi => ?_, fun i hi => ?_, wf_cons (Or.inr ⟨_, rfl, h1⟩) a4⟩
      · match i, hi with
        | 0, hi => simp at hi; subst hi; rfl
        | i + 1, hi => simpa using a2 i w (by simpa using hi)
      · match i, hi with
        | 0, hi => simp at hi
        | i + 1, hi => simpa using a3 i (by simpa using hi)
theorem laid_foldl : ∀ (as : List Value) (acc : Array Slot), (as.foldl (fun acc v => if v.category = 2 then (acc.push (.val v)).push .second else acc.push (.val v)) acc).toList = acc.toList ++ laid as
  | [], acc => by simp [laid]
  | v :: vs, acc => by
    show (List.foldl _ (if v.category = 2 then (acc.push (.val v)).push .second else acc.push (.val v)) vs : Array Slot).toList = _
    rw [laid_foldl vs]
    by_cases h : v.category = 2
    · rw [if_pos h, show laid (v :: vs) = .val v :: .second :: laid vs from if_pos h]; simp
    · rw [if_neg h, show laid (v :: vs) = .val v :: laid vs from if_neg h]; simp
theorem laid_map_len (ad : Nat → Addr) (as : List Value) : (laid (as.map (rf ad))).length = (laid as).length := by
  have := (laid_rel ad 0 as).1
  simpa using this.symm
theorem entry_LR (ad : Nat → Addr) (as : List Value) (n : Nat) (hn : (laid as).length ≤ n) : LR ad (entL as n) (argsToLocals (as.map (rf ad)).toArray n) ∧ (argsToLocals (as.map (rf ad)).toArray n).size = n := by
  have e : (argsToLocals (as.map (rf ad)).toArray n).toList = laid (as.map (rf ad)) ++ List.replicate (n - (laid as).length) Slot.unset := by
    have e1 := laid_foldl (as.map (rf ad)) #[]
    have e2 : ((as.map (rf ad)).toArray.foldl (fun acc v => if v.category = 2 then (acc.push (.val v)).push .second else acc.push (.val v)) #[] : Array Slot).toList = laid (as.map (rf ad)) := by
      rw [List.foldl_toArray']
      · rw [e1]; rfl
      · rfl
    have e3 : ((as.map (rf ad)).toArray.foldl (fun acc v => if v.category = 2 then (acc.push (.val v)).push .second else acc.push (.val v)) #[] : Array Slot).size = (laid as).length := by
      rw [← Array.length_toList, e2, laid_map_len]
    show (_ ++ Array.replicate (n - _) Slot.unset).toList = _
    rw [Array.toList_append, e2, Array.toList_replicate, e3]
  obtain ⟨a1, a2, a3, a4⟩ := laid_rel ad (n - (laid as).length) as
  have g : ∀ i : Nat, (argsToLocals (as.map (rf ad)).toArray n)[i]? = (laid (as.map (rf ad)) ++ List.replicate (n - (laid as).length) Slot.unset)[i]? := fun i => by rw [← e, Array.getElem?_toList]
  have sz : (argsToLocals (as.map (rf ad)).toArray n).size = (laid (as.map (rf ad)) ++ List.replicate (n - (laid as).length) Slot.unset).length := by rw [← e, Array.length_toList]
  refine ⟨⟨by rw [sz]; exact a1, fun i v h => by rw [g]; exact a2 i v h, fun i h => by rw [g]; exact a3 i h, ?_⟩, by rw [sz, ← a1]; simp; omega⟩
  have : (fun i => (argsToLocals (as.map (rf ad)).toArray n)[i]?) = fun i => (laid (as.map (rf ad)) ++ List.replicate (n - (laid as).length) Slot.unset)[i]? := funext g
  rw [this]; exact a4
/-! ## reading and writing a list as Java does an array -/
def rd {α : Type} (xs : List α) (i : Int32) : Option α := if i < 0 then none else xs[i.toNatClampNeg]?
def wr {α : Type} (xs : List α) (i : Int32) (x : α) : Option (List α) := if i < 0 then none else if i.toNatClampNeg < xs.length then some (xs.set i.toNatClampNeg x) else none
theorem rd_slots {α : Type} {f : α → Value} {sl : Array Value} {xs : List α} (h : sl.toList = xs.map f) {j : Int32} {x : α} (hx : rd xs j = some x) : ¬ (j < 0 ∨ sl.size ≤ j.toNatClampNeg) ∧ sl[j.toNatClampNeg]? = some (f x) := by
  unfold rd at hx
  by_cases hj : j < 0
  · rw [if_pos hj] at hx; cases hx
  · rw [if_neg hj] at hx
    have h1 : sl[j.toNatClampNeg]? = some (f x) := by rw [← Array.getElem?_toList, h, List.getElem?_map, hx]; rfl
    exact ⟨fun q => q.elim hj fun q => absurd (Array.getElem?_eq_some_iff.mp h1).1 (Nat.not_lt.mpr q), h1⟩
theorem wr_slots {α : Type} {f : α → Value} {cl : Cell} {xs xs' : List α} (h : cl.slots.toList = xs.map f) {j : Int32} {x : α} (hx : wr xs j x = some xs') : ¬ (j < 0 ∨ cl.slots.size ≤ j.toNatClampNeg) ∧ (cl.setSlot j.toNatClampNeg (f x)).slots.toList = xs'.map f := by
  unfold wr at hx
  by_cases hj : j < 0
  · rw [if_pos hj] at hx; cases hx
  · rw [if_neg hj] at hx
    by_cases hl : j.toNatClampNeg < xs.length
    · rw [if_pos hl] at hx; cases hx
      have sz : cl.slots.size = xs.length := by rw [← Array.length_toList, h, List.length_map]
      refine ⟨fun q => q.elim hj fun q => by omega, ?_⟩
      show (cl.slots.setIfInBounds _ _).toList = _
      rw [Array.toList_setIfInBounds, h, List.map_set]
    · rw [if_neg hl] at hx; cases hx
/-! ## the walk's promise, said of the small view -/
def Am (Z : State) (own mn : String) (bytes : ByteArray) (maxL : Nat) (ret : Option FieldType) (p : Program) (s : State) (m : MethodId) (meth : Method) (c : Code) : Prop :=
  p.tables.exec = Jvm.exec ∧ Z.Warmed39 s.vm ∧ c.code = bytes ∧ c.maxLocals = maxL ∧ meth.sig.returnType = ret ∧ meth.locks = false ∧ s.vm.findClass own = some m.cls ∧ meth.name = mn
def WP (l : Launch) (Z : State) (C : String) (lay : List (String × String)) (own mn : String) (bytes : ByteArray) (maxL : Nat) (ret : Option FieldType) (R : Room) (n0 ro : Nat) (Q : Option Value → List OwnC → Prop) (k n pc : Nat) (L : List Slot) (S : List Value) (H : List OwnC) : Prop :=
  ∀ (p : Program) (e : Env) (s : State) (m : MethodId) (args : Array Value) (below : List Frame) (meth : Method) (c : Code) (T : State) (locs : List Loc) (ad : Nat → Addr) (Ls : Array Slot),
    Stand p l e R s m args below meth c T locs k n → Am Z own mn bytes maxL ret p s m meth c → HR Z C lay n0 ro ad H T.heap → Fr n0 locs → LR ad L Ls → Ls.size = maxL →
    ∃ (s₂ : State) (v : Option Value) (H' : List OwnC) (locs' : List Loc),
      Steps p.tables e below (T.setTop (mkF m pc Ls (S.map (rf ad)))) s₂ ∧ s₂.status = .running ∧ Ended s₂ below (.returned (v.map (rf ad))) ∧ Q v H' ∧ HR Z C lay n0 ro ad H' s₂.heap ∧ Kp ad H.length T.heap s₂.heap ∧ Fr n0 locs' ∧ FrameEnd s (.returned (v.map (rf ad))) s₂ locs' R.cells R.slots
section Rules
variable {l : Launch} {Z : State} {a0 : Array Value} {C : String} {lay : List (String × String)} {own mn : String} {bytes : ByteArray} {maxL : Nat} {ret : Option FieldType} {R : Room} {n0 ro : Nat} {Q : Option Value → List OwnC → Prop} {k n pc pc' : Nat} {L L' : List Slot} {S S' : List Value} {H H' : List OwnC}
theorem WP.weak (h : leL L' L) (nx : WP l Z C lay own mn bytes maxL ret R n0 ro Q k n pc L' S H) : WP l Z C lay own mn bytes maxL ret R n0 ro Q k n pc L S H :=
  fun p e s m args below meth c T locs ad Ls X A hr N hL hz => nx p e s m args below meth c T locs ad Ls X A hr N (LR.weak h hL) hz
theorem WP.of (hs : ∀ (p : Program) (e : Env) (s : State) (m : MethodId) (args : Array Value) (below : List Frame) (meth : Method) (c : Code) (T : State) (locs : List Loc) (ad : Nat → Addr) (Ls : Array Slot), Stand p l e R s m args below meth c T locs k n → Am Z own mn bytes maxL ret p s m meth c → LR ad L Ls → Ls.size = maxL →
      ∃ Ls', LR ad L' Ls' ∧ Ls'.size = maxL ∧ ∀ t, Steps p.tables e below (T.setTop (mkF m pc' Ls' (S'.map (rf ad)))) t → Steps p.tables e below (T.setTop (mkF m pc Ls (S.map (rf ad)))) t)
    (nx : WP l Z C lay own mn bytes maxL ret R n0 ro Q k n pc' L' S' H) : WP l Z C lay own mn bytes maxL ret R n0 ro Q k n pc L S H := by
  intro p e s m args below meth c T locs ad Ls X A hr N hL hz
  obtain ⟨Ls', hL', hz', st⟩ := hs p e s m args below meth c T locs ad Ls X A hL hz
  obtain ⟨s₂, v, H', locs', h1, h2⟩ := nx p e s m args below meth c T locs ad Ls' X A hr N hL' hz'
  exact ⟨s₂, v, H', locs', st _ h1, h2⟩
theorem WP.iload {j : Nat} {x : Int32} (hd : decode bytes pc = .ok (.iload j, 2)) (hl : L[j]? = some (.val (.int x))) (nx : WP l Z C lay own mn bytes maxL ret R n0 ro Q k n (pc + 2) L (.int x :: S) H) : WP l Z C lay own mn bytes maxL ret R n0 ro Q k n pc L (S) H :=
  WP.of (fun p e s m args below meth c T locs ad Ls X A hL hz => ⟨Ls, hL, hz, fun t ht => XS.iload X.here A.1 rfl (hb A.2.2.1 hd) (hL.2.1 _ _ hl) ht⟩) nx
theorem WP.iloadN {j : Fin 4} {x : Int32} (hd : decode bytes pc = .ok (.iload_n j, 1)) (hl : L[j.val]? = some (.val (.int x))) (nx : WP l Z C lay own mn bytes maxL ret R n0 ro Q k n (pc + 1) L (.int x :: S) H) : WP l Z C lay own mn bytes maxL ret R n0 ro Q k n pc L (S) H :=
  WP.of (fun p e s m args below meth c T locs ad Ls X A hL hz => ⟨Ls, hL, hz, fun t ht => XS.iloadN X.here A.1 rfl (hb A.2.2.1 hd) (hL.2.1 _ _ hl) ht⟩) nx
theorem WP.lload {j : Nat} {x : Int64} (hd : decode bytes pc = .ok (.lload j, 2)) (hl : L[j]? = some (.val (.long x))) (nx : WP l Z C lay own mn bytes maxL ret R n0 ro Q k n (pc + 2) L (.long x :: S) H) : WP l Z C lay own mn bytes maxL ret R n0 ro Q k n pc L (S) H :=
  WP.of (fun p e s m args below meth c T locs ad Ls X A hL hz => ⟨Ls, hL, hz, fun t ht => XT.lload X.here A.1 rfl (hb A.2.2.1 hd) (hL.2.1 _ _ hl) ht⟩) nx
theorem WP.lloadN {j : Fin 4} {x : Int64} (hd : decode bytes pc = .ok (.lload_n j, 1)) (hl : L[j.val]? = some (.val (.long x))) (nx : WP l Z C lay own mn bytes maxL ret R n0 ro Q k n (pc + 1) L (.long x :: S) H) : WP l Z C lay own mn bytes maxL ret R n0 ro Q k n pc L (S) H :=
  WP.of (fun p e s m args below meth c T locs ad Ls X A hL hz => ⟨Ls, hL, hz, fun t ht => XT.lloadN X.here A.1 rfl (hb A.2.2.1 hd) (hL.2.1 _ _ hl) ht⟩) nx
theorem WP.aload {j : Nat} {i : Nat} (hd : decode bytes pc = .ok (.aload j, 2)) (hl : L[j]? = some (.val (.ref i))) (nx : WP l Z C lay own mn bytes maxL ret R n0 ro Q k n (pc + 2) L (.ref i :: S) H) : WP l Z C lay own mn bytes maxL ret R n0 ro Q k n pc L (S) H :=
  WP.of (fun p e s m args below meth c T locs ad Ls X A hL hz => ⟨Ls, hL, hz, fun t ht => XS.aload X.here A.1 rfl (hb A.2.2.1 hd) (hL.2.1 _ _ hl) rfl ht⟩) nx
theorem WP.aloadN {j : Fin 4} {i : Nat} (hd : decode bytes pc = .ok (.aload_n j, 1)) (hl : L[j.val]? = some (.val (.ref i))) (nx : WP l Z C lay own mn bytes maxL ret R n0 ro Q k n (pc + 1) L (.ref i :: S) H) : WP l Z C lay own mn bytes maxL ret R n0 ro Q k n pc L (S) H :=
  WP.of (fun p e s m args below meth c T locs ad Ls X A hL hz => ⟨Ls, hL, hz, fun t ht => XS.aloadN X.here A.1 rfl (hb A.2.2.1 hd) (hL.2.1 _ _ hl) rfl ht⟩) nx
theorem WP.iconst {i : Int} (v : Int32) (hd : decode bytes pc = .ok (.iconst i, 1)) (hv : Int32.ofInt i = v) (nx : WP l Z C lay own mn bytes maxL ret R n0 ro Q k n (pc + 1) L (.int v :: S) H) : WP l Z C lay own mn bytes maxL ret R n0 ro Q k n pc L (S) H :=
  WP.of (fun p e s m args below meth c T locs ad Ls X A hL hz => ⟨Ls, hL, hz, fun t ht => XS.iconst X.here A.1 rfl (hb A.2.2.1 hd) (by rw [hv]; exact ht)⟩) nx
theorem WP.bipush {i : Int} (v : Int32) (hd : decode bytes pc = .ok (.bipush i, 2)) (hv : (Int8.ofInt i).toInt32 = v) (nx : WP l Z C lay own mn bytes maxL ret R n0 ro Q k n (pc + 2) L (.int v :: S) H) : WP l Z C lay own mn bytes maxL ret R n0 ro Q k n pc L (S) H :=
  WP.of (fun p e s m args below meth c T locs ad Ls X A hL hz => ⟨Ls, hL, hz, fun t ht => XS.bipush X.here A.1 rfl (hb A.2.2.1 hd) (by rw [hv]; exact ht)⟩) nx
theorem WP.sipush {i : Int} (v : Int32) (hd : decode bytes pc = .ok (.sipush i, 3)) (hv : (Int16.ofInt i).toInt32 = v) (nx : WP l Z C lay own mn bytes maxL ret R n0 ro Q k n (pc + 3) L (.int v :: S) H) : WP l Z C lay own mn bytes maxL ret R n0 ro Q k n pc L (S) H :=
  WP.of (fun p e s m args below meth c T locs ad Ls X A hL hz => ⟨Ls, hL, hz, fun t ht => XS.sipush X.here A.1 rfl (hb A.2.2.1 hd) (by rw [hv]; exact ht)⟩) nx
theorem WP.lconst {j : Fin 2} (v : Int64) (hd : decode bytes pc = .ok (.lconst j, 1)) (hv : Int64.ofNat j = v) (nx : WP l Z C lay own mn bytes maxL ret R n0 ro Q k n (pc + 1) L (.long v :: S) H) : WP l Z C lay own mn bytes maxL ret R n0 ro Q k n pc L (S) H :=
  WP.of (fun p e s m args below meth c T locs ad Ls X A hL hz => ⟨Ls, hL, hz, fun t ht => XT.lconst X.here A.1 rfl (hb A.2.2.1 hd) (by rw [hv]; exact ht)⟩) nx
theorem WP.ldc {idx : Nat} {v : Int32} (hd : decode bytes pc = .ok (.ldc idx, 2)) (hw : (Cond.constant own idx v).before a0 Z = true) (nx : WP l Z C lay own mn bytes maxL ret R n0 ro Q k n (pc + 2) L (.int v :: S) H) : WP l Z C lay own mn bytes maxL ret R n0 ro Q k n pc L (S) H :=
  WP.of (fun p e s m args below meth c T locs ad Ls X A hL hz => ⟨Ls, hL, hz, fun t ht => X.ldcInt A.1 A.2.2.2.2.2.2.1 (mvT A.2.1 hw) (g := mkF m pc Ls (S.map (rf ad))) rfl (hb A.2.2.1 hd) t ht⟩) nx
theorem WP.ldcw {idx : Nat} {v : Int32} (hd : decode bytes pc = .ok (.ldc_w idx, 3)) (hw : (Cond.constant own idx v).before a0 Z = true) (nx : WP l Z C lay own mn bytes maxL ret R n0 ro Q k n (pc + 3) L (.int v :: S) H) : WP l Z C lay own mn bytes maxL ret R n0 ro Q k n pc L (S) H :=
  WP.of (fun p e s m args below meth c T locs ad Ls X A hL hz => ⟨Ls, hL, hz, fun t ht => X.ldcwInt A.1 A.2.2.2.2.2.2.1 (mvT A.2.1 hw) (g := mkF m pc Ls (S.map (rf ad))) rfl (hb A.2.2.1 hd) t ht⟩) nx
theorem WP.ldc2 {idx : Nat} {v : Int64} (hd : decode bytes pc = .ok (.ldc2_w idx, 3)) (hw : (Cond.constantLong own idx v).before a0 Z = true) (nx : WP l Z C lay own mn bytes maxL ret R n0 ro Q k n (pc + 3) L (.long v :: S) H) : WP l Z C lay own mn bytes maxL ret R n0 ro Q k n pc L (S) H :=
  WP.of (fun p e s m args below meth c T locs ad Ls X A hL hz => ⟨Ls, hL, hz, fun t ht => X.ldc2Long A.1 A.2.2.2.2.2.2.1 (mvT A.2.1 hw) (g := mkF m pc Ls (S.map (rf ad))) rfl (hb A.2.2.1 hd) t ht⟩) nx
theorem WP.iadd {x y : Int32} (hd : decode bytes pc = .ok (.iadd, 1)) (nx : WP l Z C lay own mn bytes maxL ret R n0 ro Q k n (pc + 1) L (.int (x + y) :: S) H) : WP l Z C lay own mn bytes maxL ret R n0 ro Q k n pc L (.int y :: .int x :: S) H :=
  WP.of (fun p e s m args below meth c T locs ad Ls X A hL hz => ⟨Ls, hL, hz, fun t ht => XS.iadd X.here A.1 rfl (hb A.2.2.1 hd) rfl ht⟩) nx
theorem WP.ladd {x y : Int64} (hd : decode bytes pc = .ok (.ladd, 1)) (nx : WP l Z C lay own mn bytes maxL ret R n0 ro Q k n (pc + 1) L (.long (x + y) :: S) H) : WP l Z C lay own mn bytes maxL ret R n0 ro Q k n pc L (.long y :: .long x :: S) H :=
  WP.of (fun p e s m args below meth c T locs ad Ls X A hL hz => ⟨Ls, hL, hz, fun t ht => XT.ladd X.here A.1 rfl (hb A.2.2.1 hd) rfl ht⟩) nx
theorem WP.isub {x y : Int32} (hd : decode bytes pc = .ok (.isub, 1)) (nx : WP l Z C lay own mn bytes maxL ret R n0 ro Q k n (pc + 1) L (.int (x - y) :: S) H) : WP l Z C lay own mn bytes maxL ret R n0 ro Q k n pc L (.int y :: .int x :: S) H :=
  WP.of (fun p e s m args below meth c T locs ad Ls X A hL hz => ⟨Ls, hL, hz, fun t ht => XS.isub X.here A.1 rfl (hb A.2.2.1 hd) rfl ht⟩) nx
theorem WP.lsub {x y : Int64} (hd : decode bytes pc = .ok (.lsub, 1)) (nx : WP l Z C lay own mn bytes maxL ret R n0 ro Q k n (pc + 1) L (.long (x - y) :: S) H) : WP l Z C lay own mn bytes maxL ret R n0 ro Q k n pc L (.long y :: .long x :: S) H :=
  WP.of (fun p e s m args below meth c T locs ad Ls X A hL hz => ⟨Ls, hL, hz, fun t ht => XT.lsub X.here A.1 rfl (hb A.2.2.1 hd) rfl ht⟩) nx
theorem WP.imul {x y : Int32} (hd : decode bytes pc = .ok (.imul, 1)) (nx : WP l Z C lay own mn bytes maxL ret R n0 ro Q k n (pc + 1) L (.int (x * y) :: S) H) : WP l Z C lay own mn bytes maxL ret R n0 ro Q k n pc L (.int y :: .int x :: S) H :=
  WP.of (fun p e s m args below meth c T locs ad Ls X A hL hz => ⟨Ls, hL, hz, fun t ht => XS.imul X.here A.1 rfl (hb A.2.2.1 hd) rfl ht⟩) nx
theorem WP.lmul {x y : Int64} (hd : decode bytes pc = .ok (.lmul, 1)) (nx : WP l Z C lay own mn bytes maxL ret R n0 ro Q k n (pc + 1) L (.long (x * y) :: S) H) : WP l Z C lay own mn bytes maxL ret R n0 ro Q k n pc L (.long y :: .long x :: S) H :=
  WP.of (fun p e s m args below meth c T locs ad Ls X A hL hz => ⟨Ls, hL, hz, fun t ht => XT.lmul X.here A.1 rfl (hb A.2.2.1 hd) rfl ht⟩) nx
theorem WP.iand {x y : Int32} (hd : decode bytes pc = .ok (.iand, 1)) (nx : WP l Z C lay own mn bytes maxL ret R n0 ro Q k n (pc + 1) L (.int (x &&& y) :: S) H) : WP l Z C lay own mn bytes maxL ret R n0 ro Q k n pc L (.int y :: .int x :: S) H :=
  WP.of (fun p e s m args below meth c T locs ad Ls X A hL hz => ⟨Ls, hL, hz, fun t ht => XS.iand X.here A.1 rfl (hb A.2.2.1 hd) rfl ht⟩) nx
theorem WP.land {x y : Int64} (hd : decode bytes pc = .ok (.land, 1)) (nx : WP l Z C lay own mn bytes maxL ret R n0 ro Q k n (pc + 1) L (.long (x &&& y) :: S) H) : WP l Z C lay own mn bytes maxL ret R n0 ro Q k n pc L (.long y :: .long x :: S) H :=
  WP.of (fun p e s m args below meth c T locs ad Ls X A hL hz => ⟨Ls, hL, hz, fun t ht => XT.land X.here A.1 rfl (hb A.2.2.1 hd) rfl ht⟩) nx
theorem WP.ior {x y : Int32} (hd : decode bytes pc = .ok (.ior, 1)) (nx : WP l Z C lay own mn bytes maxL ret R n0 ro Q k n (pc + 1) L (.int (x ||| y) :: S) H) : WP l Z C lay own mn bytes maxL ret R n0 ro Q k n pc L (.int y :: .int x :: S) H :=
  WP.of (fun p e s m args below meth c T locs ad Ls X A hL hz => ⟨Ls, hL, hz, fun t ht => XT.ior X.here A.1 rfl (hb A.2.2.1 hd) rfl ht⟩) nx
theorem WP.lor {x y : Int64} (hd : decode bytes pc = .ok (.lor, 1)) (nx : WP l Z C lay own mn bytes maxL ret R n0 ro Q k n (pc + 1) L (.long (x ||| y) :: S) H) : WP l Z C lay own mn bytes maxL ret R n0 ro Q k n pc L (.long y :: .long x :: S) H :=
  WP.of (fun p e s m args below meth c T locs ad Ls X A hL hz => ⟨Ls, hL, hz, fun t ht => XT.lor X.here A.1 rfl (hb A.2.2.1 hd) rfl ht⟩) nx
theorem WP.ixor {x y : Int32} (hd : decode bytes pc = .ok (.ixor, 1)) (nx : WP l Z C lay own mn bytes maxL ret R n0 ro Q k n (pc + 1) L (.int (x ^^^ y) :: S) H) : WP l Z C lay own mn bytes maxL ret R n0 ro Q k n pc L (.int y :: .int x :: S) H :=
  WP.of (fun p e s m args below meth c T locs ad Ls X A hL hz => ⟨Ls, hL, hz, fun t ht => XT.ixor X.here A.1 rfl (hb A.2.2.1 hd) rfl ht⟩) nx
theorem WP.lxor {x y : Int64} (hd : decode bytes pc = .ok (.lxor, 1)) (nx : WP l Z C lay own mn bytes maxL ret R n0 ro Q k n (pc + 1) L (.long (x ^^^ y) :: S) H) : WP l Z C lay own mn bytes maxL ret R n0 ro Q k n pc L (.long y :: .long x :: S) H :=
  WP.of (fun p e s m args below meth c T locs ad Ls X A hL hz => ⟨Ls, hL, hz, fun t ht => XT.lxor X.here A.1 rfl (hb A.2.2.1 hd) rfl ht⟩) nx
theorem WP.idiv {x y : Int32} (hd : decode bytes pc = .ok (.idiv, 1)) (hy : ¬ y = 0) (nx : WP l Z C lay own mn bytes maxL ret R n0 ro Q k n (pc + 1) L (.int (x / y) :: S) H) : WP l Z C lay own mn bytes maxL ret R n0 ro Q k n pc L (.int y :: .int x :: S) H :=
  WP.of (fun p e s m args below meth c T locs ad Ls X A hL hz => ⟨Ls, hL, hz, fun t ht => XS.idiv X.here A.1 rfl (hb A.2.2.1 hd) rfl hy ht⟩) nx
theorem WP.irem {x y : Int32} (hd : decode bytes pc = .ok (.irem, 1)) (hy : ¬ y = 0) (nx : WP l Z C lay own mn bytes maxL ret R n0 ro Q k n (pc + 1) L (.int (x % y) :: S) H) : WP l Z C lay own mn bytes maxL ret R n0 ro Q k n pc L (.int y :: .int x :: S) H :=
  WP.of (fun p e s m args below meth c T locs ad Ls X A hL hz => ⟨Ls, hL, hz, fun t ht => iremM X A.1 rfl (hb A.2.2.1 hd) rfl hy ht⟩) nx
theorem WP.ldiv {x y : Int64} (hd : decode bytes pc = .ok (.ldiv, 1)) (hy : ¬ y = 0) (nx : WP l Z C lay own mn bytes maxL ret R n0 ro Q k n (pc + 1) L (.long (x / y) :: S) H) : WP l Z C lay own mn bytes maxL ret R n0 ro Q k n pc L (.long y :: .long x :: S) H :=
  WP.of (fun p e s m args below meth c T locs ad Ls X A hL hz => ⟨Ls, hL, hz, fun t ht => XT.ldiv X.here A.1 rfl (hb A.2.2.1 hd) rfl hy ht⟩) nx
theorem lrem_mod (x y : Int64) : x - (x / y) * y = x % y := by
  apply Int64.toInt_inj.mp
  have h1 := Int64.le_toInt (x % y)
  have h2 := Int64.toInt_lt (x % y)
  rw [Int64.toInt_sub, Int64.toInt_mul, Int64.toInt_div, Int.bmod_mul_bmod, Int.sub_bmod_bmod, Int.mul_comm (x.toInt.tdiv y.toInt), ← Int.tmod_def, ← Int64.toInt_mod]
  exact Int.bmod_eq_of_le_mul_two (by omega) (by omega)
theorem WP.lrem {x y : Int64} (hd : decode bytes pc = .ok (.lrem, 1)) (hy : ¬ y = 0) (nx : WP l Z C lay own mn bytes maxL ret R n0 ro Q k n (pc + 1) L (.long (x % y) :: S) H) : WP l Z C lay own mn bytes maxL ret R n0 ro Q k n pc L (.long y :: .long x :: S) H :=
  WP.of (fun p e s m args below meth c T locs ad Ls X A hL hz => ⟨Ls, hL, hz, fun t ht => XT.lrem X.here A.1 rfl (hb A.2.2.1 hd) rfl hy (by rw [lrem_mod]; exact ht)⟩) nx
theorem WP.ishl {x y : Int32} (hd : decode bytes pc = .ok (.ishl, 1)) (nx : WP l Z C lay own mn bytes maxL ret R n0 ro Q k n (pc + 1) L (.int (x <<< (y &&& 31)) :: S) H) : WP l Z C lay own mn bytes maxL ret R n0 ro Q k n pc L (.int y :: .int x :: S) H :=
  WP.of (fun p e s m args below meth c T locs ad Ls X A hL hz => ⟨Ls, hL, hz, fun t ht => XT.ishl X.here A.1 rfl (hb A.2.2.1 hd) rfl ht⟩) nx
theorem WP.ishr {x y : Int32} (hd : decode bytes pc = .ok (.ishr, 1)) (nx : WP l Z C lay own mn bytes maxL ret R n0 ro Q k n (pc + 1) L (.int (x >>> (y &&& 31)) :: S) H) : WP l Z C lay own mn bytes maxL ret R n0 ro Q k n pc L (.int y :: .int x :: S) H :=
  WP.of (fun p e s m args below meth c T locs ad Ls X A hL hz => ⟨Ls, hL, hz, fun t ht => XT.ishr X.here A.1 rfl (hb A.2.2.1 hd) rfl ht⟩) nx
theorem WP.iushr {x y : Int32} (hd : decode bytes pc = .ok (.iushr, 1)) (nx : WP l Z C lay own mn bytes maxL ret R n0 ro Q k n (pc + 1) L (.int (XT.ushr x y) :: S) H) : WP l Z C lay own mn bytes maxL ret R n0 ro Q k n pc L (.int y :: .int x :: S) H :=
  WP.of (fun p e s m args below meth c T locs ad Ls X A hL hz => ⟨Ls, hL, hz, fun t ht => XT.iushr X.here A.1 rfl (hb A.2.2.1 hd) rfl ht⟩) nx
theorem WP.lshl {x : Int64} {y : Int32} (hd : decode bytes pc = .ok (.lshl, 1)) (nx : WP l Z C lay own mn bytes maxL ret R n0 ro Q k n (pc + 1) L (.long (x <<< (y.toInt64 &&& 63)) :: S) H) : WP l Z C lay own mn bytes maxL ret R n0 ro Q k n pc L (.int y :: .long x :: S) H :=
  WP.of (fun p e s m args below meth c T locs ad Ls X A hL hz => ⟨Ls, hL, hz, fun t ht => XT.lshl X.here A.1 rfl (hb A.2.2.1 hd) rfl ht⟩) nx
theorem WP.lshr {x : Int64} {y : Int32} (hd : decode bytes pc = .ok (.lshr, 1)) (nx : WP l Z C lay own mn bytes maxL ret R n0 ro Q k n (pc + 1) L (.long (x >>> (y.toInt64 &&& 63)) :: S) H) : WP l Z C lay own mn bytes maxL ret R n0 ro Q k n pc L (.int y :: .long x :: S) H :=
  WP.of (fun p e s m args below meth c T locs ad Ls X A hL hz => ⟨Ls, hL, hz, fun t ht => XT.lshr X.here A.1 rfl (hb A.2.2.1 hd) rfl ht⟩) nx
theorem WP.lushr {x : Int64} {y : Int32} (hd : decode bytes pc = .ok (.lushr, 1)) (nx : WP l Z C lay own mn bytes maxL ret R n0 ro Q k n (pc + 1) L (.long (XT.ushrL x y) :: S) H) : WP l Z C lay own mn bytes maxL ret R n0 ro Q k n pc L (.int y :: .long x :: S) H :=
  WP.of (fun p e s m args below meth c T locs ad Ls X A hL hz => ⟨Ls, hL, hz, fun t ht => XT.lushr X.here A.1 rfl (hb A.2.2.1 hd) rfl ht⟩) nx
theorem WP.ineg {x : Int32} (hd : decode bytes pc = .ok (.ineg, 1)) (nx : WP l Z C lay own mn bytes maxL ret R n0 ro Q k n (pc + 1) L (.int (-x) :: S) H) : WP l Z C lay own mn bytes maxL ret R n0 ro Q k n pc L (.int x :: S) H :=
  WP.of (fun p e s m args below meth c T locs ad Ls X A hL hz => ⟨Ls, hL, hz, fun t ht => XS.ineg X.here A.1 rfl (hb A.2.2.1 hd) rfl ht⟩) nx
theorem WP.lneg {x : Int64} (hd : decode bytes pc = .ok (.lneg, 1)) (nx : WP l Z C lay own mn bytes maxL ret R n0 ro Q k n (pc + 1) L (.long (-x) :: S) H) : WP l Z C lay own mn bytes maxL ret R n0 ro Q k n pc L (.long x :: S) H :=
  WP.of (fun p e s m args below meth c T locs ad Ls X A hL hz => ⟨Ls, hL, hz, fun t ht => XT.lneg X.here A.1 rfl (hb A.2.2.1 hd) rfl ht⟩) nx
theorem WP.i2l {x : Int32} (hd : decode bytes pc = .ok (.i2l, 1)) (nx : WP l Z C lay own mn bytes maxL ret R n0 ro Q k n (pc + 1) L (.long x.toInt64 :: S) H) : WP l Z C lay own mn bytes maxL ret R n0 ro Q k n pc L (.int x :: S) H :=
  WP.of (fun p e s m args below meth c T locs ad Ls X A hL hz => ⟨Ls, hL, hz, fun t ht => XT.i2l X.here A.1 rfl (hb A.2.2.1 hd) rfl ht⟩) nx
theorem WP.l2i {x : Int64} (hd : decode bytes pc = .ok (.l2i, 1)) (nx : WP l Z C lay own mn bytes maxL ret R n0 ro Q k n (pc + 1) L (.int x.toInt32 :: S) H) : WP l Z C lay own mn bytes maxL ret R n0 ro Q k n pc L (.long x :: S) H :=
  WP.of (fun p e s m args below meth c T locs ad Ls X A hL hz => ⟨Ls, hL, hz, fun t ht => XT.l2i X.here A.1 rfl (hb A.2.2.1 hd) rfl ht⟩) nx
theorem WP.lcmp {x y : Int64} (hd : decode bytes pc = .ok (.lcmp, 1)) (nx : WP l Z C lay own mn bytes maxL ret R n0 ro Q k n (pc + 1) L (.int (XT.cmpL x y) :: S) H) : WP l Z C lay own mn bytes maxL ret R n0 ro Q k n pc L (.long y :: .long x :: S) H :=
  WP.of (fun p e s m args below meth c T locs ad Ls X A hL hz => ⟨Ls, hL, hz, fun t ht => XT.lcmp X.here A.1 rfl (hb A.2.2.1 hd) rfl ht⟩) nx
theorem WP.dup {v : Value} (hd : decode bytes pc = .ok (.dup, 1)) (hc : v.category = 1) (nx : WP l Z C lay own mn bytes maxL ret R n0 ro Q k n (pc + 1) L (v :: v :: S) H) : WP l Z C lay own mn bytes maxL ret R n0 ro Q k n pc L (v :: S) H :=
  WP.of (fun p e s m args below meth c T locs ad Ls X A hL hz => ⟨Ls, hL, hz, fun t ht => XS.dup X.here A.1 rfl (hb A.2.2.1 hd) rfl (by rw [rf_cat]; exact hc) ht⟩) nx
theorem WP.dup2 {v w : Value} (hd : decode bytes pc = .ok (.dup2, 1)) (hc : v.category = 1) (hc' : w.category = 1) (nx : WP l Z C lay own mn bytes maxL ret R n0 ro Q k n (pc + 1) L (v :: w :: v :: w :: S) H) : WP l Z C lay own mn bytes maxL ret R n0 ro Q k n pc L (v :: w :: S) H :=
  WP.of (fun p e s m args below meth c T locs ad Ls X A hL hz => ⟨Ls, hL, hz, fun t ht => XT.dup2 X.here A.1 rfl (hb A.2.2.1 hd) rfl (by rw [rf_cat]; exact hc) (by rw [rf_cat]; exact hc') ht⟩) nx
theorem WP.dup2L {x : Int64} (hd : decode bytes pc = .ok (.dup2, 1)) (nx : WP l Z C lay own mn bytes maxL ret R n0 ro Q k n (pc + 1) L (.long x :: .long x :: S) H) : WP l Z C lay own mn bytes maxL ret R n0 ro Q k n pc L (.long x :: S) H :=
  WP.of (fun p e s m args below meth c T locs ad Ls X A hL hz => ⟨Ls, hL, hz, fun t ht => XT.dup2L X.here A.1 rfl (hb A.2.2.1 hd) rfl ht⟩) nx
theorem WP.pop {v : Value} (hd : decode bytes pc = .ok (.pop, 1)) (hc : v.category = 1) (nx : WP l Z C lay own mn bytes maxL ret R n0 ro Q k n (pc + 1) L (S) H) : WP l Z C lay own mn bytes maxL ret R n0 ro Q k n pc L (v :: S) H :=
  WP.of (fun p e s m args below meth c T locs ad Ls X A hL hz => ⟨Ls, hL, hz, fun t ht => XT.pop X.here A.1 rfl (hb A.2.2.1 hd) rfl (by rw [rf_cat]; exact hc) ht⟩) nx
theorem WP.istore {j : Nat} {x : Int32} (hd : decode bytes pc = .ok (.istore j, 2)) (hi : j < L.length) (hL' : st1 L j (.int x) = L') (nx : WP l Z C lay own mn bytes maxL ret R n0 ro Q k n (pc + 2) L' S H) : WP l Z C lay own mn bytes maxL ret R n0 ro Q k n pc L (.int x :: S) H :=
  WP.of (fun p e s m args below meth c T locs ad Ls X A hL hz => by
    obtain ⟨Ls', e1, e2, e3⟩ := hL.store1 hi (v := .int x) rfl
    exact ⟨Ls', hL' ▸ e2, e3.trans hz, fun t ht => XS.istore X.here A.1 rfl (hb A.2.2.1 hd) rfl e1 ht⟩) nx
theorem WP.istoreN {j : Fin 4} {x : Int32} (hd : decode bytes pc = .ok (.istore_n j, 1)) (hi : j.val < L.length) (hL' : st1 L j.val (.int x) = L') (nx : WP l Z C lay own mn bytes maxL ret R n0 ro Q k n (pc + 1) L' S H) : WP l Z C lay own mn bytes maxL ret R n0 ro Q k n pc L (.int x :: S) H :=
  WP.of (fun p e s m args below meth c T locs ad Ls X A hL hz => by
    obtain ⟨Ls', e1, e2, e3⟩ := hL.store1 hi (v := .int x) rfl
    exact ⟨Ls', hL' ▸ e2, e3.trans hz, fun t ht => XS.istoreN X.here A.1 rfl (hb A.2.2.1 hd) rfl e1 ht⟩) nx
theorem WP.astore {j : Nat} {i : Nat} (hd : decode bytes pc = .ok (.astore j, 2)) (hi : j < L.length) (hL' : st1 L j (.ref i) = L') (nx : WP l Z C lay own mn bytes maxL ret R n0 ro Q k n (pc + 2) L' S H) : WP l Z C lay own mn bytes maxL ret R n0 ro Q k n pc L (.ref i :: S) H :=
  WP.of (fun p e s m args below meth c T locs ad Ls X A hL hz => by
    obtain ⟨Ls', e1, e2, e3⟩ := hL.store1 hi (v := .ref i) rfl
    exact ⟨Ls', hL' ▸ e2, e3.trans hz, fun t ht => XS.astore X.here A.1 rfl (hb A.2.2.1 hd) rfl rfl e1 ht⟩) nx
theorem WP.astoreN {j : Fin 4} {i : Nat} (hd : decode bytes pc = .ok (.astore_n j, 1)) (hi : j.val < L.length) (hL' : st1 L j.val (.ref i) = L') (nx : WP l Z C lay own mn bytes maxL ret R n0 ro Q k n (pc + 1) L' S H) : WP l Z C lay own mn bytes maxL ret R n0 ro Q k n pc L (.ref i :: S) H :=
  WP.of (fun p e s m args below meth c T locs ad Ls X A hL hz => by
    obtain ⟨Ls', e1, e2, e3⟩ := hL.store1 hi (v := .ref i) rfl
    exact ⟨Ls', hL' ▸ e2, e3.trans hz, fun t ht => XS.astoreN X.here A.1 rfl (hb A.2.2.1 hd) rfl rfl e1 ht⟩) nx
theorem WP.lstore {j : Nat} {x : Int64} (hd : decode bytes pc = .ok (.lstore j, 2)) (hi : j + 1 < L.length) (hL' : st2 L j (.long x) = L') (nx : WP l Z C lay own mn bytes maxL ret R n0 ro Q k n (pc + 2) L' S H) : WP l Z C lay own mn bytes maxL ret R n0 ro Q k n pc L (.long x :: S) H :=
  WP.of (fun p e s m args below meth c T locs ad Ls X A hL hz => by
    obtain ⟨Ls', e1, e2, e3⟩ := hL.store2 hi (v := .long x) rfl
    exact ⟨Ls', hL' ▸ e2, e3.trans hz, fun t ht => XT.lstore X.here A.1 rfl (hb A.2.2.1 hd) rfl e1 ht⟩) nx
theorem WP.lstoreN {j : Fin 4} {x : Int64} (hd : decode bytes pc = .ok (.lstore_n j, 1)) (hi : j.val + 1 < L.length) (hL' : st2 L j.val (.long x) = L') (nx : WP l Z C lay own mn bytes maxL ret R n0 ro Q k n (pc + 1) L' S H) : WP l Z C lay own mn bytes maxL ret R n0 ro Q k n pc L (.long x :: S) H :=
  WP.of (fun p e s m args below meth c T locs ad Ls X A hL hz => by
    obtain ⟨Ls', e1, e2, e3⟩ := hL.store2 hi (v := .long x) rfl
    exact ⟨Ls', hL' ▸ e2, e3.trans hz, fun t ht => XT.lstoreN X.here A.1 rfl (hb A.2.2.1 hd) rfl e1 ht⟩) nx
theorem WP.iinc {j : Nat} {cst : Int} {x : Int32} (v : Int32) (hd : decode bytes pc = .ok (.iinc j cst, 3)) (hv : Int32.ofInt cst = v) (hl : L[j]? = some (.val (.int x))) (hL' : st1 L j (.int (x + v)) = L') (nx : WP l Z C lay own mn bytes maxL ret R n0 ro Q k n (pc + 3) L' S H) : WP l Z C lay own mn bytes maxL ret R n0 ro Q k n pc L S H :=
  WP.of (fun p e s m args below meth c T locs ad Ls X A hL hz => by
    subst hv
    obtain ⟨Ls', e1, e2, e3⟩ := hL.store1 (get_lt hl) (v := .int (x + Int32.ofInt cst)) rfl
    exact ⟨Ls', hL' ▸ e2, e3.trans hz, fun t ht => XS.iinc X.here A.1 rfl (hb A.2.2.1 hd) (hL.2.1 _ _ hl) e1 ht⟩) nx
theorem iincW {tb : Tables} [Ours tb] {e : Env} {below : List Frame} {T target : State} {m : MethodId} {c : Code} {g : JFrame} (h : At T m c below) (hx : tb.exec = Jvm.exec) (hg : g.method = m) {k : Nat} {cst : Int} {x : Int32} {l' : Array Slot} (hd : decode c.code g.pc = .ok (.iinc k cst, 6)) (hl : g.locals[k]? = some (.val (.int x))) (hl' : storeLocals g.locals k (.int (x + Int32.ofInt cst)) = some l')
    (hr : Steps tb e below (T.setTop { g with pc := g.pc + 6, locals := l' }) target) : Steps tb e below (T.setTop g) target := by
  subst hg
  jvm_step h [h.top, hx, hd, hl, hl']
  exact hr
theorem WP.iincW {j : Nat} {cst : Int} {x : Int32} (v : Int32) (hd : decode bytes pc = .ok (.iinc j cst, 6)) (hv : Int32.ofInt cst = v) (hl : L[j]? = some (.val (.int x))) (hL' : st1 L j (.int (x + v)) = L') (nx : WP l Z C lay own mn bytes maxL ret R n0 ro Q k n (pc + 6) L' S H) : WP l Z C lay own mn bytes maxL ret R n0 ro Q k n pc L S H :=
  WP.of (fun p e s m args below meth c T locs ad Ls X A hL hz => by
    subst hv
    obtain ⟨Ls', e1, e2, e3⟩ := hL.store1 (get_lt hl) (v := .int (x + Int32.ofInt cst)) rfl
    exact ⟨Ls', hL' ▸ e2, e3.trans hz, fun t ht => Own.iincW X.here A.1 rfl (hb A.2.2.1 hd) (hL.2.1 _ _ hl) e1 ht⟩) nx
theorem WP.goto {o : Int} (hd : decode bytes pc = .ok (.goto o, 3)) (ho : 0 ≤ (pc : Int) + o) (hp : ((pc : Int) + o).toNat = pc') (nx : WP l Z C lay own mn bytes maxL ret R n0 ro Q k n pc' L S H) : WP l Z C lay own mn bytes maxL ret R n0 ro Q k n pc L S H :=
  WP.of (fun p e s m args below meth c T locs ad Ls X A hL hz => ⟨Ls, hL, hz, fun t ht => XS.goto X.here A.1 rfl rfl (hb A.2.2.1 hd) ho hp ht⟩) nx
theorem WP.ifY {cd : ClassFile.Cond} {x : Int32} {o : Int} (hd : decode bytes pc = .ok (.ifCond cd o, 3)) (hc : ifCond.holds cd x = true) (ho : 0 ≤ (pc : Int) + o) (hp : ((pc : Int) + o).toNat = pc') (nx : WP l Z C lay own mn bytes maxL ret R n0 ro Q k n pc' L S H) : WP l Z C lay own mn bytes maxL ret R n0 ro Q k n pc L (.int x :: S) H :=
  WP.of (fun p e s m args below meth c T locs ad Ls X A hL hz => ⟨Ls, hL, hz, fun t ht => XS.ifYes X.here A.1 rfl rfl (hb A.2.2.1 hd) rfl hc ho hp ht⟩) nx
theorem WP.ifN {cd : ClassFile.Cond} {x : Int32} {o : Int} (hd : decode bytes pc = .ok (.ifCond cd o, 3)) (hc : ifCond.holds cd x = false) (nx : WP l Z C lay own mn bytes maxL ret R n0 ro Q k n (pc + 3) L S H) : WP l Z C lay own mn bytes maxL ret R n0 ro Q k n pc L (.int x :: S) H :=
  WP.of (fun p e s m args below meth c T locs ad Ls X A hL hz => ⟨Ls, hL, hz, fun t ht => XS.ifNo X.here A.1 rfl (hb A.2.2.1 hd) rfl hc ht⟩) nx
theorem WP.icmpY {cd : ClassFile.Cond} {x y : Int32} {o : Int} (hd : decode bytes pc = .ok (.if_icmp cd o, 3)) (hc : if_icmp.holds cd x y = true) (ho : 0 ≤ (pc : Int) + o) (hp : ((pc : Int) + o).toNat = pc') (nx : WP l Z C lay own mn bytes maxL ret R n0 ro Q k n pc' L S H) : WP l Z C lay own mn bytes maxL ret R n0 ro Q k n pc L (.int y :: .int x :: S) H :=
  WP.of (fun p e s m args below meth c T locs ad Ls X A hL hz => ⟨Ls, hL, hz, fun t ht => XS.icmpYes X.here A.1 rfl rfl (hb A.2.2.1 hd) rfl hc ho hp ht⟩) nx
theorem WP.icmpN {cd : ClassFile.Cond} {x y : Int32} {o : Int} (hd : decode bytes pc = .ok (.if_icmp cd o, 3)) (hc : if_icmp.holds cd x y = false) (nx : WP l Z C lay own mn bytes maxL ret R n0 ro Q k n (pc + 3) L S H) : WP l Z C lay own mn bytes maxL ret R n0 ro Q k n pc L (.int y :: .int x :: S) H :=
  WP.of (fun p e s m args below meth c T locs ad Ls X A hL hz => ⟨Ls, hL, hz, fun t ht => XS.icmpNo X.here A.1 rfl (hb A.2.2.1 hd) rfl hc ht⟩) nx
theorem WP.nonnull {i : Nat} {o : Int} (hd : decode bytes pc = .ok (.ifnonnull o, 3)) (ho : 0 ≤ (pc : Int) + o) (hp : ((pc : Int) + o).toNat = pc') (nx : WP l Z C lay own mn bytes maxL ret R n0 ro Q k n pc' L S H) : WP l Z C lay own mn bytes maxL ret R n0 ro Q k n pc L (.ref i :: S) H :=
  WP.of (fun p e s m args below meth c T locs ad Ls X A hL hz => ⟨Ls, hL, hz, fun t ht => XT.ifnonnullYes X.here A.1 rfl rfl (hb A.2.2.1 hd) rfl ho hp ht⟩) nx
theorem WP.tswIn {dflt low high o : Int} {offs : Array Int} {len : Nat} {i : Int32} (hd : decode bytes pc = .ok (.tableswitch dflt low high offs, len)) (hin : ¬ (i.toInt < low ∨ i.toInt > high)) (hoff : offs[(i.toInt - low).toNat]? = some o) (ho : 0 ≤ (pc : Int) + o) (hp : ((pc : Int) + o).toNat = pc') (nx : WP l Z C lay own mn bytes maxL ret R n0 ro Q k n pc' L S H) : WP l Z C lay own mn bytes maxL ret R n0 ro Q k n pc L (.int i :: S) H :=
  WP.of (fun p e s m args below meth c T locs ad Ls X A hL hz => ⟨Ls, hL, hz, fun t ht => XS.tswIn X.here A.1 rfl rfl (hb A.2.2.1 hd) rfl hin hoff ho hp ht⟩) nx
theorem WP.tswOut {dflt low high : Int} {offs : Array Int} {len : Nat} {i : Int32} (hd : decode bytes pc = .ok (.tableswitch dflt low high offs, len)) (hout : i.toInt < low ∨ i.toInt > high) (ho : 0 ≤ (pc : Int) + dflt) (hp : ((pc : Int) + dflt).toNat = pc') (nx : WP l Z C lay own mn bytes maxL ret R n0 ro Q k n pc' L S H) : WP l Z C lay own mn bytes maxL ret R n0 ro Q k n pc L (.int i :: S) H :=
  WP.of (fun p e s m args below meth c T locs ad Ls X A hL hz => ⟨Ls, hL, hz, fun t ht => XS.tswOut X.here A.1 rfl rfl (hb A.2.2.1 hd) rfl hout ho hp ht⟩) nx
theorem tsw_miss {i : Int32} {low high : Int} (h : ∀ z : Int, low ≤ z → z ≤ high → ¬ i = Int32.ofInt z) : i.toInt < low ∨ i.toInt > high := by
  by_cases a : i.toInt < low
  · exact Or.inl a
  · by_cases b : i.toInt > high
    · exact Or.inr b
    · exact absurd (by rw [Int32.ofInt_toInt]) (h i.toInt (by omega) (by omega))
theorem WP.moved (hs : ∀ (p : Program) (e : Env) (s : State) (m : MethodId) (args : Array Value) (below : List Frame) (meth : Method) (c : Code) (T : State) (locs : List Loc) (ad : Nat → Addr) (Ls : Array Slot), Stand p l e R s m args below meth c T locs k n → Am Z own mn bytes maxL ret p s m meth c → HR Z C lay n0 ro ad H T.heap → Fr n0 locs → LR ad L Ls → Ls.size = maxL →
      ∃ T' locs', Stand p l e R s m args below meth c T' locs' k' n' ∧ HR Z C lay n0 ro ad H' T'.heap ∧ Kp ad H.length T.heap T'.heap ∧ Fr n0 locs' ∧ ∀ t, Steps p.tables e below (T'.setTop (mkF m pc' Ls (S'.map (rf ad)))) t → Steps p.tables e below (T.setTop (mkF m pc Ls (S.map (rf ad)))) t)
    (nx : WP l Z C lay own mn bytes maxL ret R n0 ro Q k' n' pc' L S' H') : WP l Z C lay own mn bytes maxL ret R n0 ro Q k n pc L S H := by
  intro p e s m args below meth c T locs ad Ls X A hr N hL hz
  obtain ⟨T', locs', X', hr', K, N', st⟩ := hs p e s m args below meth c T locs ad Ls X A hr N hL hz
  obtain ⟨s₂, v, H2, locs2, h1, h2, h3, h4, h5, h6, h7⟩ := nx p e s m args below meth c T' locs' ad Ls X' A hr' N' hL hz
  exact ⟨s₂, v, H2, locs2, st _ h1, h2, h3, h4, h5, Kp.trans hr K h6, h7⟩
theorem WP.getfield {idx i j : Nat} {f d : String} {vs : List Value} {v : Value} (hd : decode bytes pc = .ok (.getfield idx, 3)) (hw : (Cond.fieldLink own idx C f d).before a0 Z = true) (hj : lay[j]? = some (f, d)) (hH : H[i]? = some (.inl vs)) (hv : vs[j]? = some v) (nx : WP l Z C lay own mn bytes maxL ret R n0 ro Q k n (pc + 3) L (v :: S) H) : WP l Z C lay own mn bytes maxL ret R n0 ro Q k n pc L (.ref i :: S) H :=
  WP.moved (fun p e s m args below meth c T locs ad Ls X A hr N hL hz => by
    have F := (hr.1 i _ hH).2 j _ v hj hv
    obtain ⟨T', X', e', st⟩ := getF X A.1 A.2.1 A.2.2.2.2.2.2.1 (host := "") (Or.inl hw) Via.refl rfl F (g := mkF m pc Ls (.ref (ad i) :: S.map (rf ad))) rfl rfl (hb A.2.2.1 hd)
    exact ⟨T', locs, X', by rw [e']; exact hr, by rw [e']; exact Kp.refl _ _ _, N, fun t ht => st t ht⟩) nx
theorem WP.iaload {i : Nat} {xs : List Int32} {j x : Int32} (hd : decode bytes pc = .ok (.iaload, 1)) (hH : H[i]? = some (cI xs)) (hx : rd xs j = some x) (nx : WP l Z C lay own mn bytes maxL ret R n0 ro Q k n (pc + 1) L (.int x :: S) H) : WP l Z C lay own mn bytes maxL ret R n0 ro Q k n pc L (.int j :: .ref i :: S) H :=
  WP.moved (fun p e s m args below meth c T locs ad Ls X A hr N hL hz => by
    obtain ⟨cl, Ar, hsl⟩ := hr.1 i _ hH
    obtain ⟨q1, q2⟩ := rd_slots hsl hx
    exact ⟨T, locs, X, hr, Kp.refl _ _ _, N, fun t ht => X.iaload A.1 (j := j) Ar.1 (State.isArrayOf_alike A.2.1.alike Ar.2.1) Ar.2.2 q1 q2 (g := mkF m pc Ls (.int j :: .ref (ad i) :: S.map (rf ad))) rfl rfl (hb A.2.2.1 hd) _ ht⟩) nx
theorem WP.laload {i : Nat} {xs : List Int64} {j : Int32} {x : Int64} (hd : decode bytes pc = .ok (.laload, 1)) (hH : H[i]? = some (cJ xs)) (hx : rd xs j = some x) (nx : WP l Z C lay own mn bytes maxL ret R n0 ro Q k n (pc + 1) L (.long x :: S) H) : WP l Z C lay own mn bytes maxL ret R n0 ro Q k n pc L (.int j :: .ref i :: S) H :=
  WP.moved (fun p e s m args below meth c T locs ad Ls X A hr N hL hz => by
    obtain ⟨cl, Ar, hsl⟩ := hr.1 i _ hH
    obtain ⟨q1, q2⟩ := rd_slots hsl hx
    exact ⟨T, locs, X, hr, Kp.refl _ _ _, N, fun t ht => X.laload A.1 (j := j) Ar.1 (State.isArrayOf_alike A.2.1.alike Ar.2.1) Ar.2.2 q1 q2 (g := mkF m pc Ls (.int j :: .ref (ad i) :: S.map (rf ad))) rfl rfl (hb A.2.2.1 hd) _ ht⟩) nx
theorem baloadZ {p : Program} {e : Env} {s : State} {m : MethodId} {args : Array Value} {below : List Frame} {meth : Method} {c : Code} {T : State} {locs : List Loc} {cells slots : Nat} (X : Stand p l e R s m args below meth c T locs cells slots) (hexec : p.tables.exec = Jvm.exec) {a : Addr} {cell : Cell} {j : Int32} {v : Value} (hcell : T.heap[a]? = some cell) (harr : s.isArrayOf cell .boolean) (hknown : cell.vm ≠ .unknown)
    (hin : ¬ (j < 0 ∨ cell.slots.size ≤ j.toNatClampNeg)) (hv : cell.slots[j.toNatClampNeg]? = some v) {g : JFrame} (hg : g.method = m) {rest : List Value} (hstack : g.stack = .int j :: .ref a :: rest) (hdg : decode c.code g.pc = .ok (.baload, 1)) (target : State)
    (hrest : Steps p.tables e below (T.setTop { g with pc := g.pc + 1, stack := v :: rest }) target) : Steps p.tables e below (T.setTop g) target := by
  have hT := State.isArrayOf_alike X.warmed.alike harr
  subst hg
  jvm_step X.here [hexec, hdg, baload.wp_booleans (e := e) (s := T) (f := g) X.here.top hstack hcell hT hin hknown hv]
  exact hrest
theorem WP.baload {i : Nat} {xs : List Int32} {j x : Int32} (hd : decode bytes pc = .ok (.baload, 1)) (hH : H[i]? = some (cZ xs)) (hx : rd xs j = some x) (nx : WP l Z C lay own mn bytes maxL ret R n0 ro Q k n (pc + 1) L (.int x :: S) H) : WP l Z C lay own mn bytes maxL ret R n0 ro Q k n pc L (.int j :: .ref i :: S) H :=
  WP.moved (fun p e s m args below meth c T locs ad Ls X A hr N hL hz => by
    obtain ⟨cl, Ar, hsl⟩ := hr.1 i _ hH
    obtain ⟨q1, q2⟩ := rd_slots hsl hx
    exact ⟨T, locs, X, hr, Kp.refl _ _ _, N, fun t ht => baloadZ X A.1 (j := j) Ar.1 (State.isArrayOf_alike A.2.1.alike Ar.2.1) Ar.2.2 q1 q2 (g := mkF m pc Ls (.int j :: .ref (ad i) :: S.map (rf ad))) rfl rfl (hb A.2.2.1 hd) _ ht⟩) nx
theorem WP.arraylength {i : Nat} {xs : List Int32} (hd : decode bytes pc = .ok (.arraylength, 1)) (hH : H[i]? = some (cI xs)) (nx : WP l Z C lay own mn bytes maxL ret R n0 ro Q k n (pc + 1) L (.int xs.length.toInt32 :: S) H) : WP l Z C lay own mn bytes maxL ret R n0 ro Q k n pc L (.ref i :: S) H :=
  WP.moved (fun p e s m args below meth c T locs ad Ls X A hr N hL hz => by
    obtain ⟨cl, Ar, hsl⟩ := hr.1 i _ hH
    have e1 : cl.slots.size = xs.length := by rw [← Array.length_toList, hsl, List.length_map]
    refine ⟨T, locs, X, hr, Kp.refl _ _ _, N, fun t ht => X.arraylength A.1 Ar.1 (State.isArrayOf_alike A.2.1.alike Ar.2.1) (g := mkF m pc Ls (.ref (ad i) :: S.map (rf ad))) rfl rfl (hb A.2.2.1 hd) _ ?_⟩
    rw [e1]; exact ht) nx
theorem WP.iastore {i : Nat} {xs xs' : List Int32} {j : Int32} {x : Int32} (hd : decode bytes pc = .ok (.iastore, 1)) (hH : H[i]? = some (cI xs)) (hi : ro ≤ i) (hx : wr xs j x = some xs') (hH' : H.set i (cI xs') = H') (nx : WP l Z C lay own mn bytes maxL ret R n0 ro Q k n (pc + 1) L S H') : WP l Z C lay own mn bytes maxL ret R n0 ro Q k n pc L (.int x :: .int j :: .ref i :: S) H :=
  WP.moved (fun p e s m args below meth c T locs ad Ls X A hr N hL hz => by
    obtain ⟨cl, Ar, hsl⟩ := hr.1 i _ hH
    obtain ⟨q1, q2⟩ := wr_slots hsl hx
    obtain ⟨T', h', X', e', w, st⟩ := stI X A.1 A.2.1 rfl Ar (j := j) (x := x) q1 (g := mkF m pc Ls (.int x :: .int j :: .ref (ad i) :: S.map (rf ad))) rfl rfl (hb A.2.2.1 hd)
    subst e'
    have hi' := get_lt hH
    have P := hr.put (h' := T'.heap) (c := cI xs') hi' w.size (fun a cz hne q => by
      obtain ⟨c', g1, -, -, -, g5, -⟩ := wr_at w q
      rw [g5 hne] at g1; exact g1) ⟨_, Ar.same w, q2⟩
    exact ⟨T', _, X', hH' ▸ P.1, P.2, Fr.snoc X' N (hr.2.2.2.1 i hi' hi), fun t ht => st t ht⟩) nx
theorem WP.lastore {i : Nat} {xs xs' : List Int64} {j : Int32} {x : Int64} (hd : decode bytes pc = .ok (.lastore, 1)) (hH : H[i]? = some (cJ xs)) (hi : ro ≤ i) (hx : wr xs j x = some xs') (hH' : H.set i (cJ xs') = H') (nx : WP l Z C lay own mn bytes maxL ret R n0 ro Q k n (pc + 1) L S H') : WP l Z C lay own mn bytes maxL ret R n0 ro Q k n pc L (.long x :: .int j :: .ref i :: S) H :=
  WP.moved (fun p e s m args below meth c T locs ad Ls X A hr N hL hz => by
    obtain ⟨cl, Ar, hsl⟩ := hr.1 i _ hH
    obtain ⟨q1, q2⟩ := wr_slots hsl hx
    obtain ⟨T', h', X', e', w, st⟩ := stJ X A.1 A.2.1 rfl Ar (j := j) (x := x) q1 (g := mkF m pc Ls (.long x :: .int j :: .ref (ad i) :: S.map (rf ad))) rfl rfl (hb A.2.2.1 hd)
    subst e'
    have hi' := get_lt hH
    have P := hr.put (h' := T'.heap) (c := cJ xs') hi' w.size (fun a cz hne q => by
      obtain ⟨c', g1, -, -, -, g5, -⟩ := wr_at w q
      rw [g5 hne] at g1; exact g1) ⟨_, Ar.same w, q2⟩
    exact ⟨T', _, X', hH' ▸ P.1, P.2, Fr.snoc X' N (hr.2.2.2.1 i hi' hi), fun t ht => st t ht⟩) nx
theorem WP.bastore {i : Nat} {xs xs' : List Int32} {j : Int32} {x : Int32} (hd : decode bytes pc = .ok (.bastore, 1)) (hH : H[i]? = some (cZ xs)) (hi : ro ≤ i) (hx : wr xs j (x &&& 1) = some xs') (hH' : H.set i (cZ xs') = H') (nx : WP l Z C lay own mn bytes maxL ret R n0 ro Q k n (pc + 1) L S H') : WP l Z C lay own mn bytes maxL ret R n0 ro Q k n pc L (.int x :: .int j :: .ref i :: S) H :=
  WP.moved (fun p e s m args below meth c T locs ad Ls X A hr N hL hz => by
    obtain ⟨cl, Ar, hsl⟩ := hr.1 i _ hH
    obtain ⟨q1, q2⟩ := wr_slots hsl hx
    obtain ⟨T', h', X', e', w, st⟩ := stZ X A.1 A.2.1 rfl Ar (j := j) (x := x) q1 (g := mkF m pc Ls (.int x :: .int j :: .ref (ad i) :: S.map (rf ad))) rfl rfl (hb A.2.2.1 hd)
    subst e'
    have hi' := get_lt hH
    have P := hr.put (h' := T'.heap) (c := cZ xs') hi' w.size (fun a cz hne q => by
      obtain ⟨c', g1, -, -, -, g5, -⟩ := wr_at w q
      rw [g5 hne] at g1; exact g1) ⟨_, Ar.same w, q2⟩
    exact ⟨T', _, X', hH' ▸ P.1, P.2, Fr.snoc X' N (hr.2.2.2.1 i hi' hi), fun t ht => st t ht⟩) nx
/-- a field of the one class is written -/
theorem WP.put {idx i j kk : Nat} {f d : String} {vs : List Value} {v v' old : Value} {ty : FieldType} (hd : decode bytes pc = .ok (.putfield idx, 3)) (hw : (Cond.fieldLink own idx C f d).before a0 Z = true) (hl : (Cond.lays C C f d).before a0 Z = true ∨ ((Cond.laysFinal C C f d).before a0 Z = true ∧ own = C ∧ mn = "<init>")) (wi : (Cond.instantiable C kk).before a0 Z = true)
    (hlay : ∀ (a b : Nat) (f g : String × String), lay[a]? = some f → lay[b]? = some g → a ≠ b → RoadKit.slotOf Z C f.1 f.2 ≠ RoadKit.slotOf Z C g.1 g.2) (hty : parseFieldDescriptor d = some ty) (hn : ∀ ad, narrow ty (rf ad v) = rf ad v') (hf : ∀ ad, fits ty (rf ad v') = true)
    (hj : lay[j]? = some (f, d)) (hH : H[i]? = some (.inl vs)) (hv : vs[j]? = some old) (hi : ro ≤ i) (hH' : H.set i (.inl (vs.set j v')) = H') (nx : WP l Z C lay own mn bytes maxL ret R n0 ro Q k n (pc + 3) L S H') : WP l Z C lay own mn bytes maxL ret R n0 ro Q k n pc L (v :: .ref i :: S) H :=
  WP.moved (fun p e s m args below meth c T locs ad Ls X A hr N hL hz => by
    obtain ⟨E, F⟩ := hr.1 i _ hH
    obtain ⟨T', h', X', e', w, st⟩ := putFN X A.1 A.2.1 A.2.2.2.2.2.2.1 hw Via.refl rfl (F j _ old hj hv) E (hl.imp id fun q => ⟨q.1, q.2.1, A.2.2.2.2.2.2.2.trans q.2.2⟩) wi hty (hn ad) (hf ad) (g := mkF m pc Ls (rf ad v :: .ref (ad i) :: S.map (rf ad))) rfl rfl (hb A.2.2.1 hd)
    subst e'
    have hi' := get_lt hH
    have P := hr.put (h' := T'.heap) (c := .inl (vs.set j v')) hi' w.size (fun a cz hne q => by
      obtain ⟨c', g1, -, -, -, g5, -⟩ := wr_at w q
      rw [g5 hne] at g1; exact g1) ⟨E.wr w, fun a g u hg hu => by
        rw [List.getElem?_set] at hu
        by_cases e : j = a
        · subst e
          cases hj.symm.trans hg
          rw [if_pos rfl, if_pos (get_lt hv)] at hu
          cases hu
          exact (F j _ old hj hv).same w
        · rw [if_neg e] at hu
          exact (F a g u hg hu).other w (Or.inr (hlay a j g (f, d) hg hj (Ne.symm e)))⟩
    exact ⟨T', _, X', hH' ▸ P.1, P.2, Fr.snoc X' N (hr.2.2.2.1 i hi' hi), fun t ht => st t ht⟩) nx
/-- newarray -/
theorem WP.newarray {aty : ArrayType} {c0 : OwnC} {cnt : Int32} (hd : decode bytes pc = .ok (.newarray aty, 2)) (hw : (Cond.arrayClass (newarray.typeOf aty)).before a0 Z = true) (hn : ¬ cnt < 0) (hb8 : cnt.toNatClampNeg * 8 ≤ 536870912) (hc : k + 1 ≤ R.cells) (hl : n + cnt.toNatClampNeg ≤ R.slots)
    (h0 : (aty = .int ∧ c0 = cI (List.replicate cnt.toNatClampNeg 0)) ∨ (aty = .long ∧ c0 = cJ (List.replicate cnt.toNatClampNeg 0)) ∨ (aty = .boolean ∧ c0 = cZ (List.replicate cnt.toNatClampNeg 0)))
    (nx : WP l Z C lay own mn bytes maxL ret R n0 ro Q (k + 1) (n + cnt.toNatClampNeg) (pc + 2) L (.ref H.length :: S) (H ++ [c0])) : WP l Z C lay own mn bytes maxL ret R n0 ro Q k n pc L (.int cnt :: S) H :=
  WP.moved (fun p e s m args below meth c T locs ad Ls X A hr N hL hz => by
    have hcb : componentBytes (newarray.typeOf aty) ≤ 8 := by cases aty <;> decide
    obtain ⟨cA, kA, comp, h1, h2, h3, X', st⟩ := X.newarrayPrim A.1 (mvA A.2.1 hw) (g := mkF m pc Ls (.int cnt :: S.map (rf ad))) rfl (hb A.2.2.1 hd) rfl hn (Nat.le_trans (Nat.mul_le_mul (Nat.le_refl _) hcb) hb8) hc hl
    rw [A.2.1.alike.findClass] at h1
    obtain ⟨kZ, z1, -⟩ := Vm.findClass_spec h1
    obtain ⟨k', z2, z3⟩ := A.2.1.alike.2.2 _ _ z1
    cases h2.symm.trans z2
    have hE : Ext T.heap (T.heap.push { cls := cA, slots := Array.replicate cnt.toNatClampNeg (defaultValue (newarray.typeOf aty)), vm := .none }) := ⟨by simp, fun a c h => by
      rw [Array.getElem?_push_lt (Array.getElem?_eq_some_iff.mp h).1]; exact (Array.getElem?_eq_getElem _).symm.trans h⟩
    have Ar : Arr Z (T.heap.push { cls := cA, slots := Array.replicate cnt.toNatClampNeg (defaultValue (newarray.typeOf aty)), vm := .none }) T.heap.size { cls := cA, slots := Array.replicate cnt.toNatClampNeg (defaultValue (newarray.typeOf aty)), vm := .none } (newarray.typeOf aty) :=
      ⟨by simp, ⟨by simp, kZ, z1, comp, by rw [← h3, z3]⟩, by simp⟩
    have hc0 : CelOk Z C lay ad (T.heap.push { cls := cA, slots := Array.replicate cnt.toNatClampNeg (defaultValue (newarray.typeOf aty)), vm := .none }) T.heap.size c0 := by
      rcases h0 with ⟨rfl, rfl⟩ | ⟨rfl, rfl⟩ | ⟨rfl, rfl⟩
      all_goals exact ⟨_, Ar, by simp [defaultValue, newarray.typeOf]⟩
    have P := hr.push (h' := T.heap.push _) (by simp) hE hc0
    refine ⟨_, locs, X', P.1, P.2.1, N, fun t ht => st t ?_⟩
    have e0 : (List.map (rf ad) (.ref H.length :: S)) = .ref T.heap.size :: S.map (rf ad) := by show (Value.ref (ad H.length) :: _) = _; rw [P.2.2]
    rw [e0] at ht; exact ht) nx
theorem rf_default (ad : Nat → Addr) (ty : FieldType) : rf ad (defaultValue ty) = defaultValue ty := by cases ty <;> rfl
/-- new -/
theorem WP.new {idx kk : Nat} {vs : List Value} (hd : decode bytes pc = .ok (.new idx, 3)) (hw : (Cond.classLink own idx C).before a0 Z = true) (wi : (Cond.instantiable C kk).before a0 Z = true) (wz : (Cond.initialized C).before a0 Z = true) (hc : k + 1 ≤ R.cells) (hl : n + kk ≤ R.slots)
    (h0 : ∀ (i : Nat) (f : String × String) (v : Value), lay[i]? = some f → vs[i]? = some v → Laid Z a0 C C f.1 f.2 ∧ ∃ ty, parseFieldDescriptor f.2 = some ty ∧ v = defaultValue ty)
    (nx : WP l Z C lay own mn bytes maxL ret R n0 ro Q (k + 1) (n + kk) (pc + 3) L (.ref H.length :: S) (H ++ [.inl vs])) : WP l Z C lay own mn bytes maxL ret R n0 ro Q k n pc L S H :=
  WP.moved (fun p e s m args below meth c T locs ad Ls X A hr N hL hz => by
    obtain ⟨vm', cC, kC, h1, h2, h3, h4, X', st⟩ := X.newCold A.1 A.2.2.2.2.2.2.1 (mv A.2.1 hw) (mv A.2.1 wi) (mv A.2.1 wz) (g := mkF m pc Ls (S.map (rf ad))) rfl (hb A.2.2.1 hd) hc hl
    rw [A.2.1.alike.findClass] at h1
    obtain ⟨kZ, z1, -⟩ := Vm.findClass_spec h1
    obtain ⟨k', z2, z3⟩ := A.2.1.alike.2.2 _ _ z1
    cases h2.symm.trans z2
    have ei : kC.instanceTypes = kZ.instanceTypes := by rw [z3]
    have hN : (T.heap.push { cls := cC, slots := kC.instanceTypes.map defaultValue, vm := .none })[T.heap.size]? = some { cls := cC, slots := kC.instanceTypes.map defaultValue, vm := .none } := by simp
    have hE : Ext T.heap (T.heap.push { cls := cC, slots := kC.instanceTypes.map defaultValue, vm := .none }) := ⟨by simp, fun a c h => by
      rw [Array.getElem?_push_lt (Array.getElem?_eq_some_iff.mp h).1]; exact (Array.getElem?_eq_getElem _).symm.trans h⟩
    have hc0 : CelOk Z C lay ad (T.heap.push { cls := cC, slots := kC.instanceTypes.map defaultValue, vm := .none }) T.heap.size (.inl vs) := by
      refine ⟨⟨_, kZ, hN, h1, z1, rfl, fun _ => by simp [ei]⟩, fun i f v hf hv => ?_⟩
      obtain ⟨La, ty, ht, rfl⟩ := h0 i f v hf hv
      obtain ⟨c1, k1, cf, kf, i1, f1, a1, a2, a3, a4, a5, a6, -⟩ := La.spec
      cases h1.symm.trans a1
      cases z1.symm.trans a2
      rw [rf_default]
      exact ⟨_, cf, kf, i1, f1, hN, a3, a4, by simp, rfl, a5, by simp [ei, a6, (State.fieldFound?_type a3 ht).2]⟩
    have P := hr.push (h' := T.heap.push _) (by simp) hE hc0
    refine ⟨_, locs, X', P.1, P.2.1, N, fun t ht => st t ?_⟩
    have e0 : (List.map (rf ad) (.ref H.length :: S)) = .ref T.heap.size :: S.map (rf ad) := by show (Value.ref (ad H.length) :: _) = _; rw [P.2.2]
    rw [e0] at ht; exact ht) nx
/-- Object.<init> -/
theorem WP.initO {idx i : Nat} (hd : decode bytes pc = .ok (.invokespecial idx, 3)) (w1 : (Cond.methodLink own idx Lib.objectInit).before a0 Z = true) (w2 : (Cond.instanceMethod Lib.objectInit).before a0 Z = true) (w3 : (Cond.code Lib.objectInit ⟨#[0xb1]⟩ 1 none).before a0 Z = true) (hf : 1 ≤ R.frames) (hl : (S.map fun v => v.category).sum + 12 ≤ R.locals)
    (nx : WP l Z C lay own mn bytes maxL ret R n0 ro Q k n (pc + 3) L S H) : WP l Z C lay own mn bytes maxL ret R n0 ro Q k n pc L (.ref i :: S) H :=
  WP.moved (fun p e s m args below meth c T locs ad Ls X A hr N hL hz => by
    obtain ⟨T', X', e', st⟩ := RoadKit.initO X A.1 A.2.1 A.2.2.2.2.2.2.1 w1 w2 w3 rfl (g := mkF m pc Ls (.ref (ad i) :: S.map (rf ad))) rfl (hz.trans A.2.2.2.1.symm) rfl (hb A.2.2.1 hd) hf (W := (S.map fun v => v.category).sum) (by show 2 * 0 + _ ≤ _; rw [rf_cats]; omega) hl
    exact ⟨T', locs, X', by rw [e']; exact hr, by rw [e']; exact Kp.refl _ _ _, N, fun t ht => st t ht⟩) nx
theorem WP.leave {v : Option Value} (hk : k ≤ R.cells) (hn : n ≤ R.slots) (hv : ret = none → v = none) (hq : Q v H)
    (hs : ∀ (p : Program) (e : Env) (s : State) (m : MethodId) (args : Array Value) (below : List Frame) (meth : Method) (c : Code) (T : State) (locs : List Loc) (ad : Nat → Addr) (Ls : Array Slot) (fs : List Frame), Stand p l e R s m args below meth c T locs k n → Am Z own mn bytes maxL ret p s m meth c →
      (∀ (f : JFrame) (acts : List Action), f.method = m → f.locked = none → f.entered = [] → (doReturn e (T.setTop f) acts (v.map (rf ad))).1 = T.setFrames fs) → Steps p.tables e below (T.setTop (mkF m pc Ls (S.map (rf ad)))) (T.setFrames fs)) : WP l Z C lay own mn bytes maxL ret R n0 ro Q k n pc L S H := by
  intro p e s m args below meth c T locs ad Ls X A hr N hL hz
  obtain ⟨fs, hr', hrun, hended, hW, hsame⟩ := X.leave (v := v.map (rf ad)) (fun q => by rw [hv (A.2.2.2.2.1.symm.trans q)]; rfl) A.2.2.2.2.2.1
  exact ⟨_, v, H, locs, hs p e s m args below meth c T locs ad Ls fs X A hr', hrun, hended, hq, hr, Kp.refl _ _ _, N, ⟨_, rfl⟩, hW, hsame.mono hk hn⟩
theorem retI' {p : Program} {e : Env} {s : State} {m : MethodId} {args : Array Value} {below : List Frame} {meth : Method} {c : Code} {T : State} {locs : List Loc} {cells slots : Nat} (X : Stand p l e R s m args below meth c T locs cells slots) (hx : p.tables.exec = Jvm.exec) {pc : Nat} {Ls : Array Slot} {z : Int32} {rest : List Value} (hret : meth.sig.returnType = some .int) (hd : decode c.code pc = .ok (.ireturn, 1)) {fs : List Frame}
    (hl : ∀ (f : JFrame) (acts : List Action), f.method = m → f.locked = none → f.entered = [] → (doReturn e (T.setTop f) acts (some (.int z))).1 = T.setFrames fs) : Steps p.tables e below (T.setTop (mkF m pc Ls (.int z :: rest))) (T.setFrames fs) := by
  have hm' : T.vm.method? m = some meth := X.method'
  have hn : narrow .int (.int z) = .int z := rfl
  show Steps p.tables e below (T.setTop { method := m, pc := pc, locals := Ls, stack := _ :: rest, locked := none }) _
  jvm_step X.here [X.here.top, hx, hd, hm', hret, hn]
  first | (intro acts; rw [hl _ acts rfl rfl rfl]) | rw [hl _ _ rfl rfl rfl]
  exact Steps.refl _
theorem WP.ireturn {x : Int32} (hd : decode bytes pc = .ok (.ireturn, 1)) (hret : ret = some .int) (hk : k ≤ R.cells) (hn : n ≤ R.slots) (hq : Q (some (.int x)) H) : WP l Z C lay own mn bytes maxL ret R n0 ro Q k n pc L (.int x :: S) H :=
  WP.leave (v := some (.int x)) hk hn (fun q => by rw [hret] at q; cases q) hq fun p e s m args below meth c T locs ad Ls fs X A hr' => retI' X A.1 (A.2.2.2.2.1.trans hret) (hb A.2.2.1 hd) hr'
theorem WP.zreturn {x : Int32} (hd : decode bytes pc = .ok (.ireturn, 1)) (hret : ret = some .boolean) (hk : k ≤ R.cells) (hn : n ≤ R.slots) (hq : Q (some (.int (x &&& 1))) H) : WP l Z C lay own mn bytes maxL ret R n0 ro Q k n pc L (.int x :: S) H :=
  WP.leave (v := some (.int (x &&& 1))) hk hn (fun q => by rw [hret] at q; cases q) hq fun p e s m args below meth c T locs ad Ls fs X A hr' => retN X A.1 (t := .boolean) (A.2.2.2.2.1.trans hret) (Or.inl rfl) (hb A.2.2.1 hd) hr'
theorem WP.lreturn {x : Int64} (hd : decode bytes pc = .ok (.lreturn, 1)) (hret : ret = some .long) (hk : k ≤ R.cells) (hn : n ≤ R.slots) (hq : Q (some (.long x)) H) : WP l Z C lay own mn bytes maxL ret R n0 ro Q k n pc L [.long x] H :=
  WP.leave (v := some (.long x)) hk hn (fun q => by rw [hret] at q; cases q) hq fun p e s m args below meth c T locs ad Ls fs X A hr' => X.lreturnOut A.1 (A.2.2.2.2.1.trans hret) (hb A.2.2.1 hd) hr'
theorem WP.vreturn (hd : decode bytes pc = .ok (.return_, 1)) (hret : ret = none) (hk : k ≤ R.cells) (hn : n ≤ R.slots) (hq : Q none H) : WP l Z C lay own mn bytes maxL ret R n0 ro Q k n pc L [] H :=
  WP.leave (v := none) hk hn (fun _ => rfl) hq fun p e s m args below meth c T locs ad Ls fs X A hr' => X.returnOut A.1 (A.2.2.2.2.1.trans hret) (hb A.2.2.1 hd) hr'
end Rules
/-! ## a callee's promise, said of the small view -/
def QQ (Z : State) (C : String) (lay : List (String × String)) (n0 ro : Nat) (ad : Nat → Addr) (N : Nat) (h : Heap) (Q : Option Value → List OwnC → Prop) (v : Option Value) (h' : Heap) (L : List Loc) : Prop :=
  ∃ w H', v = w.map (rf ad) ∧ Q w H' ∧ HR Z C lay n0 ro ad H' h' ∧ Kp ad N h h' ∧ Fr n0 L
def CS (l : Launch) (Z : State) (C : String) (lay : List (String × String)) (y : MethodName) (bytes : ByteArray) (maxL : Nat) (ret : Option FieldType) (R : Room) (ro : Nat) (as : List Value) (H : List OwnC) (Q : Option Value → List OwnC → Prop) : Prop :=
  ∀ (ws : List Cond) (n0 : Nat) (ad : Nat → Addr) (h : Heap), HR Z C lay n0 ro ad H h →
    MetFree l y (head1 (Cond.code y bytes maxL ret :: ws) R) (fun a U => a = (as.map (rf ad)).toArray ∧ Z.Warmed39 U.vm ∧ U.heap = h) (fun _ _ _ _ _ => True)
      (fun _ U o U' => ∃ v L, o = .returned v ∧ QQ Z C lay n0 ro ad H.length h Q v U'.heap L ∧ FrameEnd U o U' L R.cells R.slots)
section Calls
variable {l : Launch} {Z : State} {a0 : Array Value} {C : String} {lay : List (String × String)} {own mn : String} {bytes cb : ByteArray} {maxL cm : Nat} {ret cr : Option FieldType} {R Rc : Room} {n0 ro : Nat} {Q Qc : Option Value → List OwnC → Prop} {k n pc pc' : Nat} {L L' : List Slot} {S S0 as : List Value} {H H' : List OwnC} {y : MethodName}
theorem CS.of_wp (hx : plainName y.cls = true) (hn : (laid as).length ≤ maxL) (w : ∀ n0, WP l Z C lay y.cls y.name bytes maxL ret R n0 ro Q 0 0 0 (entL as maxL) [] H) : CS l Z C lay y bytes maxL ret R ro as H Q := by
  intro ws n0 ad h hr
  refine MetFree.of_bodySF (plainFor_of_name hx) hisR ?_
  intro p e s m args below meth c s₁ Bd hml0 hP hK
  obtain ⟨rfl, hZ, hh⟩ := hP
  have e0 : s₁.heap = h := by rw [← hh, Bd.state]; rfl
  obtain ⟨E1, E2⟩ := entry_LR ad as maxL hn
  obtain ⟨s₂, v, H', locs', h1, h2, h3, h4, h5, h6, h7, h8⟩ := w n0 p e s m _ below meth c s₁ [] ad _ (Stand.of_body Bd) ⟨Bd.exec, hZ, Bd.bytes, hml0, Bd.returns, Bd.notSynchronized, findClass_of_methodNamed Bd.named, (name_of_methodNamed Bd.named Bd.method).1⟩ (by rw [e0]; exact hr) (Fr.nil n0) E1 E2
  rw [e0] at h6
  exact ⟨s₂, _, h1, h2, h3, _, locs', rfl, ⟨v, H', rfl, h4, h5, h6, h7⟩, h8⟩
theorem CS.mono (cs : CS l Z C lay y bytes maxL ret R ro as H Q) (h : ∀ v H', Q v H' → Qc v H') : CS l Z C lay y bytes maxL ret R ro as H Qc := by
  intro ws n0 ad hh hr p e ha hc hk s m args below hf happ hP hK
  obtain ⟨N, o, h1, h2, h3, v, L, h4, ⟨w, H', g1, g2, g3⟩, h5⟩ := cs ws n0 ad hh hr p e ha hc hk s m args below hf happ hP hK
  exact ⟨N, o, h1, h2, h3, v, L, h4, ⟨w, H', g1, h _ _ g2, g3⟩, h5⟩
/-- what every call leaves: the walk goes on behind it -/
theorem go_on {p : Program} {e : Env} {s : State} {m : MethodId} {args : Array Value} {below : List Frame} {meth : Method} {c : Code} {T : State} {locs : List Loc} {ad : Nat → Addr} {Ls : Array Slot} {B : Pt} {v : Option Value} {Lc : List Loc} {s₀ : State}
    (nx : ∀ v H', Qc v H' → WP l Z C lay own mn bytes maxL ret R n0 ro Q (k + Rc.cells) (n + Rc.slots) (pc + 3) L (v.toList ++ S) H') (X : Stand p l e R s m args below meth c B.U B.locs B.cells B.slots) (A : Am Z own mn bytes maxL ret p s m meth c) (hr : HR Z C lay n0 ro ad H T.heap) (N : Fr n0 locs) (hL : LR ad L Ls) (hz : Ls.size = maxL)
    (hQ : QQ Z C lay n0 ro ad H.length T.heap Qc v B.U.heap Lc) (e1 : B.locs = locs ++ Lc) (e2 : B.cells = k + Rc.cells) (e3 : B.slots = n + Rc.slots) (st : Steps p.tables e below s₀ (B.U.setTop (mkF m (pc + 3) Ls (v.toList ++ S.map (rf ad))))) :
    ∃ (s₂ : State) (v : Option Value) (H' : List OwnC) (locs' : List Loc), Steps p.tables e below s₀ s₂ ∧ s₂.status = .running ∧ Ended s₂ below (.returned (v.map (rf ad))) ∧ Q v H' ∧ HR Z C lay n0 ro ad H' s₂.heap ∧ Kp ad H.length T.heap s₂.heap ∧ Fr n0 locs' ∧ FrameEnd s (.returned (v.map (rf ad))) s₂ locs' R.cells R.slots := by
  obtain ⟨w, H1, rfl, g2, g3, g4, g5⟩ := hQ
  rw [e1, e2, e3] at X
  obtain ⟨s₂, v, H2, locs2, h1, h2, h3, h4, h5, h6, h7⟩ := nx w H1 g2 p e s m args below meth c B.U _ ad Ls X A g3 (N.app g5) hL hz
  refine ⟨s₂, v, H2, locs2, st.trans ?_, h2, h3, h4, h5, Kp.trans hr g4 h6, h7⟩
  have e0 : (w.toList ++ S).map (rf ad) = (w.map (rf ad)).toList ++ S.map (rf ad) := by cases w <;> rfl
  rw [← e0]; exact h1
theorem stack_of (ad : Nat → Addr) (h : S0 = as.reverse ++ S) : S0.map (rf ad) = (as.map (rf ad)).reverse ++ S.map (rf ad) := by rw [h, List.map_append, List.map_reverse]
theorem stack_of1 {i : Nat} (ad : Nat → Addr) (h : S0 = as.reverse ++ .ref i :: S) : S0.map (rf ad) = (as.map (rf ad)).reverse ++ .ref (ad i) :: S.map (rf ad) := by rw [h, List.map_append, List.map_reverse]; rfl
theorem WP.callS {idx : Nat} (hd : decode bytes pc = .ok (.invokestatic idx, 3)) (w1 : (Cond.methodLink own idx y).before a0 Z = true) (w2 : (Cond.static y).before a0 Z = true) (w3 : (Cond.initialized y.cls).before a0 Z = true) (w4 : (Cond.code y cb cm cr).before a0 Z = true) (hy : y.cls ≠ "java/lang/invoke/MethodHandle" ∧ y.cls ≠ "java/lang/invoke/VarHandle")
    (cs : CS l Z C lay y cb cm cr Rc ro as H Qc) (hS : S0 = as.reverse ++ S) (hlen : ∀ sig, parseMethodDescriptor y.desc = some sig → as.length = sig.parameters.length) (hf : Rc.frames + 1 ≤ R.frames) (hl : (S.map fun v => v.category).sum + (cm + 11) + Rc.locals ≤ R.locals) (hc : k + Rc.cells ≤ R.cells) (hs : n + Rc.slots ≤ R.slots)
    (nx : ∀ v H', Qc v H' → WP l Z C lay own mn bytes maxL ret R n0 ro Q (k + Rc.cells) (n + Rc.slots) (pc + 3) L (v.toList ++ S) H') : WP l Z C lay own mn bytes maxL ret R n0 ro Q k n pc L S0 H := by
  intro p e s m args below meth c T locs ad Ls X A hr N hL hz
  obtain ⟨v, vm₁, B, hW₁, X', ⟨Lc, hQ, e1, e2, e3⟩, st⟩ := Jvm.LawKit.callS X A.1 (y := y) A.2.2.2.2.2.2.1 (mvT A.2.1 w1) (mvT A.2.1 w2) (mvT A.2.1 w3) (mvT A.2.1 w4) hy
    (backOf (W := (S.map fun v => v.category).sum) (cs [] n0 ad T.heap hr) A.2.1 w4 w3 hf hl) (g := mkF m pc Ls (S0.map (rf ad))) rfl (hz.trans A.2.2.2.1.symm) (argsL := as.map (rf ad)) (rest := S.map (rf ad)) (fun sig q => by rw [List.length_map]; exact hlen sig q) (stack_of ad hS) (by show 2 * 0 + _ ≤ _; rw [rf_cats]; omega) (hb A.2.2.1 hd) (fun _ _ => ⟨rfl, rfl, hc, hs⟩)
  exact go_on (T := T) nx X' A hr N hL hz hQ e1 e2 e3 (st _ (Steps.refl _))
theorem WP.callV {idx i : Nat} {vs : List Value} (hd : decode bytes pc = .ok (.invokevirtual idx, 3)) (w1 : (Cond.methodLink own idx y).before a0 Z = true) (w2 : (Cond.declares y).before a0 Z = true) (w3 : (Cond.selects C y y).before a0 Z = true) (w4 : (Cond.instanceMethod y).before a0 Z = true) (w5 : (Cond.code y cb cm cr).before a0 Z = true) (w6 : (Cond.initialized y.cls).before a0 Z = true) (hy : y.cls ≠ "java/lang/invoke/MethodHandle" ∧ y.cls ≠ "java/lang/invoke/VarHandle")
    (hH : H[i]? = some (.inl vs)) (cs : CS l Z C lay y cb cm cr Rc ro (.ref i :: as) H Qc) (hS : S0 = as.reverse ++ .ref i :: S) (hlen : ∀ sig, parseMethodDescriptor y.desc = some sig → as.length = sig.parameters.length) (hf : Rc.frames + 1 ≤ R.frames) (hl : (S.map fun v => v.category).sum + (cm + 11) + Rc.locals ≤ R.locals) (hc : k + Rc.cells ≤ R.cells) (hs : n + Rc.slots ≤ R.slots)
    (nx : ∀ v H', Qc v H' → WP l Z C lay own mn bytes maxL ret R n0 ro Q (k + Rc.cells) (n + Rc.slots) (pc + 3) L (v.toList ++ S) H') : WP l Z C lay own mn bytes maxL ret R n0 ro Q k n pc L S0 H := by
  intro p e s m args below meth c T locs ad Ls X A hr N hL hz
  obtain ⟨cq, kq, qa, qb, qc⟩ := isOf A.2.1 rfl (hr.1 i _ hH).1
  obtain ⟨v, vm₁, B, hW₁, X', ⟨Lc, hQ, e1, e2, e3⟩, st⟩ := X.virtualBack A.1 (y := y) (z := y) A.2.2.2.2.2.2.1 (mvT A.2.1 w1) (mvT A.2.1 w2) (notFace_of_selects (args := #[]) (mvT A.2.1 w3)) (mvT A.2.1 w3) (mvT A.2.1 w4) hy
    (backOf (W := (S.map fun v => v.category).sum) (cs [] n0 ad T.heap hr) A.2.1 w5 w6 hf hl) qa qc (g := mkF m pc Ls (S0.map (rf ad))) rfl (hz.trans A.2.2.2.1.symm) (Steps.refl _) (argsL := as.map (rf ad)) (rest := S.map (rf ad)) (fun sig q => by rw [List.length_map]; exact hlen sig q) (stack_of1 ad hS) (by show 2 * 0 + _ ≤ _; rw [rf_cats]; omega) (hb A.2.2.1 hd) (fun _ _ => ⟨rfl, rfl, hc, hs⟩)
  exact go_on (T := T) nx X' A hr N hL hz hQ e1 e2 e3 st
theorem WP.callP {idx i kk : Nat} {vs : List Value} (hd : decode bytes pc = .ok (.invokevirtual idx, 3)) (w1 : (Cond.methodLink own idx y).before a0 Z = true) (w2 : (Cond.privateMethod y).before a0 Z = true) (wi : (Cond.instantiable y.cls kk).before a0 Z = true) (w4 : (Cond.instanceMethod y).before a0 Z = true) (w5 : (Cond.code y cb cm cr).before a0 Z = true) (w6 : (Cond.initialized y.cls).before a0 Z = true) (hy : y.cls ≠ "java/lang/invoke/MethodHandle" ∧ y.cls ≠ "java/lang/invoke/VarHandle")
    (hH : H[i]? = some (.inl vs)) (cs : CS l Z C lay y cb cm cr Rc ro (.ref i :: as) H Qc) (hS : S0 = as.reverse ++ .ref i :: S) (hlen : ∀ sig, parseMethodDescriptor y.desc = some sig → as.length = sig.parameters.length) (hf : Rc.frames + 1 ≤ R.frames) (hl : (S.map fun v => v.category).sum + (cm + 11) + Rc.locals ≤ R.locals) (hc : k + Rc.cells ≤ R.cells) (hs : n + Rc.slots ≤ R.slots)
    (nx : ∀ v H', Qc v H' → WP l Z C lay own mn bytes maxL ret R n0 ro Q (k + Rc.cells) (n + Rc.slots) (pc + 3) L (v.toList ++ S) H') : WP l Z C lay own mn bytes maxL ret R n0 ro Q k n pc L S0 H := by
  intro p e s m args below meth c T locs ad Ls X A hr N hL hz
  obtain ⟨cq, q, q'⟩ := (hr.1 i _ hH).1.cell
  have hpr : s.PrivateAt y := Cond.privateMethod_at (mvP A.2.1 w2 (args := #[]))
  have hin : (Cond.instanceMethod y).before args s = true := mvT A.2.1 w4
  have hsel : (Cond.selects y.cls y y).before args s = true := by
    have wi' : (Cond.instantiable y.cls kk).before args s = true := mvT A.2.1 wi
    obtain ⟨c1, k1, g1, g2, g3, g4, -⟩ := Cond.instantiable_spec wi'
    have g5 : k1.isInterface = false := by
      cases hq : k1.isInterface
      · rfl
      · rw [hq] at g4; cases g4
    exact selects_self_of_private g1 g2 g5 hpr hin hy
  obtain ⟨v, vm₁, B, hW₁, X', ⟨Lc, hQ, e1, e2, e3⟩, st⟩ := X.privateBack A.1 (y := y) A.2.2.2.2.2.2.1 (mvT A.2.1 w1) hin hsel hpr (mvT A.2.1 w5) hy
    (backOf (W := (S.map fun v => v.category).sum) (cs [] n0 ad T.heap hr) A.2.1 w5 w6 hf hl) (g := mkF m pc Ls (S0.map (rf ad))) rfl (hz.trans A.2.2.2.1.symm) (Steps.refl _) q q' (argsL := as.map (rf ad)) (rest := S.map (rf ad)) (fun sig q => by rw [List.length_map]; exact hlen sig q) (stack_of1 ad hS) (by show 2 * 0 + _ ≤ _; rw [rf_cats]; omega) (hb A.2.2.1 hd) (fun _ _ => ⟨rfl, rfl, hc, hs⟩)
  exact go_on (T := T) nx X' A hr N hL hz hQ e1 e2 e3 st
theorem WP.callI {idx i : Nat} (hd : decode bytes pc = .ok (.invokespecial idx, 3)) (hn1 : y.name = "<init>") (w1 : (Cond.methodLink own idx y).before a0 Z = true) (w4 : (Cond.instanceMethod y).before a0 Z = true) (w5 : (Cond.code y cb cm none).before a0 Z = true) (w6 : (Cond.initialized y.cls).before a0 Z = true) (hy : y.cls ≠ "java/lang/invoke/MethodHandle" ∧ y.cls ≠ "java/lang/invoke/VarHandle")
    (cs : CS l Z C lay y cb cm none Rc ro (.ref i :: as) H Qc) (hS : S0 = as.reverse ++ .ref i :: S) (hlen : ∀ sig, parseMethodDescriptor y.desc = some sig → as.length = sig.parameters.length) (hf : Rc.frames + 1 ≤ R.frames) (hl : (S.map fun v => v.category).sum + (cm + 11) + Rc.locals ≤ R.locals) (hc : k + Rc.cells ≤ R.cells) (hs : n + Rc.slots ≤ R.slots)
    (nx : ∀ v H', Qc v H' → WP l Z C lay own mn bytes maxL ret R n0 ro Q (k + Rc.cells) (n + Rc.slots) (pc + 3) L (v.toList ++ S) H') : WP l Z C lay own mn bytes maxL ret R n0 ro Q k n pc L S0 H := by
  intro p e s m args below meth c T locs ad Ls X A hr N hL hz
  obtain ⟨v, vm₁, B, hW₁, X', ⟨Lc, hQ, e1, e2, e3⟩, st⟩ := X.specialBack A.1 (y := y) hn1 A.2.2.2.2.2.2.1 (mvT A.2.1 w1) (mvT A.2.1 w4) (mvT A.2.1 w5) hy
    (backOf (W := (S.map fun v => v.category).sum) (cs [] n0 ad T.heap hr) A.2.1 w5 w6 hf hl) (g := mkF m pc Ls (S0.map (rf ad))) rfl (hz.trans A.2.2.2.1.symm) (Steps.refl _) (a := ad i) (argsL := as.map (rf ad)) (rest := S.map (rf ad)) (fun sig q => by rw [List.length_map]; exact hlen sig q) (stack_of1 ad hS) (by show 2 * 0 + _ ≤ _; rw [rf_cats]; omega) (hb A.2.2.1 hd) (fun _ _ => ⟨rfl, rfl, hc, hs⟩)
  exact go_on (T := T) nx X' A hr N hL hz hQ e1 e2 e3 st
end Calls
/-! ## a callee that sees a part of the heap -/
def rn (ρ : Nat → Nat) : Value → Value
  | .ref i => .ref (ρ i)
  | .int x => .int x
  | .long x => .long x
  | .float x => .float x
  | .double x => .double x
  | .null => .null
  | .retAddr x => .retAddr x
theorem rf_rn (ad : Nat → Addr) (ρ : Nat → Nat) (v : Value) : rf ad (rn ρ v) = rf (fun j => ad (ρ j)) v := by cases v <;> rfl
def rnC (ρ : Nat → Nat) : OwnC → OwnC
  | .inl vs => .inl (vs.map (rn ρ))
  | .inr x => .inr x
theorem CelOk_rn {Z : State} {C : String} {lay : List (String × String)} {ad : Nat → Addr} {ρ : Nat → Nat} {h : Heap} {a : Addr} {c : OwnC} : CelOk Z C lay ad h a (rnC ρ c) ↔ CelOk Z C lay (fun j => ad (ρ j)) h a c := by
  rcases c with vs | xs | xs | xs
  · constructor
    · rintro ⟨E, F⟩
      refine ⟨E, fun i f v hf hv => ?_⟩
      have := F i f (rn ρ v) hf (by rw [List.getElem?_map, hv]; rfl)
      rwa [rf_rn] at this
    · rintro ⟨E, F⟩
      refine ⟨E, fun i f v hf hv => ?_⟩
      rw [List.getElem?_map] at hv
      obtain ⟨w, hw, rfl⟩ := Option.map_eq_some_iff.mp hv
      rw [rf_rn]; exact F i f w hf hw
  all_goals exact Iff.rfl
def patch (ρ : Nat → Nat) : List Nat → List OwnC → List OwnC → List OwnC
  | [], D, H => H ++ D.map (rnC ρ)
  | i :: is, c :: D, H => patch ρ is D (H.set i (rnC ρ c))
  | _ :: _, [], H => H
theorem patch_len (ρ : Nat → Nat) : ∀ (foot : List Nat) (D H : List OwnC), foot.length ≤ D.length → (patch ρ foot D H).length = H.length + (D.length - foot.length)
  | [], D, H, _ => by simp [patch]
  | i :: is, [], H, h => by simp at h
  | i :: is, c :: D, H, h => by
    show (patch ρ is D (H.set i (rnC ρ c))).length = _
    rw [patch_len ρ is D _ (by simpa using h)]; simp
theorem patch_out (ρ : Nat → Nat) : ∀ (foot : List Nat) (D H : List OwnC) (i : Nat), i < H.length → i ∉ foot → (patch ρ foot D H)[i]? = H[i]?
  | [], D, H, i, hi, _ => by simp [patch, List.getElem?_append_left hi]
  | j :: is, [], H, i, _, _ => rfl
  | j :: is, c :: D, H, i, hi, hn => by
    show (patch ρ is D (H.set j (rnC ρ c)))[i]? = _
    rw [patch_out ρ is D _ i (by simpa using hi) (fun q => hn (List.mem_cons_of_mem _ q)), List.getElem?_set_ne (fun q => hn (by rw [q]; exact List.mem_cons_self ..))]
theorem patch_new (ρ : Nat → Nat) : ∀ (foot : List Nat) (D H : List OwnC) (t : Nat), foot.length ≤ D.length → (patch ρ foot D H)[H.length + t]? = (D[foot.length + t]?).map (rnC ρ)
  | [], D, H, t, _ => by simp [patch, List.getElem?_append_right (Nat.le_add_right _ _)]
  | i :: is, [], H, _, h => by simp at h
  | i :: is, c :: D, H, t, h => by
    show (patch ρ is D (H.set i (rnC ρ c)))[H.length + t]? = _
    have := patch_new ρ is D (H.set i (rnC ρ c)) t (by simpa using h)
    rw [List.length_set] at this
    rw [this]; simp [Nat.add_right_comm _ 1 t]
theorem patch_in (ρ : Nat → Nat) : ∀ (foot : List Nat) (D H : List OwnC) (j i : Nat), foot.Nodup → (∀ x ∈ foot, x < H.length) → foot[j]? = some i → foot.length ≤ D.length → (patch ρ foot D H)[i]? = (D[j]?).map (rnC ρ)
  | [], D, H, j, i, _, _, h, _ => by simp at h
  | x :: is, [], H, j, i, _, _, _, h => by simp at h
  | x :: is, c :: D, H, 0, i, nd, hl, h, _ => by
    obtain rfl : x = i := by simpa using h
    show (patch ρ is D (H.set x (rnC ρ c)))[x]? = _
    rw [patch_out ρ is D _ x (by simpa using hl x (List.mem_cons_self ..)) (List.nodup_cons.mp nd).1]
    simp [hl x (List.mem_cons_self ..)]
  | x :: is, c :: D, H, j + 1, i, nd, hl, h, hd => by
    show (patch ρ is D (H.set x (rnC ρ c)))[i]? = _
    rw [patch_in ρ is D _ j i (List.nodup_cons.mp nd).2 (fun y hy => by simpa using hl y (List.mem_cons_of_mem _ hy)) (by simpa using h) (by simpa using hd)]
    simp
def ro1 (foot : List Nat) (N : Nat) (j : Nat) : Nat := if j < foot.length then foot.getD j 0 else N + (j - foot.length)
theorem ro1_in {foot : List Nat} {N j i : Nat} (h : foot[j]? = some i) : ro1 foot N j = i := by
  have hj := get_lt h
  unfold ro1
  rw [if_pos hj, List.getD_eq_getElem?_getD, h]; rfl
theorem ro1_new (foot : List Nat) (N t : Nat) : ro1 foot N (foot.length + t) = N + t := by
  unfold ro1
  rw [if_neg (by omega)]; omega
theorem CS.frame {l : Launch} {Z : State} {C : String} {lay : List (String × String)} {y : MethodName} {bytes : ByteArray} {maxL : Nat} {ret : Option FieldType} {R : Room} {ro roc : Nat} {as asc : List Value} {H Hc : List OwnC} {Qc : Option Value → List OwnC → Prop} (foot : List Nat)
    (cs : CS l Z C lay y bytes maxL ret R roc asc Hc Qc) (hlen : Hc.length = foot.length) (hnd : foot.Nodup) (hlt : ∀ x ∈ foot, x < H.length) (hcell : foot.map (fun i => H[i]?) = Hc.map (fun c => some (rnC (ro1 foot H.length) c))) (hro : ∀ x ∈ foot.drop roc, ro ≤ x) (has : asc.map (rn (ro1 foot H.length)) = as) :
    CS l Z C lay y bytes maxL ret R ro as H (fun v H' => ∃ vc D, Qc vc D ∧ v = vc.map (rn (ro1 foot H.length)) ∧ H' = patch (ro1 foot H.length) foot D H) := by
  intro ws n0 ad h hr
  obtain ⟨r1, r2, r3, r4, r5⟩ := hr
  have cellAt : ∀ (j i : Nat), foot[j]? = some i → ∃ c, Hc[j]? = some c ∧ H[i]? = some (rnC (ro1 foot H.length) c) := fun j i hj => by
    have h1 : (foot.map (fun i => H[i]?))[j]? = some H[i]? := by rw [List.getElem?_map, hj]; rfl
    rw [hcell, List.getElem?_map] at h1
    obtain ⟨c, e1, e2⟩ := Option.map_eq_some_iff.mp h1
    exact ⟨c, e1, e2.symm⟩
  have idx : ∀ j : Nat, j < foot.length → ∃ i, foot[j]? = some i ∧ i < H.length := fun j hj => ⟨_, List.getElem?_eq_getElem hj, hlt _ (List.getElem_mem hj)⟩
  have hrc : HR Z C lay n0 roc (fun j => ad (ro1 foot H.length j)) Hc h := by
    refine ⟨fun j c hj => ?_, fun i j hi hj q => ?_, fun t => ?_, fun j hj hr => ?_, r5⟩
    · obtain ⟨i, e1, e2⟩ := idx j (hlen ▸ get_lt hj)
      obtain ⟨c', g1, g2⟩ := cellAt j i e1
      cases g1.symm.trans hj
      show CelOk Z C lay (fun j => ad (ro1 foot H.length j)) h (ad (ro1 foot H.length j)) c
      rw [ro1_in e1]
      exact CelOk_rn.mp (r1 i _ g2)
    · rw [hlen] at hi hj
      obtain ⟨i', e1, e2⟩ := idx i hi
      obtain ⟨j', g1, g2⟩ := idx j hj
      dsimp only at q
      rw [ro1_in e1, ro1_in g1] at q
      have q' := r2 _ _ e2 g2 q
      subst q'
      exact (List.getElem?_inj hi hnd).mp (e1.trans g1.symm)
    · dsimp only
      rw [hlen, ro1_new]; exact r3 t
    · rw [hlen] at hj
      obtain ⟨i', e1, e2⟩ := idx j hj
      dsimp only
      rw [ro1_in e1]; refine r4 _ e2 (hro i' (List.mem_of_getElem? (i := j - roc) ?_)); rw [List.getElem?_drop, Nat.add_sub_cancel' hr]; exact e1
  intro p e ha hc hk s m args below hf happ hP hK
  have eas : (asc.map (rf fun j => ad (ro1 foot H.length j))) = as.map (rf ad) := by
    rw [← has, List.map_map]; congr 1; funext v; exact (rf_rn ad _ v).symm
  obtain ⟨N, o, h1, h2, h3, v, L, h4, ⟨w, D, rfl, g2, g3, g4, g5⟩, h5⟩ := cs ws n0 _ h hrc p e ha hc hk s m args below hf happ (by rw [eas]; exact hP) hK
  refine ⟨N, o, h1, h2, h3, _, L, h4, ⟨w.map (rn (ro1 foot H.length)), patch (ro1 foot H.length) foot D H, ?_, ⟨w, D, g2, rfl, rfl⟩, ?_, ?_, g5⟩, h5⟩
  · cases w with
    | none => rfl
    | some w => exact congrArg some (rf_rn ad _ w).symm
  · generalize hU : (stepsAlone p.tables e N s).heap = h' at g3 g4
    obtain ⟨d1, d2, d3, d4, d5⟩ := g3
    have hD : foot.length ≤ D.length := by
      by_cases q : foot.length ≤ D.length
      · exact q
      · exfalso
        obtain ⟨i, e1, e2⟩ := idx D.length (by omega)
        have z := d3 0
        simp only [Nat.add_zero] at z
        rw [ro1_in e1] at z
        obtain ⟨c', -, g2'⟩ := cellAt _ i e1
        have a1 := (r1 i _ g2').lt
        rw [z] at a1
        exact absurd a1 (Nat.not_lt.mpr g4.1)
    have hPl := patch_len (ro1 foot H.length) foot D H hD
    have old : ∀ i, i < H.length → ad i < h.size := fun i hi => (r1 i _ (List.getElem?_eq_getElem hi)).lt
    have new : ∀ i, H.length ≤ i → h.size ≤ ad i := fun i hi => by
      obtain ⟨t, rfl⟩ := Nat.exists_eq_add_of_le hi
      rw [r3 t]; exact Nat.le_add_right _ _
    refine ⟨fun i c hi => ?_, fun i j hi hj q => ?_, fun t => ?_, fun i hi hr => ?_, Nat.le_trans r5 g4.1⟩
    · by_cases hl : i < H.length
      · by_cases hm : i ∈ foot
        · obtain ⟨j, hj⟩ := List.getElem?_of_mem hm
          rw [patch_in _ foot D H j i hnd hlt hj hD] at hi
          obtain ⟨c', e1, rfl⟩ := Option.map_eq_some_iff.mp hi
          have := d1 j c' e1
          dsimp only at this
          rw [ro1_in hj] at this
          exact CelOk_rn.mpr this
        · rw [patch_out _ foot D H i hl hm] at hi
          refine (r1 i c hi).keep fun cz q => g4.2 _ cz q fun j hj q' => ?_
          rw [hlen] at hj
          obtain ⟨i', e1, e2⟩ := idx j hj
          dsimp only at q'
          rw [ro1_in e1] at q'
          have := r2 _ _ e2 hl q'
          subst this
          exact hm (List.mem_of_getElem? e1)
      · obtain ⟨t, rfl⟩ := Nat.exists_eq_add_of_le (Nat.le_of_not_lt hl)
        rw [patch_new _ foot D H t hD] at hi
        obtain ⟨c', e1, rfl⟩ := Option.map_eq_some_iff.mp hi
        have := d1 _ c' e1
        dsimp only at this
        rw [ro1_new] at this
        exact CelOk_rn.mpr this
    · by_cases a1 : i < H.length
      · by_cases a2 : j < H.length
        · exact r2 _ _ a1 a2 q
        · have b1 := old i a1
          rw [q] at b1
          exact absurd b1 (Nat.not_lt.mpr (new j (Nat.le_of_not_lt a2)))
      · by_cases a2 : j < H.length
        · have b1 := new i (Nat.le_of_not_lt a1)
          rw [q] at b1
          exact absurd (old j a2) (Nat.not_lt.mpr b1)
        · obtain ⟨t, rfl⟩ := Nat.exists_eq_add_of_le (Nat.le_of_not_lt a1)
          obtain ⟨t', rfl⟩ := Nat.exists_eq_add_of_le (Nat.le_of_not_lt a2)
          rw [r3, r3] at q; exact congrArg (H.length + ·) (Nat.add_left_cancel q)
    · have z := d3 t
      dsimp only at z
      have e1 : D.length + t = foot.length + (D.length - foot.length + t) := by omega
      rw [e1, ro1_new] at z
      rw [hPl, Nat.add_assoc]; exact z
    · by_cases a1 : i < H.length
      · exact r4 i a1 hr
      · exact Nat.le_trans r5 (new i (Nat.le_of_not_lt a1))
  · refine ⟨g4.1, fun a cz hz hn => g4.2 a cz hz fun j hj q => ?_⟩
    rw [hlen] at hj
    obtain ⟨i', e1, e2⟩ := idx j hj
    dsimp only at q
    rw [ro1_in e1] at q
    exact hn i' e2 q
/-! ## an object's state: ints (and booleans), longs, int[] (and boolean[]), long[], each by a number -/
abbrev St : Type := (Nat → Int32) × (Nat → Int64) × (Nat → List Int32) × (Nat → List Int64)
def upd {α : Type} (f : Nat → α) (i : Nat) (v : α) : Nat → α := fun j => if j = i then v else f j
def gI (s : St) (i : Nat) : Int32 := s.1 i
def gJ (s : St) (i : Nat) : Int64 := s.2.1 i
def gA (s : St) (i : Nat) : List Int32 := s.2.2.1 i
def gB (s : St) (i : Nat) : List Int64 := s.2.2.2 i
def sI (s : St) (i : Nat) (v : Int32) : St := (upd s.1 i v, s.2.1, s.2.2.1, s.2.2.2)
def sJ (s : St) (i : Nat) (v : Int64) : St := (s.1, upd s.2.1 i v, s.2.2.1, s.2.2.2)
def sA (s : St) (i : Nat) (v : List Int32) : St := (s.1, s.2.1, upd s.2.2.1 i v, s.2.2.2)
def sB (s : St) (i : Nat) (v : List Int64) : St := (s.1, s.2.1, s.2.2.1, upd s.2.2.2 i v)
theorem gI_sI (s : St) (i j : Nat) (v : Int32) : gI (sI s i v) j = if j = i then v else gI s j := rfl
theorem gI_sJ (s : St) (i j : Nat) (v : Int64) : gI (sJ s i v) j = gI s j := rfl
theorem gI_sA (s : St) (i j : Nat) (v : List Int32) : gI (sA s i v) j = gI s j := rfl
theorem gI_sB (s : St) (i j : Nat) (v : List Int64) : gI (sB s i v) j = gI s j := rfl
theorem gJ_sI (s : St) (i j : Nat) (v : Int32) : gJ (sI s i v) j = gJ s j := rfl
theorem gJ_sJ (s : St) (i j : Nat) (v : Int64) : gJ (sJ s i v) j = if j = i then v else gJ s j := rfl
theorem gJ_sA (s : St) (i j : Nat) (v : List Int32) : gJ (sA s i v) j = gJ s j := rfl
theorem gJ_sB (s : St) (i j : Nat) (v : List Int64) : gJ (sB s i v) j = gJ s j := rfl
theorem gA_sI (s : St) (i j : Nat) (v : Int32) : gA (sI s i v) j = gA s j := rfl
theorem gA_sJ (s : St) (i j : Nat) (v : Int64) : gA (sJ s i v) j = gA s j := rfl
theorem gA_sA (s : St) (i j : Nat) (v : List Int32) : gA (sA s i v) j = if j = i then v else gA s j := rfl
theorem gA_sB (s : St) (i j : Nat) (v : List Int64) : gA (sB s i v) j = gA s j := rfl
theorem gB_sI (s : St) (i j : Nat) (v : Int32) : gB (sI s i v) j = gB s j := rfl
theorem gB_sJ (s : St) (i j : Nat) (v : Int64) : gB (sJ s i v) j = gB s j := rfl
theorem gB_sA (s : St) (i j : Nat) (v : List Int32) : gB (sA s i v) j = gB s j := rfl
theorem gB_sB (s : St) (i j : Nat) (v : List Int64) : gB (sB s i v) j = if j = i then v else gB s j := rfl
def wrA (s : St) (i : Nat) (j x : Int32) : Option St := (wr (gA s i) j x).map (sA s i)
def wrB (s : St) (i : Nat) (j : Int32) (x : Int64) : Option St := (wr (gB s i) j x).map (sB s i)
theorem wrA_e {s s' : St} {i : Nat} {j x : Int32} (h : wrA s i j x = some s') : ∃ ys, wr (gA s i) j x = some ys ∧ s' = sA s i ys := by
  obtain ⟨ys, h1, h2⟩ := Option.map_eq_some_iff.mp h
  exact ⟨ys, h1, h2.symm⟩
theorem wrB_e {s s' : St} {i : Nat} {j : Int32} {x : Int64} (h : wrB s i j x = some s') : ∃ ys, wr (gB s i) j x = some ys ∧ s' = sB s i ys := by
  obtain ⟨ys, h1, h2⟩ := Option.map_eq_some_iff.mp h
  exact ⟨ys, h1, h2.symm⟩
def lt {α β : Type} (x : α) (f : α → β) : β := f x
theorem lt_e {α β : Type} {x : α} {f : α → β} {r : β} (h : lt x f = r) : ∃ y, y = x ∧ f y = r := ⟨x, rfl, h⟩
theorem ite_e {α : Type} {c : Prop} [Decidable c] {a b r : α} (h : (if c then a else b) = r) : (c ∧ a = r) ∨ (¬ c ∧ b = r) := by
  by_cases hc : c
  · rw [if_pos hc] at h; exact Or.inl ⟨hc, h⟩
  · rw [if_neg hc] at h; exact Or.inr ⟨hc, h⟩
theorem nz_e {α : Type} {c : Prop} [Decidable c] {b : Option α} {r : α} (h : (if c then none else b) = some r) : ¬ c ∧ b = some r := by
  by_cases hc : c
  · rw [if_pos hc] at h; cases h
  · rw [if_neg hc] at h; exact ⟨hc, h⟩
/-! the class's fields -/
def LaidAll (Z : State) (a0 : Array Value) (C : String) : List (String × String) → List Value → Prop
  | f :: fs, v :: vs => (Laid Z a0 C C f.1 f.2 ∧ ∃ ty, parseFieldDescriptor f.2 = some ty ∧ v = defaultValue ty) ∧ LaidAll Z a0 C fs vs
  | [], [] => True
  | _, _ => False
theorem LaidAll.new {Z : State} {a0 : Array Value} {C : String} : ∀ {lay : List (String × String)} {vs : List Value}, LaidAll Z a0 C lay vs → ∀ (i : Nat) (f : String × String) (v : Value), lay[i]? = some f → vs[i]? = some v → Laid Z a0 C C f.1 f.2 ∧ ∃ ty, parseFieldDescriptor f.2 = some ty ∧ v = defaultValue ty
  | [], [], _, i, f, v, h, _ => by simp at h
  | g :: fs, w :: vs, h, 0, f, v, h1, h2 => by
    obtain rfl : g = f := by simpa using h1
    obtain rfl : w = v := by simpa using h2
    exact h.1
  | g :: fs, w :: vs, h, i + 1, f, v, h1, h2 => LaidAll.new h.2 i f v (by simpa using h1) (by simpa using h2)
theorem LaidAll.len {Z : State} {a0 : Array Value} {C : String} : ∀ {lay : List (String × String)} {vs : List Value}, LaidAll Z a0 C lay vs → lay.length = vs.length
  | [], [], _ => rfl
  | g :: fs, w :: vs, h => congrArg Nat.succ (LaidAll.len h.2)
theorem LaidAll.ne {Z : State} {a0 : Array Value} {C : String} {lay : List (String × String)} {vs : List Value} (h : LaidAll Z a0 C lay vs) (nd : (lay.map Prod.fst).Nodup) : ∀ (a b : Nat) (f g : String × String), lay[a]? = some f → lay[b]? = some g → a ≠ b → RoadKit.slotOf Z C f.1 f.2 ≠ RoadKit.slotOf Z C g.1 g.2 := by
  intro a b f g ha hb' hne
  have la := get_lt ha
  have lb := get_lt hb'
  obtain ⟨L1, t1, e1, -⟩ := h.new a f _ ha (List.getElem?_eq_getElem (h.len ▸ la))
  obtain ⟨L2, t2, e2, -⟩ := h.new b g _ hb' (List.getElem?_eq_getElem (h.len ▸ lb))
  refine slot_ne L1 L2 (fun q => hne ?_) e1 e2
  have h1 : (lay.map Prod.fst)[a]? = some f.1 := by rw [List.getElem?_map, ha]; rfl
  have h2 : (lay.map Prod.fst)[b]? = some g.1 := by rw [List.getElem?_map, hb']; rfl
  exact (List.getElem?_inj (by simpa using la) nd).mp (h1.trans (by rw [q]; exact h2.symm))
section Puts
variable {l : Launch} {Z : State} {a0 : Array Value} {C : String} {lay : List (String × String)} {own mn : String} {bytes : ByteArray} {maxL : Nat} {ret : Option FieldType} {R : Room} {n0 ro : Nat} {Q : Option Value → List OwnC → Prop} {k n pc pc' : Nat} {L L' : List Slot} {S S' : List Value} {H H' : List OwnC}
theorem WP.putI {idx i j kk : Nat} {f : String} {vs : List Value} {x : Int32} {old : Value} (hd : decode bytes pc = .ok (.putfield idx, 3)) (hw : (Cond.fieldLink own idx C f "I").before a0 Z = true) (hl : (Cond.lays C C f "I").before a0 Z = true ∨ ((Cond.laysFinal C C f "I").before a0 Z = true ∧ own = C ∧ mn = "<init>")) (wi : (Cond.instantiable C kk).before a0 Z = true)
    (hlay : ∀ (a b : Nat) (f g : String × String), lay[a]? = some f → lay[b]? = some g → a ≠ b → RoadKit.slotOf Z C f.1 f.2 ≠ RoadKit.slotOf Z C g.1 g.2) (hj : lay[j]? = some (f, "I")) (hH : H[i]? = some (.inl vs)) (hv : vs[j]? = some old) (hi : ro ≤ i) (hH' : H.set i (.inl (vs.set j (.int x))) = H') (nx : WP l Z C lay own mn bytes maxL ret R n0 ro Q k n (pc + 3) L S H') : WP l Z C lay own mn bytes maxL ret R n0 ro Q k n pc L (.int x :: .ref i :: S) H :=
  WP.put hd hw hl wi hlay (ty := .int) (by decide) (fun _ => rfl) (fun _ => rfl) hj hH hv hi hH' nx
theorem WP.putJ {idx i j kk : Nat} {f : String} {vs : List Value} {x : Int64} {old : Value} (hd : decode bytes pc = .ok (.putfield idx, 3)) (hw : (Cond.fieldLink own idx C f "J").before a0 Z = true) (hl : (Cond.lays C C f "J").before a0 Z = true ∨ ((Cond.laysFinal C C f "J").before a0 Z = true ∧ own = C ∧ mn = "<init>")) (wi : (Cond.instantiable C kk).before a0 Z = true)
    (hlay : ∀ (a b : Nat) (f g : String × String), lay[a]? = some f → lay[b]? = some g → a ≠ b → RoadKit.slotOf Z C f.1 f.2 ≠ RoadKit.slotOf Z C g.1 g.2) (hj : lay[j]? = some (f, "J")) (hH : H[i]? = some (.inl vs)) (hv : vs[j]? = some old) (hi : ro ≤ i) (hH' : H.set i (.inl (vs.set j (.long x))) = H') (nx : WP l Z C lay own mn bytes maxL ret R n0 ro Q k n (pc + 3) L S H') : WP l Z C lay own mn bytes maxL ret R n0 ro Q k n pc L (.long x :: .ref i :: S) H :=
  WP.put hd hw hl wi hlay (ty := .long) (by decide) (fun _ => rfl) (fun _ => rfl) hj hH hv hi hH' nx
theorem WP.putZ {idx i j kk : Nat} {f : String} {vs : List Value} {x : Int32} {old : Value} (hd : decode bytes pc = .ok (.putfield idx, 3)) (hw : (Cond.fieldLink own idx C f "Z").before a0 Z = true) (hl : (Cond.lays C C f "Z").before a0 Z = true ∨ ((Cond.laysFinal C C f "Z").before a0 Z = true ∧ own = C ∧ mn = "<init>")) (wi : (Cond.instantiable C kk).before a0 Z = true)
    (hlay : ∀ (a b : Nat) (f g : String × String), lay[a]? = some f → lay[b]? = some g → a ≠ b → RoadKit.slotOf Z C f.1 f.2 ≠ RoadKit.slotOf Z C g.1 g.2) (hj : lay[j]? = some (f, "Z")) (hH : H[i]? = some (.inl vs)) (hv : vs[j]? = some old) (hi : ro ≤ i) (hH' : H.set i (.inl (vs.set j (.int (x &&& 1)))) = H') (nx : WP l Z C lay own mn bytes maxL ret R n0 ro Q k n (pc + 3) L S H') : WP l Z C lay own mn bytes maxL ret R n0 ro Q k n pc L (.int x :: .ref i :: S) H :=
  WP.put (v' := .int (x &&& 1)) hd hw hl wi hlay (ty := .boolean) (by decide) (fun _ => rfl) (fun _ => fits_nar_bool x) hj hH hv hi hH' nx
theorem WP.putR {idx i j kk i2 : Nat} {f d : String} {vs : List Value} {old : Value} {ty : FieldType} (hd : decode bytes pc = .ok (.putfield idx, 3)) (hw : (Cond.fieldLink own idx C f d).before a0 Z = true) (hl : (Cond.lays C C f d).before a0 Z = true ∨ ((Cond.laysFinal C C f d).before a0 Z = true ∧ own = C ∧ mn = "<init>")) (wi : (Cond.instantiable C kk).before a0 Z = true)
    (hlay : ∀ (a b : Nat) (f g : String × String), lay[a]? = some f → lay[b]? = some g → a ≠ b → RoadKit.slotOf Z C f.1 f.2 ≠ RoadKit.slotOf Z C g.1 g.2) (hty : parseFieldDescriptor d = some ty) (hn : ∀ a, narrow ty (.ref a) = .ref a) (hf : ∀ a, fits ty (.ref a) = true) (hj : lay[j]? = some (f, d)) (hH : H[i]? = some (.inl vs)) (hv : vs[j]? = some old) (hi : ro ≤ i) (hH' : H.set i (.inl (vs.set j (.ref i2))) = H') (nx : WP l Z C lay own mn bytes maxL ret R n0 ro Q k n (pc + 3) L S H') : WP l Z C lay own mn bytes maxL ret R n0 ro Q k n pc L (.ref i2 :: .ref i :: S) H :=
  WP.put (v' := .ref i2) hd hw hl wi hlay hty (fun ad => hn (ad i2)) (fun ad => hf (ad i2)) hj hH hv hi hH' nx
end Puts
/-! ## the start of a law -/
theorem HR.start0 (s : State) (C : String) (lay : List (String × String)) : HR s C lay s.heap.size 0 (fun t => s.heap.size + t) [] s.heap :=
  ⟨fun i c h => by simp at h, fun i j h => by simp at h, fun t => by simp, fun i h => by simp at h, Nat.le_refl _⟩
theorem script_ints {s : State} {a : Addr} {c : Cell} (hf : Fit s) (A : Arr s s.heap a c .int) : ∃ xs : List Int32, c.slots.toList = xs.map Value.int := by
  have h : ∀ v ∈ c.slots.toList, ∃ x : Int32, v = Value.int x := fun v hv => by
    obtain ⟨i, hi, e⟩ := List.mem_iff_getElem.mp hv
    have hi' : i < c.slots.size := by simpa using hi
    have q := hf A.1 hi'
    obtain ⟨hs, k, hk, comp, hkind⟩ := A.2.1
    have e2 : s.slotType? c.cls c.vm i = some .int := by
      cases hq : c.vm <;> first | exact absurd hq (hs _) | simp [State.slotType?, hk, hkind]
    have e3 : c.slots[i] = v := by rw [← e]; simp
    have q2 : fits .int v = true := by rw [← e3]; simpa [State.fitsSlot, e2] using q
    exact fit_I q2 (by simp)
  generalize c.slots.toList = L at h
  induction L with
  | nil => exact ⟨[], rfl⟩
  | cons v L ih =>
    obtain ⟨x, rfl⟩ := h v (List.mem_cons_self ..)
    obtain ⟨xs, rfl⟩ := ih fun w hw => h w (List.mem_cons_of_mem _ hw)
    exact ⟨x :: xs, rfl⟩
def ad1 (a N : Nat) : Nat → Addr
  | 0 => a
  | t + 1 => N + t
theorem HR.start1 {s : State} (C : String) (lay : List (String × String)) {a : Addr} {c : Cell} {xs : List Int32} (A : Arr s s.heap a c .int) (hx : c.slots.toList = xs.map Value.int) : HR s C lay s.heap.size 1 (ad1 a s.heap.size) [cI xs] s.heap := by
  refine ⟨fun i cc h => ?_, fun i j hi hj _ => ?_, fun t => ?_, fun i hi hr => ?_, Nat.le_refl _⟩
  · have hi := get_lt h
    simp at hi; subst hi
    simp at h; subst h
    exact ⟨c, A, hx⟩
  · simp at hi hj; omega
  · show ad1 a s.heap.size (1 + t) = _; rw [Nat.add_comm 1 t]; rfl
  · simp at hi; omega
theorem script_len {s : State} {a : Addr} {c : Cell} {n : Nat} {args : Array Value} {t : Term} (ev : t.eval args s none [] s = some (.ref a)) (A : Arr s s.heap a c .int) (e1 : c.slots.size = n) (h : (Cond.le (Term.length t) (Term.int (260 : Int32))).value args s none s [] = some true) : n ≤ 260 := by
  have hat := A.fin (Vm.Alike.refl _)
  have hl : (Term.length t).eval args s none [] s = if n < 2 ^ 31 then some (.int n.toInt32) else none := by
    simp only [Term.eval, ev, hat, Option.bind_eq_bind, Option.bind_some, e1]; rfl
  by_cases hn : n < 2 ^ 31
  · rw [if_pos hn] at hl
    have h1 := gotT (Cond.le_ints hl (Term.int_eval (260 : Int32))) h
    have h2 : n.toInt32.toInt = n := by
      show (Int32.ofNat n).toInt = n
      exact Int32.toInt_ofNat_of_lt hn
    have h3 := Int32.le_iff_toInt_le.mp h1
    rw [h2] at h3
    have : (260 : Int32).toInt = 260 := by decide
    omega
  · rw [if_neg hn] at hl
    simp [Cond.value, hl] at h
/-! ## plain laws -/
/-- with fuel enough it answers r -/
def Ev {α : Type} (f : Nat → Option α) (r : α) : Prop := ∃ N, ∀ n, N ≤ n → f n = some r
theorem Ev.const {α : Type} {x : Option α} {r : α} (h : x = some r) : Ev (fun _ => x) r := ⟨0, fun _ _ => h⟩
theorem Ev.get {α : Type} {f : Nat → Option α} {r : α} (h : Ev f r) : ∃ n, f n = some r := by obtain ⟨N, h⟩ := h; exact ⟨N, h N (Nat.le_refl _)⟩
theorem Ev.step {α : Type} {f g : Nat → Option α} {r : α} (e : ∀ n, f (n + 1) = g n) (h : Ev g r) : Ev f r := by
  obtain ⟨N, h⟩ := h
  refine ⟨N + 1, fun n hn => ?_⟩
  cases n with
  | zero => omega
  | succ n => rw [e n]; exact h n (by omega)
theorem Ev.congr {α : Type} {f g : Nat → Option α} {r : α} (e : ∀ n, f n = g n) (h : Ev g r) : Ev f r := by
  obtain ⟨N, h⟩ := h
  exact ⟨N, fun n hn => (e n).trans (h n hn)⟩
theorem Ev.bind {α β : Type} {f : Nat → Option β} {g : Nat → β → Option α} {c : β} {r : α} (h1 : Ev f c) (h2 : Ev (fun n => g n c) r) : Ev (fun n => (f n).bind (g n)) r := by
  obtain ⟨N, h1⟩ := h1
  obtain ⟨M, h2⟩ := h2
  refine ⟨N + M, fun n hn => ?_⟩
  show (f n).bind (g n) = some r
  rw [h1 n (by omega)]; exact h2 n (by omega)
theorem Ev.uniq {α : Type} {f : Nat → Option α} {r r' : α} (h : Ev f r) (h' : Ev f r') : r = r' := by
  obtain ⟨N, h⟩ := h
  obtain ⟨M, h'⟩ := h'
  exact Option.some.inj ((h (N + M) (by omega)).symm.trans (h' (N + M) (by omega)))
/-! Int32 as Int -/
theorem x32_lt {x y : Int32} : x < y ↔ x.toInt < y.toInt := Int32.lt_iff_toInt_lt
theorem x32_eq {x y : Int32} : x = y ↔ x.toInt = y.toInt := Int32.toInt_inj.symm
theorem x32_add {x y : Int32} (h1 : -2147483648 ≤ x.toInt + y.toInt) (h2 : x.toInt + y.toInt < 2147483648) : (x + y).toInt = x.toInt + y.toInt := by
  rw [Int32.toInt_add]; exact Int.bmod_eq_of_le (by omega) (by omega)
theorem x32_sub {x y : Int32} (h1 : -2147483648 ≤ x.toInt - y.toInt) (h2 : x.toInt - y.toInt < 2147483648) : (x - y).toInt = x.toInt - y.toInt := by
  rw [Int32.toInt_sub]; exact Int.bmod_eq_of_le (by omega) (by omega)
theorem x32_mul {x y : Int32} (h1 : -2147483648 ≤ x.toInt * y.toInt) (h2 : x.toInt * y.toInt < 2147483648) : (x * y).toInt = x.toInt * y.toInt := by
  rw [Int32.toInt_mul]; exact Int.bmod_eq_of_le (by omega) (by omega)
theorem clamp_nat (x : Int32) : x.toNatClampNeg = x.toInt.toNat := rfl
/-! reading and writing -/
theorem rd_of {α : Type} {xs : List α} {i : Int32} {k : Nat} {x : α} (hi : i.toInt = k) (h : xs[k]? = some x) : rd xs i = some x := by
  have h0 : ¬ i < 0 := by rw [x32_lt, hi]; show ¬ (k : Int) < 0; omega
  unfold rd
  rw [if_neg h0, clamp_nat, hi]; exact h
theorem wr_of {α : Type} {xs : List α} {i : Int32} {k : Nat} (x : α) (hi : i.toInt = k) (h : k < xs.length) : wr xs i x = some (xs.set k x) := by
  have h0 : ¬ i < 0 := by rw [x32_lt, hi]; show ¬ (k : Int) < 0; omega
  unfold wr
  rw [if_neg h0, clamp_nat, hi]; exact if_pos h
theorem wrA_of {s : St} {f : Nat} {i : Int32} {k : Nat} (x : Int32) (hi : i.toInt = k) (h : k < (gA s f).length) : wrA s f i x = some (sA s f ((gA s f).set k x)) := by
  unfold wrA; rw [wr_of x hi h]; rfl
theorem wrB_of {s : St} {f : Nat} {i : Int32} {k : Nat} (x : Int64) (hi : i.toInt = k) (h : k < (gB s f).length) : wrB s f i x = some (sB s f ((gB s f).set k x)) := by
  unfold wrB; rw [wr_of x hi h]; rfl
theorem nn_of {i : Int32} (h : ¬ i < 0) : ∃ k : Nat, i.toInt = k := ⟨i.toInt.toNat, by
  rw [x32_lt] at h
  have : (0 : Int32).toInt = 0 := by decide
  omega⟩
theorem Ev.all {α : Type} {f : Nat → Option α} {r : α} (h : ∀ n, f n = some r) : Ev f r := ⟨0, fun n _ => h n⟩
theorem ofN_int {k : Nat} (h : k < 2147483648) : (Int32.ofNat k).toInt = k := Int32.toInt_ofNat_of_lt (by omega)
theorem ofN_lt {i m : Nat} (hi : i < 2147483648) (hm : m < 2147483648) : Int32.ofNat i < Int32.ofNat m ↔ i < m := by
  rw [x32_lt, ofN_int hi, ofN_int hm]; omega
theorem ofN_succ (k : Nat) : Int32.ofNat k + 1 = Int32.ofNat (k + 1) := (Int32.ofNat_add k 1).symm
theorem ofN_eq {i m : Nat} (hi : i < 2147483648) (hm : m < 2147483648) : Int32.ofNat i = Int32.ofNat m ↔ i = m := by
  rw [x32_eq, ofN_int hi, ofN_int hm]; omega
theorem ofN_of {x : Int32} {k : Nat} (h : x.toInt = k) : x = Int32.ofNat k := by
  have h2 := Int32.toInt_lt x
  rw [x32_eq, ofN_int (by omega)]; exact h
/-- a loop that counts up to N -/
theorem loop_up {α σ : Type} {F : Nat → Int32 → σ → Option α} {E : Nat → σ → Option α} {N : Nat} (Inv : Nat → σ → Prop)
    (hstep : ∀ (i : Nat) (s : σ), i < N → Inv i s → ∃ s', Inv (i + 1) s' ∧ ∀ n, F (n + 1) (Int32.ofNat i) s = F n (Int32.ofNat (i + 1)) s')
    (hend : ∀ s, Inv N s → ∀ n, F (n + 1) (Int32.ofNat N) s = E n s) : ∀ (k i : Nat) (s : σ), i + k = N → Inv i s → ∃ s', Inv N s' ∧ ∀ r, Ev (fun n => E n s') r → Ev (fun n => F n (Int32.ofNat i) s) r := by
  intro k
  induction k with
  | zero =>
    intro i s hi h
    obtain rfl : i = N := by omega
    exact ⟨s, h, fun r hr => Ev.step (hend s h) hr⟩
  | succ k ih =>
    intro i s hi h
    obtain ⟨s', h1, h2⟩ := hstep i s (by omega) h
    obtain ⟨s2, h3, h4⟩ := ih (i + 1) s' (by omega) h1
    exact ⟨s2, h3, fun r hr => Ev.step h2 (h4 r hr)⟩
theorem set_len {α : Type} (xs : List α) (k : Nat) (x : α) : (xs.set k x).length = xs.length := List.length_set
theorem ofN_ltL {i m : Nat} (hi : i < 2147483648) (hm : m < 2147483648) : Int32.ofNat i < (OfNat.ofNat m : Int32) ↔ i < m := ofN_lt hi hm
theorem ofN_gtL {i m : Nat} (hi : i < 2147483648) (hm : m < 2147483648) : (OfNat.ofNat m : Int32) < Int32.ofNat i ↔ m < i := ofN_lt hm hi
theorem ofN_eqL {i m : Nat} (hi : i < 2147483648) (hm : m < 2147483648) : Int32.ofNat i = (OfNat.ofNat m : Int32) ↔ i = m := ofN_eq hi hm
theorem ofN_nn {i : Nat} (hi : i < 2147483648) : ¬ Int32.ofNat i < 0 := fun h => Nat.not_lt_zero _ ((ofN_ltL hi (by decide)).mp h)
theorem lit_int {m : Nat} (hm : m < 2147483648) : (OfNat.ofNat m : Int32).toInt = m := ofN_int hm
theorem upd_upd {α : Type} (f : Nat → α) (i : Nat) (x y : α) : upd (upd f i x) i y = upd f i y := by
  funext j; unfold upd; by_cases h : j = i <;> simp [h]
theorem upd_self {α : Type} (f : Nat → α) (i : Nat) : upd f i (f i) = f := by
  funext j; unfold upd; by_cases h : j = i <;> simp [h]
theorem sA_sA (s : St) (i : Nat) (x y : List Int32) : sA (sA s i x) i y = sA s i y := by unfold sA; dsimp only; rw [upd_upd]
theorem sB_sB (s : St) (i : Nat) (x y : List Int64) : sB (sB s i x) i y = sB s i y := by unfold sB; dsimp only; rw [upd_upd]
theorem sI_sI (s : St) (i : Nat) (x y : Int32) : sI (sI s i x) i y = sI s i y := by unfold sI; dsimp only; rw [upd_upd]
theorem sA_self {s : St} {i : Nat} {x : List Int32} (h : gA s i = x) : sA s i x = s := by
  subst h; unfold sA gA; rw [upd_self]
theorem sB_self {s : St} {i : Nat} {x : List Int64} (h : gB s i = x) : sB s i x = s := by
  subst h; unfold sB gB; rw [upd_self]
theorem sI_self {s : St} {i : Nat} {x : Int32} (h : gI s i = x) : sI s i x = s := by
  subst h; unfold sI gI; rw [upd_self]
theorem fill_set {α : Type} (a b : α) (n i : Nat) (h : i < n) : (List.replicate i a ++ List.replicate (n - i) b).set i a = List.replicate (i + 1) a ++ List.replicate (n - (i + 1)) b := by
  rw [List.set_append_right _ _ (by simp), List.length_replicate, Nat.sub_self]
  obtain ⟨m, hm⟩ : ∃ m, n - i = m + 1 := ⟨n - i - 1, by omega⟩
  have hm2 : n - (i + 1) = m := by omega
  rw [hm, hm2, List.replicate_succ, List.set_cons_zero, List.replicate_succ', List.append_assoc]; rfl
theorem and_nat (x : Int32) (m : Nat) (hm : m < 2147483648) : ∃ k, k ≤ m ∧ (x &&& Int32.ofNat m) = Int32.ofNat k := by
  refine ⟨(x.toBitVec &&& BitVec.ofNat 32 m).toNat, ?_, ?_⟩
  · rw [BitVec.toNat_and, BitVec.toNat_ofNat, Nat.mod_eq_of_lt (by omega)]
    exact Nat.and_le_right
  · apply Int32.toBitVec_inj.mp
    show x.toBitVec &&& BitVec.ofNat 32 m = BitVec.ofNat 32 _
    rw [BitVec.ofNat_toNat, BitVec.setWidth_eq]
theorem and_natL (x : Int32) (m : Nat) (hm : m < 2147483648) : ∃ k, k ≤ m ∧ (x &&& (OfNat.ofNat m : Int32)) = Int32.ofNat k := and_nat x m hm
theorem nat_lt {i : Int32} {m : Nat} (h : ¬ i < 0) (h2 : i < (OfNat.ofNat m : Int32)) (hm : m < 2147483648) : ∃ k : Nat, k < m ∧ i = Int32.ofNat k := by
  obtain ⟨k, hk⟩ := nn_of h
  rw [x32_lt, lit_int hm, hk] at h2
  exact ⟨k, by omega, ofN_of hk⟩
theorem nat_le {i : Int32} {m : Nat} (h : ¬ i < 0) (h2 : ¬ (OfNat.ofNat m : Int32) < i) (hm : m < 2147483648) : ∃ k : Nat, k ≤ m ∧ i = Int32.ofNat k := by
  obtain ⟨k, hk⟩ := nn_of h
  rw [x32_lt, lit_int hm, hk] at h2
  exact ⟨k, by omega, ofN_of hk⟩
theorem rd_at {α : Type} {xs : List α} {k : Nat} {x : α} (hk : k < 2147483648) (h : xs[k]? = some x) : rd xs (Int32.ofNat k) = some x := rd_of (ofN_int hk) h
theorem wr_at' {α : Type} {xs : List α} {k : Nat} (x : α) (hk : k < 2147483648) (h : k < xs.length) : wr xs (Int32.ofNat k) x = some (xs.set k x) := wr_of x (ofN_int hk) h
theorem rep_get {α : Type} {n k : Nat} (a : α) (h : k < n) : (List.replicate n a)[k]? = some a := by rw [List.getElem?_replicate, if_pos h]
theorem get_set_self {α : Type} {xs : List α} {k : Nat} (x : α) (h : k < xs.length) : (xs.set k x)[k]? = some x := by rw [List.getElem?_set_self h]
theorem get_set_ne {α : Type} {xs : List α} {k j : Nat} (x : α) (h : k ≠ j) : (xs.set k x)[j]? = xs[j]? := List.getElem?_set_ne h
theorem upd_comm {α : Type} (f : Nat → α) {i j : Nat} (h : i ≠ j) (x y : α) : upd (upd f i x) j y = upd (upd f j y) i x := by
  funext m; unfold upd
  by_cases h1 : m = j
  · subst h1; rw [if_pos rfl, if_neg (Ne.symm h), if_pos rfl]
  · rw [if_neg h1]; by_cases h2 : m = i
    · rw [if_pos h2, if_pos h2]
    · rw [if_neg h2, if_neg h2, if_neg h1]
theorem sA_comm {s : St} {i j : Nat} (h : i ≠ j) {x y : List Int32} : sA (sA s i x) j y = sA (sA s j y) i x := by unfold sA; dsimp only; rw [upd_comm _ h]
theorem sB_comm {s : St} {i j : Nat} (h : i ≠ j) {x y : List Int64} : sB (sB s i x) j y = sB (sB s j y) i x := by unfold sB; dsimp only; rw [upd_comm _ h]
theorem sI_comm {s : St} {i j : Nat} (h : i ≠ j) {x y : Int32} : sI (sI s i x) j y = sI (sI s j y) i x := by unfold sI; dsimp only; rw [upd_comm _ h]
theorem sJ_self {s : St} {i : Nat} {x : Int64} (h : gJ s i = x) : sJ s i x = s := by
  subst h; unfold sJ gJ; rw [upd_self]
theorem wrA_nop {s : St} {f N k : Nat} {v : Int32} (h : gA s f = List.replicate N v) (hk : k < N) (hN : N ≤ 2147483647) : wrA s f (Int32.ofNat k) v = some s := by
  rw [wrA_of (k := k) v (ofN_int (by omega)) (by rw [h, List.length_replicate]; exact hk), sA_self (by rw [h, List.set_replicate_self])]
theorem wrB_nop {s : St} {f N k : Nat} {v : Int64} (h : gB s f = List.replicate N v) (hk : k < N) (hN : N ≤ 2147483647) : wrB s f (Int32.ofNat k) v = some s := by
  rw [wrB_of (k := k) v (ofN_int (by omega)) (by rw [h, List.length_replicate]; exact hk), sB_self (by rw [h, List.set_replicate_self])]
/-- a loop that fills -/
theorem wrA_fill {s : St} {f N k : Nat} {u v : Int32} (hk : k < N) (hN : N ≤ 2147483647) : wrA (sA s f (List.replicate k v ++ List.replicate (N - k) u)) f (Int32.ofNat k) v = some (sA s f (List.replicate (k + 1) v ++ List.replicate (N - (k + 1)) u)) := by
  rw [wrA_of (k := k) v (ofN_int (by omega)) (by rw [gA_sA, if_pos rfl]; simp; omega), gA_sA, if_pos rfl, fill_set _ _ _ _ hk, sA_sA]
theorem fill_start {s : St} {f N : Nat} {u v : Int32} (h : gA s f = List.replicate N u) : s = sA s f (List.replicate 0 v ++ List.replicate (N - 0) u) := (sA_self (by rw [h]; rfl)).symm
theorem fill_end {s : St} {f N : Nat} {u v : Int32} : sA s f (List.replicate N v ++ List.replicate (N - N) u) = sA s f (List.replicate N v) := by rw [Nat.sub_self]; simp
theorem x32_neg {x : Int32} (h : -2147483648 < x.toInt) : (-x).toInt = -x.toInt := by
  have := Int32.toInt_lt x
  rw [Int32.toInt_neg]; exact Int.bmod_eq_of_le (by omega) (by omega)
theorem x64_neg {x : Int64} (h : -9223372036854775808 < x.toInt) : (-x).toInt = -x.toInt := by
  have := Int64.toInt_lt x
  rw [Int64.toInt_neg]; exact Int.bmod_eq_of_le (by omega) (by omega)
theorem x64_lt {x y : Int64} : x < y ↔ x.toInt < y.toInt := Int64.lt_iff_toInt_lt
theorem x64_eq {x y : Int64} : x = y ↔ x.toInt = y.toInt := Int64.toInt_inj.symm
theorem x64_add {x y : Int64} (h1 : -9223372036854775808 ≤ x.toInt + y.toInt) (h2 : x.toInt + y.toInt < 9223372036854775808) : (x + y).toInt = x.toInt + y.toInt := by
  rw [Int64.toInt_add]; exact Int.bmod_eq_of_le (by omega) (by omega)
theorem x64_sub {x y : Int64} (h1 : -9223372036854775808 ≤ x.toInt - y.toInt) (h2 : x.toInt - y.toInt < 9223372036854775808) : (x - y).toInt = x.toInt - y.toInt := by
  rw [Int64.toInt_sub]; exact Int.bmod_eq_of_le (by omega) (by omega)
theorem x64_mul {x y : Int64} (h1 : -9223372036854775808 ≤ x.toInt * y.toInt) (h2 : x.toInt * y.toInt < 9223372036854775808) : (x * y).toInt = x.toInt * y.toInt := by
  rw [Int64.toInt_mul]; exact Int.bmod_eq_of_le (by omega) (by omega)
end Jvm.Own
namespace Jvm.Pilot.@@N@@
open Jvm Jvm.ClassFile Sem Op Lib Jvm.Free Jvm.Stand Jvm.LawKit Jvm.RoadKit Bundle Jvm.Pilot.@@N@@.Jvm.D Jvm.Own
abbrev HW (a0 : Array Value) (Z : State) : Prop := ∀ d ∈ tables_1, d.before a0 Z = true
abbrev CN : String := "DemandGate"
def lay : List (String × String) := [("cap", "I"), ("limit", "I"), ("admC", "[I"), ("admD", "[I"), ("admT", "[I"), ("admN", "I"), ("candC", "[I"), ("candD", "[I"), ("candT", "[I"), ("candN", "I"), ("candHeld", "Z"), ("candH", "I"), ("lastOverload", "I"), ("lastHyper", "I"), ("missDeadline", "I"), ("missTask", "I"), ("idleUnits", "I"), ("wC", "[I"), ("wD", "[I"), ("wT", "[I"), ("wN", "I"), ("nextDl", "[I"), ("rem", "[I"), ("absDl", "[I")]
abbrev vs0 : List Value := [.int 0, .int 0, .null, .null, .null, .int 0, .null, .null, .null, .int 0, .int 0, .int 0, .int 0, .int 0, .int 0, .int 0, .int 0, .null, .null, .null, .int 0, .null, .null, .null]
abbrev Hb (b : Nat) (s : St) : List OwnC := [cO [.int (gI s 0), .int (gI s 1), .ref (b + 1), .ref (b + 2), .ref (b + 3), .int (gI s 2), .ref (b + 4), .ref (b + 5), .ref (b + 6), .int (gI s 3), .int (gI s 4), .int (gI s 5), .int (gI s 6), .int (gI s 7), .int (gI s 8), .int (gI s 9), .int (gI s 10), .ref (b + 7), .ref (b + 8), .ref (b + 9), .int (gI s 11), .ref (b + 10), .ref (b + 11), .ref (b + 12)], cI (gA s 0), cI (gA s 1), cI (gA s 2), cI (gA s 3), cI (gA s 4), cI (gA s 5), cI (gA s 6), cI (gA s 7), cI (gA s 8), cI (gA s 9), cI (gA s 10), cI (gA s 11)]
def st0 : St := (fun _ => 0, fun _ => 0, fun i => ([List.replicate 12 0, List.replicate 12 0, List.replicate 12 0, List.replicate 12 0, List.replicate 12 0, List.replicate 12 0, List.replicate 12 0, List.replicate 12 0, List.replicate 12 0, List.replicate 12 0, List.replicate 12 0, List.replicate 12 0] : List (List Int32)).getD i [], fun i => ([] : List (List Int64)).getD i [])
theorem m_0 : (Jvm.Cond.classLink "DemandGateL3" (7 : Nat) "DemandGate") ∈ tables_1 := List.mem_of_getElem? (i := 0) rfl
theorem m_1 : (Jvm.Cond.instantiable "DemandGate" (24 : Nat)) ∈ tables_1 := List.mem_of_getElem? (i := 1) rfl
theorem m_2 : (Jvm.Cond.initialized "DemandGate") ∈ tables_1 := List.mem_of_getElem? (i := 2) rfl
theorem m_3 : (Jvm.Cond.methodLink "DemandGateL3" (9 : Nat) ({ cls := "DemandGate", name := "<init>", desc := "(II)V" } : Jvm.MethodName)) ∈ tables_1 := List.mem_of_getElem? (i := 3) rfl
theorem m_4 : (Jvm.Cond.instanceMethod ({ cls := "DemandGate", name := "<init>", desc := "(II)V" } : Jvm.MethodName)) ∈ tables_1 := List.mem_of_getElem? (i := 4) rfl
theorem m_5 : (Jvm.Cond.code ({ cls := "DemandGate", name := "<init>", desc := "(II)V" } : Jvm.MethodName) prog_1_method_1_code (3 : Nat) (Option.none : Option Jvm.ClassFile.FieldType)) ∈ tables_1 := List.mem_of_getElem? (i := 5) rfl
theorem m_6 : (Jvm.Cond.methodLink "DemandGate" (1 : Nat) ({ cls := "java/lang/Object", name := "<init>", desc := "()V" } : Jvm.MethodName)) ∈ tables_1 := List.mem_of_getElem? (i := 6) rfl
theorem m_7 : (Jvm.Cond.instanceMethod ({ cls := "java/lang/Object", name := "<init>", desc := "()V" } : Jvm.MethodName)) ∈ tables_1 := List.mem_of_getElem? (i := 7) rfl
theorem m_8 : (Jvm.Cond.code ({ cls := "java/lang/Object", name := "<init>", desc := "()V" } : Jvm.MethodName) object_method_1_code (1 : Nat) (Option.none : Option Jvm.ClassFile.FieldType)) ∈ tables_1 := List.mem_of_getElem? (i := 8) rfl
theorem m_9 : (Jvm.Cond.arrayClass Jvm.ClassFile.FieldType.int) ∈ tables_1 := List.mem_of_getElem? (i := 9) rfl
theorem m_10 : (Jvm.Cond.fieldLink "DemandGate" (7 : Nat) "DemandGate" "admC" "[I") ∈ tables_1 := List.mem_of_getElem? (i := 10) rfl
theorem m_11 : (Jvm.Cond.laysFinal "DemandGate" "DemandGate" "admC" "[I") ∈ tables_1 := List.mem_of_getElem? (i := 11) rfl
theorem m_12 : (Jvm.Cond.fieldLink "DemandGate" (13 : Nat) "DemandGate" "admD" "[I") ∈ tables_1 := List.mem_of_getElem? (i := 12) rfl
theorem m_13 : (Jvm.Cond.laysFinal "DemandGate" "DemandGate" "admD" "[I") ∈ tables_1 := List.mem_of_getElem? (i := 13) rfl
theorem m_14 : (Jvm.Cond.fieldLink "DemandGate" (16 : Nat) "DemandGate" "admT" "[I") ∈ tables_1 := List.mem_of_getElem? (i := 14) rfl
theorem m_15 : (Jvm.Cond.laysFinal "DemandGate" "DemandGate" "admT" "[I") ∈ tables_1 := List.mem_of_getElem? (i := 15) rfl
theorem m_16 : (Jvm.Cond.fieldLink "DemandGate" (19 : Nat) "DemandGate" "candC" "[I") ∈ tables_1 := List.mem_of_getElem? (i := 16) rfl
theorem m_17 : (Jvm.Cond.laysFinal "DemandGate" "DemandGate" "candC" "[I") ∈ tables_1 := List.mem_of_getElem? (i := 17) rfl
theorem m_18 : (Jvm.Cond.fieldLink "DemandGate" (22 : Nat) "DemandGate" "candD" "[I") ∈ tables_1 := List.mem_of_getElem? (i := 18) rfl
theorem m_19 : (Jvm.Cond.laysFinal "DemandGate" "DemandGate" "candD" "[I") ∈ tables_1 := List.mem_of_getElem? (i := 19) rfl
theorem m_20 : (Jvm.Cond.fieldLink "DemandGate" (25 : Nat) "DemandGate" "candT" "[I") ∈ tables_1 := List.mem_of_getElem? (i := 20) rfl
theorem m_21 : (Jvm.Cond.laysFinal "DemandGate" "DemandGate" "candT" "[I") ∈ tables_1 := List.mem_of_getElem? (i := 21) rfl
theorem m_22 : (Jvm.Cond.fieldLink "DemandGate" (28 : Nat) "DemandGate" "wC" "[I") ∈ tables_1 := List.mem_of_getElem? (i := 22) rfl
theorem m_23 : (Jvm.Cond.laysFinal "DemandGate" "DemandGate" "wC" "[I") ∈ tables_1 := List.mem_of_getElem? (i := 23) rfl
theorem m_24 : (Jvm.Cond.fieldLink "DemandGate" (31 : Nat) "DemandGate" "wD" "[I") ∈ tables_1 := List.mem_of_getElem? (i := 24) rfl
theorem m_25 : (Jvm.Cond.laysFinal "DemandGate" "DemandGate" "wD" "[I") ∈ tables_1 := List.mem_of_getElem? (i := 25) rfl
theorem m_26 : (Jvm.Cond.fieldLink "DemandGate" (34 : Nat) "DemandGate" "wT" "[I") ∈ tables_1 := List.mem_of_getElem? (i := 26) rfl
theorem m_27 : (Jvm.Cond.laysFinal "DemandGate" "DemandGate" "wT" "[I") ∈ tables_1 := List.mem_of_getElem? (i := 27) rfl
theorem m_28 : (Jvm.Cond.fieldLink "DemandGate" (37 : Nat) "DemandGate" "nextDl" "[I") ∈ tables_1 := List.mem_of_getElem? (i := 28) rfl
theorem m_29 : (Jvm.Cond.laysFinal "DemandGate" "DemandGate" "nextDl" "[I") ∈ tables_1 := List.mem_of_getElem? (i := 29) rfl
theorem m_30 : (Jvm.Cond.fieldLink "DemandGate" (40 : Nat) "DemandGate" "rem" "[I") ∈ tables_1 := List.mem_of_getElem? (i := 30) rfl
theorem m_31 : (Jvm.Cond.laysFinal "DemandGate" "DemandGate" "rem" "[I") ∈ tables_1 := List.mem_of_getElem? (i := 31) rfl
theorem m_32 : (Jvm.Cond.fieldLink "DemandGate" (43 : Nat) "DemandGate" "absDl" "[I") ∈ tables_1 := List.mem_of_getElem? (i := 32) rfl
theorem m_33 : (Jvm.Cond.laysFinal "DemandGate" "DemandGate" "absDl" "[I") ∈ tables_1 := List.mem_of_getElem? (i := 33) rfl
theorem m_34 : (Jvm.Cond.methodLink "DemandGate" (46 : Nat) ({ cls := "DemandGate", name := "clamp", desc := "(III)I" } : Jvm.MethodName)) ∈ tables_1 := List.mem_of_getElem? (i := 34) rfl
theorem m_35 : (Jvm.Cond.instanceMethod ({ cls := "DemandGate", name := "clamp", desc := "(III)I" } : Jvm.MethodName)) ∈ tables_1 := List.mem_of_getElem? (i := 35) rfl
theorem m_36 : (Jvm.Cond.privateMethod ({ cls := "DemandGate", name := "clamp", desc := "(III)I" } : Jvm.MethodName)) ∈ tables_1 := List.mem_of_getElem? (i := 36) rfl
theorem m_37 : (Jvm.Cond.code ({ cls := "DemandGate", name := "clamp", desc := "(III)I" } : Jvm.MethodName) prog_1_method_18_code (4 : Nat) (Option.some Jvm.ClassFile.FieldType.int)) ∈ tables_1 := List.mem_of_getElem? (i := 37) rfl
theorem m_38 : (Jvm.Cond.fieldLink "DemandGate" (50 : Nat) "DemandGate" "cap" "I") ∈ tables_1 := List.mem_of_getElem? (i := 38) rfl
theorem m_39 : (Jvm.Cond.lays "DemandGate" "DemandGate" "cap" "I") ∈ tables_1 := List.mem_of_getElem? (i := 39) rfl
theorem m_40 : (Jvm.Cond.fieldLink "DemandGate" (54 : Nat) "DemandGate" "limit" "I") ∈ tables_1 := List.mem_of_getElem? (i := 40) rfl
theorem m_41 : (Jvm.Cond.lays "DemandGate" "DemandGate" "limit" "I") ∈ tables_1 := List.mem_of_getElem? (i := 41) rfl
theorem m_42 : (Jvm.Cond.fieldLink "DemandGate" (57 : Nat) "DemandGate" "admN" "I") ∈ tables_1 := List.mem_of_getElem? (i := 42) rfl
theorem m_43 : (Jvm.Cond.lays "DemandGate" "DemandGate" "admN" "I") ∈ tables_1 := List.mem_of_getElem? (i := 43) rfl
theorem m_44 : (Jvm.Cond.fieldLink "DemandGate" (60 : Nat) "DemandGate" "candN" "I") ∈ tables_1 := List.mem_of_getElem? (i := 44) rfl
theorem m_45 : (Jvm.Cond.lays "DemandGate" "DemandGate" "candN" "I") ∈ tables_1 := List.mem_of_getElem? (i := 45) rfl
theorem m_46 : (Jvm.Cond.fieldLink "DemandGate" (63 : Nat) "DemandGate" "candHeld" "Z") ∈ tables_1 := List.mem_of_getElem? (i := 46) rfl
theorem m_47 : (Jvm.Cond.lays "DemandGate" "DemandGate" "candHeld" "Z") ∈ tables_1 := List.mem_of_getElem? (i := 47) rfl
theorem m_48 : (Jvm.Cond.fieldLink "DemandGate" (67 : Nat) "DemandGate" "candH" "I") ∈ tables_1 := List.mem_of_getElem? (i := 48) rfl
theorem m_49 : (Jvm.Cond.lays "DemandGate" "DemandGate" "candH" "I") ∈ tables_1 := List.mem_of_getElem? (i := 49) rfl
theorem m_50 : (Jvm.Cond.fieldLink "DemandGate" (70 : Nat) "DemandGate" "lastOverload" "I") ∈ tables_1 := List.mem_of_getElem? (i := 50) rfl
theorem m_51 : (Jvm.Cond.lays "DemandGate" "DemandGate" "lastOverload" "I") ∈ tables_1 := List.mem_of_getElem? (i := 51) rfl
theorem m_52 : (Jvm.Cond.fieldLink "DemandGate" (73 : Nat) "DemandGate" "lastHyper" "I") ∈ tables_1 := List.mem_of_getElem? (i := 52) rfl
theorem m_53 : (Jvm.Cond.lays "DemandGate" "DemandGate" "lastHyper" "I") ∈ tables_1 := List.mem_of_getElem? (i := 53) rfl
theorem m_54 : (Jvm.Cond.fieldLink "DemandGate" (76 : Nat) "DemandGate" "missDeadline" "I") ∈ tables_1 := List.mem_of_getElem? (i := 54) rfl
theorem m_55 : (Jvm.Cond.lays "DemandGate" "DemandGate" "missDeadline" "I") ∈ tables_1 := List.mem_of_getElem? (i := 55) rfl
theorem m_56 : (Jvm.Cond.fieldLink "DemandGate" (79 : Nat) "DemandGate" "missTask" "I") ∈ tables_1 := List.mem_of_getElem? (i := 56) rfl
theorem m_57 : (Jvm.Cond.lays "DemandGate" "DemandGate" "missTask" "I") ∈ tables_1 := List.mem_of_getElem? (i := 57) rfl
theorem m_58 : (Jvm.Cond.fieldLink "DemandGate" (82 : Nat) "DemandGate" "idleUnits" "I") ∈ tables_1 := List.mem_of_getElem? (i := 58) rfl
theorem m_59 : (Jvm.Cond.lays "DemandGate" "DemandGate" "idleUnits" "I") ∈ tables_1 := List.mem_of_getElem? (i := 59) rfl
theorem m_60 : (Jvm.Cond.fieldLink "DemandGate" (85 : Nat) "DemandGate" "wN" "I") ∈ tables_1 := List.mem_of_getElem? (i := 60) rfl
theorem m_61 : (Jvm.Cond.lays "DemandGate" "DemandGate" "wN" "I") ∈ tables_1 := List.mem_of_getElem? (i := 61) rfl
theorem m_62 : (Jvm.Cond.methodLink "DemandGateL3" (12 : Nat) ({ cls := "DemandGate", name := "propose", desc := "(III)I" } : Jvm.MethodName)) ∈ tables_1 := List.mem_of_getElem? (i := 62) rfl
theorem m_63 : (Jvm.Cond.declares ({ cls := "DemandGate", name := "propose", desc := "(III)I" } : Jvm.MethodName)) ∈ tables_1 := List.mem_of_getElem? (i := 63) rfl
theorem m_64 : (Jvm.Cond.instanceMethod ({ cls := "DemandGate", name := "propose", desc := "(III)I" } : Jvm.MethodName)) ∈ tables_1 := List.mem_of_getElem? (i := 64) rfl
theorem m_65 : (Jvm.Cond.selects "DemandGate" ({ cls := "DemandGate", name := "propose", desc := "(III)I" } : Jvm.MethodName) ({ cls := "DemandGate", name := "propose", desc := "(III)I" } : Jvm.MethodName)) ∈ tables_1 := List.mem_of_getElem? (i := 65) rfl
theorem m_66 : (Jvm.Cond.code ({ cls := "DemandGate", name := "propose", desc := "(III)I" } : Jvm.MethodName) prog_1_method_2_code (5 : Nat) (Option.some Jvm.ClassFile.FieldType.int)) ∈ tables_1 := List.mem_of_getElem? (i := 66) rfl
theorem m_67 : (Jvm.Cond.methodLink "DemandGate" (88 : Nat) ({ cls := "DemandGate", name := "validParams", desc := "(III)Z" } : Jvm.MethodName)) ∈ tables_1 := List.mem_of_getElem? (i := 67) rfl
theorem m_68 : (Jvm.Cond.instanceMethod ({ cls := "DemandGate", name := "validParams", desc := "(III)Z" } : Jvm.MethodName)) ∈ tables_1 := List.mem_of_getElem? (i := 68) rfl
theorem m_69 : (Jvm.Cond.privateMethod ({ cls := "DemandGate", name := "validParams", desc := "(III)Z" } : Jvm.MethodName)) ∈ tables_1 := List.mem_of_getElem? (i := 69) rfl
theorem m_70 : (Jvm.Cond.code ({ cls := "DemandGate", name := "validParams", desc := "(III)Z" } : Jvm.MethodName) prog_1_method_19_code (4 : Nat) (Option.some Jvm.ClassFile.FieldType.boolean)) ∈ tables_1 := List.mem_of_getElem? (i := 70) rfl
theorem m_71 : (Jvm.Cond.methodLink "DemandGate" (92 : Nat) ({ cls := "DemandGate", name := "loadAdmitted", desc := "()V" } : Jvm.MethodName)) ∈ tables_1 := List.mem_of_getElem? (i := 71) rfl
theorem m_72 : (Jvm.Cond.instanceMethod ({ cls := "DemandGate", name := "loadAdmitted", desc := "()V" } : Jvm.MethodName)) ∈ tables_1 := List.mem_of_getElem? (i := 72) rfl
theorem m_73 : (Jvm.Cond.privateMethod ({ cls := "DemandGate", name := "loadAdmitted", desc := "()V" } : Jvm.MethodName)) ∈ tables_1 := List.mem_of_getElem? (i := 73) rfl
theorem m_74 : (Jvm.Cond.code ({ cls := "DemandGate", name := "loadAdmitted", desc := "()V" } : Jvm.MethodName) prog_1_method_20_code (2 : Nat) (Option.none : Option Jvm.ClassFile.FieldType)) ∈ tables_1 := List.mem_of_getElem? (i := 74) rfl
theorem m_75 : (Jvm.Cond.methodLink "DemandGate" (95 : Nat) ({ cls := "DemandGate", name := "appendWork", desc := "(III)Z" } : Jvm.MethodName)) ∈ tables_1 := List.mem_of_getElem? (i := 75) rfl
theorem m_76 : (Jvm.Cond.instanceMethod ({ cls := "DemandGate", name := "appendWork", desc := "(III)Z" } : Jvm.MethodName)) ∈ tables_1 := List.mem_of_getElem? (i := 76) rfl
theorem m_77 : (Jvm.Cond.privateMethod ({ cls := "DemandGate", name := "appendWork", desc := "(III)Z" } : Jvm.MethodName)) ∈ tables_1 := List.mem_of_getElem? (i := 77) rfl
theorem m_78 : (Jvm.Cond.code ({ cls := "DemandGate", name := "appendWork", desc := "(III)Z" } : Jvm.MethodName) prog_1_method_22_code (4 : Nat) (Option.some Jvm.ClassFile.FieldType.boolean)) ∈ tables_1 := List.mem_of_getElem? (i := 78) rfl
theorem m_79 : (Jvm.Cond.methodLink "DemandGate" (98 : Nat) ({ cls := "DemandGate", name := "workHyper", desc := "(I)I" } : Jvm.MethodName)) ∈ tables_1 := List.mem_of_getElem? (i := 79) rfl
theorem m_80 : (Jvm.Cond.instanceMethod ({ cls := "DemandGate", name := "workHyper", desc := "(I)I" } : Jvm.MethodName)) ∈ tables_1 := List.mem_of_getElem? (i := 80) rfl
theorem m_81 : (Jvm.Cond.privateMethod ({ cls := "DemandGate", name := "workHyper", desc := "(I)I" } : Jvm.MethodName)) ∈ tables_1 := List.mem_of_getElem? (i := 81) rfl
theorem m_82 : (Jvm.Cond.code ({ cls := "DemandGate", name := "workHyper", desc := "(I)I" } : Jvm.MethodName) prog_1_method_27_code (5 : Nat) (Option.some Jvm.ClassFile.FieldType.int)) ∈ tables_1 := List.mem_of_getElem? (i := 82) rfl
theorem m_83 : (Jvm.Cond.methodLink "DemandGate" (126 : Nat) ({ cls := "DemandGate", name := "lcm", desc := "(JJ)J" } : Jvm.MethodName)) ∈ tables_1 := List.mem_of_getElem? (i := 83) rfl
theorem m_84 : (Jvm.Cond.instanceMethod ({ cls := "DemandGate", name := "lcm", desc := "(JJ)J" } : Jvm.MethodName)) ∈ tables_1 := List.mem_of_getElem? (i := 84) rfl
theorem m_85 : (Jvm.Cond.privateMethod ({ cls := "DemandGate", name := "lcm", desc := "(JJ)J" } : Jvm.MethodName)) ∈ tables_1 := List.mem_of_getElem? (i := 85) rfl
theorem m_86 : (Jvm.Cond.code ({ cls := "DemandGate", name := "lcm", desc := "(JJ)J" } : Jvm.MethodName) prog_1_method_26_code (7 : Nat) (Option.some Jvm.ClassFile.FieldType.long)) ∈ tables_1 := List.mem_of_getElem? (i := 86) rfl
theorem m_87 : (Jvm.Cond.methodLink "DemandGate" (122 : Nat) ({ cls := "DemandGate", name := "gcd", desc := "(JJ)J" } : Jvm.MethodName)) ∈ tables_1 := List.mem_of_getElem? (i := 87) rfl
theorem m_88 : (Jvm.Cond.instanceMethod ({ cls := "DemandGate", name := "gcd", desc := "(JJ)J" } : Jvm.MethodName)) ∈ tables_1 := List.mem_of_getElem? (i := 88) rfl
theorem m_89 : (Jvm.Cond.privateMethod ({ cls := "DemandGate", name := "gcd", desc := "(JJ)J" } : Jvm.MethodName)) ∈ tables_1 := List.mem_of_getElem? (i := 89) rfl
theorem m_90 : (Jvm.Cond.code ({ cls := "DemandGate", name := "gcd", desc := "(JJ)J" } : Jvm.MethodName) prog_1_method_25_code (12 : Nat) (Option.some Jvm.ClassFile.FieldType.long)) ∈ tables_1 := List.mem_of_getElem? (i := 90) rfl
theorem m_91 : (Jvm.Cond.methodLink "DemandGate" (102 : Nat) ({ cls := "DemandGate", name := "storeCandidate", desc := "(I)V" } : Jvm.MethodName)) ∈ tables_1 := List.mem_of_getElem? (i := 91) rfl
theorem m_92 : (Jvm.Cond.instanceMethod ({ cls := "DemandGate", name := "storeCandidate", desc := "(I)V" } : Jvm.MethodName)) ∈ tables_1 := List.mem_of_getElem? (i := 92) rfl
theorem m_93 : (Jvm.Cond.privateMethod ({ cls := "DemandGate", name := "storeCandidate", desc := "(I)V" } : Jvm.MethodName)) ∈ tables_1 := List.mem_of_getElem? (i := 93) rfl
theorem m_94 : (Jvm.Cond.code ({ cls := "DemandGate", name := "storeCandidate", desc := "(I)V" } : Jvm.MethodName) prog_1_method_23_code (3 : Nat) (Option.none : Option Jvm.ClassFile.FieldType)) ∈ tables_1 := List.mem_of_getElem? (i := 94) rfl
theorem m_95 : (Jvm.Cond.methodLink "DemandGate" (106 : Nat) ({ cls := "DemandGate", name := "overloadOfWork", desc := "(I)I" } : Jvm.MethodName)) ∈ tables_1 := List.mem_of_getElem? (i := 95) rfl
theorem m_96 : (Jvm.Cond.instanceMethod ({ cls := "DemandGate", name := "overloadOfWork", desc := "(I)I" } : Jvm.MethodName)) ∈ tables_1 := List.mem_of_getElem? (i := 96) rfl
theorem m_97 : (Jvm.Cond.privateMethod ({ cls := "DemandGate", name := "overloadOfWork", desc := "(I)I" } : Jvm.MethodName)) ∈ tables_1 := List.mem_of_getElem? (i := 97) rfl
theorem m_98 : (Jvm.Cond.code ({ cls := "DemandGate", name := "overloadOfWork", desc := "(I)I" } : Jvm.MethodName) prog_1_method_28_code (2 : Nat) (Option.some Jvm.ClassFile.FieldType.int)) ∈ tables_1 := List.mem_of_getElem? (i := 98) rfl
theorem m_99 : (Jvm.Cond.methodLink "DemandGate" (129 : Nat) ({ cls := "DemandGate", name := "implicitWithinCapacity", desc := "(I)Z" } : Jvm.MethodName)) ∈ tables_1 := List.mem_of_getElem? (i := 99) rfl
theorem m_100 : (Jvm.Cond.instanceMethod ({ cls := "DemandGate", name := "implicitWithinCapacity", desc := "(I)Z" } : Jvm.MethodName)) ∈ tables_1 := List.mem_of_getElem? (i := 100) rfl
theorem m_101 : (Jvm.Cond.privateMethod ({ cls := "DemandGate", name := "implicitWithinCapacity", desc := "(I)Z" } : Jvm.MethodName)) ∈ tables_1 := List.mem_of_getElem? (i := 101) rfl
theorem m_102 : (Jvm.Cond.code ({ cls := "DemandGate", name := "implicitWithinCapacity", desc := "(I)Z" } : Jvm.MethodName) prog_1_method_29_code (5 : Nat) (Option.some Jvm.ClassFile.FieldType.boolean)) ∈ tables_1 := List.mem_of_getElem? (i := 102) rfl
theorem m_103 : (Jvm.Cond.methodLink "DemandGate" (109 : Nat) ({ cls := "DemandGate", name := "admitTask", desc := "(III)I" } : Jvm.MethodName)) ∈ tables_1 := List.mem_of_getElem? (i := 103) rfl
theorem m_104 : (Jvm.Cond.instanceMethod ({ cls := "DemandGate", name := "admitTask", desc := "(III)I" } : Jvm.MethodName)) ∈ tables_1 := List.mem_of_getElem? (i := 104) rfl
theorem m_105 : (Jvm.Cond.privateMethod ({ cls := "DemandGate", name := "admitTask", desc := "(III)I" } : Jvm.MethodName)) ∈ tables_1 := List.mem_of_getElem? (i := 105) rfl
theorem m_106 : (Jvm.Cond.code ({ cls := "DemandGate", name := "admitTask", desc := "(III)I" } : Jvm.MethodName) prog_1_method_24_code (4 : Nat) (Option.some Jvm.ClassFile.FieldType.int)) ∈ tables_1 := List.mem_of_getElem? (i := 106) rfl
theorem m_107 : (Jvm.Cond.methodLink "DemandGate" (133 : Nat) ({ cls := "DemandGate", name := "scanDeadlinePoints", desc := "(I)I" } : Jvm.MethodName)) ∈ tables_1 := List.mem_of_getElem? (i := 107) rfl
theorem m_108 : (Jvm.Cond.instanceMethod ({ cls := "DemandGate", name := "scanDeadlinePoints", desc := "(I)I" } : Jvm.MethodName)) ∈ tables_1 := List.mem_of_getElem? (i := 108) rfl
theorem m_109 : (Jvm.Cond.privateMethod ({ cls := "DemandGate", name := "scanDeadlinePoints", desc := "(I)I" } : Jvm.MethodName)) ∈ tables_1 := List.mem_of_getElem? (i := 109) rfl
theorem m_110 : (Jvm.Cond.code ({ cls := "DemandGate", name := "scanDeadlinePoints", desc := "(I)I" } : Jvm.MethodName) prog_1_method_30_code (6 : Nat) (Option.some Jvm.ClassFile.FieldType.int)) ∈ tables_1 := List.mem_of_getElem? (i := 110) rfl
theorem m_111 : (Jvm.Cond.methodLink "DemandGate" (136 : Nat) ({ cls := "DemandGate", name := "earliestNextDeadline", desc := "()I" } : Jvm.MethodName)) ∈ tables_1 := List.mem_of_getElem? (i := 111) rfl
theorem m_112 : (Jvm.Cond.instanceMethod ({ cls := "DemandGate", name := "earliestNextDeadline", desc := "()I" } : Jvm.MethodName)) ∈ tables_1 := List.mem_of_getElem? (i := 112) rfl
theorem m_113 : (Jvm.Cond.privateMethod ({ cls := "DemandGate", name := "earliestNextDeadline", desc := "()I" } : Jvm.MethodName)) ∈ tables_1 := List.mem_of_getElem? (i := 113) rfl
theorem m_114 : (Jvm.Cond.code ({ cls := "DemandGate", name := "earliestNextDeadline", desc := "()I" } : Jvm.MethodName) prog_1_method_31_code (3 : Nat) (Option.some Jvm.ClassFile.FieldType.int)) ∈ tables_1 := List.mem_of_getElem? (i := 114) rfl
theorem m_115 : (Jvm.Cond.constant "DemandGate" (144 : Nat) (2147483647 : Int32)) ∈ tables_1 := List.mem_of_getElem? (i := 115) rfl
theorem m_116 : (Jvm.Cond.methodLink "DemandGate" (140 : Nat) ({ cls := "DemandGate", name := "consumeDeadlinesAt", desc := "(I)J" } : Jvm.MethodName)) ∈ tables_1 := List.mem_of_getElem? (i := 116) rfl
theorem m_117 : (Jvm.Cond.instanceMethod ({ cls := "DemandGate", name := "consumeDeadlinesAt", desc := "(I)J" } : Jvm.MethodName)) ∈ tables_1 := List.mem_of_getElem? (i := 117) rfl
theorem m_118 : (Jvm.Cond.privateMethod ({ cls := "DemandGate", name := "consumeDeadlinesAt", desc := "(I)J" } : Jvm.MethodName)) ∈ tables_1 := List.mem_of_getElem? (i := 118) rfl
theorem m_119 : (Jvm.Cond.code ({ cls := "DemandGate", name := "consumeDeadlinesAt", desc := "(I)J" } : Jvm.MethodName) prog_1_method_32_code (5 : Nat) (Option.some Jvm.ClassFile.FieldType.long)) ∈ tables_1 := List.mem_of_getElem? (i := 119) rfl
theorem m_120 : (Jvm.Cond.methodLink "DemandGateL3" (16 : Nat) ({ cls := "DemandGate", name := "lastOverload", desc := "()I" } : Jvm.MethodName)) ∈ tables_1 := List.mem_of_getElem? (i := 120) rfl
theorem m_121 : (Jvm.Cond.declares ({ cls := "DemandGate", name := "lastOverload", desc := "()I" } : Jvm.MethodName)) ∈ tables_1 := List.mem_of_getElem? (i := 121) rfl
theorem m_122 : (Jvm.Cond.instanceMethod ({ cls := "DemandGate", name := "lastOverload", desc := "()I" } : Jvm.MethodName)) ∈ tables_1 := List.mem_of_getElem? (i := 122) rfl
theorem m_123 : (Jvm.Cond.selects "DemandGate" ({ cls := "DemandGate", name := "lastOverload", desc := "()I" } : Jvm.MethodName) ({ cls := "DemandGate", name := "lastOverload", desc := "()I" } : Jvm.MethodName)) ∈ tables_1 := List.mem_of_getElem? (i := 123) rfl
theorem m_124 : (Jvm.Cond.code ({ cls := "DemandGate", name := "lastOverload", desc := "()I" } : Jvm.MethodName) prog_1_method_12_code (1 : Nat) (Option.some Jvm.ClassFile.FieldType.int)) ∈ tables_1 := List.mem_of_getElem? (i := 124) rfl
theorem m_125 : (Jvm.Cond.methodLink "DemandGateL3" (20 : Nat) ({ cls := "DemandGate", name := "lastHyper", desc := "()I" } : Jvm.MethodName)) ∈ tables_1 := List.mem_of_getElem? (i := 125) rfl
theorem m_126 : (Jvm.Cond.declares ({ cls := "DemandGate", name := "lastHyper", desc := "()I" } : Jvm.MethodName)) ∈ tables_1 := List.mem_of_getElem? (i := 126) rfl
theorem m_127 : (Jvm.Cond.instanceMethod ({ cls := "DemandGate", name := "lastHyper", desc := "()I" } : Jvm.MethodName)) ∈ tables_1 := List.mem_of_getElem? (i := 127) rfl
theorem m_128 : (Jvm.Cond.selects "DemandGate" ({ cls := "DemandGate", name := "lastHyper", desc := "()I" } : Jvm.MethodName) ({ cls := "DemandGate", name := "lastHyper", desc := "()I" } : Jvm.MethodName)) ∈ tables_1 := List.mem_of_getElem? (i := 128) rfl
theorem m_129 : (Jvm.Cond.code ({ cls := "DemandGate", name := "lastHyper", desc := "()I" } : Jvm.MethodName) prog_1_method_13_code (1 : Nat) (Option.some Jvm.ClassFile.FieldType.int)) ∈ tables_1 := List.mem_of_getElem? (i := 129) rfl
theorem m_130 : (Jvm.Cond.methodLink "DemandGateL3" (23 : Nat) ({ cls := "DemandGate", name := "count", desc := "()I" } : Jvm.MethodName)) ∈ tables_1 := List.mem_of_getElem? (i := 130) rfl
theorem m_131 : (Jvm.Cond.declares ({ cls := "DemandGate", name := "count", desc := "()I" } : Jvm.MethodName)) ∈ tables_1 := List.mem_of_getElem? (i := 131) rfl
theorem m_132 : (Jvm.Cond.instanceMethod ({ cls := "DemandGate", name := "count", desc := "()I" } : Jvm.MethodName)) ∈ tables_1 := List.mem_of_getElem? (i := 132) rfl
theorem m_133 : (Jvm.Cond.selects "DemandGate" ({ cls := "DemandGate", name := "count", desc := "()I" } : Jvm.MethodName) ({ cls := "DemandGate", name := "count", desc := "()I" } : Jvm.MethodName)) ∈ tables_1 := List.mem_of_getElem? (i := 133) rfl
theorem m_134 : (Jvm.Cond.code ({ cls := "DemandGate", name := "count", desc := "()I" } : Jvm.MethodName) prog_1_method_5_code (1 : Nat) (Option.some Jvm.ClassFile.FieldType.int)) ∈ tables_1 := List.mem_of_getElem? (i := 134) rfl
theorem m_135 : (Jvm.Cond.methodLink "DemandGateL3" (26 : Nat) ({ cls := "DemandGate", name := "simulate", desc := "(I)I" } : Jvm.MethodName)) ∈ tables_1 := List.mem_of_getElem? (i := 135) rfl
theorem m_136 : (Jvm.Cond.declares ({ cls := "DemandGate", name := "simulate", desc := "(I)I" } : Jvm.MethodName)) ∈ tables_1 := List.mem_of_getElem? (i := 136) rfl
theorem m_137 : (Jvm.Cond.instanceMethod ({ cls := "DemandGate", name := "simulate", desc := "(I)I" } : Jvm.MethodName)) ∈ tables_1 := List.mem_of_getElem? (i := 137) rfl
theorem m_138 : (Jvm.Cond.selects "DemandGate" ({ cls := "DemandGate", name := "simulate", desc := "(I)I" } : Jvm.MethodName) ({ cls := "DemandGate", name := "simulate", desc := "(I)I" } : Jvm.MethodName)) ∈ tables_1 := List.mem_of_getElem? (i := 138) rfl
theorem m_139 : (Jvm.Cond.code ({ cls := "DemandGate", name := "simulate", desc := "(I)I" } : Jvm.MethodName) prog_1_method_14_code (3 : Nat) (Option.some Jvm.ClassFile.FieldType.int)) ∈ tables_1 := List.mem_of_getElem? (i := 139) rfl
theorem m_140 : (Jvm.Cond.methodLink "DemandGate" (116 : Nat) ({ cls := "DemandGate", name := "loadCandidate", desc := "()V" } : Jvm.MethodName)) ∈ tables_1 := List.mem_of_getElem? (i := 140) rfl
theorem m_141 : (Jvm.Cond.instanceMethod ({ cls := "DemandGate", name := "loadCandidate", desc := "()V" } : Jvm.MethodName)) ∈ tables_1 := List.mem_of_getElem? (i := 141) rfl
theorem m_142 : (Jvm.Cond.privateMethod ({ cls := "DemandGate", name := "loadCandidate", desc := "()V" } : Jvm.MethodName)) ∈ tables_1 := List.mem_of_getElem? (i := 142) rfl
theorem m_143 : (Jvm.Cond.code ({ cls := "DemandGate", name := "loadCandidate", desc := "()V" } : Jvm.MethodName) prog_1_method_21_code (2 : Nat) (Option.none : Option Jvm.ClassFile.FieldType)) ∈ tables_1 := List.mem_of_getElem? (i := 143) rfl
theorem m_144 : (Jvm.Cond.methodLink "DemandGate" (119 : Nat) ({ cls := "DemandGate", name := "runEdf", desc := "(I)I" } : Jvm.MethodName)) ∈ tables_1 := List.mem_of_getElem? (i := 144) rfl
theorem m_145 : (Jvm.Cond.instanceMethod ({ cls := "DemandGate", name := "runEdf", desc := "(I)I" } : Jvm.MethodName)) ∈ tables_1 := List.mem_of_getElem? (i := 145) rfl
theorem m_146 : (Jvm.Cond.privateMethod ({ cls := "DemandGate", name := "runEdf", desc := "(I)I" } : Jvm.MethodName)) ∈ tables_1 := List.mem_of_getElem? (i := 146) rfl
theorem m_147 : (Jvm.Cond.code ({ cls := "DemandGate", name := "runEdf", desc := "(I)I" } : Jvm.MethodName) prog_1_method_34_code (6 : Nat) (Option.some Jvm.ClassFile.FieldType.int)) ∈ tables_1 := List.mem_of_getElem? (i := 147) rfl
theorem m_148 : (Jvm.Cond.methodLink "DemandGate" (145 : Nat) ({ cls := "DemandGate", name := "resetJobs", desc := "()V" } : Jvm.MethodName)) ∈ tables_1 := List.mem_of_getElem? (i := 148) rfl
theorem m_149 : (Jvm.Cond.instanceMethod ({ cls := "DemandGate", name := "resetJobs", desc := "()V" } : Jvm.MethodName)) ∈ tables_1 := List.mem_of_getElem? (i := 149) rfl
theorem m_150 : (Jvm.Cond.privateMethod ({ cls := "DemandGate", name := "resetJobs", desc := "()V" } : Jvm.MethodName)) ∈ tables_1 := List.mem_of_getElem? (i := 150) rfl
theorem m_151 : (Jvm.Cond.code ({ cls := "DemandGate", name := "resetJobs", desc := "()V" } : Jvm.MethodName) prog_1_method_35_code (2 : Nat) (Option.none : Option Jvm.ClassFile.FieldType)) ∈ tables_1 := List.mem_of_getElem? (i := 151) rfl
theorem m_152 : (Jvm.Cond.methodLink "DemandGate" (148 : Nat) ({ cls := "DemandGate", name := "firstMissAt", desc := "(I)I" } : Jvm.MethodName)) ∈ tables_1 := List.mem_of_getElem? (i := 152) rfl
theorem m_153 : (Jvm.Cond.instanceMethod ({ cls := "DemandGate", name := "firstMissAt", desc := "(I)I" } : Jvm.MethodName)) ∈ tables_1 := List.mem_of_getElem? (i := 153) rfl
theorem m_154 : (Jvm.Cond.privateMethod ({ cls := "DemandGate", name := "firstMissAt", desc := "(I)I" } : Jvm.MethodName)) ∈ tables_1 := List.mem_of_getElem? (i := 154) rfl
theorem m_155 : (Jvm.Cond.code ({ cls := "DemandGate", name := "firstMissAt", desc := "(I)I" } : Jvm.MethodName) prog_1_method_37_code (3 : Nat) (Option.some Jvm.ClassFile.FieldType.int)) ∈ tables_1 := List.mem_of_getElem? (i := 155) rfl
theorem m_156 : (Jvm.Cond.methodLink "DemandGate" (155 : Nat) ({ cls := "DemandGate", name := "releaseAt", desc := "(I)V" } : Jvm.MethodName)) ∈ tables_1 := List.mem_of_getElem? (i := 156) rfl
theorem m_157 : (Jvm.Cond.instanceMethod ({ cls := "DemandGate", name := "releaseAt", desc := "(I)V" } : Jvm.MethodName)) ∈ tables_1 := List.mem_of_getElem? (i := 157) rfl
theorem m_158 : (Jvm.Cond.privateMethod ({ cls := "DemandGate", name := "releaseAt", desc := "(I)V" } : Jvm.MethodName)) ∈ tables_1 := List.mem_of_getElem? (i := 158) rfl
theorem m_159 : (Jvm.Cond.code ({ cls := "DemandGate", name := "releaseAt", desc := "(I)V" } : Jvm.MethodName) prog_1_method_38_code (3 : Nat) (Option.none : Option Jvm.ClassFile.FieldType)) ∈ tables_1 := List.mem_of_getElem? (i := 159) rfl
theorem m_160 : (Jvm.Cond.methodLink "DemandGate" (158 : Nat) ({ cls := "DemandGate", name := "dispatchSlot", desc := "()Z" } : Jvm.MethodName)) ∈ tables_1 := List.mem_of_getElem? (i := 160) rfl
theorem m_161 : (Jvm.Cond.instanceMethod ({ cls := "DemandGate", name := "dispatchSlot", desc := "()Z" } : Jvm.MethodName)) ∈ tables_1 := List.mem_of_getElem? (i := 161) rfl
theorem m_162 : (Jvm.Cond.privateMethod ({ cls := "DemandGate", name := "dispatchSlot", desc := "()Z" } : Jvm.MethodName)) ∈ tables_1 := List.mem_of_getElem? (i := 162) rfl
theorem m_163 : (Jvm.Cond.code ({ cls := "DemandGate", name := "dispatchSlot", desc := "()Z" } : Jvm.MethodName) prog_1_method_39_code (3 : Nat) (Option.some Jvm.ClassFile.FieldType.boolean)) ∈ tables_1 := List.mem_of_getElem? (i := 163) rfl
theorem m_164 : (Jvm.Cond.methodLink "DemandGate" (162 : Nat) ({ cls := "DemandGate", name := "anyPending", desc := "()Z" } : Jvm.MethodName)) ∈ tables_1 := List.mem_of_getElem? (i := 164) rfl
theorem m_165 : (Jvm.Cond.instanceMethod ({ cls := "DemandGate", name := "anyPending", desc := "()Z" } : Jvm.MethodName)) ∈ tables_1 := List.mem_of_getElem? (i := 165) rfl
theorem m_166 : (Jvm.Cond.privateMethod ({ cls := "DemandGate", name := "anyPending", desc := "()Z" } : Jvm.MethodName)) ∈ tables_1 := List.mem_of_getElem? (i := 166) rfl
theorem m_167 : (Jvm.Cond.code ({ cls := "DemandGate", name := "anyPending", desc := "()Z" } : Jvm.MethodName) prog_1_method_40_code (2 : Nat) (Option.some Jvm.ClassFile.FieldType.boolean)) ∈ tables_1 := List.mem_of_getElem? (i := 167) rfl
theorem m_168 : (Jvm.Cond.methodLink "DemandGate" (151 : Nat) ({ cls := "DemandGate", name := "recordRun", desc := "(III)V" } : Jvm.MethodName)) ∈ tables_1 := List.mem_of_getElem? (i := 168) rfl
theorem m_169 : (Jvm.Cond.instanceMethod ({ cls := "DemandGate", name := "recordRun", desc := "(III)V" } : Jvm.MethodName)) ∈ tables_1 := List.mem_of_getElem? (i := 169) rfl
theorem m_170 : (Jvm.Cond.privateMethod ({ cls := "DemandGate", name := "recordRun", desc := "(III)V" } : Jvm.MethodName)) ∈ tables_1 := List.mem_of_getElem? (i := 170) rfl
theorem m_171 : (Jvm.Cond.code ({ cls := "DemandGate", name := "recordRun", desc := "(III)V" } : Jvm.MethodName) prog_1_method_36_code (4 : Nat) (Option.none : Option Jvm.ClassFile.FieldType)) ∈ tables_1 := List.mem_of_getElem? (i := 171) rfl
theorem m_172 : (Jvm.Cond.methodLink "DemandGateL3" (30 : Nat) ({ cls := "DemandGate", name := "missDeadline", desc := "()I" } : Jvm.MethodName)) ∈ tables_1 := List.mem_of_getElem? (i := 172) rfl
theorem m_173 : (Jvm.Cond.declares ({ cls := "DemandGate", name := "missDeadline", desc := "()I" } : Jvm.MethodName)) ∈ tables_1 := List.mem_of_getElem? (i := 173) rfl
theorem m_174 : (Jvm.Cond.instanceMethod ({ cls := "DemandGate", name := "missDeadline", desc := "()I" } : Jvm.MethodName)) ∈ tables_1 := List.mem_of_getElem? (i := 174) rfl
theorem m_175 : (Jvm.Cond.selects "DemandGate" ({ cls := "DemandGate", name := "missDeadline", desc := "()I" } : Jvm.MethodName) ({ cls := "DemandGate", name := "missDeadline", desc := "()I" } : Jvm.MethodName)) ∈ tables_1 := List.mem_of_getElem? (i := 175) rfl
theorem m_176 : (Jvm.Cond.code ({ cls := "DemandGate", name := "missDeadline", desc := "()I" } : Jvm.MethodName) prog_1_method_15_code (1 : Nat) (Option.some Jvm.ClassFile.FieldType.int)) ∈ tables_1 := List.mem_of_getElem? (i := 176) rfl
theorem m_177 : (Jvm.Cond.methodLink "DemandGateL3" (33 : Nat) ({ cls := "DemandGate", name := "missTask", desc := "()I" } : Jvm.MethodName)) ∈ tables_1 := List.mem_of_getElem? (i := 177) rfl
theorem m_178 : (Jvm.Cond.declares ({ cls := "DemandGate", name := "missTask", desc := "()I" } : Jvm.MethodName)) ∈ tables_1 := List.mem_of_getElem? (i := 178) rfl
theorem m_179 : (Jvm.Cond.instanceMethod ({ cls := "DemandGate", name := "missTask", desc := "()I" } : Jvm.MethodName)) ∈ tables_1 := List.mem_of_getElem? (i := 179) rfl
theorem m_180 : (Jvm.Cond.selects "DemandGate" ({ cls := "DemandGate", name := "missTask", desc := "()I" } : Jvm.MethodName) ({ cls := "DemandGate", name := "missTask", desc := "()I" } : Jvm.MethodName)) ∈ tables_1 := List.mem_of_getElem? (i := 180) rfl
theorem m_181 : (Jvm.Cond.code ({ cls := "DemandGate", name := "missTask", desc := "()I" } : Jvm.MethodName) prog_1_method_16_code (1 : Nat) (Option.some Jvm.ClassFile.FieldType.int)) ∈ tables_1 := List.mem_of_getElem? (i := 181) rfl
theorem m_182 : (Jvm.Cond.methodLink "DemandGateL3" (36 : Nat) ({ cls := "DemandGate", name := "idleUnits", desc := "()I" } : Jvm.MethodName)) ∈ tables_1 := List.mem_of_getElem? (i := 182) rfl
theorem m_183 : (Jvm.Cond.declares ({ cls := "DemandGate", name := "idleUnits", desc := "()I" } : Jvm.MethodName)) ∈ tables_1 := List.mem_of_getElem? (i := 183) rfl
theorem m_184 : (Jvm.Cond.instanceMethod ({ cls := "DemandGate", name := "idleUnits", desc := "()I" } : Jvm.MethodName)) ∈ tables_1 := List.mem_of_getElem? (i := 184) rfl
theorem m_185 : (Jvm.Cond.selects "DemandGate" ({ cls := "DemandGate", name := "idleUnits", desc := "()I" } : Jvm.MethodName) ({ cls := "DemandGate", name := "idleUnits", desc := "()I" } : Jvm.MethodName)) ∈ tables_1 := List.mem_of_getElem? (i := 185) rfl
theorem m_186 : (Jvm.Cond.code ({ cls := "DemandGate", name := "idleUnits", desc := "()I" } : Jvm.MethodName) prog_1_method_17_code (1 : Nat) (Option.some Jvm.ClassFile.FieldType.int)) ∈ tables_1 := List.mem_of_getElem? (i := 186) rfl
theorem m_187 : (Jvm.Cond.methodLink "DemandGate" (165 : Nat) ({ cls := "DemandGate", name := "nextReleaseAfter", desc := "(II)I" } : Jvm.MethodName)) ∈ tables_1 := List.mem_of_getElem? (i := 187) rfl
theorem m_188 : (Jvm.Cond.instanceMethod ({ cls := "DemandGate", name := "nextReleaseAfter", desc := "(II)I" } : Jvm.MethodName)) ∈ tables_1 := List.mem_of_getElem? (i := 188) rfl
theorem m_189 : (Jvm.Cond.privateMethod ({ cls := "DemandGate", name := "nextReleaseAfter", desc := "(II)I" } : Jvm.MethodName)) ∈ tables_1 := List.mem_of_getElem? (i := 189) rfl
theorem m_190 : (Jvm.Cond.code ({ cls := "DemandGate", name := "nextReleaseAfter", desc := "(II)I" } : Jvm.MethodName) prog_1_method_41_code (6 : Nat) (Option.some Jvm.ClassFile.FieldType.int)) ∈ tables_1 := List.mem_of_getElem? (i := 190) rfl
theorem laid0 {Z : State} {a0 : Array Value} (hw : HW a0 Z) : LaidAll Z a0 CN lay vs0 :=
  ⟨⟨Or.inl (hw _ m_39), .int, by decide, rfl⟩, ⟨Or.inl (hw _ m_41), .int, by decide, rfl⟩, ⟨Or.inr (hw _ m_11), .array .int, by decide, rfl⟩, ⟨Or.inr (hw _ m_13), .array .int, by decide, rfl⟩, ⟨Or.inr (hw _ m_15), .array .int, by decide, rfl⟩, ⟨Or.inl (hw _ m_43), .int, by decide, rfl⟩, ⟨Or.inr (hw _ m_17), .array .int, by decide, rfl⟩, ⟨Or.inr (hw _ m_19), .array .int, by decide, rfl⟩, ⟨Or.inr (hw _ m_21), .array .int, by decide, rfl⟩, ⟨Or.inl (hw _ m_45), .int, by decide, rfl⟩, ⟨Or.inl (hw _ m_47), .boolean, by decide, rfl⟩, ⟨Or.inl (hw _ m_49), .int, by decide, rfl⟩, ⟨Or.inl (hw _ m_51), .int, by decide, rfl⟩, ⟨Or.inl (hw _ m_53), .int, by decide, rfl⟩, ⟨Or.inl (hw _ m_55), .int, by decide, rfl⟩, ⟨Or.inl (hw _ m_57), .int, by decide, rfl⟩, ⟨Or.inl (hw _ m_59), .int, by decide, rfl⟩, ⟨Or.inr (hw _ m_23), .array .int, by decide, rfl⟩, ⟨Or.inr (hw _ m_25), .array .int, by decide, rfl⟩, ⟨Or.inr (hw _ m_27), .array .int, by decide, rfl⟩, ⟨Or.inl (hw _ m_61), .int, by decide, rfl⟩, ⟨Or.inr (hw _ m_29), .array .int, by decide, rfl⟩, ⟨Or.inr (hw _ m_31), .array .int, by decide, rfl⟩, ⟨Or.inr (hw _ m_33), .array .int, by decide, rfl⟩, trivial⟩
theorem hlay {Z : State} {a0 : Array Value} (hw : HW a0 Z) : ∀ (a b : Nat) (f g : String × String), lay[a]? = some f → lay[b]? = some g → a ≠ b → RoadKit.slotOf Z CN f.1 f.2 ≠ RoadKit.slotOf Z CN g.1 g.2 := (laid0 hw).ne (by decide)
theorem vs0_ok {Z : State} {a0 : Array Value} (hw : HW a0 Z) : ∀ (i : Nat) (f : String × String) (v : Value), lay[i]? = some f → vs0[i]? = some v → Laid Z a0 CN CN f.1 f.2 ∧ ∃ ty, parseFieldDescriptor f.2 = some ty ∧ v = defaultValue ty := (laid0 hw).new
theorem pn_cls : plainName CN = true := by first | (simp [plainName, overriddenIn]; done) | decide +kernel
theorem pn_law : plainName "DemandGateL3" = true := by first | (simp [plainName, overriddenIn]; done) | decide +kernel
theorem d1_0 : dc prog_1_method_18_code 0 (.iload_n 1) 1 := by decide +kernel
theorem d1_1 : dc prog_1_method_18_code 1 (.iload_n 2) 1 := by decide +kernel
theorem d1_2 : dc prog_1_method_18_code 2 (.if_icmp .ge 5) 3 := by decide +kernel
theorem d1_5 : dc prog_1_method_18_code 5 (.iload_n 2) 1 := by decide +kernel
theorem d1_6 : dc prog_1_method_18_code 6 (.ireturn) 1 := by decide +kernel
theorem d1_7 : dc prog_1_method_18_code 7 (.iload_n 1) 1 := by decide +kernel
theorem d1_8 : dc prog_1_method_18_code 8 (.iload_n 3) 1 := by decide +kernel
theorem d1_9 : dc prog_1_method_18_code 9 (.if_icmp .le 5) 3 := by decide +kernel
theorem d1_12 : dc prog_1_method_18_code 12 (.iload_n 3) 1 := by decide +kernel
theorem d1_13 : dc prog_1_method_18_code 13 (.ireturn) 1 := by decide +kernel
theorem d1_14 : dc prog_1_method_18_code 14 (.iload_n 1) 1 := by decide +kernel
theorem d1_15 : dc prog_1_method_18_code 15 (.ireturn) 1 := by decide +kernel
abbrev y1 : MethodName := ⟨"DemandGate", "clamp", "(III)I"⟩
theorem hy1 : y1.cls ≠ "java/lang/invoke/MethodHandle" ∧ y1.cls ≠ "java/lang/invoke/VarHandle" := by decide
theorem pd1 : parseMethodDescriptor y1.desc = some ⟨[.int, .int, .int], some .int⟩ := by decide +kernel
abbrev R1 : Room := { frames := 0, cells := 0, slots := 0, locals := 0 }
abbrev P1 (s : St) (r : Int32) : Option Value → List OwnC → Prop := fun v H' => v = some (.int r) ∧ H' = (Hb 0 s)
abbrev W1 (l : Launch) (Z : State) (n0 : Nat) (Q : Option Value → List OwnC → Prop) (k n pc : Nat) (L : List Slot) (S : List Value) (H : List OwnC) : Prop := WP l Z CN lay "DemandGate" "clamp" prog_1_method_18_code 4 (some FieldType.int) R1 n0 0 Q k n pc L S H
def f_clamp (p1 : Int32) (p2 : Int32) (p3 : Int32) (s : St) : Option (Int32) :=
  if p1 < p2 then
    some p2
  else
    if p3 < p1 then
      some p3
    else
      some p1
set_option maxRecDepth 65536 in
set_option maxHeartbeats 4000000 in
theorem ok1 (l : Launch) (Z : State) (a0 : Array Value) (hw : HW a0 Z) (p1 : Int32) (p2 : Int32) (p3 : Int32) (s : St) (r : Int32) (h : f_clamp p1 p2 p3 s = some r) : CS l Z CN lay y1 prog_1_method_18_code 4 (some FieldType.int) R1 0 [.ref 0, .int p1, .int p2, .int p3] (Hb 0 s) (P1 s r) := by
  refine CS.of_wp pn_cls (leb rfl) fun n0 => ?_
  show W1 l Z n0 (P1 s r) 0 0 0 [.val (.ref 0), .val (.int p1), .val (.int p2), .val (.int p3)] [] (Hb 0 s)
  unfold f_clamp at h
  refine WP.iloadN d1_0 rfl ?_
  refine WP.iloadN d1_1 rfl ?_
  rcases ite_e h with ⟨hc1, h⟩ | ⟨hc1, h⟩
  ·
    refine WP.icmpN d1_2 (XT.ii_ge_f hc1) ?_
    refine WP.iloadN d1_5 rfl ?_
    cases h
    exact WP.ireturn d1_6 rfl (leb rfl) (leb rfl) ⟨rfl, rfl⟩
  ·
    refine WP.icmpY (pc' := 7) d1_2 (XT.ii_ge_t hc1) (by decide) rfl ?_
    refine WP.iloadN d1_7 rfl ?_
    refine WP.iloadN d1_8 rfl ?_
    rcases ite_e h with ⟨hc2, h⟩ | ⟨hc2, h⟩
    ·
      refine WP.icmpN d1_9 (XT.ii_le_f hc2) ?_
      refine WP.iloadN d1_12 rfl ?_
      cases h
      exact WP.ireturn d1_13 rfl (leb rfl) (leb rfl) ⟨rfl, rfl⟩
    ·
      refine WP.icmpY (pc' := 14) d1_9 (XT.ii_le_t hc2) (by decide) rfl ?_
      refine WP.iloadN d1_14 rfl ?_
      cases h
      exact WP.ireturn d1_15 rfl (leb rfl) (leb rfl) ⟨rfl, rfl⟩
theorem d0_0 : dc prog_1_method_1_code 0 (.aload_n 0) 1 := by decide +kernel
theorem d0_1 : dc prog_1_method_1_code 1 (.invokespecial 1) 3 := by decide +kernel
theorem d0_4 : dc prog_1_method_1_code 4 (.aload_n 0) 1 := by decide +kernel
theorem d0_5 : dc prog_1_method_1_code 5 (.bipush 12) 2 := by decide +kernel
theorem d0_7 : dc prog_1_method_1_code 7 (.newarray .int) 2 := by decide +kernel
theorem d0_9 : dc prog_1_method_1_code 9 (.putfield 7) 3 := by decide +kernel
theorem d0_12 : dc prog_1_method_1_code 12 (.aload_n 0) 1 := by decide +kernel
theorem d0_13 : dc prog_1_method_1_code 13 (.bipush 12) 2 := by decide +kernel
theorem d0_15 : dc prog_1_method_1_code 15 (.newarray .int) 2 := by decide +kernel
theorem d0_17 : dc prog_1_method_1_code 17 (.putfield 13) 3 := by decide +kernel
theorem d0_20 : dc prog_1_method_1_code 20 (.aload_n 0) 1 := by decide +kernel
theorem d0_21 : dc prog_1_method_1_code 21 (.bipush 12) 2 := by decide +kernel
theorem d0_23 : dc prog_1_method_1_code 23 (.newarray .int) 2 := by decide +kernel
theorem d0_25 : dc prog_1_method_1_code 25 (.putfield 16) 3 := by decide +kernel
theorem d0_28 : dc prog_1_method_1_code 28 (.aload_n 0) 1 := by decide +kernel
theorem d0_29 : dc prog_1_method_1_code 29 (.bipush 12) 2 := by decide +kernel
theorem d0_31 : dc prog_1_method_1_code 31 (.newarray .int) 2 := by decide +kernel
theorem d0_33 : dc prog_1_method_1_code 33 (.putfield 19) 3 := by decide +kernel
theorem d0_36 : dc prog_1_method_1_code 36 (.aload_n 0) 1 := by decide +kernel
theorem d0_37 : dc prog_1_method_1_code 37 (.bipush 12) 2 := by decide +kernel
theorem d0_39 : dc prog_1_method_1_code 39 (.newarray .int) 2 := by decide +kernel
theorem d0_41 : dc prog_1_method_1_code 41 (.putfield 22) 3 := by decide +kernel
theorem d0_44 : dc prog_1_method_1_code 44 (.aload_n 0) 1 := by decide +kernel
theorem d0_45 : dc prog_1_method_1_code 45 (.bipush 12) 2 := by decide +kernel
theorem d0_47 : dc prog_1_method_1_code 47 (.newarray .int) 2 := by decide +kernel
theorem d0_49 : dc prog_1_method_1_code 49 (.putfield 25) 3 := by decide +kernel
theorem d0_52 : dc prog_1_method_1_code 52 (.aload_n 0) 1 := by decide +kernel
theorem d0_53 : dc prog_1_method_1_code 53 (.bipush 12) 2 := by decide +kernel
theorem d0_55 : dc prog_1_method_1_code 55 (.newarray .int) 2 := by decide +kernel
theorem d0_57 : dc prog_1_method_1_code 57 (.putfield 28) 3 := by decide +kernel
theorem d0_60 : dc prog_1_method_1_code 60 (.aload_n 0) 1 := by decide +kernel
theorem d0_61 : dc prog_1_method_1_code 61 (.bipush 12) 2 := by decide +kernel
theorem d0_63 : dc prog_1_method_1_code 63 (.newarray .int) 2 := by decide +kernel
theorem d0_65 : dc prog_1_method_1_code 65 (.putfield 31) 3 := by decide +kernel
theorem d0_68 : dc prog_1_method_1_code 68 (.aload_n 0) 1 := by decide +kernel
theorem d0_69 : dc prog_1_method_1_code 69 (.bipush 12) 2 := by decide +kernel
theorem d0_71 : dc prog_1_method_1_code 71 (.newarray .int) 2 := by decide +kernel
theorem d0_73 : dc prog_1_method_1_code 73 (.putfield 34) 3 := by decide +kernel
theorem d0_76 : dc prog_1_method_1_code 76 (.aload_n 0) 1 := by decide +kernel
theorem d0_77 : dc prog_1_method_1_code 77 (.bipush 12) 2 := by decide +kernel
theorem d0_79 : dc prog_1_method_1_code 79 (.newarray .int) 2 := by decide +kernel
theorem d0_81 : dc prog_1_method_1_code 81 (.putfield 37) 3 := by decide +kernel
theorem d0_84 : dc prog_1_method_1_code 84 (.aload_n 0) 1 := by decide +kernel
theorem d0_85 : dc prog_1_method_1_code 85 (.bipush 12) 2 := by decide +kernel
theorem d0_87 : dc prog_1_method_1_code 87 (.newarray .int) 2 := by decide +kernel
theorem d0_89 : dc prog_1_method_1_code 89 (.putfield 40) 3 := by decide +kernel
theorem d0_92 : dc prog_1_method_1_code 92 (.aload_n 0) 1 := by decide +kernel
theorem d0_93 : dc prog_1_method_1_code 93 (.bipush 12) 2 := by decide +kernel
theorem d0_95 : dc prog_1_method_1_code 95 (.newarray .int) 2 := by decide +kernel
theorem d0_97 : dc prog_1_method_1_code 97 (.putfield 43) 3 := by decide +kernel
theorem d0_100 : dc prog_1_method_1_code 100 (.aload_n 0) 1 := by decide +kernel
theorem d0_101 : dc prog_1_method_1_code 101 (.aload_n 0) 1 := by decide +kernel
theorem d0_102 : dc prog_1_method_1_code 102 (.iload_n 1) 1 := by decide +kernel
theorem d0_103 : dc prog_1_method_1_code 103 (.iconst 1) 1 := by decide +kernel
theorem d0_104 : dc prog_1_method_1_code 104 (.bipush 12) 2 := by decide +kernel
theorem d0_106 : dc prog_1_method_1_code 106 (.invokevirtual 46) 3 := by decide +kernel
theorem d0_109 : dc prog_1_method_1_code 109 (.putfield 50) 3 := by decide +kernel
theorem d0_112 : dc prog_1_method_1_code 112 (.aload_n 0) 1 := by decide +kernel
theorem d0_113 : dc prog_1_method_1_code 113 (.aload_n 0) 1 := by decide +kernel
theorem d0_114 : dc prog_1_method_1_code 114 (.iload_n 2) 1 := by decide +kernel
theorem d0_115 : dc prog_1_method_1_code 115 (.iconst 1) 1 := by decide +kernel
theorem d0_116 : dc prog_1_method_1_code 116 (.sipush 2048) 3 := by decide +kernel
theorem d0_119 : dc prog_1_method_1_code 119 (.invokevirtual 46) 3 := by decide +kernel
theorem d0_122 : dc prog_1_method_1_code 122 (.putfield 54) 3 := by decide +kernel
theorem d0_125 : dc prog_1_method_1_code 125 (.aload_n 0) 1 := by decide +kernel
theorem d0_126 : dc prog_1_method_1_code 126 (.iconst 0) 1 := by decide +kernel
theorem d0_127 : dc prog_1_method_1_code 127 (.putfield 57) 3 := by decide +kernel
theorem d0_130 : dc prog_1_method_1_code 130 (.aload_n 0) 1 := by decide +kernel
theorem d0_131 : dc prog_1_method_1_code 131 (.iconst 0) 1 := by decide +kernel
theorem d0_132 : dc prog_1_method_1_code 132 (.putfield 60) 3 := by decide +kernel
theorem d0_135 : dc prog_1_method_1_code 135 (.aload_n 0) 1 := by decide +kernel
theorem d0_136 : dc prog_1_method_1_code 136 (.iconst 0) 1 := by decide +kernel
theorem d0_137 : dc prog_1_method_1_code 137 (.putfield 63) 3 := by decide +kernel
theorem d0_140 : dc prog_1_method_1_code 140 (.aload_n 0) 1 := by decide +kernel
theorem d0_141 : dc prog_1_method_1_code 141 (.iconst 1) 1 := by decide +kernel
theorem d0_142 : dc prog_1_method_1_code 142 (.putfield 67) 3 := by decide +kernel
theorem d0_145 : dc prog_1_method_1_code 145 (.aload_n 0) 1 := by decide +kernel
theorem d0_146 : dc prog_1_method_1_code 146 (.iconst 0) 1 := by decide +kernel
theorem d0_147 : dc prog_1_method_1_code 147 (.putfield 70) 3 := by decide +kernel
theorem d0_150 : dc prog_1_method_1_code 150 (.aload_n 0) 1 := by decide +kernel
theorem d0_151 : dc prog_1_method_1_code 151 (.iconst 0) 1 := by decide +kernel
theorem d0_152 : dc prog_1_method_1_code 152 (.putfield 73) 3 := by decide +kernel
theorem d0_155 : dc prog_1_method_1_code 155 (.aload_n 0) 1 := by decide +kernel
theorem d0_156 : dc prog_1_method_1_code 156 (.iconst 0) 1 := by decide +kernel
theorem d0_157 : dc prog_1_method_1_code 157 (.putfield 76) 3 := by decide +kernel
theorem d0_160 : dc prog_1_method_1_code 160 (.aload_n 0) 1 := by decide +kernel
theorem d0_161 : dc prog_1_method_1_code 161 (.iconst (-1)) 1 := by decide +kernel
theorem d0_162 : dc prog_1_method_1_code 162 (.putfield 79) 3 := by decide +kernel
theorem d0_165 : dc prog_1_method_1_code 165 (.aload_n 0) 1 := by decide +kernel
theorem d0_166 : dc prog_1_method_1_code 166 (.iconst 0) 1 := by decide +kernel
theorem d0_167 : dc prog_1_method_1_code 167 (.putfield 82) 3 := by decide +kernel
theorem d0_170 : dc prog_1_method_1_code 170 (.aload_n 0) 1 := by decide +kernel
theorem d0_171 : dc prog_1_method_1_code 171 (.iconst 0) 1 := by decide +kernel
theorem d0_172 : dc prog_1_method_1_code 172 (.putfield 85) 3 := by decide +kernel
theorem d0_175 : dc prog_1_method_1_code 175 (.return_) 1 := by decide +kernel
abbrev y0 : MethodName := ⟨"DemandGate", "<init>", "(II)V"⟩
theorem hy0 : y0.cls ≠ "java/lang/invoke/MethodHandle" ∧ y0.cls ≠ "java/lang/invoke/VarHandle" := by decide
theorem pd0 : parseMethodDescriptor y0.desc = some ⟨[.int, .int], none⟩ := by decide +kernel
abbrev R0 : Room := { frames := 1, cells := 12, slots := 144, locals := 16 }
abbrev P0 (r : St) : Option Value → List OwnC → Prop := fun v H' => v = none ∧ H' = (Hb 0 r)
abbrev W0 (l : Launch) (Z : State) (n0 : Nat) (Q : Option Value → List OwnC → Prop) (k n pc : Nat) (L : List Slot) (S : List Value) (H : List OwnC) : Prop := WP l Z CN lay "DemandGate" "<init>" prog_1_method_1_code 3 (none) R0 n0 0 Q k n pc L S H
def f_init (p1 : Int32) (p2 : Int32) : Option (St) :=
  lt (st0) fun s1 =>
  (f_clamp p1 (1 : Int32) (12 : Int32) s1).bind fun c2 =>
  lt (sI s1 0 c2) fun s3 =>
  (f_clamp p2 (1 : Int32) (2048 : Int32) s3).bind fun c4 =>
  lt (sI s3 1 c4) fun s5 =>
  lt (sI s5 2 (0 : Int32)) fun s6 =>
  lt (sI s6 3 (0 : Int32)) fun s7 =>
  lt (sI s7 4 (0 : Int32)) fun s8 =>
  lt (sI s8 5 (1 : Int32)) fun s9 =>
  lt (sI s9 6 (0 : Int32)) fun s10 =>
  lt (sI s10 7 (0 : Int32)) fun s11 =>
  lt (sI s11 8 (0 : Int32)) fun s12 =>
  lt (sI s12 9 (-1 : Int32)) fun s13 =>
  lt (sI s13 10 (0 : Int32)) fun s14 =>
  lt (sI s14 11 (0 : Int32)) fun s15 =>
  some s15
set_option maxRecDepth 65536 in
set_option maxHeartbeats 4000000 in
theorem ok0 (l : Launch) (Z : State) (a0 : Array Value) (hw : HW a0 Z) (p1 : Int32) (p2 : Int32) (r : St) (h : f_init p1 p2 = some r) : CS l Z CN lay y0 prog_1_method_1_code 3 (none) R0 0 [.ref 0, .int p1, .int p2] [cO vs0] (P0 r) := by
  refine CS.of_wp pn_cls (leb rfl) fun n0 => ?_
  show W0 l Z n0 (P0 r) 0 0 0 [.val (.ref 0), .val (.int p1), .val (.int p2)] [] [cO vs0]
  unfold f_init at h
  refine WP.aloadN d0_0 rfl ?_
  refine WP.initO d0_1 (hw _ m_6) (hw _ m_7) (hw _ m_8) (leb rfl) (leb rfl) ?_
  refine WP.aloadN d0_4 rfl ?_
  refine WP.bipush (12 : Int32) d0_5 rfl ?_
  refine WP.newarray d0_7 (hw _ m_9) (by decide) (leb rfl) (leb rfl) (leb rfl) (Or.inl ⟨rfl, rfl⟩) ?_
  show W0 l Z n0 (P0 r) 1 12 9 [.val (.ref 0), .val (.int p1), .val (.int p2)] [.ref 1, .ref 0] ([cO [.int (0 : Int32), .int (0 : Int32), .null, .null, .null, .int (0 : Int32), .null, .null, .null, .int (0 : Int32), .int (0 : Int32), .int (0 : Int32), .int (0 : Int32), .int (0 : Int32), .int (0 : Int32), .int (0 : Int32), .int (0 : Int32), .null, .null, .null, .int (0 : Int32), .null, .null, .null], cI (List.replicate 12 0)] : List OwnC)
  refine WP.putR (ty := .array .int) (i := 0) (j := 2) (H' := ([cO [.int (0 : Int32), .int (0 : Int32), .ref 1, .null, .null, .int (0 : Int32), .null, .null, .null, .int (0 : Int32), .int (0 : Int32), .int (0 : Int32), .int (0 : Int32), .int (0 : Int32), .int (0 : Int32), .int (0 : Int32), .int (0 : Int32), .null, .null, .null, .int (0 : Int32), .null, .null, .null], cI (List.replicate 12 0)] : List OwnC)) d0_9 (hw _ m_10) (Or.inr ⟨(hw _ m_11), rfl, rfl⟩) (hw _ m_1) (hlay hw) (by decide) (fun _ => rfl) (fun _ => rfl) rfl rfl rfl (leb rfl) rfl ?_
  refine WP.aloadN d0_12 rfl ?_
  refine WP.bipush (12 : Int32) d0_13 rfl ?_
  refine WP.newarray d0_15 (hw _ m_9) (by decide) (leb rfl) (leb rfl) (leb rfl) (Or.inl ⟨rfl, rfl⟩) ?_
  show W0 l Z n0 (P0 r) 2 24 17 [.val (.ref 0), .val (.int p1), .val (.int p2)] [.ref 2, .ref 0] ([cO [.int (0 : Int32), .int (0 : Int32), .ref 1, .null, .null, .int (0 : Int32), .null, .null, .null, .int (0 : Int32), .int (0 : Int32), .int (0 : Int32), .int (0 : Int32), .int (0 : Int32), .int (0 : Int32), .int (0 : Int32), .int (0 : Int32), .null, .null, .null, .int (0 : Int32), .null, .null, .null], cI (List.replicate 12 0), cI (List.replicate 12 0)] : List OwnC)
  refine WP.putR (ty := .array .int) (i := 0) (j := 3) (H' := ([cO [.int (0 : Int32), .int (0 : Int32), .ref 1, .ref 2, .null, .int (0 : Int32), .null, .null, .null, .int (0 : Int32), .int (0 : Int32), .int (0 : Int32), .int (0 : Int32), .int (0 : Int32), .int (0 : Int32), .int (0 : Int32), .int (0 : Int32), .null, .null, .null, .int (0 : Int32), .null, .null, .null], cI (List.replicate 12 0), cI (List.replicate 12 0)] : List OwnC)) d0_17 (hw _ m_12) (Or.inr ⟨(hw _ m_13), rfl, rfl⟩) (hw _ m_1) (hlay hw) (by decide) (fun _ => rfl) (fun _ => rfl) rfl rfl rfl (leb rfl) rfl ?_
  refine WP.aloadN d0_20 rfl ?_
  refine WP.bipush (12 : Int32) d0_21 rfl ?_
  refine WP.newarray d0_23 (hw _ m_9) (by decide) (leb rfl) (leb rfl) (leb rfl) (Or.inl ⟨rfl, rfl⟩) ?_
  show W0 l Z n0 (P0 r) 3 36 25 [.val (.ref 0), .val (.int p1), .val (.int p2)] [.ref 3, .ref 0] ([cO [.int (0 : Int32), .int (0 : Int32), .ref 1, .ref 2, .null, .int (0 : Int32), .null, .null, .null, .int (0 : Int32), .int (0 : Int32), .int (0 : Int32), .int (0 : Int32), .int (0 : Int32), .int (0 : Int32), .int (0 : Int32), .int (0 : Int32), .null, .null, .null, .int (0 : Int32), .null, .null, .null], cI (List.replicate 12 0), cI (List.replicate 12 0), cI (List.replicate 12 0)] : List OwnC)
  refine WP.putR (ty := .array .int) (i := 0) (j := 4) (H' := ([cO [.int (0 : Int32), .int (0 : Int32), .ref 1, .ref 2, .ref 3, .int (0 : Int32), .null, .null, .null, .int (0 : Int32), .int (0 : Int32), .int (0 : Int32), .int (0 : Int32), .int (0 : Int32), .int (0 : Int32), .int (0 : Int32), .int (0 : Int32), .null, .null, .null, .int (0 : Int32), .null, .null, .null], cI (List.replicate 12 0), cI (List.replicate 12 0), cI (List.replicate 12 0)] : List OwnC)) d0_25 (hw _ m_14) (Or.inr ⟨(hw _ m_15), rfl, rfl⟩) (hw _ m_1) (hlay hw) (by decide) (fun _ => rfl) (fun _ => rfl) rfl rfl rfl (leb rfl) rfl ?_
  refine WP.aloadN d0_28 rfl ?_
  refine WP.bipush (12 : Int32) d0_29 rfl ?_
  refine WP.newarray d0_31 (hw _ m_9) (by decide) (leb rfl) (leb rfl) (leb rfl) (Or.inl ⟨rfl, rfl⟩) ?_
  show W0 l Z n0 (P0 r) 4 48 33 [.val (.ref 0), .val (.int p1), .val (.int p2)] [.ref 4, .ref 0] ([cO [.int (0 : Int32), .int (0 : Int32), .ref 1, .ref 2, .ref 3, .int (0 : Int32), .null, .null, .null, .int (0 : Int32), .int (0 : Int32), .int (0 : Int32), .int (0 : Int32), .int (0 : Int32), .int (0 : Int32), .int (0 : Int32), .int (0 : Int32), .null, .null, .null, .int (0 : Int32), .null, .null, .null], cI (List.replicate 12 0), cI (List.replicate 12 0), cI (List.replicate 12 0), cI (List.replicate 12 0)] : List OwnC)
  refine WP.putR (ty := .array .int) (i := 0) (j := 6) (H' := ([cO [.int (0 : Int32), .int (0 : Int32), .ref 1, .ref 2, .ref 3, .int (0 : Int32), .ref 4, .null, .null, .int (0 : Int32), .int (0 : Int32), .int (0 : Int32), .int (0 : Int32), .int (0 : Int32), .int (0 : Int32), .int (0 : Int32), .int (0 : Int32), .null, .null, .null, .int (0 : Int32), .null, .null, .null], cI (List.replicate 12 0), cI (List.replicate 12 0), cI (List.replicate 12 0), cI (List.replicate 12 0)] : List OwnC)) d0_33 (hw _ m_16) (Or.inr ⟨(hw _ m_17), rfl, rfl⟩) (hw _ m_1) (hlay hw) (by decide) (fun _ => rfl) (fun _ => rfl) rfl rfl rfl (leb rfl) rfl ?_
  refine WP.aloadN d0_36 rfl ?_
  refine WP.bipush (12 : Int32) d0_37 rfl ?_
  refine WP.newarray d0_39 (hw _ m_9) (by decide) (leb rfl) (leb rfl) (leb rfl) (Or.inl ⟨rfl, rfl⟩) ?_
  show W0 l Z n0 (P0 r) 5 60 41 [.val (.ref 0), .val (.int p1), .val (.int p2)] [.ref 5, .ref 0] ([cO [.int (0 : Int32), .int (0 : Int32), .ref 1, .ref 2, .ref 3, .int (0 : Int32), .ref 4, .null, .null, .int (0 : Int32), .int (0 : Int32), .int (0 : Int32), .int (0 : Int32), .int (0 : Int32), .int (0 : Int32), .int (0 : Int32), .int (0 : Int32), .null, .null, .null, .int (0 : Int32), .null, .null, .null], cI (List.replicate 12 0), cI (List.replicate 12 0), cI (List.replicate 12 0), cI (List.replicate 12 0), cI (List.replicate 12 0)] : List OwnC)
  refine WP.putR (ty := .array .int) (i := 0) (j := 7) (H' := ([cO [.int (0 : Int32), .int (0 : Int32), .ref 1, .ref 2, .ref 3, .int (0 : Int32), .ref 4, .ref 5, .null, .int (0 : Int32), .int (0 : Int32), .int (0 : Int32), .int (0 : Int32), .int (0 : Int32), .int (0 : Int32), .int (0 : Int32), .int (0 : Int32), .null, .null, .null, .int (0 : Int32), .null, .null, .null], cI (List.replicate 12 0), cI (List.replicate 12 0), cI (List.replicate 12 0), cI (List.replicate 12 0), cI (List.replicate 12 0)] : List OwnC)) d0_41 (hw _ m_18) (Or.inr ⟨(hw _ m_19), rfl, rfl⟩) (hw _ m_1) (hlay hw) (by decide) (fun _ => rfl) (fun _ => rfl) rfl rfl rfl (leb rfl) rfl ?_
  refine WP.aloadN d0_44 rfl ?_
  refine WP.bipush (12 : Int32) d0_45 rfl ?_
  refine WP.newarray d0_47 (hw _ m_9) (by decide) (leb rfl) (leb rfl) (leb rfl) (Or.inl ⟨rfl, rfl⟩) ?_
  show W0 l Z n0 (P0 r) 6 72 49 [.val (.ref 0), .val (.int p1), .val (.int p2)] [.ref 6, .ref 0] ([cO [.int (0 : Int32), .int (0 : Int32), .ref 1, .ref 2, .ref 3, .int (0 : Int32), .ref 4, .ref 5, .null, .int (0 : Int32), .int (0 : Int32), .int (0 : Int32), .int (0 : Int32), .int (0 : Int32), .int (0 : Int32), .int (0 : Int32), .int (0 : Int32), .null, .null, .null, .int (0 : Int32), .null, .null, .null], cI (List.replicate 12 0), cI (List.replicate 12 0), cI (List.replicate 12 0), cI (List.replicate 12 0), cI (List.replicate 12 0), cI (List.replicate 12 0)] : List OwnC)
  refine WP.putR (ty := .array .int) (i := 0) (j := 8) (H' := ([cO [.int (0 : Int32), .int (0 : Int32), .ref 1, .ref 2, .ref 3, .int (0 : Int32), .ref 4, .ref 5, .ref 6, .int (0 : Int32), .int (0 : Int32), .int (0 : Int32), .int (0 : Int32), .int (0 : Int32), .int (0 : Int32), .int (0 : Int32), .int (0 : Int32), .null, .null, .null, .int (0 : Int32), .null, .null, .null], cI (List.replicate 12 0), cI (List.replicate 12 0), cI (List.replicate 12 0), cI (List.replicate 12 0), cI (List.replicate 12 0), cI (List.replicate 12 0)] : List OwnC)) d0_49 (hw _ m_20) (Or.inr ⟨(hw _ m_21), rfl, rfl⟩) (hw _ m_1) (hlay hw) (by decide) (fun _ => rfl) (fun _ => rfl) rfl rfl rfl (leb rfl) rfl ?_
  refine WP.aloadN d0_52 rfl ?_
  refine WP.bipush (12 : Int32) d0_53 rfl ?_
  refine WP.newarray d0_55 (hw _ m_9) (by decide) (leb rfl) (leb rfl) (leb rfl) (Or.inl ⟨rfl, rfl⟩) ?_
  show W0 l Z n0 (P0 r) 7 84 57 [.val (.ref 0), .val (.int p1), .val (.int p2)] [.ref 7, .ref 0] ([cO [.int (0 : Int32), .int (0 : Int32), .ref 1, .ref 2, .ref 3, .int (0 : Int32), .ref 4, .ref 5, .ref 6, .int (0 : Int32), .int (0 : Int32), .int (0 : Int32), .int (0 : Int32), .int (0 : Int32), .int (0 : Int32), .int (0 : Int32), .int (0 : Int32), .null, .null, .null, .int (0 : Int32), .null, .null, .null], cI (List.replicate 12 0), cI (List.replicate 12 0), cI (List.replicate 12 0), cI (List.replicate 12 0), cI (List.replicate 12 0), cI (List.replicate 12 0), cI (List.replicate 12 0)] : List OwnC)
  refine WP.putR (ty := .array .int) (i := 0) (j := 17) (H' := ([cO [.int (0 : Int32), .int (0 : Int32), .ref 1, .ref 2, .ref 3, .int (0 : Int32), .ref 4, .ref 5, .ref 6, .int (0 : Int32), .int (0 : Int32), .int (0 : Int32), .int (0 : Int32), .int (0 : Int32), .int (0 : Int32), .int (0 : Int32), .int (0 : Int32), .ref 7, .null, .null, .int (0 : Int32), .null, .null, .null], cI (List.replicate 12 0), cI (List.replicate 12 0), cI (List.replicate 12 0), cI (List.replicate 12 0), cI (List.replicate 12 0), cI (List.replicate 12 0), cI (List.replicate 12 0)] : List OwnC)) d0_57 (hw _ m_22) (Or.inr ⟨(hw _ m_23), rfl, rfl⟩) (hw _ m_1) (hlay hw) (by decide) (fun _ => rfl) (fun _ => rfl) rfl rfl rfl (leb rfl) rfl ?_
  refine WP.aloadN d0_60 rfl ?_
  refine WP.bipush (12 : Int32) d0_61 rfl ?_
  refine WP.newarray d0_63 (hw _ m_9) (by decide) (leb rfl) (leb rfl) (leb rfl) (Or.inl ⟨rfl, rfl⟩) ?_
  show W0 l Z n0 (P0 r) 8 96 65 [.val (.ref 0), .val (.int p1), .val (.int p2)] [.ref 8, .ref 0] ([cO [.int (0 : Int32), .int (0 : Int32), .ref 1, .ref 2, .ref 3, .int (0 : Int32), .ref 4, .ref 5, .ref 6, .int (0 : Int32), .int (0 : Int32), .int (0 : Int32), .int (0 : Int32), .int (0 : Int32), .int (0 : Int32), .int (0 : Int32), .int (0 : Int32), .ref 7, .null, .null, .int (0 : Int32), .null, .null, .null], cI (List.replicate 12 0), cI (List.replicate 12 0), cI (List.replicate 12 0), cI (List.replicate 12 0), cI (List.replicate 12 0), cI (List.replicate 12 0), cI (List.replicate 12 0), cI (List.replicate 12 0)] : List OwnC)
  refine WP.putR (ty := .array .int) (i := 0) (j := 18) (H' := ([cO [.int (0 : Int32), .int (0 : Int32), .ref 1, .ref 2, .ref 3, .int (0 : Int32), .ref 4, .ref 5, .ref 6, .int (0 : Int32), .int (0 : Int32), .int (0 : Int32), .int (0 : Int32), .int (0 : Int32), .int (0 : Int32), .int (0 : Int32), .int (0 : Int32), .ref 7, .ref 8, .null, .int (0 : Int32), .null, .null, .null], cI (List.replicate 12 0), cI (List.replicate 12 0), cI (List.replicate 12 0), cI (List.replicate 12 0), cI (List.replicate 12 0), cI (List.replicate 12 0), cI (List.replicate 12 0), cI (List.replicate 12 0)] : List OwnC)) d0_65 (hw _ m_24) (Or.inr ⟨(hw _ m_25), rfl, rfl⟩) (hw _ m_1) (hlay hw) (by decide) (fun _ => rfl) (fun _ => rfl) rfl rfl rfl (leb rfl) rfl ?_
  refine WP.aloadN d0_68 rfl ?_
  refine WP.bipush (12 : Int32) d0_69 rfl ?_
  refine WP.newarray d0_71 (hw _ m_9) (by decide) (leb rfl) (leb rfl) (leb rfl) (Or.inl ⟨rfl, rfl⟩) ?_
  show W0 l Z n0 (P0 r) 9 108 73 [.val (.ref 0), .val (.int p1), .val (.int p2)] [.ref 9, .ref 0] ([cO [.int (0 : Int32), .int (0 : Int32), .ref 1, .ref 2, .ref 3, .int (0 : Int32), .ref 4, .ref 5, .ref 6, .int (0 : Int32), .int (0 : Int32), .int (0 : Int32), .int (0 : Int32), .int (0 : Int32), .int (0 : Int32), .int (0 : Int32), .int (0 : Int32), .ref 7, .ref 8, .null, .int (0 : Int32), .null, .null, .null], cI (List.replicate 12 0), cI (List.replicate 12 0), cI (List.replicate 12 0), cI (List.replicate 12 0), cI (List.replicate 12 0), cI (List.replicate 12 0), cI (List.replicate 12 0), cI (List.replicate 12 0), cI (List.replicate 12 0)] : List OwnC)
  refine WP.putR (ty := .array .int) (i := 0) (j := 19) (H' := ([cO [.int (0 : Int32), .int (0 : Int32), .ref 1, .ref 2, .ref 3, .int (0 : Int32), .ref 4, .ref 5, .ref 6, .int (0 : Int32), .int (0 : Int32), .int (0 : Int32), .int (0 : Int32), .int (0 : Int32), .int (0 : Int32), .int (0 : Int32), .int (0 : Int32), .ref 7, .ref 8, .ref 9, .int (0 : Int32), .null, .null, .null], cI (List.replicate 12 0), cI (List.replicate 12 0), cI (List.replicate 12 0), cI (List.replicate 12 0), cI (List.replicate 12 0), cI (List.replicate 12 0), cI (List.replicate 12 0), cI (List.replicate 12 0), cI (List.replicate 12 0)] : List OwnC)) d0_73 (hw _ m_26) (Or.inr ⟨(hw _ m_27), rfl, rfl⟩) (hw _ m_1) (hlay hw) (by decide) (fun _ => rfl) (fun _ => rfl) rfl rfl rfl (leb rfl) rfl ?_
  refine WP.aloadN d0_76 rfl ?_
  refine WP.bipush (12 : Int32) d0_77 rfl ?_
  refine WP.newarray d0_79 (hw _ m_9) (by decide) (leb rfl) (leb rfl) (leb rfl) (Or.inl ⟨rfl, rfl⟩) ?_
  show W0 l Z n0 (P0 r) 10 120 81 [.val (.ref 0), .val (.int p1), .val (.int p2)] [.ref 10, .ref 0] ([cO [.int (0 : Int32), .int (0 : Int32), .ref 1, .ref 2, .ref 3, .int (0 : Int32), .ref 4, .ref 5, .ref 6, .int (0 : Int32), .int (0 : Int32), .int (0 : Int32), .int (0 : Int32), .int (0 : Int32), .int (0 : Int32), .int (0 : Int32), .int (0 : Int32), .ref 7, .ref 8, .ref 9, .int (0 : Int32), .null, .null, .null], cI (List.replicate 12 0), cI (List.replicate 12 0), cI (List.replicate 12 0), cI (List.replicate 12 0), cI (List.replicate 12 0), cI (List.replicate 12 0), cI (List.replicate 12 0), cI (List.replicate 12 0), cI (List.replicate 12 0), cI (List.replicate 12 0)] : List OwnC)
  refine WP.putR (ty := .array .int) (i := 0) (j := 21) (H' := ([cO [.int (0 : Int32), .int (0 : Int32), .ref 1, .ref 2, .ref 3, .int (0 : Int32), .ref 4, .ref 5, .ref 6, .int (0 : Int32), .int (0 : Int32), .int (0 : Int32), .int (0 : Int32), .int (0 : Int32), .int (0 : Int32), .int (0 : Int32), .int (0 : Int32), .ref 7, .ref 8, .ref 9, .int (0 : Int32), .ref 10, .null, .null], cI (List.replicate 12 0), cI (List.replicate 12 0), cI (List.replicate 12 0), cI (List.replicate 12 0), cI (List.replicate 12 0), cI (List.replicate 12 0), cI (List.replicate 12 0), cI (List.replicate 12 0), cI (List.replicate 12 0), cI (List.replicate 12 0)] : List OwnC)) d0_81 (hw _ m_28) (Or.inr ⟨(hw _ m_29), rfl, rfl⟩) (hw _ m_1) (hlay hw) (by decide) (fun _ => rfl) (fun _ => rfl) rfl rfl rfl (leb rfl) rfl ?_
  refine WP.aloadN d0_84 rfl ?_
  refine WP.bipush (12 : Int32) d0_85 rfl ?_
  refine WP.newarray d0_87 (hw _ m_9) (by decide) (leb rfl) (leb rfl) (leb rfl) (Or.inl ⟨rfl, rfl⟩) ?_
  show W0 l Z n0 (P0 r) 11 132 89 [.val (.ref 0), .val (.int p1), .val (.int p2)] [.ref 11, .ref 0] ([cO [.int (0 : Int32), .int (0 : Int32), .ref 1, .ref 2, .ref 3, .int (0 : Int32), .ref 4, .ref 5, .ref 6, .int (0 : Int32), .int (0 : Int32), .int (0 : Int32), .int (0 : Int32), .int (0 : Int32), .int (0 : Int32), .int (0 : Int32), .int (0 : Int32), .ref 7, .ref 8, .ref 9, .int (0 : Int32), .ref 10, .null, .null], cI (List.replicate 12 0), cI (List.replicate 12 0), cI (List.replicate 12 0), cI (List.replicate 12 0), cI (List.replicate 12 0), cI (List.replicate 12 0), cI (List.replicate 12 0), cI (List.replicate 12 0), cI (List.replicate 12 0), cI (List.replicate 12 0), cI (List.replicate 12 0)] : List OwnC)
  refine WP.putR (ty := .array .int) (i := 0) (j := 22) (H' := ([cO [.int (0 : Int32), .int (0 : Int32), .ref 1, .ref 2, .ref 3, .int (0 : Int32), .ref 4, .ref 5, .ref 6, .int (0 : Int32), .int (0 : Int32), .int (0 : Int32), .int (0 : Int32), .int (0 : Int32), .int (0 : Int32), .int (0 : Int32), .int (0 : Int32), .ref 7, .ref 8, .ref 9, .int (0 : Int32), .ref 10, .ref 11, .null], cI (List.replicate 12 0), cI (List.replicate 12 0), cI (List.replicate 12 0), cI (List.replicate 12 0), cI (List.replicate 12 0), cI (List.replicate 12 0), cI (List.replicate 12 0), cI (List.replicate 12 0), cI (List.replicate 12 0), cI (List.replicate 12 0), cI (List.replicate 12 0)] : List OwnC)) d0_89 (hw _ m_30) (Or.inr ⟨(hw _ m_31), rfl, rfl⟩) (hw _ m_1) (hlay hw) (by decide) (fun _ => rfl) (fun _ => rfl) rfl rfl rfl (leb rfl) rfl ?_
  refine WP.aloadN d0_92 rfl ?_
  refine WP.bipush (12 : Int32) d0_93 rfl ?_
  refine WP.newarray d0_95 (hw _ m_9) (by decide) (leb rfl) (leb rfl) (leb rfl) (Or.inl ⟨rfl, rfl⟩) ?_
  show W0 l Z n0 (P0 r) 12 144 97 [.val (.ref 0), .val (.int p1), .val (.int p2)] [.ref 12, .ref 0] ([cO [.int (0 : Int32), .int (0 : Int32), .ref 1, .ref 2, .ref 3, .int (0 : Int32), .ref 4, .ref 5, .ref 6, .int (0 : Int32), .int (0 : Int32), .int (0 : Int32), .int (0 : Int32), .int (0 : Int32), .int (0 : Int32), .int (0 : Int32), .int (0 : Int32), .ref 7, .ref 8, .ref 9, .int (0 : Int32), .ref 10, .ref 11, .null], cI (List.replicate 12 0), cI (List.replicate 12 0), cI (List.replicate 12 0), cI (List.replicate 12 0), cI (List.replicate 12 0), cI (List.replicate 12 0), cI (List.replicate 12 0), cI (List.replicate 12 0), cI (List.replicate 12 0), cI (List.replicate 12 0), cI (List.replicate 12 0), cI (List.replicate 12 0)] : List OwnC)
  obtain ⟨s1, es1, h⟩ := lt_e h
  refine WP.putR (ty := .array .int) (i := 0) (j := 23) (H' := (Hb 0 s1)) d0_97 (hw _ m_32) (Or.inr ⟨(hw _ m_33), rfl, rfl⟩) (hw _ m_1) (hlay hw) (by decide) (fun _ => rfl) (fun _ => rfl) rfl rfl rfl (leb rfl) (by subst es1; rfl) ?_
  refine WP.aloadN d0_100 rfl ?_
  refine WP.aloadN d0_101 rfl ?_
  refine WP.iloadN d0_102 rfl ?_
  refine WP.iconst (1 : Int32) d0_103 rfl ?_
  refine WP.bipush (12 : Int32) d0_104 rfl ?_
  obtain ⟨c2, hc2, h⟩ := Option.bind_eq_some_iff.mp h
  refine WP.callP (i := 0) (y := y1) (as := [.int p1, .int (1 : Int32), .int (12 : Int32)]) (S := [.ref 0]) d0_106 (hw _ m_34) (hw _ m_36) (hw _ m_1) (hw _ m_35) (hw _ m_37) (hw _ m_2) hy1 rfl (ok1 l Z a0 hw p1 (1 : Int32) (12 : Int32) s1 _ hc2) rfl (lenOf pd1 rfl) (leb rfl) (leb rfl) (leb rfl) (leb rfl) ?_
  rintro _ _ ⟨rfl, rfl⟩
  show W0 l Z n0 (P0 r) 12 144 109 [.val (.ref 0), .val (.int p1), .val (.int p2)] [.int c2, .ref 0] (Hb 0 s1)
  obtain ⟨s3, es3, h⟩ := lt_e h
  refine WP.putI (i := 0) (j := 0) (H' := (Hb 0 s3)) d0_109 (hw _ m_38) (Or.inl (hw _ m_39)) (hw _ m_1) (hlay hw) rfl rfl rfl (leb rfl) (by subst es3; rfl) ?_
  refine WP.aloadN d0_112 rfl ?_
  refine WP.aloadN d0_113 rfl ?_
  refine WP.iloadN d0_114 rfl ?_
  refine WP.iconst (1 : Int32) d0_115 rfl ?_
  refine WP.sipush (2048 : Int32) d0_116 rfl ?_
  obtain ⟨c4, hc4, h⟩ := Option.bind_eq_some_iff.mp h
  refine WP.callP (i := 0) (y := y1) (as := [.int p2, .int (1 : Int32), .int (2048 : Int32)]) (S := [.ref 0]) d0_119 (hw _ m_34) (hw _ m_36) (hw _ m_1) (hw _ m_35) (hw _ m_37) (hw _ m_2) hy1 rfl (ok1 l Z a0 hw p2 (1 : Int32) (2048 : Int32) s3 _ hc4) rfl (lenOf pd1 rfl) (leb rfl) (leb rfl) (leb rfl) (leb rfl) ?_
  rintro _ _ ⟨rfl, rfl⟩
  show W0 l Z n0 (P0 r) 12 144 122 [.val (.ref 0), .val (.int p1), .val (.int p2)] [.int c4, .ref 0] (Hb 0 s3)
  obtain ⟨s5, es5, h⟩ := lt_e h
  refine WP.putI (i := 0) (j := 1) (H' := (Hb 0 s5)) d0_122 (hw _ m_40) (Or.inl (hw _ m_41)) (hw _ m_1) (hlay hw) rfl rfl rfl (leb rfl) (by subst es5; rfl) ?_
  refine WP.aloadN d0_125 rfl ?_
  refine WP.iconst (0 : Int32) d0_126 rfl ?_
  obtain ⟨s6, es6, h⟩ := lt_e h
  refine WP.putI (i := 0) (j := 5) (H' := (Hb 0 s6)) d0_127 (hw _ m_42) (Or.inl (hw _ m_43)) (hw _ m_1) (hlay hw) rfl rfl rfl (leb rfl) (by subst es6; rfl) ?_
  refine WP.aloadN d0_130 rfl ?_
  refine WP.iconst (0 : Int32) d0_131 rfl ?_
  obtain ⟨s7, es7, h⟩ := lt_e h
  refine WP.putI (i := 0) (j := 9) (H' := (Hb 0 s7)) d0_132 (hw _ m_44) (Or.inl (hw _ m_45)) (hw _ m_1) (hlay hw) rfl rfl rfl (leb rfl) (by subst es7; rfl) ?_
  refine WP.aloadN d0_135 rfl ?_
  refine WP.iconst (0 : Int32) d0_136 rfl ?_
  obtain ⟨s8, es8, h⟩ := lt_e h
  refine WP.putZ (i := 0) (j := 10) (H' := (Hb 0 s8)) d0_137 (hw _ m_46) (Or.inl (hw _ m_47)) (hw _ m_1) (hlay hw) rfl rfl rfl (leb rfl) (by subst es8; rfl) ?_
  refine WP.aloadN d0_140 rfl ?_
  refine WP.iconst (1 : Int32) d0_141 rfl ?_
  obtain ⟨s9, es9, h⟩ := lt_e h
  refine WP.putI (i := 0) (j := 11) (H' := (Hb 0 s9)) d0_142 (hw _ m_48) (Or.inl (hw _ m_49)) (hw _ m_1) (hlay hw) rfl rfl rfl (leb rfl) (by subst es9; rfl) ?_
  refine WP.aloadN d0_145 rfl ?_
  refine WP.iconst (0 : Int32) d0_146 rfl ?_
  obtain ⟨s10, es10, h⟩ := lt_e h
  refine WP.putI (i := 0) (j := 12) (H' := (Hb 0 s10)) d0_147 (hw _ m_50) (Or.inl (hw _ m_51)) (hw _ m_1) (hlay hw) rfl rfl rfl (leb rfl) (by subst es10; rfl) ?_
  refine WP.aloadN d0_150 rfl ?_
  refine WP.iconst (0 : Int32) d0_151 rfl ?_
  obtain ⟨s11, es11, h⟩ := lt_e h
  refine WP.putI (i := 0) (j := 13) (H' := (Hb 0 s11)) d0_152 (hw _ m_52) (Or.inl (hw _ m_53)) (hw _ m_1) (hlay hw) rfl rfl rfl (leb rfl) (by subst es11; rfl) ?_
  refine WP.aloadN d0_155 rfl ?_
  refine WP.iconst (0 : Int32) d0_156 rfl ?_
  obtain ⟨s12, es12, h⟩ := lt_e h
  refine WP.putI (i := 0) (j := 14) (H' := (Hb 0 s12)) d0_157 (hw _ m_54) (Or.inl (hw _ m_55)) (hw _ m_1) (hlay hw) rfl rfl rfl (leb rfl) (by subst es12; rfl) ?_
  refine WP.aloadN d0_160 rfl ?_
  refine WP.iconst (-1 : Int32) d0_161 rfl ?_
  obtain ⟨s13, es13, h⟩ := lt_e h
  refine WP.putI (i := 0) (j := 15) (H' := (Hb 0 s13)) d0_162 (hw _ m_56) (Or.inl (hw _ m_57)) (hw _ m_1) (hlay hw) rfl rfl rfl (leb rfl) (by subst es13; rfl) ?_
  refine WP.aloadN d0_165 rfl ?_
  refine WP.iconst (0 : Int32) d0_166 rfl ?_
  obtain ⟨s14, es14, h⟩ := lt_e h
  refine WP.putI (i := 0) (j := 16) (H' := (Hb 0 s14)) d0_167 (hw _ m_58) (Or.inl (hw _ m_59)) (hw _ m_1) (hlay hw) rfl rfl rfl (leb rfl) (by subst es14; rfl) ?_
  refine WP.aloadN d0_170 rfl ?_
  refine WP.iconst (0 : Int32) d0_171 rfl ?_
  obtain ⟨s15, es15, h⟩ := lt_e h
  refine WP.putI (i := 0) (j := 20) (H' := (Hb 0 s15)) d0_172 (hw _ m_60) (Or.inl (hw _ m_61)) (hw _ m_1) (hlay hw) rfl rfl rfl (leb rfl) (by subst es15; rfl) ?_
  cases h
  exact WP.vreturn d0_175 rfl (leb rfl) (leb rfl) ⟨rfl, rfl⟩
theorem d3_0 : dc prog_1_method_19_code 0 (.iload_n 1) 1 := by decide +kernel
theorem d3_1 : dc prog_1_method_19_code 1 (.iconst 1) 1 := by decide +kernel
theorem d3_2 : dc prog_1_method_19_code 2 (.if_icmp .lt 10) 3 := by decide +kernel
theorem d3_5 : dc prog_1_method_19_code 5 (.iload_n 1) 1 := by decide +kernel
theorem d3_6 : dc prog_1_method_19_code 6 (.sipush 2048) 3 := by decide +kernel
theorem d3_9 : dc prog_1_method_19_code 9 (.if_icmp .le 5) 3 := by decide +kernel
theorem d3_12 : dc prog_1_method_19_code 12 (.iconst 0) 1 := by decide +kernel
theorem d3_13 : dc prog_1_method_19_code 13 (.ireturn) 1 := by decide +kernel
theorem d3_14 : dc prog_1_method_19_code 14 (.iload_n 3) 1 := by decide +kernel
theorem d3_15 : dc prog_1_method_19_code 15 (.iconst 1) 1 := by decide +kernel
theorem d3_16 : dc prog_1_method_19_code 16 (.if_icmp .lt 10) 3 := by decide +kernel
theorem d3_19 : dc prog_1_method_19_code 19 (.iload_n 3) 1 := by decide +kernel
theorem d3_20 : dc prog_1_method_19_code 20 (.sipush 2048) 3 := by decide +kernel
theorem d3_23 : dc prog_1_method_19_code 23 (.if_icmp .le 5) 3 := by decide +kernel
theorem d3_26 : dc prog_1_method_19_code 26 (.iconst 0) 1 := by decide +kernel
theorem d3_27 : dc prog_1_method_19_code 27 (.ireturn) 1 := by decide +kernel
theorem d3_28 : dc prog_1_method_19_code 28 (.iload_n 2) 1 := by decide +kernel
theorem d3_29 : dc prog_1_method_19_code 29 (.iconst 1) 1 := by decide +kernel
theorem d3_30 : dc prog_1_method_19_code 30 (.if_icmp .lt 12) 3 := by decide +kernel
theorem d3_33 : dc prog_1_method_19_code 33 (.iload_n 2) 1 := by decide +kernel
theorem d3_34 : dc prog_1_method_19_code 34 (.iload_n 3) 1 := by decide +kernel
theorem d3_35 : dc prog_1_method_19_code 35 (.if_icmp .gt 7) 3 := by decide +kernel
theorem d3_38 : dc prog_1_method_19_code 38 (.iconst 1) 1 := by decide +kernel
theorem d3_39 : dc prog_1_method_19_code 39 (.goto 4) 3 := by decide +kernel
theorem d3_42 : dc prog_1_method_19_code 42 (.iconst 0) 1 := by decide +kernel
theorem d3_43 : dc prog_1_method_19_code 43 (.ireturn) 1 := by decide +kernel
abbrev y3 : MethodName := ⟨"DemandGate", "validParams", "(III)Z"⟩
theorem hy3 : y3.cls ≠ "java/lang/invoke/MethodHandle" ∧ y3.cls ≠ "java/lang/invoke/VarHandle" := by decide
theorem pd3 : parseMethodDescriptor y3.desc = some ⟨[.int, .int, .int], some .boolean⟩ := by decide +kernel
abbrev R3 : Room := { frames := 0, cells := 0, slots := 0, locals := 0 }
abbrev P3 (s : St) (r : Int32) : Option Value → List OwnC → Prop := fun v H' => v = some (.int r) ∧ H' = (Hb 0 s)
abbrev W3 (l : Launch) (Z : State) (n0 : Nat) (Q : Option Value → List OwnC → Prop) (k n pc : Nat) (L : List Slot) (S : List Value) (H : List OwnC) : Prop := WP l Z CN lay "DemandGate" "validParams" prog_1_method_19_code 4 (some FieldType.boolean) R3 n0 0 Q k n pc L S H
def f_validParams_12 (s : St) : Option (Int32) :=
  some (0 : Int32)
set_option maxRecDepth 65536 in
set_option maxHeartbeats 4000000 in
theorem ok3_12 (l : Launch) (Z : State) (a0 : Array Value) (hw : HW a0 Z) (n0 : Nat) (s : St) (r : Int32) (h : f_validParams_12 s = some r) : W3 l Z n0 (P3 s r) 0 0 12 [.unset, .unset, .unset, .unset] [] (Hb 0 s) := by
  unfold f_validParams_12 at h
  refine WP.iconst (0 : Int32) d3_12 rfl ?_
  cases h
  exact WP.zreturn d3_13 rfl (leb rfl) (leb rfl) ⟨rfl, rfl⟩
def f_validParams_26 (s : St) : Option (Int32) :=
  some (0 : Int32)
set_option maxRecDepth 65536 in
set_option maxHeartbeats 4000000 in
theorem ok3_26 (l : Launch) (Z : State) (a0 : Array Value) (hw : HW a0 Z) (n0 : Nat) (s : St) (r : Int32) (h : f_validParams_26 s = some r) : W3 l Z n0 (P3 s r) 0 0 26 [.unset, .unset, .unset, .unset] [] (Hb 0 s) := by
  unfold f_validParams_26 at h
  refine WP.iconst (0 : Int32) d3_26 rfl ?_
  cases h
  exact WP.zreturn d3_27 rfl (leb rfl) (leb rfl) ⟨rfl, rfl⟩
def f_validParams_43 (t0 : Int32) (s : St) : Option (Int32) :=
  some (t0 &&& 1)
set_option maxRecDepth 65536 in
set_option maxHeartbeats 4000000 in
theorem ok3_43 (l : Launch) (Z : State) (a0 : Array Value) (hw : HW a0 Z) (n0 : Nat) (t0 : Int32) (s : St) (r : Int32) (h : f_validParams_43 t0 s = some r) : W3 l Z n0 (P3 s r) 0 0 43 [.unset, .unset, .unset, .unset] [.int t0] (Hb 0 s) := by
  unfold f_validParams_43 at h
  cases h
  exact WP.zreturn d3_43 rfl (leb rfl) (leb rfl) ⟨rfl, rfl⟩
def f_validParams_42 (s : St) : Option (Int32) :=
  f_validParams_43 (0 : Int32) s
set_option maxRecDepth 65536 in
set_option maxHeartbeats 4000000 in
theorem ok3_42 (l : Launch) (Z : State) (a0 : Array Value) (hw : HW a0 Z) (n0 : Nat) (s : St) (r : Int32) (h : f_validParams_42 s = some r) : W3 l Z n0 (P3 s r) 0 0 42 [.unset, .unset, .unset, .unset] [] (Hb 0 s) := by
  unfold f_validParams_42 at h
  refine WP.iconst (0 : Int32) d3_42 rfl ?_
  exact WP.weak (L' := [.unset, .unset, .unset, .unset]) trivial (ok3_43 l Z a0 hw n0 (0 : Int32) s _ h)
def f_validParams (p1 : Int32) (p2 : Int32) (p3 : Int32) (s : St) : Option (Int32) :=
  if p1 < (1 : Int32) then
    f_validParams_12 s
  else
    if (2048 : Int32) < p1 then
      f_validParams_12 s
    else
      if p3 < (1 : Int32) then
        f_validParams_26 s
      else
        if (2048 : Int32) < p3 then
          f_validParams_26 s
        else
          if p2 < (1 : Int32) then
            f_validParams_42 s
          else
            if p3 < p2 then
              f_validParams_42 s
            else
              f_validParams_43 (1 : Int32) s
set_option maxRecDepth 65536 in
set_option maxHeartbeats 4000000 in
theorem ok3 (l : Launch) (Z : State) (a0 : Array Value) (hw : HW a0 Z) (p1 : Int32) (p2 : Int32) (p3 : Int32) (s : St) (r : Int32) (h : f_validParams p1 p2 p3 s = some r) : CS l Z CN lay y3 prog_1_method_19_code 4 (some FieldType.boolean) R3 0 [.ref 0, .int p1, .int p2, .int p3] (Hb 0 s) (P3 s r) := by
  refine CS.of_wp pn_cls (leb rfl) fun n0 => ?_
  show W3 l Z n0 (P3 s r) 0 0 0 [.val (.ref 0), .val (.int p1), .val (.int p2), .val (.int p3)] [] (Hb 0 s)
  unfold f_validParams at h
  refine WP.iloadN d3_0 rfl ?_
  refine WP.iconst (1 : Int32) d3_1 rfl ?_
  rcases ite_e h with ⟨hc1, h⟩ | ⟨hc1, h⟩
  ·
    refine WP.icmpY (pc' := 12) d3_2 (XT.ii_lt_t hc1) (by decide) rfl ?_
    exact WP.weak (L' := [.unset, .unset, .unset, .unset]) trivial (ok3_12 l Z a0 hw n0 s _ h)
  ·
    refine WP.icmpN d3_2 (XT.ii_lt_f hc1) ?_
    refine WP.iloadN d3_5 rfl ?_
    refine WP.sipush (2048 : Int32) d3_6 rfl ?_
    rcases ite_e h with ⟨hc2, h⟩ | ⟨hc2, h⟩
    ·
      refine WP.icmpN d3_9 (XT.ii_le_f hc2) ?_
      exact WP.weak (L' := [.unset, .unset, .unset, .unset]) trivial (ok3_12 l Z a0 hw n0 s _ h)
    ·
      refine WP.icmpY (pc' := 14) d3_9 (XT.ii_le_t hc2) (by decide) rfl ?_
      refine WP.iloadN d3_14 rfl ?_
      refine WP.iconst (1 : Int32) d3_15 rfl ?_
      rcases ite_e h with ⟨hc3, h⟩ | ⟨hc3, h⟩
      ·
        refine WP.icmpY (pc' := 26) d3_16 (XT.ii_lt_t hc3) (by decide) rfl ?_
        exact WP.weak (L' := [.unset, .unset, .unset, .unset]) trivial (ok3_26 l Z a0 hw n0 s _ h)
      ·
        refine WP.icmpN d3_16 (XT.ii_lt_f hc3) ?_
        refine WP.iloadN d3_19 rfl ?_
        refine WP.sipush (2048 : Int32) d3_20 rfl ?_
        rcases ite_e h with ⟨hc4, h⟩ | ⟨hc4, h⟩
        ·
          refine WP.icmpN d3_23 (XT.ii_le_f hc4) ?_
          exact WP.weak (L' := [.unset, .unset, .unset, .unset]) trivial (ok3_26 l Z a0 hw n0 s _ h)
        ·
          refine WP.icmpY (pc' := 28) d3_23 (XT.ii_le_t hc4) (by decide) rfl ?_
          refine WP.iloadN d3_28 rfl ?_
          refine WP.iconst (1 : Int32) d3_29 rfl ?_
          rcases ite_e h with ⟨hc5, h⟩ | ⟨hc5, h⟩
          ·
            refine WP.icmpY (pc' := 42) d3_30 (XT.ii_lt_t hc5) (by decide) rfl ?_
            exact WP.weak (L' := [.unset, .unset, .unset, .unset]) trivial (ok3_42 l Z a0 hw n0 s _ h)
          ·
            refine WP.icmpN d3_30 (XT.ii_lt_f hc5) ?_
            refine WP.iloadN d3_33 rfl ?_
            refine WP.iloadN d3_34 rfl ?_
            rcases ite_e h with ⟨hc6, h⟩ | ⟨hc6, h⟩
            ·
              refine WP.icmpY (pc' := 42) d3_35 (XT.ii_gt_t hc6) (by decide) rfl ?_
              exact WP.weak (L' := [.unset, .unset, .unset, .unset]) trivial (ok3_42 l Z a0 hw n0 s _ h)
            ·
              refine WP.icmpN d3_35 (XT.ii_gt_f hc6) ?_
              refine WP.iconst (1 : Int32) d3_38 rfl ?_
              refine WP.goto (pc' := 43) d3_39 (by decide) rfl ?_
              exact WP.weak (L' := [.unset, .unset, .unset, .unset]) trivial (ok3_43 l Z a0 hw n0 (1 : Int32) s _ h)
theorem d5_0 : dc prog_1_method_22_code 0 (.aload_n 0) 1 := by decide +kernel
theorem d5_1 : dc prog_1_method_22_code 1 (.getfield 85) 3 := by decide +kernel
theorem d5_4 : dc prog_1_method_22_code 4 (.ifCond .lt 12) 3 := by decide +kernel
theorem d5_7 : dc prog_1_method_22_code 7 (.aload_n 0) 1 := by decide +kernel
theorem d5_8 : dc prog_1_method_22_code 8 (.getfield 85) 3 := by decide +kernel
theorem d5_11 : dc prog_1_method_22_code 11 (.bipush 12) 2 := by decide +kernel
theorem d5_13 : dc prog_1_method_22_code 13 (.if_icmp .lt 5) 3 := by decide +kernel
theorem d5_16 : dc prog_1_method_22_code 16 (.iconst 0) 1 := by decide +kernel
theorem d5_17 : dc prog_1_method_22_code 17 (.ireturn) 1 := by decide +kernel
theorem d5_18 : dc prog_1_method_22_code 18 (.aload_n 0) 1 := by decide +kernel
theorem d5_19 : dc prog_1_method_22_code 19 (.getfield 28) 3 := by decide +kernel
theorem d5_22 : dc prog_1_method_22_code 22 (.aload_n 0) 1 := by decide +kernel
theorem d5_23 : dc prog_1_method_22_code 23 (.getfield 85) 3 := by decide +kernel
theorem d5_26 : dc prog_1_method_22_code 26 (.iload_n 1) 1 := by decide +kernel
theorem d5_27 : dc prog_1_method_22_code 27 (.iastore) 1 := by decide +kernel
theorem d5_28 : dc prog_1_method_22_code 28 (.aload_n 0) 1 := by decide +kernel
theorem d5_29 : dc prog_1_method_22_code 29 (.getfield 31) 3 := by decide +kernel
theorem d5_32 : dc prog_1_method_22_code 32 (.aload_n 0) 1 := by decide +kernel
theorem d5_33 : dc prog_1_method_22_code 33 (.getfield 85) 3 := by decide +kernel
theorem d5_36 : dc prog_1_method_22_code 36 (.iload_n 2) 1 := by decide +kernel
theorem d5_37 : dc prog_1_method_22_code 37 (.iastore) 1 := by decide +kernel
theorem d5_38 : dc prog_1_method_22_code 38 (.aload_n 0) 1 := by decide +kernel
theorem d5_39 : dc prog_1_method_22_code 39 (.getfield 34) 3 := by decide +kernel
theorem d5_42 : dc prog_1_method_22_code 42 (.aload_n 0) 1 := by decide +kernel
theorem d5_43 : dc prog_1_method_22_code 43 (.getfield 85) 3 := by decide +kernel
theorem d5_46 : dc prog_1_method_22_code 46 (.iload_n 3) 1 := by decide +kernel
theorem d5_47 : dc prog_1_method_22_code 47 (.iastore) 1 := by decide +kernel
theorem d5_48 : dc prog_1_method_22_code 48 (.aload_n 0) 1 := by decide +kernel
theorem d5_49 : dc prog_1_method_22_code 49 (.dup) 1 := by decide +kernel
theorem d5_50 : dc prog_1_method_22_code 50 (.getfield 85) 3 := by decide +kernel
theorem d5_53 : dc prog_1_method_22_code 53 (.iconst 1) 1 := by decide +kernel
theorem d5_54 : dc prog_1_method_22_code 54 (.iadd) 1 := by decide +kernel
theorem d5_55 : dc prog_1_method_22_code 55 (.putfield 85) 3 := by decide +kernel
theorem d5_58 : dc prog_1_method_22_code 58 (.iconst 1) 1 := by decide +kernel
theorem d5_59 : dc prog_1_method_22_code 59 (.ireturn) 1 := by decide +kernel
abbrev y5 : MethodName := ⟨"DemandGate", "appendWork", "(III)Z"⟩
theorem hy5 : y5.cls ≠ "java/lang/invoke/MethodHandle" ∧ y5.cls ≠ "java/lang/invoke/VarHandle" := by decide
theorem pd5 : parseMethodDescriptor y5.desc = some ⟨[.int, .int, .int], some .boolean⟩ := by decide +kernel
abbrev R5 : Room := { frames := 0, cells := 0, slots := 0, locals := 0 }
abbrev P5 (r : Int32 × St) : Option Value → List OwnC → Prop := fun v H' => v = some (.int r.1) ∧ H' = (Hb 0 r.2)
abbrev W5 (l : Launch) (Z : State) (n0 : Nat) (Q : Option Value → List OwnC → Prop) (k n pc : Nat) (L : List Slot) (S : List Value) (H : List OwnC) : Prop := WP l Z CN lay "DemandGate" "appendWork" prog_1_method_22_code 4 (some FieldType.boolean) R5 n0 0 Q k n pc L S H
def f_appendWork_16 (s : St) : Option (Int32 × St) :=
  some ((0 : Int32), s)
set_option maxRecDepth 65536 in
set_option maxHeartbeats 4000000 in
theorem ok5_16 (l : Launch) (Z : State) (a0 : Array Value) (hw : HW a0 Z) (n0 : Nat) (s : St) (r : Int32 × St) (h : f_appendWork_16 s = some r) : W5 l Z n0 (P5 r) 0 0 16 [.unset, .unset, .unset, .unset] [] (Hb 0 s) := by
  unfold f_appendWork_16 at h
  refine WP.iconst (0 : Int32) d5_16 rfl ?_
  cases h
  exact WP.zreturn d5_17 rfl (leb rfl) (leb rfl) ⟨rfl, rfl⟩
def f_appendWork (p1 : Int32) (p2 : Int32) (p3 : Int32) (s : St) : Option (Int32 × St) :=
  if (gI s 11) < 0 then
    f_appendWork_16 s
  else
    if (gI s 11) < (12 : Int32) then
      (wrA s 6 (gI s 11) p1).bind fun s3 =>
      (wrA s3 7 (gI s3 11) p2).bind fun s4 =>
      (wrA s4 8 (gI s4 11) p3).bind fun s5 =>
      lt (sI s5 11 ((gI s5 11) + (1 : Int32))) fun s6 =>
      some ((1 : Int32), s6)
    else
      f_appendWork_16 s
set_option maxRecDepth 65536 in
set_option maxHeartbeats 4000000 in
theorem ok5 (l : Launch) (Z : State) (a0 : Array Value) (hw : HW a0 Z) (p1 : Int32) (p2 : Int32) (p3 : Int32) (s : St) (r : Int32 × St) (h : f_appendWork p1 p2 p3 s = some r) : CS l Z CN lay y5 prog_1_method_22_code 4 (some FieldType.boolean) R5 0 [.ref 0, .int p1, .int p2, .int p3] (Hb 0 s) (P5 r) := by
  refine CS.of_wp pn_cls (leb rfl) fun n0 => ?_
  show W5 l Z n0 (P5 r) 0 0 0 [.val (.ref 0), .val (.int p1), .val (.int p2), .val (.int p3)] [] (Hb 0 s)
  unfold f_appendWork at h
  refine WP.aloadN d5_0 rfl ?_
  refine WP.getfield (i := 0) (j := 20) d5_1 (hw _ m_60) rfl rfl rfl ?_
  rcases ite_e h with ⟨hc1, h⟩ | ⟨hc1, h⟩
  ·
    refine WP.ifY (pc' := 16) d5_4 (XT.i0_lt_t hc1) (by decide) rfl ?_
    exact WP.weak (L' := [.unset, .unset, .unset, .unset]) trivial (ok5_16 l Z a0 hw n0 s _ h)
  ·
    refine WP.ifN d5_4 (XT.i0_lt_f hc1) ?_
    refine WP.aloadN d5_7 rfl ?_
    refine WP.getfield (i := 0) (j := 20) d5_8 (hw _ m_60) rfl rfl rfl ?_
    refine WP.bipush (12 : Int32) d5_11 rfl ?_
    rcases ite_e h with ⟨hc2, h⟩ | ⟨hc2, h⟩
    ·
      refine WP.icmpY (pc' := 18) d5_13 (XT.ii_lt_t hc2) (by decide) rfl ?_
      refine WP.aloadN d5_18 rfl ?_
      refine WP.getfield (i := 0) (j := 17) d5_19 (hw _ m_22) rfl rfl rfl ?_
      refine WP.aloadN d5_22 rfl ?_
      refine WP.getfield (i := 0) (j := 20) d5_23 (hw _ m_60) rfl rfl rfl ?_
      refine WP.iloadN d5_26 rfl ?_
      obtain ⟨s3, hs3, h⟩ := Option.bind_eq_some_iff.mp h
      obtain ⟨ys3, gs3, es3⟩ := wrA_e hs3
      refine WP.iastore (i := 7) (xs := gA s 6) (H' := (Hb 0 s3)) d5_27 rfl (leb rfl) gs3 (by subst es3; rfl) ?_
      refine WP.aloadN d5_28 rfl ?_
      refine WP.getfield (i := 0) (j := 18) d5_29 (hw _ m_24) rfl rfl rfl ?_
      refine WP.aloadN d5_32 rfl ?_
      refine WP.getfield (i := 0) (j := 20) d5_33 (hw _ m_60) rfl rfl rfl ?_
      refine WP.iloadN d5_36 rfl ?_
      obtain ⟨s4, hs4, h⟩ := Option.bind_eq_some_iff.mp h
      obtain ⟨ys4, gs4, es4⟩ := wrA_e hs4
      refine WP.iastore (i := 8) (xs := gA s3 7) (H' := (Hb 0 s4)) d5_37 rfl (leb rfl) gs4 (by subst es4; rfl) ?_
      refine WP.aloadN d5_38 rfl ?_
      refine WP.getfield (i := 0) (j := 19) d5_39 (hw _ m_26) rfl rfl rfl ?_
      refine WP.aloadN d5_42 rfl ?_
      refine WP.getfield (i := 0) (j := 20) d5_43 (hw _ m_60) rfl rfl rfl ?_
      refine WP.iloadN d5_46 rfl ?_
      obtain ⟨s5, hs5, h⟩ := Option.bind_eq_some_iff.mp h
      obtain ⟨ys5, gs5, es5⟩ := wrA_e hs5
      refine WP.iastore (i := 9) (xs := gA s4 8) (H' := (Hb 0 s5)) d5_47 rfl (leb rfl) gs5 (by subst es5; rfl) ?_
      refine WP.aloadN d5_48 rfl ?_
      refine WP.dup d5_49 rfl ?_
      refine WP.getfield (i := 0) (j := 20) d5_50 (hw _ m_60) rfl rfl rfl ?_
      refine WP.iconst (1 : Int32) d5_53 rfl ?_
      refine WP.iadd d5_54 ?_
      obtain ⟨s6, es6, h⟩ := lt_e h
      refine WP.putI (i := 0) (j := 20) (H' := (Hb 0 s6)) d5_55 (hw _ m_60) (Or.inl (hw _ m_61)) (hw _ m_1) (hlay hw) rfl rfl rfl (leb rfl) (by subst es6; rfl) ?_
      refine WP.iconst (1 : Int32) d5_58 rfl ?_
      cases h
      exact WP.zreturn d5_59 rfl (leb rfl) (leb rfl) ⟨rfl, rfl⟩
    ·
      refine WP.icmpN d5_13 (XT.ii_lt_f hc2) ?_
      exact WP.weak (L' := [.unset, .unset, .unset, .unset]) trivial (ok5_16 l Z a0 hw n0 s _ h)
theorem d4_0 : dc prog_1_method_20_code 0 (.aload_n 0) 1 := by decide +kernel
theorem d4_1 : dc prog_1_method_20_code 1 (.iconst 0) 1 := by decide +kernel
theorem d4_2 : dc prog_1_method_20_code 2 (.putfield 85) 3 := by decide +kernel
theorem d4_5 : dc prog_1_method_20_code 5 (.iconst 0) 1 := by decide +kernel
theorem d4_6 : dc prog_1_method_20_code 6 (.istore_n 1) 1 := by decide +kernel
theorem d4_7 : dc prog_1_method_20_code 7 (.iload_n 1) 1 := by decide +kernel
theorem d4_8 : dc prog_1_method_20_code 8 (.aload_n 0) 1 := by decide +kernel
theorem d4_9 : dc prog_1_method_20_code 9 (.getfield 57) 3 := by decide +kernel
theorem d4_12 : dc prog_1_method_20_code 12 (.if_icmp .ge 38) 3 := by decide +kernel
theorem d4_15 : dc prog_1_method_20_code 15 (.iload_n 1) 1 := by decide +kernel
theorem d4_16 : dc prog_1_method_20_code 16 (.bipush 12) 2 := by decide +kernel
theorem d4_18 : dc prog_1_method_20_code 18 (.if_icmp .ge 32) 3 := by decide +kernel
theorem d4_21 : dc prog_1_method_20_code 21 (.aload_n 0) 1 := by decide +kernel
theorem d4_22 : dc prog_1_method_20_code 22 (.aload_n 0) 1 := by decide +kernel
theorem d4_23 : dc prog_1_method_20_code 23 (.getfield 7) 3 := by decide +kernel
theorem d4_26 : dc prog_1_method_20_code 26 (.iload_n 1) 1 := by decide +kernel
theorem d4_27 : dc prog_1_method_20_code 27 (.iaload) 1 := by decide +kernel
theorem d4_28 : dc prog_1_method_20_code 28 (.aload_n 0) 1 := by decide +kernel
theorem d4_29 : dc prog_1_method_20_code 29 (.getfield 13) 3 := by decide +kernel
theorem d4_32 : dc prog_1_method_20_code 32 (.iload_n 1) 1 := by decide +kernel
theorem d4_33 : dc prog_1_method_20_code 33 (.iaload) 1 := by decide +kernel
theorem d4_34 : dc prog_1_method_20_code 34 (.aload_n 0) 1 := by decide +kernel
theorem d4_35 : dc prog_1_method_20_code 35 (.getfield 16) 3 := by decide +kernel
theorem d4_38 : dc prog_1_method_20_code 38 (.iload_n 1) 1 := by decide +kernel
theorem d4_39 : dc prog_1_method_20_code 39 (.iaload) 1 := by decide +kernel
theorem d4_40 : dc prog_1_method_20_code 40 (.invokevirtual 95) 3 := by decide +kernel
theorem d4_43 : dc prog_1_method_20_code 43 (.pop) 1 := by decide +kernel
theorem d4_44 : dc prog_1_method_20_code 44 (.iinc 1 1) 3 := by decide +kernel
theorem d4_47 : dc prog_1_method_20_code 47 (.goto (-40)) 3 := by decide +kernel
theorem d4_50 : dc prog_1_method_20_code 50 (.return_) 1 := by decide +kernel
abbrev y4 : MethodName := ⟨"DemandGate", "loadAdmitted", "()V"⟩
theorem hy4 : y4.cls ≠ "java/lang/invoke/MethodHandle" ∧ y4.cls ≠ "java/lang/invoke/VarHandle" := by decide
theorem pd4 : parseMethodDescriptor y4.desc = some ⟨[], none⟩ := by decide +kernel
abbrev R4 : Room := { frames := 1, cells := 0, slots := 0, locals := 15 }
abbrev P4 (r : St) : Option Value → List OwnC → Prop := fun v H' => v = none ∧ H' = (Hb 0 r)
abbrev W4 (l : Launch) (Z : State) (n0 : Nat) (Q : Option Value → List OwnC → Prop) (k n pc : Nat) (L : List Slot) (S : List Value) (H : List OwnC) : Prop := WP l Z CN lay "DemandGate" "loadAdmitted" prog_1_method_20_code 2 (none) R4 n0 0 Q k n pc L S H
def f_loadAdmitted_50 (n : Nat) (s : St) : Option (St) :=
  some s
set_option maxRecDepth 65536 in
set_option maxHeartbeats 4000000 in
theorem ok4_50 (l : Launch) (Z : State) (a0 : Array Value) (hw : HW a0 Z) (n0 : Nat) (n : Nat) (s : St) (r : St) (h : f_loadAdmitted_50 n s = some r) : W4 l Z n0 (P4 r) 0 0 50 [.unset, .unset] [] (Hb 0 s) := by
  unfold f_loadAdmitted_50 at h
  cases h
  exact WP.vreturn d4_50 rfl (leb rfl) (leb rfl) ⟨rfl, rfl⟩
def g_loadAdmitted_7 (k7 : Int32 → St → Option (St)) (n : Nat) (v1 : Int32) (s : St) : Option (St) :=
  if v1 < (gI s 2) then
    if v1 < (12 : Int32) then
      (rd (gA s 0) v1).bind fun x3 =>
      (rd (gA s 1) v1).bind fun x4 =>
      (rd (gA s 2) v1).bind fun x5 =>
      (f_appendWork x3 x4 x5 s).bind fun c6 =>
      lt (v1 + (1 : Int32)) fun x7 =>
      k7 x7 c6.2
    else
      f_loadAdmitted_50 n s
  else
    f_loadAdmitted_50 n s
set_option maxRecDepth 65536 in
set_option maxHeartbeats 4000000 in
theorem okg4_7 (l : Launch) (Z : State) (a0 : Array Value) (hw : HW a0 Z) (n0 : Nat) (k7 : Int32 → St → Option (St)) (hk7 : ∀ (v1 : Int32) (s : St) (r : St), k7 v1 s = some r → W4 l Z n0 (P4 r) 0 0 7 [.val (.ref 0), .val (.int v1)] [] (Hb 0 s)) (n : Nat) (v1 : Int32) (s : St) (r : St) (h : g_loadAdmitted_7 k7 n v1 s = some r) : W4 l Z n0 (P4 r) 0 0 7 [.val (.ref 0), .val (.int v1)] [] (Hb 0 s) := by
  unfold g_loadAdmitted_7 at h
  refine WP.iloadN d4_7 rfl ?_
  refine WP.aloadN d4_8 rfl ?_
  refine WP.getfield (i := 0) (j := 5) d4_9 (hw _ m_42) rfl rfl rfl ?_
  rcases ite_e h with ⟨hc1, h⟩ | ⟨hc1, h⟩
  ·
    refine WP.icmpN d4_12 (XT.ii_ge_f hc1) ?_
    refine WP.iloadN d4_15 rfl ?_
    refine WP.bipush (12 : Int32) d4_16 rfl ?_
    rcases ite_e h with ⟨hc2, h⟩ | ⟨hc2, h⟩
    ·
      refine WP.icmpN d4_18 (XT.ii_ge_f hc2) ?_
      refine WP.aloadN d4_21 rfl ?_
      refine WP.aloadN d4_22 rfl ?_
      refine WP.getfield (i := 0) (j := 2) d4_23 (hw _ m_10) rfl rfl rfl ?_
      refine WP.iloadN d4_26 rfl ?_
      obtain ⟨x3, hx3, h⟩ := Option.bind_eq_some_iff.mp h
      refine WP.iaload (i := 1) d4_27 rfl hx3 ?_
      refine WP.aloadN d4_28 rfl ?_
      refine WP.getfield (i := 0) (j := 3) d4_29 (hw _ m_12) rfl rfl rfl ?_
      refine WP.iloadN d4_32 rfl ?_
      obtain ⟨x4, hx4, h⟩ := Option.bind_eq_some_iff.mp h
      refine WP.iaload (i := 2) d4_33 rfl hx4 ?_
      refine WP.aloadN d4_34 rfl ?_
      refine WP.getfield (i := 0) (j := 4) d4_35 (hw _ m_14) rfl rfl rfl ?_
      refine WP.iloadN d4_38 rfl ?_
      obtain ⟨x5, hx5, h⟩ := Option.bind_eq_some_iff.mp h
      refine WP.iaload (i := 3) d4_39 rfl hx5 ?_
      obtain ⟨c6, hc6, h⟩ := Option.bind_eq_some_iff.mp h
      refine WP.callP (i := 0) (y := y5) (as := [.int x3, .int x4, .int x5]) (S := []) d4_40 (hw _ m_75) (hw _ m_77) (hw _ m_1) (hw _ m_76) (hw _ m_78) (hw _ m_2) hy5 rfl (ok5 l Z a0 hw x3 x4 x5 s _ hc6) rfl (lenOf pd5 rfl) (leb rfl) (leb rfl) (leb rfl) (leb rfl) ?_
      rintro _ _ ⟨rfl, rfl⟩
      show W4 l Z n0 (P4 r) 0 0 43 [.val (.ref 0), .val (.int v1)] [.int c6.1] (Hb 0 c6.2)
      refine WP.pop d4_43 rfl ?_
      obtain ⟨x7, ex7, h⟩ := lt_e h
      refine WP.iinc (L' := [.val (.ref 0), .val (.int x7)]) (1 : Int32) d4_44 rfl rfl (by subst ex7; rfl) ?_
      refine WP.goto (pc' := 7) d4_47 (by decide) rfl ?_
      exact WP.weak (L' := [.val (.ref 0), .val (.int x7)]) ⟨rfl, rfl, trivial⟩ (hk7 x7 c6.2 _ h)
    ·
      refine WP.icmpY (pc' := 50) d4_18 (XT.ii_ge_t hc2) (by decide) rfl ?_
      exact WP.weak (L' := [.unset, .unset]) trivial (ok4_50 l Z a0 hw n0 n s _ h)
  ·
    refine WP.icmpY (pc' := 50) d4_12 (XT.ii_ge_t hc1) (by decide) rfl ?_
    exact WP.weak (L' := [.unset, .unset]) trivial (ok4_50 l Z a0 hw n0 n s _ h)
def f_loadAdmitted_7 : Nat → Int32 → St → Option (St)
  | 0 => fun _ _ => none
  | n + 1 => g_loadAdmitted_7 (f_loadAdmitted_7 n) n
theorem ok4_7 (l : Launch) (Z : State) (a0 : Array Value) (hw : HW a0 Z) (n0 : Nat) : ∀ (n : Nat) (v1 : Int32) (s : St) (r : St), f_loadAdmitted_7 n v1 s = some r → W4 l Z n0 (P4 r) 0 0 7 [.val (.ref 0), .val (.int v1)] [] (Hb 0 s)
  | 0, v1, s, r, h => nomatch (show none = some r from h)
  | n + 1, v1, s, r, h => okg4_7 l Z a0 hw n0 _ (ok4_7 l Z a0 hw n0 n) n v1 s r h
def f_loadAdmitted (n : Nat) (s : St) : Option (St) :=
  lt (sI s 11 (0 : Int32)) fun s1 =>
  f_loadAdmitted_7 n (0 : Int32) s1
set_option maxRecDepth 65536 in
set_option maxHeartbeats 4000000 in
theorem ok4 (l : Launch) (Z : State) (a0 : Array Value) (hw : HW a0 Z) (n : Nat) (s : St) (r : St) (h : f_loadAdmitted n s = some r) : CS l Z CN lay y4 prog_1_method_20_code 2 (none) R4 0 [.ref 0] (Hb 0 s) (P4 r) := by
  refine CS.of_wp pn_cls (leb rfl) fun n0 => ?_
  show W4 l Z n0 (P4 r) 0 0 0 [.val (.ref 0), .unset] [] (Hb 0 s)
  unfold f_loadAdmitted at h
  refine WP.aloadN d4_0 rfl ?_
  refine WP.iconst (0 : Int32) d4_1 rfl ?_
  obtain ⟨s1, es1, h⟩ := lt_e h
  refine WP.putI (i := 0) (j := 20) (H' := (Hb 0 s1)) d4_2 (hw _ m_60) (Or.inl (hw _ m_61)) (hw _ m_1) (hlay hw) rfl rfl rfl (leb rfl) (by subst es1; rfl) ?_
  refine WP.iconst (0 : Int32) d4_5 rfl ?_
  refine WP.istoreN (L' := [.val (.ref 0), .val (.int (0 : Int32))]) d4_6 (leb rfl) rfl ?_
  exact WP.weak (L' := [.val (.ref 0), .val (.int (0 : Int32))]) ⟨rfl, rfl, trivial⟩ (ok4_7 l Z a0 hw n0 n (0 : Int32) s1 _ h)
theorem d8_0 : dc prog_1_method_25_code 0 (.lload_n 1) 1 := by decide +kernel
theorem d8_1 : dc prog_1_method_25_code 1 (.lstore 5) 2 := by decide +kernel
theorem d8_3 : dc prog_1_method_25_code 3 (.lload_n 3) 1 := by decide +kernel
theorem d8_4 : dc prog_1_method_25_code 4 (.lstore 7) 2 := by decide +kernel
theorem d8_6 : dc prog_1_method_25_code 6 (.iconst 0) 1 := by decide +kernel
theorem d8_7 : dc prog_1_method_25_code 7 (.istore 9) 2 := by decide +kernel
theorem d8_9 : dc prog_1_method_25_code 9 (.iload 9) 2 := by decide +kernel
theorem d8_11 : dc prog_1_method_25_code 11 (.sipush 128) 3 := by decide +kernel
theorem d8_14 : dc prog_1_method_25_code 14 (.if_icmp .ge 31) 3 := by decide +kernel
theorem d8_17 : dc prog_1_method_25_code 17 (.lload 7) 2 := by decide +kernel
theorem d8_19 : dc prog_1_method_25_code 19 (.lconst 0) 1 := by decide +kernel
theorem d8_20 : dc prog_1_method_25_code 20 (.lcmp) 1 := by decide +kernel
theorem d8_21 : dc prog_1_method_25_code 21 (.ifCond .eq 24) 3 := by decide +kernel
theorem d8_24 : dc prog_1_method_25_code 24 (.lload 5) 2 := by decide +kernel
theorem d8_26 : dc prog_1_method_25_code 26 (.lload 7) 2 := by decide +kernel
theorem d8_28 : dc prog_1_method_25_code 28 (.lrem) 1 := by decide +kernel
theorem d8_29 : dc prog_1_method_25_code 29 (.lstore 10) 2 := by decide +kernel
theorem d8_31 : dc prog_1_method_25_code 31 (.lload 7) 2 := by decide +kernel
theorem d8_33 : dc prog_1_method_25_code 33 (.lstore 5) 2 := by decide +kernel
theorem d8_35 : dc prog_1_method_25_code 35 (.lload 10) 2 := by decide +kernel
theorem d8_37 : dc prog_1_method_25_code 37 (.lstore 7) 2 := by decide +kernel
theorem d8_39 : dc prog_1_method_25_code 39 (.iinc 9 1) 3 := by decide +kernel
theorem d8_42 : dc prog_1_method_25_code 42 (.goto (-33)) 3 := by decide +kernel
theorem d8_45 : dc prog_1_method_25_code 45 (.lload 5) 2 := by decide +kernel
theorem d8_47 : dc prog_1_method_25_code 47 (.lreturn) 1 := by decide +kernel
abbrev y8 : MethodName := ⟨"DemandGate", "gcd", "(JJ)J"⟩
theorem hy8 : y8.cls ≠ "java/lang/invoke/MethodHandle" ∧ y8.cls ≠ "java/lang/invoke/VarHandle" := by decide
theorem pd8 : parseMethodDescriptor y8.desc = some ⟨[.long, .long], some .long⟩ := by decide +kernel
abbrev R8 : Room := { frames := 0, cells := 0, slots := 0, locals := 0 }
abbrev P8 (s : St) (r : Int64) : Option Value → List OwnC → Prop := fun v H' => v = some (.long r) ∧ H' = (Hb 0 s)
abbrev W8 (l : Launch) (Z : State) (n0 : Nat) (Q : Option Value → List OwnC → Prop) (k n pc : Nat) (L : List Slot) (S : List Value) (H : List OwnC) : Prop := WP l Z CN lay "DemandGate" "gcd" prog_1_method_25_code 12 (some FieldType.long) R8 n0 0 Q k n pc L S H
def f_gcd_45 (n : Nat) (v5 : Int64) (s : St) : Option (Int64) :=
  some v5
set_option maxRecDepth 65536 in
set_option maxHeartbeats 4000000 in
theorem ok8_45 (l : Launch) (Z : State) (a0 : Array Value) (hw : HW a0 Z) (n0 : Nat) (n : Nat) (v5 : Int64) (s : St) (r : Int64) (h : f_gcd_45 n v5 s = some r) : W8 l Z n0 (P8 s r) 0 0 45 [.unset, .unset, .unset, .unset, .unset, .val (.long v5), .second, .unset, .unset, .unset, .unset, .unset] [] (Hb 0 s) := by
  unfold f_gcd_45 at h
  refine WP.lload d8_45 rfl ?_
  cases h
  exact WP.lreturn d8_47 rfl (leb rfl) (leb rfl) ⟨rfl, rfl⟩
def g_gcd_9 (k9 : Int64 → Int64 → Int32 → St → Option (Int64)) (n : Nat) (v5 : Int64) (v7 : Int64) (v9 : Int32) (s : St) : Option (Int64) :=
  if v9 < (128 : Int32) then
    if v7 = (0 : Int64) then
      f_gcd_45 n v5 s
    else
      if v7 = 0 then none else
      lt (v5 % v7) fun x4 =>
      lt (v9 + (1 : Int32)) fun x5 =>
      k9 v7 x4 x5 s
  else
    f_gcd_45 n v5 s
set_option maxRecDepth 65536 in
set_option maxHeartbeats 4000000 in
theorem okg8_9 (l : Launch) (Z : State) (a0 : Array Value) (hw : HW a0 Z) (n0 : Nat) (k9 : Int64 → Int64 → Int32 → St → Option (Int64)) (hk9 : ∀ (v5 : Int64) (v7 : Int64) (v9 : Int32) (s : St) (r : Int64), k9 v5 v7 v9 s = some r → W8 l Z n0 (P8 s r) 0 0 9 [.unset, .unset, .unset, .unset, .unset, .val (.long v5), .second, .val (.long v7), .second, .val (.int v9), .unset, .unset] [] (Hb 0 s)) (n : Nat) (v5 : Int64) (v7 : Int64) (v9 : Int32) (s : St) (r : Int64) (h : g_gcd_9 k9 n v5 v7 v9 s = some r) : W8 l Z n0 (P8 s r) 0 0 9 [.unset, .unset, .unset, .unset, .unset, .val (.long v5), .second, .val (.long v7), .second, .val (.int v9), .unset, .unset] [] (Hb 0 s) := by
  unfold g_gcd_9 at h
  refine WP.iload d8_9 rfl ?_
  refine WP.sipush (128 : Int32) d8_11 rfl ?_
  rcases ite_e h with ⟨hc1, h⟩ | ⟨hc1, h⟩
  ·
    refine WP.icmpN d8_14 (XT.ii_ge_f hc1) ?_
    refine WP.lload d8_17 rfl ?_
    refine WP.lconst (0 : Int64) d8_19 rfl ?_
    refine WP.lcmp d8_20 ?_
    rcases ite_e h with ⟨hc2, h⟩ | ⟨hc2, h⟩
    ·
      refine WP.ifY (pc' := 45) d8_21 (XT.ll_eq_t hc2) (by decide) rfl ?_
      exact WP.weak (L' := [.unset, .unset, .unset, .unset, .unset, .val (.long v5), .second, .unset, .unset, .unset, .unset, .unset]) ⟨rfl, rfl, trivial⟩ (ok8_45 l Z a0 hw n0 n v5 s _ h)
    ·
      refine WP.ifN d8_21 (XT.ll_eq_f hc2) ?_
      refine WP.lload d8_24 rfl ?_
      refine WP.lload d8_26 rfl ?_
      obtain ⟨hz3, h⟩ := nz_e h
      refine WP.lrem d8_28 hz3 ?_
      obtain ⟨x4, ex4, h⟩ := lt_e h
      refine WP.lstore (L' := [.unset, .unset, .unset, .unset, .unset, .val (.long v5), .second, .val (.long v7), .second, .val (.int v9), .val (.long x4), .second]) d8_29 (leb rfl) (by subst ex4; rfl) ?_
      refine WP.lload d8_31 rfl ?_
      refine WP.lstore (L' := [.unset, .unset, .unset, .unset, .unset, .val (.long v7), .second, .val (.long v7), .second, .val (.int v9), .val (.long x4), .second]) d8_33 (leb rfl) rfl ?_
      refine WP.lload d8_35 rfl ?_
      refine WP.lstore (L' := [.unset, .unset, .unset, .unset, .unset, .val (.long v7), .second, .val (.long x4), .second, .val (.int v9), .val (.long x4), .second]) d8_37 (leb rfl) rfl ?_
      obtain ⟨x5, ex5, h⟩ := lt_e h
      refine WP.iinc (L' := [.unset, .unset, .unset, .unset, .unset, .val (.long v7), .second, .val (.long x4), .second, .val (.int x5), .val (.long x4), .second]) (1 : Int32) d8_39 rfl rfl (by subst ex5; rfl) ?_
      refine WP.goto (pc' := 9) d8_42 (by decide) rfl ?_
      exact WP.weak (L' := [.unset, .unset, .unset, .unset, .unset, .val (.long v7), .second, .val (.long x4), .second, .val (.int x5), .unset, .unset]) ⟨rfl, rfl, rfl, rfl, rfl, trivial⟩ (hk9 v7 x4 x5 s _ h)
  ·
    refine WP.icmpY (pc' := 45) d8_14 (XT.ii_ge_t hc1) (by decide) rfl ?_
    exact WP.weak (L' := [.unset, .unset, .unset, .unset, .unset, .val (.long v5), .second, .unset, .unset, .unset, .unset, .unset]) ⟨rfl, rfl, trivial⟩ (ok8_45 l Z a0 hw n0 n v5 s _ h)
def f_gcd_9 : Nat → Int64 → Int64 → Int32 → St → Option (Int64)
  | 0 => fun _ _ _ _ => none
  | n + 1 => g_gcd_9 (f_gcd_9 n) n
theorem ok8_9 (l : Launch) (Z : State) (a0 : Array Value) (hw : HW a0 Z) (n0 : Nat) : ∀ (n : Nat) (v5 : Int64) (v7 : Int64) (v9 : Int32) (s : St) (r : Int64), f_gcd_9 n v5 v7 v9 s = some r → W8 l Z n0 (P8 s r) 0 0 9 [.unset, .unset, .unset, .unset, .unset, .val (.long v5), .second, .val (.long v7), .second, .val (.int v9), .unset, .unset] [] (Hb 0 s)
  | 0, v5, v7, v9, s, r, h => nomatch (show none = some r from h)
  | n + 1, v5, v7, v9, s, r, h => okg8_9 l Z a0 hw n0 _ (ok8_9 l Z a0 hw n0 n) n v5 v7 v9 s r h
def f_gcd (n : Nat) (p1 : Int64) (p2 : Int64) (s : St) : Option (Int64) :=
  f_gcd_9 n p1 p2 (0 : Int32) s
set_option maxRecDepth 65536 in
set_option maxHeartbeats 4000000 in
theorem ok8 (l : Launch) (Z : State) (a0 : Array Value) (hw : HW a0 Z) (n : Nat) (p1 : Int64) (p2 : Int64) (s : St) (r : Int64) (h : f_gcd n p1 p2 s = some r) : CS l Z CN lay y8 prog_1_method_25_code 12 (some FieldType.long) R8 0 [.ref 0, .long p1, .long p2] (Hb 0 s) (P8 s r) := by
  refine CS.of_wp pn_cls (leb rfl) fun n0 => ?_
  show W8 l Z n0 (P8 s r) 0 0 0 [.val (.ref 0), .val (.long p1), .second, .val (.long p2), .second, .unset, .unset, .unset, .unset, .unset, .unset, .unset] [] (Hb 0 s)
  unfold f_gcd at h
  refine WP.lloadN d8_0 rfl ?_
  refine WP.lstore (L' := [.val (.ref 0), .val (.long p1), .second, .val (.long p2), .second, .val (.long p1), .second, .unset, .unset, .unset, .unset, .unset]) d8_1 (leb rfl) rfl ?_
  refine WP.lloadN d8_3 rfl ?_
  refine WP.lstore (L' := [.val (.ref 0), .val (.long p1), .second, .val (.long p2), .second, .val (.long p1), .second, .val (.long p2), .second, .unset, .unset, .unset]) d8_4 (leb rfl) rfl ?_
  refine WP.iconst (0 : Int32) d8_6 rfl ?_
  refine WP.istore (L' := [.val (.ref 0), .val (.long p1), .second, .val (.long p2), .second, .val (.long p1), .second, .val (.long p2), .second, .val (.int (0 : Int32)), .unset, .unset]) d8_7 (leb rfl) rfl ?_
  exact WP.weak (L' := [.unset, .unset, .unset, .unset, .unset, .val (.long p1), .second, .val (.long p2), .second, .val (.int (0 : Int32)), .unset, .unset]) ⟨rfl, rfl, rfl, rfl, rfl, trivial⟩ (ok8_9 l Z a0 hw n0 n p1 p2 (0 : Int32) s _ h)
theorem d7_0 : dc prog_1_method_26_code 0 (.aload_n 0) 1 := by decide +kernel
theorem d7_1 : dc prog_1_method_26_code 1 (.lload_n 1) 1 := by decide +kernel
theorem d7_2 : dc prog_1_method_26_code 2 (.lload_n 3) 1 := by decide +kernel
theorem d7_3 : dc prog_1_method_26_code 3 (.invokevirtual 122) 3 := by decide +kernel
theorem d7_6 : dc prog_1_method_26_code 6 (.lstore 5) 2 := by decide +kernel
theorem d7_8 : dc prog_1_method_26_code 8 (.lload 5) 2 := by decide +kernel
theorem d7_10 : dc prog_1_method_26_code 10 (.lconst 1) 1 := by decide +kernel
theorem d7_11 : dc prog_1_method_26_code 11 (.lcmp) 1 := by decide +kernel
theorem d7_12 : dc prog_1_method_26_code 12 (.ifCond .ge 6) 3 := by decide +kernel
theorem d7_15 : dc prog_1_method_26_code 15 (.lconst 1) 1 := by decide +kernel
theorem d7_16 : dc prog_1_method_26_code 16 (.lstore 5) 2 := by decide +kernel
theorem d7_18 : dc prog_1_method_26_code 18 (.lload_n 1) 1 := by decide +kernel
theorem d7_19 : dc prog_1_method_26_code 19 (.lload 5) 2 := by decide +kernel
theorem d7_21 : dc prog_1_method_26_code 21 (.ldiv) 1 := by decide +kernel
theorem d7_22 : dc prog_1_method_26_code 22 (.lload_n 3) 1 := by decide +kernel
theorem d7_23 : dc prog_1_method_26_code 23 (.lmul) 1 := by decide +kernel
theorem d7_24 : dc prog_1_method_26_code 24 (.lreturn) 1 := by decide +kernel
abbrev y7 : MethodName := ⟨"DemandGate", "lcm", "(JJ)J"⟩
theorem hy7 : y7.cls ≠ "java/lang/invoke/MethodHandle" ∧ y7.cls ≠ "java/lang/invoke/VarHandle" := by decide
theorem pd7 : parseMethodDescriptor y7.desc = some ⟨[.long, .long], some .long⟩ := by decide +kernel
abbrev R7 : Room := { frames := 1, cells := 0, slots := 0, locals := 23 }
abbrev P7 (s : St) (r : Int64) : Option Value → List OwnC → Prop := fun v H' => v = some (.long r) ∧ H' = (Hb 0 s)
abbrev W7 (l : Launch) (Z : State) (n0 : Nat) (Q : Option Value → List OwnC → Prop) (k n pc : Nat) (L : List Slot) (S : List Value) (H : List OwnC) : Prop := WP l Z CN lay "DemandGate" "lcm" prog_1_method_26_code 7 (some FieldType.long) R7 n0 0 Q k n pc L S H
def f_lcm_18 (n : Nat) (v1 : Int64) (v3 : Int64) (v5 : Int64) (s : St) : Option (Int64) :=
  if v5 = 0 then none else
  some ((v1 / v5) * v3)
set_option maxRecDepth 65536 in
set_option maxHeartbeats 4000000 in
theorem ok7_18 (l : Launch) (Z : State) (a0 : Array Value) (hw : HW a0 Z) (n0 : Nat) (n : Nat) (v1 : Int64) (v3 : Int64) (v5 : Int64) (s : St) (r : Int64) (h : f_lcm_18 n v1 v3 v5 s = some r) : W7 l Z n0 (P7 s r) 0 0 18 [.unset, .val (.long v1), .second, .val (.long v3), .second, .val (.long v5), .second] [] (Hb 0 s) := by
  unfold f_lcm_18 at h
  refine WP.lloadN d7_18 rfl ?_
  refine WP.lload d7_19 rfl ?_
  obtain ⟨hz1, h⟩ := nz_e h
  refine WP.ldiv d7_21 hz1 ?_
  refine WP.lloadN d7_22 rfl ?_
  refine WP.lmul d7_23 ?_
  cases h
  exact WP.lreturn d7_24 rfl (leb rfl) (leb rfl) ⟨rfl, rfl⟩
def f_lcm (n : Nat) (p1 : Int64) (p2 : Int64) (s : St) : Option (Int64) :=
  (f_gcd n p1 p2 s).bind fun c1 =>
  if c1 < (1 : Int64) then
    f_lcm_18 n p1 p2 (1 : Int64) s
  else
    f_lcm_18 n p1 p2 c1 s
set_option maxRecDepth 65536 in
set_option maxHeartbeats 4000000 in
theorem ok7 (l : Launch) (Z : State) (a0 : Array Value) (hw : HW a0 Z) (n : Nat) (p1 : Int64) (p2 : Int64) (s : St) (r : Int64) (h : f_lcm n p1 p2 s = some r) : CS l Z CN lay y7 prog_1_method_26_code 7 (some FieldType.long) R7 0 [.ref 0, .long p1, .long p2] (Hb 0 s) (P7 s r) := by
  refine CS.of_wp pn_cls (leb rfl) fun n0 => ?_
  show W7 l Z n0 (P7 s r) 0 0 0 [.val (.ref 0), .val (.long p1), .second, .val (.long p2), .second, .unset, .unset] [] (Hb 0 s)
  unfold f_lcm at h
  refine WP.aloadN d7_0 rfl ?_
  refine WP.lloadN d7_1 rfl ?_
  refine WP.lloadN d7_2 rfl ?_
  obtain ⟨c1, hc1, h⟩ := Option.bind_eq_some_iff.mp h
  refine WP.callP (i := 0) (y := y8) (as := [.long p1, .long p2]) (S := []) d7_3 (hw _ m_87) (hw _ m_89) (hw _ m_1) (hw _ m_88) (hw _ m_90) (hw _ m_2) hy8 rfl (ok8 l Z a0 hw n p1 p2 s _ hc1) rfl (lenOf pd8 rfl) (leb rfl) (leb rfl) (leb rfl) (leb rfl) ?_
  rintro _ _ ⟨rfl, rfl⟩
  show W7 l Z n0 (P7 s r) 0 0 6 [.val (.ref 0), .val (.long p1), .second, .val (.long p2), .second, .unset, .unset] [.long c1] (Hb 0 s)
  refine WP.lstore (L' := [.val (.ref 0), .val (.long p1), .second, .val (.long p2), .second, .val (.long c1), .second]) d7_6 (leb rfl) rfl ?_
  refine WP.lload d7_8 rfl ?_
  refine WP.lconst (1 : Int64) d7_10 rfl ?_
  refine WP.lcmp d7_11 ?_
  rcases ite_e h with ⟨hc2, h⟩ | ⟨hc2, h⟩
  ·
    refine WP.ifN d7_12 (XT.ll_ge_f hc2) ?_
    refine WP.lconst (1 : Int64) d7_15 rfl ?_
    refine WP.lstore (L' := [.val (.ref 0), .val (.long p1), .second, .val (.long p2), .second, .val (.long (1 : Int64)), .second]) d7_16 (leb rfl) rfl ?_
    exact WP.weak (L' := [.unset, .val (.long p1), .second, .val (.long p2), .second, .val (.long (1 : Int64)), .second]) ⟨rfl, rfl, rfl, rfl, rfl, rfl, trivial⟩ (ok7_18 l Z a0 hw n0 n p1 p2 (1 : Int64) s _ h)
  ·
    refine WP.ifY (pc' := 18) d7_12 (XT.ll_ge_t hc2) (by decide) rfl ?_
    exact WP.weak (L' := [.unset, .val (.long p1), .second, .val (.long p2), .second, .val (.long c1), .second]) ⟨rfl, rfl, rfl, rfl, rfl, rfl, trivial⟩ (ok7_18 l Z a0 hw n0 n p1 p2 c1 s _ h)
theorem d6_0 : dc prog_1_method_27_code 0 (.lconst 1) 1 := by decide +kernel
theorem d6_1 : dc prog_1_method_27_code 1 (.lstore_n 2) 1 := by decide +kernel
theorem d6_2 : dc prog_1_method_27_code 2 (.iconst 0) 1 := by decide +kernel
theorem d6_3 : dc prog_1_method_27_code 3 (.istore 4) 2 := by decide +kernel
theorem d6_5 : dc prog_1_method_27_code 5 (.iload 4) 2 := by decide +kernel
theorem d6_7 : dc prog_1_method_27_code 7 (.aload_n 0) 1 := by decide +kernel
theorem d6_8 : dc prog_1_method_27_code 8 (.getfield 85) 3 := by decide +kernel
theorem d6_11 : dc prog_1_method_27_code 11 (.if_icmp .ge 49) 3 := by decide +kernel
theorem d6_14 : dc prog_1_method_27_code 14 (.aload_n 0) 1 := by decide +kernel
theorem d6_15 : dc prog_1_method_27_code 15 (.getfield 34) 3 := by decide +kernel
theorem d6_18 : dc prog_1_method_27_code 18 (.iload 4) 2 := by decide +kernel
theorem d6_20 : dc prog_1_method_27_code 20 (.iaload) 1 := by decide +kernel
theorem d6_21 : dc prog_1_method_27_code 21 (.iconst 1) 1 := by decide +kernel
theorem d6_22 : dc prog_1_method_27_code 22 (.if_icmp .ge 7) 3 := by decide +kernel
theorem d6_25 : dc prog_1_method_27_code 25 (.iload_n 1) 1 := by decide +kernel
theorem d6_26 : dc prog_1_method_27_code 26 (.iconst 1) 1 := by decide +kernel
theorem d6_27 : dc prog_1_method_27_code 27 (.iadd) 1 := by decide +kernel
theorem d6_28 : dc prog_1_method_27_code 28 (.ireturn) 1 := by decide +kernel
theorem d6_29 : dc prog_1_method_27_code 29 (.aload_n 0) 1 := by decide +kernel
theorem d6_30 : dc prog_1_method_27_code 30 (.lload_n 2) 1 := by decide +kernel
theorem d6_31 : dc prog_1_method_27_code 31 (.aload_n 0) 1 := by decide +kernel
theorem d6_32 : dc prog_1_method_27_code 32 (.getfield 34) 3 := by decide +kernel
theorem d6_35 : dc prog_1_method_27_code 35 (.iload 4) 2 := by decide +kernel
theorem d6_37 : dc prog_1_method_27_code 37 (.iaload) 1 := by decide +kernel
theorem d6_38 : dc prog_1_method_27_code 38 (.i2l) 1 := by decide +kernel
theorem d6_39 : dc prog_1_method_27_code 39 (.invokevirtual 126) 3 := by decide +kernel
theorem d6_42 : dc prog_1_method_27_code 42 (.lstore_n 2) 1 := by decide +kernel
theorem d6_43 : dc prog_1_method_27_code 43 (.lload_n 2) 1 := by decide +kernel
theorem d6_44 : dc prog_1_method_27_code 44 (.iload_n 1) 1 := by decide +kernel
theorem d6_45 : dc prog_1_method_27_code 45 (.i2l) 1 := by decide +kernel
theorem d6_46 : dc prog_1_method_27_code 46 (.lcmp) 1 := by decide +kernel
theorem d6_47 : dc prog_1_method_27_code 47 (.ifCond .le 7) 3 := by decide +kernel
theorem d6_50 : dc prog_1_method_27_code 50 (.iload_n 1) 1 := by decide +kernel
theorem d6_51 : dc prog_1_method_27_code 51 (.iconst 1) 1 := by decide +kernel
theorem d6_52 : dc prog_1_method_27_code 52 (.iadd) 1 := by decide +kernel
theorem d6_53 : dc prog_1_method_27_code 53 (.ireturn) 1 := by decide +kernel
theorem d6_54 : dc prog_1_method_27_code 54 (.iinc 4 1) 3 := by decide +kernel
theorem d6_57 : dc prog_1_method_27_code 57 (.goto (-52)) 3 := by decide +kernel
theorem d6_60 : dc prog_1_method_27_code 60 (.lload_n 2) 1 := by decide +kernel
theorem d6_61 : dc prog_1_method_27_code 61 (.l2i) 1 := by decide +kernel
theorem d6_62 : dc prog_1_method_27_code 62 (.ireturn) 1 := by decide +kernel
abbrev y6 : MethodName := ⟨"DemandGate", "workHyper", "(I)I"⟩
theorem hy6 : y6.cls ≠ "java/lang/invoke/MethodHandle" ∧ y6.cls ≠ "java/lang/invoke/VarHandle" := by decide
theorem pd6 : parseMethodDescriptor y6.desc = some ⟨[.int], some .int⟩ := by decide +kernel
abbrev R6 : Room := { frames := 2, cells := 0, slots := 0, locals := 41 }
abbrev P6 (s : St) (r : Int32) : Option Value → List OwnC → Prop := fun v H' => v = some (.int r) ∧ H' = (Hb 0 s)
abbrev W6 (l : Launch) (Z : State) (n0 : Nat) (Q : Option Value → List OwnC → Prop) (k n pc : Nat) (L : List Slot) (S : List Value) (H : List OwnC) : Prop := WP l Z CN lay "DemandGate" "workHyper" prog_1_method_27_code 5 (some FieldType.int) R6 n0 0 Q k n pc L S H
def g_workHyper_5 (k5 : Int32 → Int64 → Int32 → St → Option (Int32)) (n : Nat) (v1 : Int32) (v2 : Int64) (v4 : Int32) (s : St) : Option (Int32) :=
  if v4 < (gI s 11) then
    (rd (gA s 8) v4).bind fun x2 =>
    if x2 < (1 : Int32) then
      some (v1 + (1 : Int32))
    else
      (rd (gA s 8) v4).bind fun x4 =>
      (f_lcm n v2 x4.toInt64 s).bind fun c5 =>
      if v1.toInt64 < c5 then
        some (v1 + (1 : Int32))
      else
        lt (v4 + (1 : Int32)) fun x7 =>
        k5 v1 c5 x7 s
  else
    some v2.toInt32
set_option maxRecDepth 65536 in
set_option maxHeartbeats 4000000 in
theorem okg6_5 (l : Launch) (Z : State) (a0 : Array Value) (hw : HW a0 Z) (n0 : Nat) (k5 : Int32 → Int64 → Int32 → St → Option (Int32)) (hk5 : ∀ (v1 : Int32) (v2 : Int64) (v4 : Int32) (s : St) (r : Int32), k5 v1 v2 v4 s = some r → W6 l Z n0 (P6 s r) 0 0 5 [.val (.ref 0), .val (.int v1), .val (.long v2), .second, .val (.int v4)] [] (Hb 0 s)) (n : Nat) (v1 : Int32) (v2 : Int64) (v4 : Int32) (s : St) (r : Int32) (h : g_workHyper_5 k5 n v1 v2 v4 s = some r) : W6 l Z n0 (P6 s r) 0 0 5 [.val (.ref 0), .val (.int v1), .val (.long v2), .second, .val (.int v4)] [] (Hb 0 s) := by
  unfold g_workHyper_5 at h
  refine WP.iload d6_5 rfl ?_
  refine WP.aloadN d6_7 rfl ?_
  refine WP.getfield (i := 0) (j := 20) d6_8 (hw _ m_60) rfl rfl rfl ?_
  rcases ite_e h with ⟨hc1, h⟩ | ⟨hc1, h⟩
  ·
    refine WP.icmpN d6_11 (XT.ii_ge_f hc1) ?_
    refine WP.aloadN d6_14 rfl ?_
    refine WP.getfield (i := 0) (j := 19) d6_15 (hw _ m_26) rfl rfl rfl ?_
    refine WP.iload d6_18 rfl ?_
    obtain ⟨x2, hx2, h⟩ := Option.bind_eq_some_iff.mp h
    refine WP.iaload (i := 9) d6_20 rfl hx2 ?_
    refine WP.iconst (1 : Int32) d6_21 rfl ?_
    rcases ite_e h with ⟨hc3, h⟩ | ⟨hc3, h⟩
    ·
      refine WP.icmpN d6_22 (XT.ii_ge_f hc3) ?_
      refine WP.iloadN d6_25 rfl ?_
      refine WP.iconst (1 : Int32) d6_26 rfl ?_
      refine WP.iadd d6_27 ?_
      cases h
      exact WP.ireturn d6_28 rfl (leb rfl) (leb rfl) ⟨rfl, rfl⟩
    ·
      refine WP.icmpY (pc' := 29) d6_22 (XT.ii_ge_t hc3) (by decide) rfl ?_
      refine WP.aloadN d6_29 rfl ?_
      refine WP.lloadN d6_30 rfl ?_
      refine WP.aloadN d6_31 rfl ?_
      refine WP.getfield (i := 0) (j := 19) d6_32 (hw _ m_26) rfl rfl rfl ?_
      refine WP.iload d6_35 rfl ?_
      obtain ⟨x4, hx4, h⟩ := Option.bind_eq_some_iff.mp h
      refine WP.iaload (i := 9) d6_37 rfl hx4 ?_
      refine WP.i2l d6_38 ?_
      obtain ⟨c5, hc5, h⟩ := Option.bind_eq_some_iff.mp h
      refine WP.callP (i := 0) (y := y7) (as := [.long v2, .long x4.toInt64]) (S := []) d6_39 (hw _ m_83) (hw _ m_85) (hw _ m_1) (hw _ m_84) (hw _ m_86) (hw _ m_2) hy7 rfl (ok7 l Z a0 hw n v2 x4.toInt64 s _ hc5) rfl (lenOf pd7 rfl) (leb rfl) (leb rfl) (leb rfl) (leb rfl) ?_
      rintro _ _ ⟨rfl, rfl⟩
      show W6 l Z n0 (P6 s r) 0 0 42 [.val (.ref 0), .val (.int v1), .val (.long v2), .second, .val (.int v4)] [.long c5] (Hb 0 s)
      refine WP.lstoreN (L' := [.val (.ref 0), .val (.int v1), .val (.long c5), .second, .val (.int v4)]) d6_42 (leb rfl) rfl ?_
      refine WP.lloadN d6_43 rfl ?_
      refine WP.iloadN d6_44 rfl ?_
      refine WP.i2l d6_45 ?_
      refine WP.lcmp d6_46 ?_
      rcases ite_e h with ⟨hc6, h⟩ | ⟨hc6, h⟩
      ·
        refine WP.ifN d6_47 (XT.ll_le_f hc6) ?_
        refine WP.iloadN d6_50 rfl ?_
        refine WP.iconst (1 : Int32) d6_51 rfl ?_
        refine WP.iadd d6_52 ?_
        cases h
        exact WP.ireturn d6_53 rfl (leb rfl) (leb rfl) ⟨rfl, rfl⟩
      ·
        refine WP.ifY (pc' := 54) d6_47 (XT.ll_le_t hc6) (by decide) rfl ?_
        obtain ⟨x7, ex7, h⟩ := lt_e h
        refine WP.iinc (L' := [.val (.ref 0), .val (.int v1), .val (.long c5), .second, .val (.int x7)]) (1 : Int32) d6_54 rfl rfl (by subst ex7; rfl) ?_
        refine WP.goto (pc' := 5) d6_57 (by decide) rfl ?_
        exact WP.weak (L' := [.val (.ref 0), .val (.int v1), .val (.long c5), .second, .val (.int x7)]) ⟨rfl, rfl, rfl, rfl, rfl, trivial⟩ (hk5 v1 c5 x7 s _ h)
  ·
    refine WP.icmpY (pc' := 60) d6_11 (XT.ii_ge_t hc1) (by decide) rfl ?_
    refine WP.lloadN d6_60 rfl ?_
    refine WP.l2i d6_61 ?_
    cases h
    exact WP.ireturn d6_62 rfl (leb rfl) (leb rfl) ⟨rfl, rfl⟩
def f_workHyper_5 : Nat → Int32 → Int64 → Int32 → St → Option (Int32)
  | 0 => fun _ _ _ _ => none
  | n + 1 => g_workHyper_5 (f_workHyper_5 n) n
theorem ok6_5 (l : Launch) (Z : State) (a0 : Array Value) (hw : HW a0 Z) (n0 : Nat) : ∀ (n : Nat) (v1 : Int32) (v2 : Int64) (v4 : Int32) (s : St) (r : Int32), f_workHyper_5 n v1 v2 v4 s = some r → W6 l Z n0 (P6 s r) 0 0 5 [.val (.ref 0), .val (.int v1), .val (.long v2), .second, .val (.int v4)] [] (Hb 0 s)
  | 0, v1, v2, v4, s, r, h => nomatch (show none = some r from h)
  | n + 1, v1, v2, v4, s, r, h => okg6_5 l Z a0 hw n0 _ (ok6_5 l Z a0 hw n0 n) n v1 v2 v4 s r h
def f_workHyper (n : Nat) (p1 : Int32) (s : St) : Option (Int32) :=
  f_workHyper_5 n p1 (1 : Int64) (0 : Int32) s
set_option maxRecDepth 65536 in
set_option maxHeartbeats 4000000 in
theorem ok6 (l : Launch) (Z : State) (a0 : Array Value) (hw : HW a0 Z) (n : Nat) (p1 : Int32) (s : St) (r : Int32) (h : f_workHyper n p1 s = some r) : CS l Z CN lay y6 prog_1_method_27_code 5 (some FieldType.int) R6 0 [.ref 0, .int p1] (Hb 0 s) (P6 s r) := by
  refine CS.of_wp pn_cls (leb rfl) fun n0 => ?_
  show W6 l Z n0 (P6 s r) 0 0 0 [.val (.ref 0), .val (.int p1), .unset, .unset, .unset] [] (Hb 0 s)
  unfold f_workHyper at h
  refine WP.lconst (1 : Int64) d6_0 rfl ?_
  refine WP.lstoreN (L' := [.val (.ref 0), .val (.int p1), .val (.long (1 : Int64)), .second, .unset]) d6_1 (leb rfl) rfl ?_
  refine WP.iconst (0 : Int32) d6_2 rfl ?_
  refine WP.istore (L' := [.val (.ref 0), .val (.int p1), .val (.long (1 : Int64)), .second, .val (.int (0 : Int32))]) d6_3 (leb rfl) rfl ?_
  exact WP.weak (L' := [.val (.ref 0), .val (.int p1), .val (.long (1 : Int64)), .second, .val (.int (0 : Int32))]) ⟨rfl, rfl, rfl, rfl, rfl, trivial⟩ (ok6_5 l Z a0 hw n0 n p1 (1 : Int64) (0 : Int32) s _ h)
theorem d9_0 : dc prog_1_method_23_code 0 (.aload_n 0) 1 := by decide +kernel
theorem d9_1 : dc prog_1_method_23_code 1 (.iconst 0) 1 := by decide +kernel
theorem d9_2 : dc prog_1_method_23_code 2 (.putfield 60) 3 := by decide +kernel
theorem d9_5 : dc prog_1_method_23_code 5 (.iconst 0) 1 := by decide +kernel
theorem d9_6 : dc prog_1_method_23_code 6 (.istore_n 2) 1 := by decide +kernel
theorem d9_7 : dc prog_1_method_23_code 7 (.iload_n 2) 1 := by decide +kernel
theorem d9_8 : dc prog_1_method_23_code 8 (.aload_n 0) 1 := by decide +kernel
theorem d9_9 : dc prog_1_method_23_code 9 (.getfield 85) 3 := by decide +kernel
theorem d9_12 : dc prog_1_method_23_code 12 (.if_icmp .ge 61) 3 := by decide +kernel
theorem d9_15 : dc prog_1_method_23_code 15 (.iload_n 2) 1 := by decide +kernel
theorem d9_16 : dc prog_1_method_23_code 16 (.bipush 12) 2 := by decide +kernel
theorem d9_18 : dc prog_1_method_23_code 18 (.if_icmp .ge 55) 3 := by decide +kernel
theorem d9_21 : dc prog_1_method_23_code 21 (.aload_n 0) 1 := by decide +kernel
theorem d9_22 : dc prog_1_method_23_code 22 (.getfield 19) 3 := by decide +kernel
theorem d9_25 : dc prog_1_method_23_code 25 (.iload_n 2) 1 := by decide +kernel
theorem d9_26 : dc prog_1_method_23_code 26 (.aload_n 0) 1 := by decide +kernel
theorem d9_27 : dc prog_1_method_23_code 27 (.getfield 28) 3 := by decide +kernel
theorem d9_30 : dc prog_1_method_23_code 30 (.iload_n 2) 1 := by decide +kernel
theorem d9_31 : dc prog_1_method_23_code 31 (.iaload) 1 := by decide +kernel
theorem d9_32 : dc prog_1_method_23_code 32 (.iastore) 1 := by decide +kernel
theorem d9_33 : dc prog_1_method_23_code 33 (.aload_n 0) 1 := by decide +kernel
theorem d9_34 : dc prog_1_method_23_code 34 (.getfield 22) 3 := by decide +kernel
theorem d9_37 : dc prog_1_method_23_code 37 (.iload_n 2) 1 := by decide +kernel
theorem d9_38 : dc prog_1_method_23_code 38 (.aload_n 0) 1 := by decide +kernel
theorem d9_39 : dc prog_1_method_23_code 39 (.getfield 31) 3 := by decide +kernel
theorem d9_42 : dc prog_1_method_23_code 42 (.iload_n 2) 1 := by decide +kernel
theorem d9_43 : dc prog_1_method_23_code 43 (.iaload) 1 := by decide +kernel
theorem d9_44 : dc prog_1_method_23_code 44 (.iastore) 1 := by decide +kernel
theorem d9_45 : dc prog_1_method_23_code 45 (.aload_n 0) 1 := by decide +kernel
theorem d9_46 : dc prog_1_method_23_code 46 (.getfield 25) 3 := by decide +kernel
theorem d9_49 : dc prog_1_method_23_code 49 (.iload_n 2) 1 := by decide +kernel
theorem d9_50 : dc prog_1_method_23_code 50 (.aload_n 0) 1 := by decide +kernel
theorem d9_51 : dc prog_1_method_23_code 51 (.getfield 34) 3 := by decide +kernel
theorem d9_54 : dc prog_1_method_23_code 54 (.iload_n 2) 1 := by decide +kernel
theorem d9_55 : dc prog_1_method_23_code 55 (.iaload) 1 := by decide +kernel
theorem d9_56 : dc prog_1_method_23_code 56 (.iastore) 1 := by decide +kernel
theorem d9_57 : dc prog_1_method_23_code 57 (.aload_n 0) 1 := by decide +kernel
theorem d9_58 : dc prog_1_method_23_code 58 (.dup) 1 := by decide +kernel
theorem d9_59 : dc prog_1_method_23_code 59 (.getfield 60) 3 := by decide +kernel
theorem d9_62 : dc prog_1_method_23_code 62 (.iconst 1) 1 := by decide +kernel
theorem d9_63 : dc prog_1_method_23_code 63 (.iadd) 1 := by decide +kernel
theorem d9_64 : dc prog_1_method_23_code 64 (.putfield 60) 3 := by decide +kernel
theorem d9_67 : dc prog_1_method_23_code 67 (.iinc 2 1) 3 := by decide +kernel
theorem d9_70 : dc prog_1_method_23_code 70 (.goto (-63)) 3 := by decide +kernel
theorem d9_73 : dc prog_1_method_23_code 73 (.aload_n 0) 1 := by decide +kernel
theorem d9_74 : dc prog_1_method_23_code 74 (.iconst 1) 1 := by decide +kernel
theorem d9_75 : dc prog_1_method_23_code 75 (.putfield 63) 3 := by decide +kernel
theorem d9_78 : dc prog_1_method_23_code 78 (.aload_n 0) 1 := by decide +kernel
theorem d9_79 : dc prog_1_method_23_code 79 (.iload_n 1) 1 := by decide +kernel
theorem d9_80 : dc prog_1_method_23_code 80 (.putfield 67) 3 := by decide +kernel
theorem d9_83 : dc prog_1_method_23_code 83 (.return_) 1 := by decide +kernel
abbrev y9 : MethodName := ⟨"DemandGate", "storeCandidate", "(I)V"⟩
theorem hy9 : y9.cls ≠ "java/lang/invoke/MethodHandle" ∧ y9.cls ≠ "java/lang/invoke/VarHandle" := by decide
theorem pd9 : parseMethodDescriptor y9.desc = some ⟨[.int], none⟩ := by decide +kernel
abbrev R9 : Room := { frames := 0, cells := 0, slots := 0, locals := 0 }
abbrev P9 (r : St) : Option Value → List OwnC → Prop := fun v H' => v = none ∧ H' = (Hb 0 r)
abbrev W9 (l : Launch) (Z : State) (n0 : Nat) (Q : Option Value → List OwnC → Prop) (k n pc : Nat) (L : List Slot) (S : List Value) (H : List OwnC) : Prop := WP l Z CN lay "DemandGate" "storeCandidate" prog_1_method_23_code 3 (none) R9 n0 0 Q k n pc L S H
def f_storeCandidate_73 (n : Nat) (v1 : Int32) (s : St) : Option (St) :=
  lt (sI s 4 (1 : Int32)) fun s1 =>
  lt (sI s1 5 v1) fun s2 =>
  some s2
set_option maxRecDepth 65536 in
set_option maxHeartbeats 4000000 in
theorem ok9_73 (l : Launch) (Z : State) (a0 : Array Value) (hw : HW a0 Z) (n0 : Nat) (n : Nat) (v1 : Int32) (s : St) (r : St) (h : f_storeCandidate_73 n v1 s = some r) : W9 l Z n0 (P9 r) 0 0 73 [.val (.ref 0), .val (.int v1), .unset] [] (Hb 0 s) := by
  unfold f_storeCandidate_73 at h
  refine WP.aloadN d9_73 rfl ?_
  refine WP.iconst (1 : Int32) d9_74 rfl ?_
  obtain ⟨s1, es1, h⟩ := lt_e h
  refine WP.putZ (i := 0) (j := 10) (H' := (Hb 0 s1)) d9_75 (hw _ m_46) (Or.inl (hw _ m_47)) (hw _ m_1) (hlay hw) rfl rfl rfl (leb rfl) (by subst es1; rfl) ?_
  refine WP.aloadN d9_78 rfl ?_
  refine WP.iloadN d9_79 rfl ?_
  obtain ⟨s2, es2, h⟩ := lt_e h
  refine WP.putI (i := 0) (j := 11) (H' := (Hb 0 s2)) d9_80 (hw _ m_48) (Or.inl (hw _ m_49)) (hw _ m_1) (hlay hw) rfl rfl rfl (leb rfl) (by subst es2; rfl) ?_
  cases h
  exact WP.vreturn d9_83 rfl (leb rfl) (leb rfl) ⟨rfl, rfl⟩
def g_storeCandidate_7 (k7 : Int32 → Int32 → St → Option (St)) (n : Nat) (v1 : Int32) (v2 : Int32) (s : St) : Option (St) :=
  if v2 < (gI s 11) then
    if v2 < (12 : Int32) then
      (rd (gA s 6) v2).bind fun x3 =>
      (wrA s 3 v2 x3).bind fun s4 =>
      (rd (gA s4 7) v2).bind fun x5 =>
      (wrA s4 4 v2 x5).bind fun s6 =>
      (rd (gA s6 8) v2).bind fun x7 =>
      (wrA s6 5 v2 x7).bind fun s8 =>
      lt (sI s8 3 ((gI s8 3) + (1 : Int32))) fun s9 =>
      lt (v2 + (1 : Int32)) fun x10 =>
      k7 v1 x10 s9
    else
      f_storeCandidate_73 n v1 s
  else
    f_storeCandidate_73 n v1 s
set_option maxRecDepth 65536 in
set_option maxHeartbeats 4000000 in
theorem okg9_7 (l : Launch) (Z : State) (a0 : Array Value) (hw : HW a0 Z) (n0 : Nat) (k7 : Int32 → Int32 → St → Option (St)) (hk7 : ∀ (v1 : Int32) (v2 : Int32) (s : St) (r : St), k7 v1 v2 s = some r → W9 l Z n0 (P9 r) 0 0 7 [.val (.ref 0), .val (.int v1), .val (.int v2)] [] (Hb 0 s)) (n : Nat) (v1 : Int32) (v2 : Int32) (s : St) (r : St) (h : g_storeCandidate_7 k7 n v1 v2 s = some r) : W9 l Z n0 (P9 r) 0 0 7 [.val (.ref 0), .val (.int v1), .val (.int v2)] [] (Hb 0 s) := by
  unfold g_storeCandidate_7 at h
  refine WP.iloadN d9_7 rfl ?_
  refine WP.aloadN d9_8 rfl ?_
  refine WP.getfield (i := 0) (j := 20) d9_9 (hw _ m_60) rfl rfl rfl ?_
  rcases ite_e h with ⟨hc1, h⟩ | ⟨hc1, h⟩
  ·
    refine WP.icmpN d9_12 (XT.ii_ge_f hc1) ?_
    refine WP.iloadN d9_15 rfl ?_
    refine WP.bipush (12 : Int32) d9_16 rfl ?_
    rcases ite_e h with ⟨hc2, h⟩ | ⟨hc2, h⟩
    ·
      refine WP.icmpN d9_18 (XT.ii_ge_f hc2) ?_
      refine WP.aloadN d9_21 rfl ?_
      refine WP.getfield (i := 0) (j := 6) d9_22 (hw _ m_16) rfl rfl rfl ?_
      refine WP.iloadN d9_25 rfl ?_
      refine WP.aloadN d9_26 rfl ?_
      refine WP.getfield (i := 0) (j := 17) d9_27 (hw _ m_22) rfl rfl rfl ?_
      refine WP.iloadN d9_30 rfl ?_
      obtain ⟨x3, hx3, h⟩ := Option.bind_eq_some_iff.mp h
      refine WP.iaload (i := 7) d9_31 rfl hx3 ?_
      obtain ⟨s4, hs4, h⟩ := Option.bind_eq_some_iff.mp h
      obtain ⟨ys4, gs4, es4⟩ := wrA_e hs4
      refine WP.iastore (i := 4) (xs := gA s 3) (H' := (Hb 0 s4)) d9_32 rfl (leb rfl) gs4 (by subst es4; rfl) ?_
      refine WP.aloadN d9_33 rfl ?_
      refine WP.getfield (i := 0) (j := 7) d9_34 (hw _ m_18) rfl rfl rfl ?_
      refine WP.iloadN d9_37 rfl ?_
      refine WP.aloadN d9_38 rfl ?_
      refine WP.getfield (i := 0) (j := 18) d9_39 (hw _ m_24) rfl rfl rfl ?_
      refine WP.iloadN d9_42 rfl ?_
      obtain ⟨x5, hx5, h⟩ := Option.bind_eq_some_iff.mp h
      refine WP.iaload (i := 8) d9_43 rfl hx5 ?_
      obtain ⟨s6, hs6, h⟩ := Option.bind_eq_some_iff.mp h
      obtain ⟨ys6, gs6, es6⟩ := wrA_e hs6
      refine WP.iastore (i := 5) (xs := gA s4 4) (H' := (Hb 0 s6)) d9_44 rfl (leb rfl) gs6 (by subst es6; rfl) ?_
      refine WP.aloadN d9_45 rfl ?_
      refine WP.getfield (i := 0) (j := 8) d9_46 (hw _ m_20) rfl rfl rfl ?_
      refine WP.iloadN d9_49 rfl ?_
      refine WP.aloadN d9_50 rfl ?_
      refine WP.getfield (i := 0) (j := 19) d9_51 (hw _ m_26) rfl rfl rfl ?_
      refine WP.iloadN d9_54 rfl ?_
      obtain ⟨x7, hx7, h⟩ := Option.bind_eq_some_iff.mp h
      refine WP.iaload (i := 9) d9_55 rfl hx7 ?_
      obtain ⟨s8, hs8, h⟩ := Option.bind_eq_some_iff.mp h
      obtain ⟨ys8, gs8, es8⟩ := wrA_e hs8
      refine WP.iastore (i := 6) (xs := gA s6 5) (H' := (Hb 0 s8)) d9_56 rfl (leb rfl) gs8 (by subst es8; rfl) ?_
      refine WP.aloadN d9_57 rfl ?_
      refine WP.dup d9_58 rfl ?_
      refine WP.getfield (i := 0) (j := 9) d9_59 (hw _ m_44) rfl rfl rfl ?_
      refine WP.iconst (1 : Int32) d9_62 rfl ?_
      refine WP.iadd d9_63 ?_
      obtain ⟨s9, es9, h⟩ := lt_e h
      refine WP.putI (i := 0) (j := 9) (H' := (Hb 0 s9)) d9_64 (hw _ m_44) (Or.inl (hw _ m_45)) (hw _ m_1) (hlay hw) rfl rfl rfl (leb rfl) (by subst es9; rfl) ?_
      obtain ⟨x10, ex10, h⟩ := lt_e h
      refine WP.iinc (L' := [.val (.ref 0), .val (.int v1), .val (.int x10)]) (1 : Int32) d9_67 rfl rfl (by subst ex10; rfl) ?_
      refine WP.goto (pc' := 7) d9_70 (by decide) rfl ?_
      exact WP.weak (L' := [.val (.ref 0), .val (.int v1), .val (.int x10)]) ⟨rfl, rfl, rfl, trivial⟩ (hk7 v1 x10 s9 _ h)
    ·
      refine WP.icmpY (pc' := 73) d9_18 (XT.ii_ge_t hc2) (by decide) rfl ?_
      exact WP.weak (L' := [.val (.ref 0), .val (.int v1), .unset]) ⟨rfl, rfl, trivial⟩ (ok9_73 l Z a0 hw n0 n v1 s _ h)
  ·
    refine WP.icmpY (pc' := 73) d9_12 (XT.ii_ge_t hc1) (by decide) rfl ?_
    exact WP.weak (L' := [.val (.ref 0), .val (.int v1), .unset]) ⟨rfl, rfl, trivial⟩ (ok9_73 l Z a0 hw n0 n v1 s _ h)
def f_storeCandidate_7 : Nat → Int32 → Int32 → St → Option (St)
  | 0 => fun _ _ _ => none
  | n + 1 => g_storeCandidate_7 (f_storeCandidate_7 n) n
theorem ok9_7 (l : Launch) (Z : State) (a0 : Array Value) (hw : HW a0 Z) (n0 : Nat) : ∀ (n : Nat) (v1 : Int32) (v2 : Int32) (s : St) (r : St), f_storeCandidate_7 n v1 v2 s = some r → W9 l Z n0 (P9 r) 0 0 7 [.val (.ref 0), .val (.int v1), .val (.int v2)] [] (Hb 0 s)
  | 0, v1, v2, s, r, h => nomatch (show none = some r from h)
  | n + 1, v1, v2, s, r, h => okg9_7 l Z a0 hw n0 _ (ok9_7 l Z a0 hw n0 n) n v1 v2 s r h
def f_storeCandidate (n : Nat) (p1 : Int32) (s : St) : Option (St) :=
  lt (sI s 3 (0 : Int32)) fun s1 =>
  f_storeCandidate_7 n p1 (0 : Int32) s1
set_option maxRecDepth 65536 in
set_option maxHeartbeats 4000000 in
theorem ok9 (l : Launch) (Z : State) (a0 : Array Value) (hw : HW a0 Z) (n : Nat) (p1 : Int32) (s : St) (r : St) (h : f_storeCandidate n p1 s = some r) : CS l Z CN lay y9 prog_1_method_23_code 3 (none) R9 0 [.ref 0, .int p1] (Hb 0 s) (P9 r) := by
  refine CS.of_wp pn_cls (leb rfl) fun n0 => ?_
  show W9 l Z n0 (P9 r) 0 0 0 [.val (.ref 0), .val (.int p1), .unset] [] (Hb 0 s)
  unfold f_storeCandidate at h
  refine WP.aloadN d9_0 rfl ?_
  refine WP.iconst (0 : Int32) d9_1 rfl ?_
  obtain ⟨s1, es1, h⟩ := lt_e h
  refine WP.putI (i := 0) (j := 9) (H' := (Hb 0 s1)) d9_2 (hw _ m_44) (Or.inl (hw _ m_45)) (hw _ m_1) (hlay hw) rfl rfl rfl (leb rfl) (by subst es1; rfl) ?_
  refine WP.iconst (0 : Int32) d9_5 rfl ?_
  refine WP.istoreN (L' := [.val (.ref 0), .val (.int p1), .val (.int (0 : Int32))]) d9_6 (leb rfl) rfl ?_
  exact WP.weak (L' := [.val (.ref 0), .val (.int p1), .val (.int (0 : Int32))]) ⟨rfl, rfl, rfl, trivial⟩ (ok9_7 l Z a0 hw n0 n p1 (0 : Int32) s1 _ h)
theorem d11_0 : dc prog_1_method_29_code 0 (.lconst 0) 1 := by decide +kernel
theorem d11_1 : dc prog_1_method_29_code 1 (.lstore_n 2) 1 := by decide +kernel
theorem d11_2 : dc prog_1_method_29_code 2 (.iconst 0) 1 := by decide +kernel
theorem d11_3 : dc prog_1_method_29_code 3 (.istore 4) 2 := by decide +kernel
theorem d11_5 : dc prog_1_method_29_code 5 (.iload 4) 2 := by decide +kernel
theorem d11_7 : dc prog_1_method_29_code 7 (.aload_n 0) 1 := by decide +kernel
theorem d11_8 : dc prog_1_method_29_code 8 (.getfield 85) 3 := by decide +kernel
theorem d11_11 : dc prog_1_method_29_code 11 (.if_icmp .ge 61) 3 := by decide +kernel
theorem d11_14 : dc prog_1_method_29_code 14 (.aload_n 0) 1 := by decide +kernel
theorem d11_15 : dc prog_1_method_29_code 15 (.getfield 34) 3 := by decide +kernel
theorem d11_18 : dc prog_1_method_29_code 18 (.iload 4) 2 := by decide +kernel
theorem d11_20 : dc prog_1_method_29_code 20 (.iaload) 1 := by decide +kernel
theorem d11_21 : dc prog_1_method_29_code 21 (.iconst 1) 1 := by decide +kernel
theorem d11_22 : dc prog_1_method_29_code 22 (.if_icmp .lt 20) 3 := by decide +kernel
theorem d11_25 : dc prog_1_method_29_code 25 (.aload_n 0) 1 := by decide +kernel
theorem d11_26 : dc prog_1_method_29_code 26 (.getfield 31) 3 := by decide +kernel
theorem d11_29 : dc prog_1_method_29_code 29 (.iload 4) 2 := by decide +kernel
theorem d11_31 : dc prog_1_method_29_code 31 (.iaload) 1 := by decide +kernel
theorem d11_32 : dc prog_1_method_29_code 32 (.aload_n 0) 1 := by decide +kernel
theorem d11_33 : dc prog_1_method_29_code 33 (.getfield 34) 3 := by decide +kernel
theorem d11_36 : dc prog_1_method_29_code 36 (.iload 4) 2 := by decide +kernel
theorem d11_38 : dc prog_1_method_29_code 38 (.iaload) 1 := by decide +kernel
theorem d11_39 : dc prog_1_method_29_code 39 (.if_icmp .eq 5) 3 := by decide +kernel
theorem d11_42 : dc prog_1_method_29_code 42 (.iconst 0) 1 := by decide +kernel
theorem d11_43 : dc prog_1_method_29_code 43 (.ireturn) 1 := by decide +kernel
theorem d11_44 : dc prog_1_method_29_code 44 (.lload_n 2) 1 := by decide +kernel
theorem d11_45 : dc prog_1_method_29_code 45 (.aload_n 0) 1 := by decide +kernel
theorem d11_46 : dc prog_1_method_29_code 46 (.getfield 28) 3 := by decide +kernel
theorem d11_49 : dc prog_1_method_29_code 49 (.iload 4) 2 := by decide +kernel
theorem d11_51 : dc prog_1_method_29_code 51 (.iaload) 1 := by decide +kernel
theorem d11_52 : dc prog_1_method_29_code 52 (.i2l) 1 := by decide +kernel
theorem d11_53 : dc prog_1_method_29_code 53 (.iload_n 1) 1 := by decide +kernel
theorem d11_54 : dc prog_1_method_29_code 54 (.aload_n 0) 1 := by decide +kernel
theorem d11_55 : dc prog_1_method_29_code 55 (.getfield 34) 3 := by decide +kernel
theorem d11_58 : dc prog_1_method_29_code 58 (.iload 4) 2 := by decide +kernel
theorem d11_60 : dc prog_1_method_29_code 60 (.iaload) 1 := by decide +kernel
theorem d11_61 : dc prog_1_method_29_code 61 (.idiv) 1 := by decide +kernel
theorem d11_62 : dc prog_1_method_29_code 62 (.i2l) 1 := by decide +kernel
theorem d11_63 : dc prog_1_method_29_code 63 (.lmul) 1 := by decide +kernel
theorem d11_64 : dc prog_1_method_29_code 64 (.ladd) 1 := by decide +kernel
theorem d11_65 : dc prog_1_method_29_code 65 (.lstore_n 2) 1 := by decide +kernel
theorem d11_66 : dc prog_1_method_29_code 66 (.iinc 4 1) 3 := by decide +kernel
theorem d11_69 : dc prog_1_method_29_code 69 (.goto (-64)) 3 := by decide +kernel
theorem d11_72 : dc prog_1_method_29_code 72 (.lload_n 2) 1 := by decide +kernel
theorem d11_73 : dc prog_1_method_29_code 73 (.iload_n 1) 1 := by decide +kernel
theorem d11_74 : dc prog_1_method_29_code 74 (.i2l) 1 := by decide +kernel
theorem d11_75 : dc prog_1_method_29_code 75 (.lcmp) 1 := by decide +kernel
theorem d11_76 : dc prog_1_method_29_code 76 (.ifCond .gt 7) 3 := by decide +kernel
theorem d11_79 : dc prog_1_method_29_code 79 (.iconst 1) 1 := by decide +kernel
theorem d11_80 : dc prog_1_method_29_code 80 (.goto 4) 3 := by decide +kernel
theorem d11_83 : dc prog_1_method_29_code 83 (.iconst 0) 1 := by decide +kernel
theorem d11_84 : dc prog_1_method_29_code 84 (.ireturn) 1 := by decide +kernel
abbrev y11 : MethodName := ⟨"DemandGate", "implicitWithinCapacity", "(I)Z"⟩
theorem hy11 : y11.cls ≠ "java/lang/invoke/MethodHandle" ∧ y11.cls ≠ "java/lang/invoke/VarHandle" := by decide
theorem pd11 : parseMethodDescriptor y11.desc = some ⟨[.int], some .boolean⟩ := by decide +kernel
abbrev R11 : Room := { frames := 0, cells := 0, slots := 0, locals := 0 }
abbrev P11 (s : St) (r : Int32) : Option Value → List OwnC → Prop := fun v H' => v = some (.int r) ∧ H' = (Hb 0 s)
abbrev W11 (l : Launch) (Z : State) (n0 : Nat) (Q : Option Value → List OwnC → Prop) (k n pc : Nat) (L : List Slot) (S : List Value) (H : List OwnC) : Prop := WP l Z CN lay "DemandGate" "implicitWithinCapacity" prog_1_method_29_code 5 (some FieldType.boolean) R11 n0 0 Q k n pc L S H
def f_implicitWithinCapacity_42 (n : Nat) (s : St) : Option (Int32) :=
  some (0 : Int32)
set_option maxRecDepth 65536 in
set_option maxHeartbeats 4000000 in
theorem ok11_42 (l : Launch) (Z : State) (a0 : Array Value) (hw : HW a0 Z) (n0 : Nat) (n : Nat) (s : St) (r : Int32) (h : f_implicitWithinCapacity_42 n s = some r) : W11 l Z n0 (P11 s r) 0 0 42 [.unset, .unset, .unset, .unset, .unset] [] (Hb 0 s) := by
  unfold f_implicitWithinCapacity_42 at h
  refine WP.iconst (0 : Int32) d11_42 rfl ?_
  cases h
  exact WP.zreturn d11_43 rfl (leb rfl) (leb rfl) ⟨rfl, rfl⟩
def f_implicitWithinCapacity_84 (n : Nat) (t0 : Int32) (s : St) : Option (Int32) :=
  some (t0 &&& 1)
set_option maxRecDepth 65536 in
set_option maxHeartbeats 4000000 in
theorem ok11_84 (l : Launch) (Z : State) (a0 : Array Value) (hw : HW a0 Z) (n0 : Nat) (n : Nat) (t0 : Int32) (s : St) (r : Int32) (h : f_implicitWithinCapacity_84 n t0 s = some r) : W11 l Z n0 (P11 s r) 0 0 84 [.unset, .unset, .unset, .unset, .unset] [.int t0] (Hb 0 s) := by
  unfold f_implicitWithinCapacity_84 at h
  cases h
  exact WP.zreturn d11_84 rfl (leb rfl) (leb rfl) ⟨rfl, rfl⟩
def g_implicitWithinCapacity_5 (k5 : Int32 → Int64 → Int32 → St → Option (Int32)) (n : Nat) (v1 : Int32) (v2 : Int64) (v4 : Int32) (s : St) : Option (Int32) :=
  if v4 < (gI s 11) then
    (rd (gA s 8) v4).bind fun x2 =>
    if x2 < (1 : Int32) then
      f_implicitWithinCapacity_42 n s
    else
      (rd (gA s 7) v4).bind fun x4 =>
      (rd (gA s 8) v4).bind fun x5 =>
      if x4 = x5 then
        (rd (gA s 6) v4).bind fun x7 =>
        (rd (gA s 8) v4).bind fun x8 =>
        if x8 = 0 then none else
        lt (v2 + (x7.toInt64 * ((v1 / x8).toInt64))) fun x10 =>
        lt (v4 + (1 : Int32)) fun x11 =>
        k5 v1 x10 x11 s
      else
        f_implicitWithinCapacity_42 n s
  else
    if v1.toInt64 < v2 then
      f_implicitWithinCapacity_84 n (0 : Int32) s
    else
      f_implicitWithinCapacity_84 n (1 : Int32) s
set_option maxRecDepth 65536 in
set_option maxHeartbeats 4000000 in
theorem okg11_5 (l : Launch) (Z : State) (a0 : Array Value) (hw : HW a0 Z) (n0 : Nat) (k5 : Int32 → Int64 → Int32 → St → Option (Int32)) (hk5 : ∀ (v1 : Int32) (v2 : Int64) (v4 : Int32) (s : St) (r : Int32), k5 v1 v2 v4 s = some r → W11 l Z n0 (P11 s r) 0 0 5 [.val (.ref 0), .val (.int v1), .val (.long v2), .second, .val (.int v4)] [] (Hb 0 s)) (n : Nat) (v1 : Int32) (v2 : Int64) (v4 : Int32) (s : St) (r : Int32) (h : g_implicitWithinCapacity_5 k5 n v1 v2 v4 s = some r) : W11 l Z n0 (P11 s r) 0 0 5 [.val (.ref 0), .val (.int v1), .val (.long v2), .second, .val (.int v4)] [] (Hb 0 s) := by
  unfold g_implicitWithinCapacity_5 at h
  refine WP.iload d11_5 rfl ?_
  refine WP.aloadN d11_7 rfl ?_
  refine WP.getfield (i := 0) (j := 20) d11_8 (hw _ m_60) rfl rfl rfl ?_
  rcases ite_e h with ⟨hc1, h⟩ | ⟨hc1, h⟩
  ·
    refine WP.icmpN d11_11 (XT.ii_ge_f hc1) ?_
    refine WP.aloadN d11_14 rfl ?_
    refine WP.getfield (i := 0) (j := 19) d11_15 (hw _ m_26) rfl rfl rfl ?_
    refine WP.iload d11_18 rfl ?_
    obtain ⟨x2, hx2, h⟩ := Option.bind_eq_some_iff.mp h
    refine WP.iaload (i := 9) d11_20 rfl hx2 ?_
    refine WP.iconst (1 : Int32) d11_21 rfl ?_
    rcases ite_e h with ⟨hc3, h⟩ | ⟨hc3, h⟩
    ·
      refine WP.icmpY (pc' := 42) d11_22 (XT.ii_lt_t hc3) (by decide) rfl ?_
      exact WP.weak (L' := [.unset, .unset, .unset, .unset, .unset]) trivial (ok11_42 l Z a0 hw n0 n s _ h)
    ·
      refine WP.icmpN d11_22 (XT.ii_lt_f hc3) ?_
      refine WP.aloadN d11_25 rfl ?_
      refine WP.getfield (i := 0) (j := 18) d11_26 (hw _ m_24) rfl rfl rfl ?_
      refine WP.iload d11_29 rfl ?_
      obtain ⟨x4, hx4, h⟩ := Option.bind_eq_some_iff.mp h
      refine WP.iaload (i := 8) d11_31 rfl hx4 ?_
      refine WP.aloadN d11_32 rfl ?_
      refine WP.getfield (i := 0) (j := 19) d11_33 (hw _ m_26) rfl rfl rfl ?_
      refine WP.iload d11_36 rfl ?_
      obtain ⟨x5, hx5, h⟩ := Option.bind_eq_some_iff.mp h
      refine WP.iaload (i := 9) d11_38 rfl hx5 ?_
      rcases ite_e h with ⟨hc6, h⟩ | ⟨hc6, h⟩
      ·
        refine WP.icmpY (pc' := 44) d11_39 (XT.ii_eq_t hc6) (by decide) rfl ?_
        refine WP.lloadN d11_44 rfl ?_
        refine WP.aloadN d11_45 rfl ?_
        refine WP.getfield (i := 0) (j := 17) d11_46 (hw _ m_22) rfl rfl rfl ?_
        refine WP.iload d11_49 rfl ?_
        obtain ⟨x7, hx7, h⟩ := Option.bind_eq_some_iff.mp h
        refine WP.iaload (i := 7) d11_51 rfl hx7 ?_
        refine WP.i2l d11_52 ?_
        refine WP.iloadN d11_53 rfl ?_
        refine WP.aloadN d11_54 rfl ?_
        refine WP.getfield (i := 0) (j := 19) d11_55 (hw _ m_26) rfl rfl rfl ?_
        refine WP.iload d11_58 rfl ?_
        obtain ⟨x8, hx8, h⟩ := Option.bind_eq_some_iff.mp h
        refine WP.iaload (i := 9) d11_60 rfl hx8 ?_
        obtain ⟨hz9, h⟩ := nz_e h
        refine WP.idiv d11_61 hz9 ?_
        refine WP.i2l d11_62 ?_
        refine WP.lmul d11_63 ?_
        refine WP.ladd d11_64 ?_
        obtain ⟨x10, ex10, h⟩ := lt_e h
        refine WP.lstoreN (L' := [.val (.ref 0), .val (.int v1), .val (.long x10), .second, .val (.int v4)]) d11_65 (leb rfl) (by subst ex10; rfl) ?_
        obtain ⟨x11, ex11, h⟩ := lt_e h
        refine WP.iinc (L' := [.val (.ref 0), .val (.int v1), .val (.long x10), .second, .val (.int x11)]) (1 : Int32) d11_66 rfl rfl (by subst ex11; rfl) ?_
        refine WP.goto (pc' := 5) d11_69 (by decide) rfl ?_
        exact WP.weak (L' := [.val (.ref 0), .val (.int v1), .val (.long x10), .second, .val (.int x11)]) ⟨rfl, rfl, rfl, rfl, rfl, trivial⟩ (hk5 v1 x10 x11 s _ h)
      ·
        refine WP.icmpN d11_39 (XT.ii_eq_f hc6) ?_
        exact WP.weak (L' := [.unset, .unset, .unset, .unset, .unset]) trivial (ok11_42 l Z a0 hw n0 n s _ h)
  ·
    refine WP.icmpY (pc' := 72) d11_11 (XT.ii_ge_t hc1) (by decide) rfl ?_
    refine WP.lloadN d11_72 rfl ?_
    refine WP.iloadN d11_73 rfl ?_
    refine WP.i2l d11_74 ?_
    refine WP.lcmp d11_75 ?_
    rcases ite_e h with ⟨hc12, h⟩ | ⟨hc12, h⟩
    ·
      refine WP.ifY (pc' := 83) d11_76 (XT.ll_gt_t hc12) (by decide) rfl ?_
      refine WP.iconst (0 : Int32) d11_83 rfl ?_
      exact WP.weak (L' := [.unset, .unset, .unset, .unset, .unset]) trivial (ok11_84 l Z a0 hw n0 n (0 : Int32) s _ h)
    ·
      refine WP.ifN d11_76 (XT.ll_gt_f hc12) ?_
      refine WP.iconst (1 : Int32) d11_79 rfl ?_
      refine WP.goto (pc' := 84) d11_80 (by decide) rfl ?_
      exact WP.weak (L' := [.unset, .unset, .unset, .unset, .unset]) trivial (ok11_84 l Z a0 hw n0 n (1 : Int32) s _ h)
def f_implicitWithinCapacity_5 : Nat → Int32 → Int64 → Int32 → St → Option (Int32)
  | 0 => fun _ _ _ _ => none
  | n + 1 => g_implicitWithinCapacity_5 (f_implicitWithinCapacity_5 n) n
theorem ok11_5 (l : Launch) (Z : State) (a0 : Array Value) (hw : HW a0 Z) (n0 : Nat) : ∀ (n : Nat) (v1 : Int32) (v2 : Int64) (v4 : Int32) (s : St) (r : Int32), f_implicitWithinCapacity_5 n v1 v2 v4 s = some r → W11 l Z n0 (P11 s r) 0 0 5 [.val (.ref 0), .val (.int v1), .val (.long v2), .second, .val (.int v4)] [] (Hb 0 s)
  | 0, v1, v2, v4, s, r, h => nomatch (show none = some r from h)
  | n + 1, v1, v2, v4, s, r, h => okg11_5 l Z a0 hw n0 _ (ok11_5 l Z a0 hw n0 n) n v1 v2 v4 s r h
def f_implicitWithinCapacity (n : Nat) (p1 : Int32) (s : St) : Option (Int32) :=
  f_implicitWithinCapacity_5 n p1 (0 : Int64) (0 : Int32) s
set_option maxRecDepth 65536 in
set_option maxHeartbeats 4000000 in
theorem ok11 (l : Launch) (Z : State) (a0 : Array Value) (hw : HW a0 Z) (n : Nat) (p1 : Int32) (s : St) (r : Int32) (h : f_implicitWithinCapacity n p1 s = some r) : CS l Z CN lay y11 prog_1_method_29_code 5 (some FieldType.boolean) R11 0 [.ref 0, .int p1] (Hb 0 s) (P11 s r) := by
  refine CS.of_wp pn_cls (leb rfl) fun n0 => ?_
  show W11 l Z n0 (P11 s r) 0 0 0 [.val (.ref 0), .val (.int p1), .unset, .unset, .unset] [] (Hb 0 s)
  unfold f_implicitWithinCapacity at h
  refine WP.lconst (0 : Int64) d11_0 rfl ?_
  refine WP.lstoreN (L' := [.val (.ref 0), .val (.int p1), .val (.long (0 : Int64)), .second, .unset]) d11_1 (leb rfl) rfl ?_
  refine WP.iconst (0 : Int32) d11_2 rfl ?_
  refine WP.istore (L' := [.val (.ref 0), .val (.int p1), .val (.long (0 : Int64)), .second, .val (.int (0 : Int32))]) d11_3 (leb rfl) rfl ?_
  exact WP.weak (L' := [.val (.ref 0), .val (.int p1), .val (.long (0 : Int64)), .second, .val (.int (0 : Int32))]) ⟨rfl, rfl, rfl, rfl, rfl, trivial⟩ (ok11_5 l Z a0 hw n0 n p1 (0 : Int64) (0 : Int32) s _ h)
theorem d14_0 : dc prog_1_method_31_code 0 (.ldc 144) 2 := by decide +kernel
theorem d14_2 : dc prog_1_method_31_code 2 (.istore_n 1) 1 := by decide +kernel
theorem d14_3 : dc prog_1_method_31_code 3 (.iconst 0) 1 := by decide +kernel
theorem d14_4 : dc prog_1_method_31_code 4 (.istore_n 2) 1 := by decide +kernel
theorem d14_5 : dc prog_1_method_31_code 5 (.iload_n 2) 1 := by decide +kernel
theorem d14_6 : dc prog_1_method_31_code 6 (.aload_n 0) 1 := by decide +kernel
theorem d14_7 : dc prog_1_method_31_code 7 (.getfield 85) 3 := by decide +kernel
theorem d14_10 : dc prog_1_method_31_code 10 (.if_icmp .ge 26) 3 := by decide +kernel
theorem d14_13 : dc prog_1_method_31_code 13 (.aload_n 0) 1 := by decide +kernel
theorem d14_14 : dc prog_1_method_31_code 14 (.getfield 37) 3 := by decide +kernel
theorem d14_17 : dc prog_1_method_31_code 17 (.iload_n 2) 1 := by decide +kernel
theorem d14_18 : dc prog_1_method_31_code 18 (.iaload) 1 := by decide +kernel
theorem d14_19 : dc prog_1_method_31_code 19 (.iload_n 1) 1 := by decide +kernel
theorem d14_20 : dc prog_1_method_31_code 20 (.if_icmp .ge 10) 3 := by decide +kernel
theorem d14_23 : dc prog_1_method_31_code 23 (.aload_n 0) 1 := by decide +kernel
theorem d14_24 : dc prog_1_method_31_code 24 (.getfield 37) 3 := by decide +kernel
theorem d14_27 : dc prog_1_method_31_code 27 (.iload_n 2) 1 := by decide +kernel
theorem d14_28 : dc prog_1_method_31_code 28 (.iaload) 1 := by decide +kernel
theorem d14_29 : dc prog_1_method_31_code 29 (.istore_n 1) 1 := by decide +kernel
theorem d14_30 : dc prog_1_method_31_code 30 (.iinc 2 1) 3 := by decide +kernel
theorem d14_33 : dc prog_1_method_31_code 33 (.goto (-28)) 3 := by decide +kernel
theorem d14_36 : dc prog_1_method_31_code 36 (.iload_n 1) 1 := by decide +kernel
theorem d14_37 : dc prog_1_method_31_code 37 (.ireturn) 1 := by decide +kernel
abbrev y14 : MethodName := ⟨"DemandGate", "earliestNextDeadline", "()I"⟩
theorem hy14 : y14.cls ≠ "java/lang/invoke/MethodHandle" ∧ y14.cls ≠ "java/lang/invoke/VarHandle" := by decide
theorem pd14 : parseMethodDescriptor y14.desc = some ⟨[], some .int⟩ := by decide +kernel
abbrev R14 : Room := { frames := 0, cells := 0, slots := 0, locals := 0 }
abbrev P14 (s : St) (r : Int32) : Option Value → List OwnC → Prop := fun v H' => v = some (.int r) ∧ H' = (Hb 0 s)
abbrev W14 (l : Launch) (Z : State) (n0 : Nat) (Q : Option Value → List OwnC → Prop) (k n pc : Nat) (L : List Slot) (S : List Value) (H : List OwnC) : Prop := WP l Z CN lay "DemandGate" "earliestNextDeadline" prog_1_method_31_code 3 (some FieldType.int) R14 n0 0 Q k n pc L S H
def f_earliestNextDeadline_30 (k5 : Int32 → Int32 → St → Option (Int32)) (n : Nat) (v1 : Int32) (v2 : Int32) (s : St) : Option (Int32) :=
  lt (v2 + (1 : Int32)) fun x1 =>
  k5 v1 x1 s
set_option maxRecDepth 65536 in
set_option maxHeartbeats 4000000 in
theorem ok14_30 (l : Launch) (Z : State) (a0 : Array Value) (hw : HW a0 Z) (n0 : Nat) (k5 : Int32 → Int32 → St → Option (Int32)) (hk5 : ∀ (v1 : Int32) (v2 : Int32) (s : St) (r : Int32), k5 v1 v2 s = some r → W14 l Z n0 (P14 s r) 0 0 5 [.val (.ref 0), .val (.int v1), .val (.int v2)] [] (Hb 0 s)) (n : Nat) (v1 : Int32) (v2 : Int32) (s : St) (r : Int32) (h : f_earliestNextDeadline_30 k5 n v1 v2 s = some r) : W14 l Z n0 (P14 s r) 0 0 30 [.val (.ref 0), .val (.int v1), .val (.int v2)] [] (Hb 0 s) := by
  unfold f_earliestNextDeadline_30 at h
  obtain ⟨x1, ex1, h⟩ := lt_e h
  refine WP.iinc (L' := [.val (.ref 0), .val (.int v1), .val (.int x1)]) (1 : Int32) d14_30 rfl rfl (by subst ex1; rfl) ?_
  refine WP.goto (pc' := 5) d14_33 (by decide) rfl ?_
  exact WP.weak (L' := [.val (.ref 0), .val (.int v1), .val (.int x1)]) ⟨rfl, rfl, rfl, trivial⟩ (hk5 v1 x1 s _ h)
def g_earliestNextDeadline_5 (k5 : Int32 → Int32 → St → Option (Int32)) (n : Nat) (v1 : Int32) (v2 : Int32) (s : St) : Option (Int32) :=
  if v2 < (gI s 11) then
    (rd (gA s 9) v2).bind fun x2 =>
    if x2 < v1 then
      (rd (gA s 9) v2).bind fun x4 =>
      f_earliestNextDeadline_30 k5 n x4 v2 s
    else
      f_earliestNextDeadline_30 k5 n v1 v2 s
  else
    some v1
set_option maxRecDepth 65536 in
set_option maxHeartbeats 4000000 in
theorem okg14_5 (l : Launch) (Z : State) (a0 : Array Value) (hw : HW a0 Z) (n0 : Nat) (k5 : Int32 → Int32 → St → Option (Int32)) (hk5 : ∀ (v1 : Int32) (v2 : Int32) (s : St) (r : Int32), k5 v1 v2 s = some r → W14 l Z n0 (P14 s r) 0 0 5 [.val (.ref 0), .val (.int v1), .val (.int v2)] [] (Hb 0 s)) (n : Nat) (v1 : Int32) (v2 : Int32) (s : St) (r : Int32) (h : g_earliestNextDeadline_5 k5 n v1 v2 s = some r) : W14 l Z n0 (P14 s r) 0 0 5 [.val (.ref 0), .val (.int v1), .val (.int v2)] [] (Hb 0 s) := by
  unfold g_earliestNextDeadline_5 at h
  refine WP.iloadN d14_5 rfl ?_
  refine WP.aloadN d14_6 rfl ?_
  refine WP.getfield (i := 0) (j := 20) d14_7 (hw _ m_60) rfl rfl rfl ?_
  rcases ite_e h with ⟨hc1, h⟩ | ⟨hc1, h⟩
  ·
    refine WP.icmpN d14_10 (XT.ii_ge_f hc1) ?_
    refine WP.aloadN d14_13 rfl ?_
    refine WP.getfield (i := 0) (j := 21) d14_14 (hw _ m_28) rfl rfl rfl ?_
    refine WP.iloadN d14_17 rfl ?_
    obtain ⟨x2, hx2, h⟩ := Option.bind_eq_some_iff.mp h
    refine WP.iaload (i := 10) d14_18 rfl hx2 ?_
    refine WP.iloadN d14_19 rfl ?_
    rcases ite_e h with ⟨hc3, h⟩ | ⟨hc3, h⟩
    ·
      refine WP.icmpN d14_20 (XT.ii_ge_f hc3) ?_
      refine WP.aloadN d14_23 rfl ?_
      refine WP.getfield (i := 0) (j := 21) d14_24 (hw _ m_28) rfl rfl rfl ?_
      refine WP.iloadN d14_27 rfl ?_
      obtain ⟨x4, hx4, h⟩ := Option.bind_eq_some_iff.mp h
      refine WP.iaload (i := 10) d14_28 rfl hx4 ?_
      refine WP.istoreN (L' := [.val (.ref 0), .val (.int x4), .val (.int v2)]) d14_29 (leb rfl) rfl ?_
      exact WP.weak (L' := [.val (.ref 0), .val (.int x4), .val (.int v2)]) ⟨rfl, rfl, rfl, trivial⟩ (ok14_30 l Z a0 hw n0 _ hk5 n x4 v2 s _ h)
    ·
      refine WP.icmpY (pc' := 30) d14_20 (XT.ii_ge_t hc3) (by decide) rfl ?_
      exact WP.weak (L' := [.val (.ref 0), .val (.int v1), .val (.int v2)]) ⟨rfl, rfl, rfl, trivial⟩ (ok14_30 l Z a0 hw n0 _ hk5 n v1 v2 s _ h)
  ·
    refine WP.icmpY (pc' := 36) d14_10 (XT.ii_ge_t hc1) (by decide) rfl ?_
    refine WP.iloadN d14_36 rfl ?_
    cases h
    exact WP.ireturn d14_37 rfl (leb rfl) (leb rfl) ⟨rfl, rfl⟩
def f_earliestNextDeadline_5 : Nat → Int32 → Int32 → St → Option (Int32)
  | 0 => fun _ _ _ => none
  | n + 1 => g_earliestNextDeadline_5 (f_earliestNextDeadline_5 n) n
theorem ok14_5 (l : Launch) (Z : State) (a0 : Array Value) (hw : HW a0 Z) (n0 : Nat) : ∀ (n : Nat) (v1 : Int32) (v2 : Int32) (s : St) (r : Int32), f_earliestNextDeadline_5 n v1 v2 s = some r → W14 l Z n0 (P14 s r) 0 0 5 [.val (.ref 0), .val (.int v1), .val (.int v2)] [] (Hb 0 s)
  | 0, v1, v2, s, r, h => nomatch (show none = some r from h)
  | n + 1, v1, v2, s, r, h => okg14_5 l Z a0 hw n0 _ (ok14_5 l Z a0 hw n0 n) n v1 v2 s r h
def f_earliestNextDeadline (n : Nat) (s : St) : Option (Int32) :=
  f_earliestNextDeadline_5 n (2147483647 : Int32) (0 : Int32) s
set_option maxRecDepth 65536 in
set_option maxHeartbeats 4000000 in
theorem ok14 (l : Launch) (Z : State) (a0 : Array Value) (hw : HW a0 Z) (n : Nat) (s : St) (r : Int32) (h : f_earliestNextDeadline n s = some r) : CS l Z CN lay y14 prog_1_method_31_code 3 (some FieldType.int) R14 0 [.ref 0] (Hb 0 s) (P14 s r) := by
  refine CS.of_wp pn_cls (leb rfl) fun n0 => ?_
  show W14 l Z n0 (P14 s r) 0 0 0 [.val (.ref 0), .unset, .unset] [] (Hb 0 s)
  unfold f_earliestNextDeadline at h
  refine WP.ldc d14_0 (hw _ m_115) ?_
  refine WP.istoreN (L' := [.val (.ref 0), .val (.int (2147483647 : Int32)), .unset]) d14_2 (leb rfl) rfl ?_
  refine WP.iconst (0 : Int32) d14_3 rfl ?_
  refine WP.istoreN (L' := [.val (.ref 0), .val (.int (2147483647 : Int32)), .val (.int (0 : Int32))]) d14_4 (leb rfl) rfl ?_
  exact WP.weak (L' := [.val (.ref 0), .val (.int (2147483647 : Int32)), .val (.int (0 : Int32))]) ⟨rfl, rfl, rfl, trivial⟩ (ok14_5 l Z a0 hw n0 n (2147483647 : Int32) (0 : Int32) s _ h)
theorem d15_0 : dc prog_1_method_32_code 0 (.lconst 0) 1 := by decide +kernel
theorem d15_1 : dc prog_1_method_32_code 1 (.lstore_n 2) 1 := by decide +kernel
theorem d15_2 : dc prog_1_method_32_code 2 (.iconst 0) 1 := by decide +kernel
theorem d15_3 : dc prog_1_method_32_code 3 (.istore 4) 2 := by decide +kernel
theorem d15_5 : dc prog_1_method_32_code 5 (.iload 4) 2 := by decide +kernel
theorem d15_7 : dc prog_1_method_32_code 7 (.aload_n 0) 1 := by decide +kernel
theorem d15_8 : dc prog_1_method_32_code 8 (.getfield 85) 3 := by decide +kernel
theorem d15_11 : dc prog_1_method_32_code 11 (.if_icmp .ge 53) 3 := by decide +kernel
theorem d15_14 : dc prog_1_method_32_code 14 (.aload_n 0) 1 := by decide +kernel
theorem d15_15 : dc prog_1_method_32_code 15 (.getfield 37) 3 := by decide +kernel
theorem d15_18 : dc prog_1_method_32_code 18 (.iload 4) 2 := by decide +kernel
theorem d15_20 : dc prog_1_method_32_code 20 (.iaload) 1 := by decide +kernel
theorem d15_21 : dc prog_1_method_32_code 21 (.iload_n 1) 1 := by decide +kernel
theorem d15_22 : dc prog_1_method_32_code 22 (.if_icmp .ne 36) 3 := by decide +kernel
theorem d15_25 : dc prog_1_method_32_code 25 (.lload_n 2) 1 := by decide +kernel
theorem d15_26 : dc prog_1_method_32_code 26 (.aload_n 0) 1 := by decide +kernel
theorem d15_27 : dc prog_1_method_32_code 27 (.getfield 28) 3 := by decide +kernel
theorem d15_30 : dc prog_1_method_32_code 30 (.iload 4) 2 := by decide +kernel
theorem d15_32 : dc prog_1_method_32_code 32 (.iaload) 1 := by decide +kernel
theorem d15_33 : dc prog_1_method_32_code 33 (.i2l) 1 := by decide +kernel
theorem d15_34 : dc prog_1_method_32_code 34 (.ladd) 1 := by decide +kernel
theorem d15_35 : dc prog_1_method_32_code 35 (.lstore_n 2) 1 := by decide +kernel
theorem d15_36 : dc prog_1_method_32_code 36 (.aload_n 0) 1 := by decide +kernel
theorem d15_37 : dc prog_1_method_32_code 37 (.getfield 37) 3 := by decide +kernel
theorem d15_40 : dc prog_1_method_32_code 40 (.iload 4) 2 := by decide +kernel
theorem d15_42 : dc prog_1_method_32_code 42 (.aload_n 0) 1 := by decide +kernel
theorem d15_43 : dc prog_1_method_32_code 43 (.getfield 37) 3 := by decide +kernel
theorem d15_46 : dc prog_1_method_32_code 46 (.iload 4) 2 := by decide +kernel
theorem d15_48 : dc prog_1_method_32_code 48 (.iaload) 1 := by decide +kernel
theorem d15_49 : dc prog_1_method_32_code 49 (.aload_n 0) 1 := by decide +kernel
theorem d15_50 : dc prog_1_method_32_code 50 (.getfield 34) 3 := by decide +kernel
theorem d15_53 : dc prog_1_method_32_code 53 (.iload 4) 2 := by decide +kernel
theorem d15_55 : dc prog_1_method_32_code 55 (.iaload) 1 := by decide +kernel
theorem d15_56 : dc prog_1_method_32_code 56 (.iadd) 1 := by decide +kernel
theorem d15_57 : dc prog_1_method_32_code 57 (.iastore) 1 := by decide +kernel
theorem d15_58 : dc prog_1_method_32_code 58 (.iinc 4 1) 3 := by decide +kernel
theorem d15_61 : dc prog_1_method_32_code 61 (.goto (-56)) 3 := by decide +kernel
theorem d15_64 : dc prog_1_method_32_code 64 (.lload_n 2) 1 := by decide +kernel
theorem d15_65 : dc prog_1_method_32_code 65 (.lreturn) 1 := by decide +kernel
abbrev y15 : MethodName := ⟨"DemandGate", "consumeDeadlinesAt", "(I)J"⟩
theorem hy15 : y15.cls ≠ "java/lang/invoke/MethodHandle" ∧ y15.cls ≠ "java/lang/invoke/VarHandle" := by decide
theorem pd15 : parseMethodDescriptor y15.desc = some ⟨[.int], some .long⟩ := by decide +kernel
abbrev R15 : Room := { frames := 0, cells := 0, slots := 0, locals := 0 }
abbrev P15 (r : Int64 × St) : Option Value → List OwnC → Prop := fun v H' => v = some (.long r.1) ∧ H' = (Hb 0 r.2)
abbrev W15 (l : Launch) (Z : State) (n0 : Nat) (Q : Option Value → List OwnC → Prop) (k n pc : Nat) (L : List Slot) (S : List Value) (H : List OwnC) : Prop := WP l Z CN lay "DemandGate" "consumeDeadlinesAt" prog_1_method_32_code 5 (some FieldType.long) R15 n0 0 Q k n pc L S H
def f_consumeDeadlinesAt_58 (k5 : Int32 → Int64 → Int32 → St → Option (Int64 × St)) (n : Nat) (v1 : Int32) (v2 : Int64) (v4 : Int32) (s : St) : Option (Int64 × St) :=
  lt (v4 + (1 : Int32)) fun x1 =>
  k5 v1 v2 x1 s
set_option maxRecDepth 65536 in
set_option maxHeartbeats 4000000 in
theorem ok15_58 (l : Launch) (Z : State) (a0 : Array Value) (hw : HW a0 Z) (n0 : Nat) (k5 : Int32 → Int64 → Int32 → St → Option (Int64 × St)) (hk5 : ∀ (v1 : Int32) (v2 : Int64) (v4 : Int32) (s : St) (r : Int64 × St), k5 v1 v2 v4 s = some r → W15 l Z n0 (P15 r) 0 0 5 [.val (.ref 0), .val (.int v1), .val (.long v2), .second, .val (.int v4)] [] (Hb 0 s)) (n : Nat) (v1 : Int32) (v2 : Int64) (v4 : Int32) (s : St) (r : Int64 × St) (h : f_consumeDeadlinesAt_58 k5 n v1 v2 v4 s = some r) : W15 l Z n0 (P15 r) 0 0 58 [.val (.ref 0), .val (.int v1), .val (.long v2), .second, .val (.int v4)] [] (Hb 0 s) := by
  unfold f_consumeDeadlinesAt_58 at h
  obtain ⟨x1, ex1, h⟩ := lt_e h
  refine WP.iinc (L' := [.val (.ref 0), .val (.int v1), .val (.long v2), .second, .val (.int x1)]) (1 : Int32) d15_58 rfl rfl (by subst ex1; rfl) ?_
  refine WP.goto (pc' := 5) d15_61 (by decide) rfl ?_
  exact WP.weak (L' := [.val (.ref 0), .val (.int v1), .val (.long v2), .second, .val (.int x1)]) ⟨rfl, rfl, rfl, rfl, rfl, trivial⟩ (hk5 v1 v2 x1 s _ h)
def g_consumeDeadlinesAt_5 (k5 : Int32 → Int64 → Int32 → St → Option (Int64 × St)) (n : Nat) (v1 : Int32) (v2 : Int64) (v4 : Int32) (s : St) : Option (Int64 × St) :=
  if v4 < (gI s 11) then
    (rd (gA s 9) v4).bind fun x2 =>
    if x2 = v1 then
      (rd (gA s 6) v4).bind fun x4 =>
      lt (v2 + x4.toInt64) fun x5 =>
      (rd (gA s 9) v4).bind fun x6 =>
      (rd (gA s 8) v4).bind fun x7 =>
      (wrA s 9 v4 (x6 + x7)).bind fun s8 =>
      f_consumeDeadlinesAt_58 k5 n v1 x5 v4 s8
    else
      f_consumeDeadlinesAt_58 k5 n v1 v2 v4 s
  else
    some (v2, s)
set_option maxRecDepth 65536 in
set_option maxHeartbeats 4000000 in
theorem okg15_5 (l : Launch) (Z : State) (a0 : Array Value) (hw : HW a0 Z) (n0 : Nat) (k5 : Int32 → Int64 → Int32 → St → Option (Int64 × St)) (hk5 : ∀ (v1 : Int32) (v2 : Int64) (v4 : Int32) (s : St) (r : Int64 × St), k5 v1 v2 v4 s = some r → W15 l Z n0 (P15 r) 0 0 5 [.val (.ref 0), .val (.int v1), .val (.long v2), .second, .val (.int v4)] [] (Hb 0 s)) (n : Nat) (v1 : Int32) (v2 : Int64) (v4 : Int32) (s : St) (r : Int64 × St) (h : g_consumeDeadlinesAt_5 k5 n v1 v2 v4 s = some r) : W15 l Z n0 (P15 r) 0 0 5 [.val (.ref 0), .val (.int v1), .val (.long v2), .second, .val (.int v4)] [] (Hb 0 s) := by
  unfold g_consumeDeadlinesAt_5 at h
  refine WP.iload d15_5 rfl ?_
  refine WP.aloadN d15_7 rfl ?_
  refine WP.getfield (i := 0) (j := 20) d15_8 (hw _ m_60) rfl rfl rfl ?_
  rcases ite_e h with ⟨hc1, h⟩ | ⟨hc1, h⟩
  ·
    refine WP.icmpN d15_11 (XT.ii_ge_f hc1) ?_
    refine WP.aloadN d15_14 rfl ?_
    refine WP.getfield (i := 0) (j := 21) d15_15 (hw _ m_28) rfl rfl rfl ?_
    refine WP.iload d15_18 rfl ?_
    obtain ⟨x2, hx2, h⟩ := Option.bind_eq_some_iff.mp h
    refine WP.iaload (i := 10) d15_20 rfl hx2 ?_
    refine WP.iloadN d15_21 rfl ?_
    rcases ite_e h with ⟨hc3, h⟩ | ⟨hc3, h⟩
    ·
      refine WP.icmpN d15_22 (XT.ii_ne_f hc3) ?_
      refine WP.lloadN d15_25 rfl ?_
      refine WP.aloadN d15_26 rfl ?_
      refine WP.getfield (i := 0) (j := 17) d15_27 (hw _ m_22) rfl rfl rfl ?_
      refine WP.iload d15_30 rfl ?_
      obtain ⟨x4, hx4, h⟩ := Option.bind_eq_some_iff.mp h
      refine WP.iaload (i := 7) d15_32 rfl hx4 ?_
      refine WP.i2l d15_33 ?_
      refine WP.ladd d15_34 ?_
      obtain ⟨x5, ex5, h⟩ := lt_e h
      refine WP.lstoreN (L' := [.val (.ref 0), .val (.int v1), .val (.long x5), .second, .val (.int v4)]) d15_35 (leb rfl) (by subst ex5; rfl) ?_
      refine WP.aloadN d15_36 rfl ?_
      refine WP.getfield (i := 0) (j := 21) d15_37 (hw _ m_28) rfl rfl rfl ?_
      refine WP.iload d15_40 rfl ?_
      refine WP.aloadN d15_42 rfl ?_
      refine WP.getfield (i := 0) (j := 21) d15_43 (hw _ m_28) rfl rfl rfl ?_
      refine WP.iload d15_46 rfl ?_
      obtain ⟨x6, hx6, h⟩ := Option.bind_eq_some_iff.mp h
      refine WP.iaload (i := 10) d15_48 rfl hx6 ?_
      refine WP.aloadN d15_49 rfl ?_
      refine WP.getfield (i := 0) (j := 19) d15_50 (hw _ m_26) rfl rfl rfl ?_
      refine WP.iload d15_53 rfl ?_
      obtain ⟨x7, hx7, h⟩ := Option.bind_eq_some_iff.mp h
      refine WP.iaload (i := 9) d15_55 rfl hx7 ?_
      refine WP.iadd d15_56 ?_
      obtain ⟨s8, hs8, h⟩ := Option.bind_eq_some_iff.mp h
      obtain ⟨ys8, gs8, es8⟩ := wrA_e hs8
      refine WP.iastore (i := 10) (xs := gA s 9) (H' := (Hb 0 s8)) d15_57 rfl (leb rfl) gs8 (by subst es8; rfl) ?_
      exact WP.weak (L' := [.val (.ref 0), .val (.int v1), .val (.long x5), .second, .val (.int v4)]) ⟨rfl, rfl, rfl, rfl, rfl, trivial⟩ (ok15_58 l Z a0 hw n0 _ hk5 n v1 x5 v4 s8 _ h)
    ·
      refine WP.icmpY (pc' := 58) d15_22 (XT.ii_ne_t hc3) (by decide) rfl ?_
      exact WP.weak (L' := [.val (.ref 0), .val (.int v1), .val (.long v2), .second, .val (.int v4)]) ⟨rfl, rfl, rfl, rfl, rfl, trivial⟩ (ok15_58 l Z a0 hw n0 _ hk5 n v1 v2 v4 s _ h)
  ·
    refine WP.icmpY (pc' := 64) d15_11 (XT.ii_ge_t hc1) (by decide) rfl ?_
    refine WP.lloadN d15_64 rfl ?_
    cases h
    exact WP.lreturn d15_65 rfl (leb rfl) (leb rfl) ⟨rfl, rfl⟩
def f_consumeDeadlinesAt_5 : Nat → Int32 → Int64 → Int32 → St → Option (Int64 × St)
  | 0 => fun _ _ _ _ => none
  | n + 1 => g_consumeDeadlinesAt_5 (f_consumeDeadlinesAt_5 n) n
theorem ok15_5 (l : Launch) (Z : State) (a0 : Array Value) (hw : HW a0 Z) (n0 : Nat) : ∀ (n : Nat) (v1 : Int32) (v2 : Int64) (v4 : Int32) (s : St) (r : Int64 × St), f_consumeDeadlinesAt_5 n v1 v2 v4 s = some r → W15 l Z n0 (P15 r) 0 0 5 [.val (.ref 0), .val (.int v1), .val (.long v2), .second, .val (.int v4)] [] (Hb 0 s)
  | 0, v1, v2, v4, s, r, h => nomatch (show none = some r from h)
  | n + 1, v1, v2, v4, s, r, h => okg15_5 l Z a0 hw n0 _ (ok15_5 l Z a0 hw n0 n) n v1 v2 v4 s r h
def f_consumeDeadlinesAt (n : Nat) (p1 : Int32) (s : St) : Option (Int64 × St) :=
  f_consumeDeadlinesAt_5 n p1 (0 : Int64) (0 : Int32) s
set_option maxRecDepth 65536 in
set_option maxHeartbeats 4000000 in
theorem ok15 (l : Launch) (Z : State) (a0 : Array Value) (hw : HW a0 Z) (n : Nat) (p1 : Int32) (s : St) (r : Int64 × St) (h : f_consumeDeadlinesAt n p1 s = some r) : CS l Z CN lay y15 prog_1_method_32_code 5 (some FieldType.long) R15 0 [.ref 0, .int p1] (Hb 0 s) (P15 r) := by
  refine CS.of_wp pn_cls (leb rfl) fun n0 => ?_
  show W15 l Z n0 (P15 r) 0 0 0 [.val (.ref 0), .val (.int p1), .unset, .unset, .unset] [] (Hb 0 s)
  unfold f_consumeDeadlinesAt at h
  refine WP.lconst (0 : Int64) d15_0 rfl ?_
  refine WP.lstoreN (L' := [.val (.ref 0), .val (.int p1), .val (.long (0 : Int64)), .second, .unset]) d15_1 (leb rfl) rfl ?_
  refine WP.iconst (0 : Int32) d15_2 rfl ?_
  refine WP.istore (L' := [.val (.ref 0), .val (.int p1), .val (.long (0 : Int64)), .second, .val (.int (0 : Int32))]) d15_3 (leb rfl) rfl ?_
  exact WP.weak (L' := [.val (.ref 0), .val (.int p1), .val (.long (0 : Int64)), .second, .val (.int (0 : Int32))]) ⟨rfl, rfl, rfl, rfl, rfl, trivial⟩ (ok15_5 l Z a0 hw n0 n p1 (0 : Int64) (0 : Int32) s _ h)
theorem d13_0 : dc prog_1_method_30_code 0 (.iconst 0) 1 := by decide +kernel
theorem d13_1 : dc prog_1_method_30_code 1 (.istore_n 2) 1 := by decide +kernel
theorem d13_2 : dc prog_1_method_30_code 2 (.iload_n 2) 1 := by decide +kernel
theorem d13_3 : dc prog_1_method_30_code 3 (.aload_n 0) 1 := by decide +kernel
theorem d13_4 : dc prog_1_method_30_code 4 (.getfield 85) 3 := by decide +kernel
theorem d13_7 : dc prog_1_method_30_code 7 (.if_icmp .ge 21) 3 := by decide +kernel
theorem d13_10 : dc prog_1_method_30_code 10 (.aload_n 0) 1 := by decide +kernel
theorem d13_11 : dc prog_1_method_30_code 11 (.getfield 37) 3 := by decide +kernel
theorem d13_14 : dc prog_1_method_30_code 14 (.iload_n 2) 1 := by decide +kernel
theorem d13_15 : dc prog_1_method_30_code 15 (.aload_n 0) 1 := by decide +kernel
theorem d13_16 : dc prog_1_method_30_code 16 (.getfield 31) 3 := by decide +kernel
theorem d13_19 : dc prog_1_method_30_code 19 (.iload_n 2) 1 := by decide +kernel
theorem d13_20 : dc prog_1_method_30_code 20 (.iaload) 1 := by decide +kernel
theorem d13_21 : dc prog_1_method_30_code 21 (.iastore) 1 := by decide +kernel
theorem d13_22 : dc prog_1_method_30_code 22 (.iinc 2 1) 3 := by decide +kernel
theorem d13_25 : dc prog_1_method_30_code 25 (.goto (-23)) 3 := by decide +kernel
theorem d13_28 : dc prog_1_method_30_code 28 (.lconst 0) 1 := by decide +kernel
theorem d13_29 : dc prog_1_method_30_code 29 (.lstore_n 2) 1 := by decide +kernel
theorem d13_30 : dc prog_1_method_30_code 30 (.iconst 0) 1 := by decide +kernel
theorem d13_31 : dc prog_1_method_30_code 31 (.istore 4) 2 := by decide +kernel
theorem d13_33 : dc prog_1_method_30_code 33 (.iload 4) 2 := by decide +kernel
theorem d13_35 : dc prog_1_method_30_code 35 (.sipush 2049) 3 := by decide +kernel
theorem d13_38 : dc prog_1_method_30_code 38 (.if_icmp .gt 43) 3 := by decide +kernel
theorem d13_41 : dc prog_1_method_30_code 41 (.aload_n 0) 1 := by decide +kernel
theorem d13_42 : dc prog_1_method_30_code 42 (.invokevirtual 136) 3 := by decide +kernel
theorem d13_45 : dc prog_1_method_30_code 45 (.istore 5) 2 := by decide +kernel
theorem d13_47 : dc prog_1_method_30_code 47 (.iload 5) 2 := by decide +kernel
theorem d13_49 : dc prog_1_method_30_code 49 (.iload_n 1) 1 := by decide +kernel
theorem d13_50 : dc prog_1_method_30_code 50 (.if_icmp .le 5) 3 := by decide +kernel
theorem d13_53 : dc prog_1_method_30_code 53 (.iconst 0) 1 := by decide +kernel
theorem d13_54 : dc prog_1_method_30_code 54 (.ireturn) 1 := by decide +kernel
theorem d13_55 : dc prog_1_method_30_code 55 (.lload_n 2) 1 := by decide +kernel
theorem d13_56 : dc prog_1_method_30_code 56 (.aload_n 0) 1 := by decide +kernel
theorem d13_57 : dc prog_1_method_30_code 57 (.iload 5) 2 := by decide +kernel
theorem d13_59 : dc prog_1_method_30_code 59 (.invokevirtual 140) 3 := by decide +kernel
theorem d13_62 : dc prog_1_method_30_code 62 (.ladd) 1 := by decide +kernel
theorem d13_63 : dc prog_1_method_30_code 63 (.lstore_n 2) 1 := by decide +kernel
theorem d13_64 : dc prog_1_method_30_code 64 (.lload_n 2) 1 := by decide +kernel
theorem d13_65 : dc prog_1_method_30_code 65 (.iload 5) 2 := by decide +kernel
theorem d13_67 : dc prog_1_method_30_code 67 (.i2l) 1 := by decide +kernel
theorem d13_68 : dc prog_1_method_30_code 68 (.lcmp) 1 := by decide +kernel
theorem d13_69 : dc prog_1_method_30_code 69 (.ifCond .le 6) 3 := by decide +kernel
theorem d13_72 : dc prog_1_method_30_code 72 (.iload 5) 2 := by decide +kernel
theorem d13_74 : dc prog_1_method_30_code 74 (.ireturn) 1 := by decide +kernel
theorem d13_75 : dc prog_1_method_30_code 75 (.iinc 4 1) 3 := by decide +kernel
theorem d13_78 : dc prog_1_method_30_code 78 (.goto (-45)) 3 := by decide +kernel
theorem d13_81 : dc prog_1_method_30_code 81 (.iconst 0) 1 := by decide +kernel
theorem d13_82 : dc prog_1_method_30_code 82 (.ireturn) 1 := by decide +kernel
abbrev y13 : MethodName := ⟨"DemandGate", "scanDeadlinePoints", "(I)I"⟩
theorem hy13 : y13.cls ≠ "java/lang/invoke/MethodHandle" ∧ y13.cls ≠ "java/lang/invoke/VarHandle" := by decide
theorem pd13 : parseMethodDescriptor y13.desc = some ⟨[.int], some .int⟩ := by decide +kernel
abbrev R13 : Room := { frames := 1, cells := 0, slots := 0, locals := 18 }
abbrev P13 (r : Int32 × St) : Option Value → List OwnC → Prop := fun v H' => v = some (.int r.1) ∧ H' = (Hb 0 r.2)
abbrev W13 (l : Launch) (Z : State) (n0 : Nat) (Q : Option Value → List OwnC → Prop) (k n pc : Nat) (L : List Slot) (S : List Value) (H : List OwnC) : Prop := WP l Z CN lay "DemandGate" "scanDeadlinePoints" prog_1_method_30_code 6 (some FieldType.int) R13 n0 0 Q k n pc L S H
def g_scanDeadlinePoints_33 (k33 : Int32 → Int64 → Int32 → St → Option (Int32 × St)) (n : Nat) (v1 : Int32) (v2 : Int64) (v4 : Int32) (s : St) : Option (Int32 × St) :=
  if (2049 : Int32) < v4 then
    some ((0 : Int32), s)
  else
    (f_earliestNextDeadline n s).bind fun c2 =>
    if v1 < c2 then
      some ((0 : Int32), s)
    else
      (f_consumeDeadlinesAt n c2 s).bind fun c4 =>
      lt (v2 + c4.1) fun x5 =>
      if c2.toInt64 < x5 then
        some (c2, c4.2)
      else
        lt (v4 + (1 : Int32)) fun x7 =>
        k33 v1 x5 x7 c4.2
set_option maxRecDepth 65536 in
set_option maxHeartbeats 4000000 in
theorem okg13_33 (l : Launch) (Z : State) (a0 : Array Value) (hw : HW a0 Z) (n0 : Nat) (k33 : Int32 → Int64 → Int32 → St → Option (Int32 × St)) (hk33 : ∀ (v1 : Int32) (v2 : Int64) (v4 : Int32) (s : St) (r : Int32 × St), k33 v1 v2 v4 s = some r → W13 l Z n0 (P13 r) 0 0 33 [.val (.ref 0), .val (.int v1), .val (.long v2), .second, .val (.int v4), .unset] [] (Hb 0 s)) (n : Nat) (v1 : Int32) (v2 : Int64) (v4 : Int32) (s : St) (r : Int32 × St) (h : g_scanDeadlinePoints_33 k33 n v1 v2 v4 s = some r) : W13 l Z n0 (P13 r) 0 0 33 [.val (.ref 0), .val (.int v1), .val (.long v2), .second, .val (.int v4), .unset] [] (Hb 0 s) := by
  unfold g_scanDeadlinePoints_33 at h
  refine WP.iload d13_33 rfl ?_
  refine WP.sipush (2049 : Int32) d13_35 rfl ?_
  rcases ite_e h with ⟨hc1, h⟩ | ⟨hc1, h⟩
  ·
    refine WP.icmpY (pc' := 81) d13_38 (XT.ii_gt_t hc1) (by decide) rfl ?_
    refine WP.iconst (0 : Int32) d13_81 rfl ?_
    cases h
    exact WP.ireturn d13_82 rfl (leb rfl) (leb rfl) ⟨rfl, rfl⟩
  ·
    refine WP.icmpN d13_38 (XT.ii_gt_f hc1) ?_
    refine WP.aloadN d13_41 rfl ?_
    obtain ⟨c2, hc2, h⟩ := Option.bind_eq_some_iff.mp h
    refine WP.callP (i := 0) (y := y14) (as := []) (S := []) d13_42 (hw _ m_111) (hw _ m_113) (hw _ m_1) (hw _ m_112) (hw _ m_114) (hw _ m_2) hy14 rfl (ok14 l Z a0 hw n s _ hc2) rfl (lenOf pd14 rfl) (leb rfl) (leb rfl) (leb rfl) (leb rfl) ?_
    rintro _ _ ⟨rfl, rfl⟩
    show W13 l Z n0 (P13 r) 0 0 45 [.val (.ref 0), .val (.int v1), .val (.long v2), .second, .val (.int v4), .unset] [.int c2] (Hb 0 s)
    refine WP.istore (L' := [.val (.ref 0), .val (.int v1), .val (.long v2), .second, .val (.int v4), .val (.int c2)]) d13_45 (leb rfl) rfl ?_
    refine WP.iload d13_47 rfl ?_
    refine WP.iloadN d13_49 rfl ?_
    rcases ite_e h with ⟨hc3, h⟩ | ⟨hc3, h⟩
    ·
      refine WP.icmpN d13_50 (XT.ii_le_f hc3) ?_
      refine WP.iconst (0 : Int32) d13_53 rfl ?_
      cases h
      exact WP.ireturn d13_54 rfl (leb rfl) (leb rfl) ⟨rfl, rfl⟩
    ·
      refine WP.icmpY (pc' := 55) d13_50 (XT.ii_le_t hc3) (by decide) rfl ?_
      refine WP.lloadN d13_55 rfl ?_
      refine WP.aloadN d13_56 rfl ?_
      refine WP.iload d13_57 rfl ?_
      obtain ⟨c4, hc4, h⟩ := Option.bind_eq_some_iff.mp h
      refine WP.callP (i := 0) (y := y15) (as := [.int c2]) (S := [.long v2]) d13_59 (hw _ m_116) (hw _ m_118) (hw _ m_1) (hw _ m_117) (hw _ m_119) (hw _ m_2) hy15 rfl (ok15 l Z a0 hw n c2 s _ hc4) rfl (lenOf pd15 rfl) (leb rfl) (leb rfl) (leb rfl) (leb rfl) ?_
      rintro _ _ ⟨rfl, rfl⟩
      show W13 l Z n0 (P13 r) 0 0 62 [.val (.ref 0), .val (.int v1), .val (.long v2), .second, .val (.int v4), .val (.int c2)] [.long c4.1, .long v2] (Hb 0 c4.2)
      refine WP.ladd d13_62 ?_
      obtain ⟨x5, ex5, h⟩ := lt_e h
      refine WP.lstoreN (L' := [.val (.ref 0), .val (.int v1), .val (.long x5), .second, .val (.int v4), .val (.int c2)]) d13_63 (leb rfl) (by subst ex5; rfl) ?_
      refine WP.lloadN d13_64 rfl ?_
      refine WP.iload d13_65 rfl ?_
      refine WP.i2l d13_67 ?_
      refine WP.lcmp d13_68 ?_
      rcases ite_e h with ⟨hc6, h⟩ | ⟨hc6, h⟩
      ·
        refine WP.ifN d13_69 (XT.ll_le_f hc6) ?_
        refine WP.iload d13_72 rfl ?_
        cases h
        exact WP.ireturn d13_74 rfl (leb rfl) (leb rfl) ⟨rfl, rfl⟩
      ·
        refine WP.ifY (pc' := 75) d13_69 (XT.ll_le_t hc6) (by decide) rfl ?_
        obtain ⟨x7, ex7, h⟩ := lt_e h
        refine WP.iinc (L' := [.val (.ref 0), .val (.int v1), .val (.long x5), .second, .val (.int x7), .val (.int c2)]) (1 : Int32) d13_75 rfl rfl (by subst ex7; rfl) ?_
        refine WP.goto (pc' := 33) d13_78 (by decide) rfl ?_
        exact WP.weak (L' := [.val (.ref 0), .val (.int v1), .val (.long x5), .second, .val (.int x7), .unset]) ⟨rfl, rfl, rfl, rfl, rfl, trivial⟩ (hk33 v1 x5 x7 c4.2 _ h)
def f_scanDeadlinePoints_33 : Nat → Int32 → Int64 → Int32 → St → Option (Int32 × St)
  | 0 => fun _ _ _ _ => none
  | n + 1 => g_scanDeadlinePoints_33 (f_scanDeadlinePoints_33 n) n
theorem ok13_33 (l : Launch) (Z : State) (a0 : Array Value) (hw : HW a0 Z) (n0 : Nat) : ∀ (n : Nat) (v1 : Int32) (v2 : Int64) (v4 : Int32) (s : St) (r : Int32 × St), f_scanDeadlinePoints_33 n v1 v2 v4 s = some r → W13 l Z n0 (P13 r) 0 0 33 [.val (.ref 0), .val (.int v1), .val (.long v2), .second, .val (.int v4), .unset] [] (Hb 0 s)
  | 0, v1, v2, v4, s, r, h => nomatch (show none = some r from h)
  | n + 1, v1, v2, v4, s, r, h => okg13_33 l Z a0 hw n0 _ (ok13_33 l Z a0 hw n0 n) n v1 v2 v4 s r h
def g_scanDeadlinePoints_2 (k2 : Int32 → Int32 → St → Option (Int32 × St)) (n : Nat) (v1 : Int32) (v2 : Int32) (s : St) : Option (Int32 × St) :=
  if v2 < (gI s 11) then
    (rd (gA s 7) v2).bind fun x2 =>
    (wrA s 9 v2 x2).bind fun s3 =>
    lt (v2 + (1 : Int32)) fun x4 =>
    k2 v1 x4 s3
  else
    f_scanDeadlinePoints_33 n v1 (0 : Int64) (0 : Int32) s
set_option maxRecDepth 65536 in
set_option maxHeartbeats 4000000 in
theorem okg13_2 (l : Launch) (Z : State) (a0 : Array Value) (hw : HW a0 Z) (n0 : Nat) (k2 : Int32 → Int32 → St → Option (Int32 × St)) (hk2 : ∀ (v1 : Int32) (v2 : Int32) (s : St) (r : Int32 × St), k2 v1 v2 s = some r → W13 l Z n0 (P13 r) 0 0 2 [.val (.ref 0), .val (.int v1), .val (.int v2), .unset, .unset, .unset] [] (Hb 0 s)) (n : Nat) (v1 : Int32) (v2 : Int32) (s : St) (r : Int32 × St) (h : g_scanDeadlinePoints_2 k2 n v1 v2 s = some r) : W13 l Z n0 (P13 r) 0 0 2 [.val (.ref 0), .val (.int v1), .val (.int v2), .unset, .unset, .unset] [] (Hb 0 s) := by
  unfold g_scanDeadlinePoints_2 at h
  refine WP.iloadN d13_2 rfl ?_
  refine WP.aloadN d13_3 rfl ?_
  refine WP.getfield (i := 0) (j := 20) d13_4 (hw _ m_60) rfl rfl rfl ?_
  rcases ite_e h with ⟨hc1, h⟩ | ⟨hc1, h⟩
  ·
    refine WP.icmpN d13_7 (XT.ii_ge_f hc1) ?_
    refine WP.aloadN d13_10 rfl ?_
    refine WP.getfield (i := 0) (j := 21) d13_11 (hw _ m_28) rfl rfl rfl ?_
    refine WP.iloadN d13_14 rfl ?_
    refine WP.aloadN d13_15 rfl ?_
    refine WP.getfield (i := 0) (j := 18) d13_16 (hw _ m_24) rfl rfl rfl ?_
    refine WP.iloadN d13_19 rfl ?_
    obtain ⟨x2, hx2, h⟩ := Option.bind_eq_some_iff.mp h
    refine WP.iaload (i := 8) d13_20 rfl hx2 ?_
    obtain ⟨s3, hs3, h⟩ := Option.bind_eq_some_iff.mp h
    obtain ⟨ys3, gs3, es3⟩ := wrA_e hs3
    refine WP.iastore (i := 10) (xs := gA s 9) (H' := (Hb 0 s3)) d13_21 rfl (leb rfl) gs3 (by subst es3; rfl) ?_
    obtain ⟨x4, ex4, h⟩ := lt_e h
    refine WP.iinc (L' := [.val (.ref 0), .val (.int v1), .val (.int x4), .unset, .unset, .unset]) (1 : Int32) d13_22 rfl rfl (by subst ex4; rfl) ?_
    refine WP.goto (pc' := 2) d13_25 (by decide) rfl ?_
    exact WP.weak (L' := [.val (.ref 0), .val (.int v1), .val (.int x4), .unset, .unset, .unset]) ⟨rfl, rfl, rfl, trivial⟩ (hk2 v1 x4 s3 _ h)
  ·
    refine WP.icmpY (pc' := 28) d13_7 (XT.ii_ge_t hc1) (by decide) rfl ?_
    refine WP.lconst (0 : Int64) d13_28 rfl ?_
    refine WP.lstoreN (L' := [.val (.ref 0), .val (.int v1), .val (.long (0 : Int64)), .second, .unset, .unset]) d13_29 (leb rfl) rfl ?_
    refine WP.iconst (0 : Int32) d13_30 rfl ?_
    refine WP.istore (L' := [.val (.ref 0), .val (.int v1), .val (.long (0 : Int64)), .second, .val (.int (0 : Int32)), .unset]) d13_31 (leb rfl) rfl ?_
    exact WP.weak (L' := [.val (.ref 0), .val (.int v1), .val (.long (0 : Int64)), .second, .val (.int (0 : Int32)), .unset]) ⟨rfl, rfl, rfl, rfl, rfl, trivial⟩ (ok13_33 l Z a0 hw n0 n v1 (0 : Int64) (0 : Int32) s _ h)
def f_scanDeadlinePoints_2 : Nat → Int32 → Int32 → St → Option (Int32 × St)
  | 0 => fun _ _ _ => none
  | n + 1 => g_scanDeadlinePoints_2 (f_scanDeadlinePoints_2 n) n
theorem ok13_2 (l : Launch) (Z : State) (a0 : Array Value) (hw : HW a0 Z) (n0 : Nat) : ∀ (n : Nat) (v1 : Int32) (v2 : Int32) (s : St) (r : Int32 × St), f_scanDeadlinePoints_2 n v1 v2 s = some r → W13 l Z n0 (P13 r) 0 0 2 [.val (.ref 0), .val (.int v1), .val (.int v2), .unset, .unset, .unset] [] (Hb 0 s)
  | 0, v1, v2, s, r, h => nomatch (show none = some r from h)
  | n + 1, v1, v2, s, r, h => okg13_2 l Z a0 hw n0 _ (ok13_2 l Z a0 hw n0 n) n v1 v2 s r h
def f_scanDeadlinePoints (n : Nat) (p1 : Int32) (s : St) : Option (Int32 × St) :=
  f_scanDeadlinePoints_2 n p1 (0 : Int32) s
set_option maxRecDepth 65536 in
set_option maxHeartbeats 4000000 in
theorem ok13 (l : Launch) (Z : State) (a0 : Array Value) (hw : HW a0 Z) (n : Nat) (p1 : Int32) (s : St) (r : Int32 × St) (h : f_scanDeadlinePoints n p1 s = some r) : CS l Z CN lay y13 prog_1_method_30_code 6 (some FieldType.int) R13 0 [.ref 0, .int p1] (Hb 0 s) (P13 r) := by
  refine CS.of_wp pn_cls (leb rfl) fun n0 => ?_
  show W13 l Z n0 (P13 r) 0 0 0 [.val (.ref 0), .val (.int p1), .unset, .unset, .unset, .unset] [] (Hb 0 s)
  unfold f_scanDeadlinePoints at h
  refine WP.iconst (0 : Int32) d13_0 rfl ?_
  refine WP.istoreN (L' := [.val (.ref 0), .val (.int p1), .val (.int (0 : Int32)), .unset, .unset, .unset]) d13_1 (leb rfl) rfl ?_
  exact WP.weak (L' := [.val (.ref 0), .val (.int p1), .val (.int (0 : Int32)), .unset, .unset, .unset]) ⟨rfl, rfl, rfl, trivial⟩ (ok13_2 l Z a0 hw n0 n p1 (0 : Int32) s _ h)
theorem d10_0 : dc prog_1_method_28_code 0 (.aload_n 0) 1 := by decide +kernel
theorem d10_1 : dc prog_1_method_28_code 1 (.iload_n 1) 1 := by decide +kernel
theorem d10_2 : dc prog_1_method_28_code 2 (.invokevirtual 129) 3 := by decide +kernel
theorem d10_5 : dc prog_1_method_28_code 5 (.ifCond .eq 5) 3 := by decide +kernel
theorem d10_8 : dc prog_1_method_28_code 8 (.iconst 0) 1 := by decide +kernel
theorem d10_9 : dc prog_1_method_28_code 9 (.ireturn) 1 := by decide +kernel
theorem d10_10 : dc prog_1_method_28_code 10 (.aload_n 0) 1 := by decide +kernel
theorem d10_11 : dc prog_1_method_28_code 11 (.iload_n 1) 1 := by decide +kernel
theorem d10_12 : dc prog_1_method_28_code 12 (.invokevirtual 133) 3 := by decide +kernel
theorem d10_15 : dc prog_1_method_28_code 15 (.ireturn) 1 := by decide +kernel
abbrev y10 : MethodName := ⟨"DemandGate", "overloadOfWork", "(I)I"⟩
theorem hy10 : y10.cls ≠ "java/lang/invoke/MethodHandle" ∧ y10.cls ≠ "java/lang/invoke/VarHandle" := by decide
theorem pd10 : parseMethodDescriptor y10.desc = some ⟨[.int], some .int⟩ := by decide +kernel
abbrev R10 : Room := { frames := 2, cells := 0, slots := 0, locals := 35 }
abbrev P10 (r : Int32 × St) : Option Value → List OwnC → Prop := fun v H' => v = some (.int r.1) ∧ H' = (Hb 0 r.2)
abbrev W10 (l : Launch) (Z : State) (n0 : Nat) (Q : Option Value → List OwnC → Prop) (k n pc : Nat) (L : List Slot) (S : List Value) (H : List OwnC) : Prop := WP l Z CN lay "DemandGate" "overloadOfWork" prog_1_method_28_code 2 (some FieldType.int) R10 n0 0 Q k n pc L S H
def f_overloadOfWork (n : Nat) (p1 : Int32) (s : St) : Option (Int32 × St) :=
  (f_implicitWithinCapacity n p1 s).bind fun c1 =>
  if c1 = 0 then
    (f_scanDeadlinePoints n p1 s).bind fun c3 =>
    some (c3.1, c3.2)
  else
    some ((0 : Int32), s)
set_option maxRecDepth 65536 in
set_option maxHeartbeats 4000000 in
theorem ok10 (l : Launch) (Z : State) (a0 : Array Value) (hw : HW a0 Z) (n : Nat) (p1 : Int32) (s : St) (r : Int32 × St) (h : f_overloadOfWork n p1 s = some r) : CS l Z CN lay y10 prog_1_method_28_code 2 (some FieldType.int) R10 0 [.ref 0, .int p1] (Hb 0 s) (P10 r) := by
  refine CS.of_wp pn_cls (leb rfl) fun n0 => ?_
  show W10 l Z n0 (P10 r) 0 0 0 [.val (.ref 0), .val (.int p1)] [] (Hb 0 s)
  unfold f_overloadOfWork at h
  refine WP.aloadN d10_0 rfl ?_
  refine WP.iloadN d10_1 rfl ?_
  obtain ⟨c1, hc1, h⟩ := Option.bind_eq_some_iff.mp h
  refine WP.callP (i := 0) (y := y11) (as := [.int p1]) (S := []) d10_2 (hw _ m_99) (hw _ m_101) (hw _ m_1) (hw _ m_100) (hw _ m_102) (hw _ m_2) hy11 rfl (ok11 l Z a0 hw n p1 s _ hc1) rfl (lenOf pd11 rfl) (leb rfl) (leb rfl) (leb rfl) (leb rfl) ?_
  rintro _ _ ⟨rfl, rfl⟩
  show W10 l Z n0 (P10 r) 0 0 5 [.val (.ref 0), .val (.int p1)] [.int c1] (Hb 0 s)
  rcases ite_e h with ⟨hc2, h⟩ | ⟨hc2, h⟩
  ·
    refine WP.ifY (pc' := 10) d10_5 (XT.i0_eq_t hc2) (by decide) rfl ?_
    refine WP.aloadN d10_10 rfl ?_
    refine WP.iloadN d10_11 rfl ?_
    obtain ⟨c3, hc3, h⟩ := Option.bind_eq_some_iff.mp h
    refine WP.callP (i := 0) (y := y13) (as := [.int p1]) (S := []) d10_12 (hw _ m_107) (hw _ m_109) (hw _ m_1) (hw _ m_108) (hw _ m_110) (hw _ m_2) hy13 rfl (ok13 l Z a0 hw n p1 s _ hc3) rfl (lenOf pd13 rfl) (leb rfl) (leb rfl) (leb rfl) (leb rfl) ?_
    rintro _ _ ⟨rfl, rfl⟩
    show W10 l Z n0 (P10 r) 0 0 15 [.val (.ref 0), .val (.int p1)] [.int c3.1] (Hb 0 c3.2)
    cases h
    exact WP.ireturn d10_15 rfl (leb rfl) (leb rfl) ⟨rfl, rfl⟩
  ·
    refine WP.ifN d10_5 (XT.i0_eq_f hc2) ?_
    refine WP.iconst (0 : Int32) d10_8 rfl ?_
    cases h
    exact WP.ireturn d10_9 rfl (leb rfl) (leb rfl) ⟨rfl, rfl⟩
theorem d12_0 : dc prog_1_method_24_code 0 (.aload_n 0) 1 := by decide +kernel
theorem d12_1 : dc prog_1_method_24_code 1 (.getfield 57) 3 := by decide +kernel
theorem d12_4 : dc prog_1_method_24_code 4 (.ifCond .lt 12) 3 := by decide +kernel
theorem d12_7 : dc prog_1_method_24_code 7 (.aload_n 0) 1 := by decide +kernel
theorem d12_8 : dc prog_1_method_24_code 8 (.getfield 57) 3 := by decide +kernel
theorem d12_11 : dc prog_1_method_24_code 11 (.bipush 12) 2 := by decide +kernel
theorem d12_13 : dc prog_1_method_24_code 13 (.if_icmp .lt 5) 3 := by decide +kernel
theorem d12_16 : dc prog_1_method_24_code 16 (.iconst (-1)) 1 := by decide +kernel
theorem d12_17 : dc prog_1_method_24_code 17 (.ireturn) 1 := by decide +kernel
theorem d12_18 : dc prog_1_method_24_code 18 (.aload_n 0) 1 := by decide +kernel
theorem d12_19 : dc prog_1_method_24_code 19 (.getfield 7) 3 := by decide +kernel
theorem d12_22 : dc prog_1_method_24_code 22 (.aload_n 0) 1 := by decide +kernel
theorem d12_23 : dc prog_1_method_24_code 23 (.getfield 57) 3 := by decide +kernel
theorem d12_26 : dc prog_1_method_24_code 26 (.iload_n 1) 1 := by decide +kernel
theorem d12_27 : dc prog_1_method_24_code 27 (.iastore) 1 := by decide +kernel
theorem d12_28 : dc prog_1_method_24_code 28 (.aload_n 0) 1 := by decide +kernel
theorem d12_29 : dc prog_1_method_24_code 29 (.getfield 13) 3 := by decide +kernel
theorem d12_32 : dc prog_1_method_24_code 32 (.aload_n 0) 1 := by decide +kernel
theorem d12_33 : dc prog_1_method_24_code 33 (.getfield 57) 3 := by decide +kernel
theorem d12_36 : dc prog_1_method_24_code 36 (.iload_n 2) 1 := by decide +kernel
theorem d12_37 : dc prog_1_method_24_code 37 (.iastore) 1 := by decide +kernel
theorem d12_38 : dc prog_1_method_24_code 38 (.aload_n 0) 1 := by decide +kernel
theorem d12_39 : dc prog_1_method_24_code 39 (.getfield 16) 3 := by decide +kernel
theorem d12_42 : dc prog_1_method_24_code 42 (.aload_n 0) 1 := by decide +kernel
theorem d12_43 : dc prog_1_method_24_code 43 (.getfield 57) 3 := by decide +kernel
theorem d12_46 : dc prog_1_method_24_code 46 (.iload_n 3) 1 := by decide +kernel
theorem d12_47 : dc prog_1_method_24_code 47 (.iastore) 1 := by decide +kernel
theorem d12_48 : dc prog_1_method_24_code 48 (.aload_n 0) 1 := by decide +kernel
theorem d12_49 : dc prog_1_method_24_code 49 (.dup) 1 := by decide +kernel
theorem d12_50 : dc prog_1_method_24_code 50 (.getfield 57) 3 := by decide +kernel
theorem d12_53 : dc prog_1_method_24_code 53 (.iconst 1) 1 := by decide +kernel
theorem d12_54 : dc prog_1_method_24_code 54 (.iadd) 1 := by decide +kernel
theorem d12_55 : dc prog_1_method_24_code 55 (.putfield 57) 3 := by decide +kernel
theorem d12_58 : dc prog_1_method_24_code 58 (.aload_n 0) 1 := by decide +kernel
theorem d12_59 : dc prog_1_method_24_code 59 (.getfield 57) 3 := by decide +kernel
theorem d12_62 : dc prog_1_method_24_code 62 (.iconst 1) 1 := by decide +kernel
theorem d12_63 : dc prog_1_method_24_code 63 (.isub) 1 := by decide +kernel
theorem d12_64 : dc prog_1_method_24_code 64 (.ireturn) 1 := by decide +kernel
abbrev y12 : MethodName := ⟨"DemandGate", "admitTask", "(III)I"⟩
theorem hy12 : y12.cls ≠ "java/lang/invoke/MethodHandle" ∧ y12.cls ≠ "java/lang/invoke/VarHandle" := by decide
theorem pd12 : parseMethodDescriptor y12.desc = some ⟨[.int, .int, .int], some .int⟩ := by decide +kernel
abbrev R12 : Room := { frames := 0, cells := 0, slots := 0, locals := 0 }
abbrev P12 (r : Int32 × St) : Option Value → List OwnC → Prop := fun v H' => v = some (.int r.1) ∧ H' = (Hb 0 r.2)
abbrev W12 (l : Launch) (Z : State) (n0 : Nat) (Q : Option Value → List OwnC → Prop) (k n pc : Nat) (L : List Slot) (S : List Value) (H : List OwnC) : Prop := WP l Z CN lay "DemandGate" "admitTask" prog_1_method_24_code 4 (some FieldType.int) R12 n0 0 Q k n pc L S H
def f_admitTask_16 (s : St) : Option (Int32 × St) :=
  some ((-1 : Int32), s)
set_option maxRecDepth 65536 in
set_option maxHeartbeats 4000000 in
theorem ok12_16 (l : Launch) (Z : State) (a0 : Array Value) (hw : HW a0 Z) (n0 : Nat) (s : St) (r : Int32 × St) (h : f_admitTask_16 s = some r) : W12 l Z n0 (P12 r) 0 0 16 [.unset, .unset, .unset, .unset] [] (Hb 0 s) := by
  unfold f_admitTask_16 at h
  refine WP.iconst (-1 : Int32) d12_16 rfl ?_
  cases h
  exact WP.ireturn d12_17 rfl (leb rfl) (leb rfl) ⟨rfl, rfl⟩
def f_admitTask (p1 : Int32) (p2 : Int32) (p3 : Int32) (s : St) : Option (Int32 × St) :=
  if (gI s 2) < 0 then
    f_admitTask_16 s
  else
    if (gI s 2) < (12 : Int32) then
      (wrA s 0 (gI s 2) p1).bind fun s3 =>
      (wrA s3 1 (gI s3 2) p2).bind fun s4 =>
      (wrA s4 2 (gI s4 2) p3).bind fun s5 =>
      lt (sI s5 2 ((gI s5 2) + (1 : Int32))) fun s6 =>
      some ((gI s6 2) - (1 : Int32), s6)
    else
      f_admitTask_16 s
set_option maxRecDepth 65536 in
set_option maxHeartbeats 4000000 in
theorem ok12 (l : Launch) (Z : State) (a0 : Array Value) (hw : HW a0 Z) (p1 : Int32) (p2 : Int32) (p3 : Int32) (s : St) (r : Int32 × St) (h : f_admitTask p1 p2 p3 s = some r) : CS l Z CN lay y12 prog_1_method_24_code 4 (some FieldType.int) R12 0 [.ref 0, .int p1, .int p2, .int p3] (Hb 0 s) (P12 r) := by
  refine CS.of_wp pn_cls (leb rfl) fun n0 => ?_
  show W12 l Z n0 (P12 r) 0 0 0 [.val (.ref 0), .val (.int p1), .val (.int p2), .val (.int p3)] [] (Hb 0 s)
  unfold f_admitTask at h
  refine WP.aloadN d12_0 rfl ?_
  refine WP.getfield (i := 0) (j := 5) d12_1 (hw _ m_42) rfl rfl rfl ?_
  rcases ite_e h with ⟨hc1, h⟩ | ⟨hc1, h⟩
  ·
    refine WP.ifY (pc' := 16) d12_4 (XT.i0_lt_t hc1) (by decide) rfl ?_
    exact WP.weak (L' := [.unset, .unset, .unset, .unset]) trivial (ok12_16 l Z a0 hw n0 s _ h)
  ·
    refine WP.ifN d12_4 (XT.i0_lt_f hc1) ?_
    refine WP.aloadN d12_7 rfl ?_
    refine WP.getfield (i := 0) (j := 5) d12_8 (hw _ m_42) rfl rfl rfl ?_
    refine WP.bipush (12 : Int32) d12_11 rfl ?_
    rcases ite_e h with ⟨hc2, h⟩ | ⟨hc2, h⟩
    ·
      refine WP.icmpY (pc' := 18) d12_13 (XT.ii_lt_t hc2) (by decide) rfl ?_
      refine WP.aloadN d12_18 rfl ?_
      refine WP.getfield (i := 0) (j := 2) d12_19 (hw _ m_10) rfl rfl rfl ?_
      refine WP.aloadN d12_22 rfl ?_
      refine WP.getfield (i := 0) (j := 5) d12_23 (hw _ m_42) rfl rfl rfl ?_
      refine WP.iloadN d12_26 rfl ?_
      obtain ⟨s3, hs3, h⟩ := Option.bind_eq_some_iff.mp h
      obtain ⟨ys3, gs3, es3⟩ := wrA_e hs3
      refine WP.iastore (i := 1) (xs := gA s 0) (H' := (Hb 0 s3)) d12_27 rfl (leb rfl) gs3 (by subst es3; rfl) ?_
      refine WP.aloadN d12_28 rfl ?_
      refine WP.getfield (i := 0) (j := 3) d12_29 (hw _ m_12) rfl rfl rfl ?_
      refine WP.aloadN d12_32 rfl ?_
      refine WP.getfield (i := 0) (j := 5) d12_33 (hw _ m_42) rfl rfl rfl ?_
      refine WP.iloadN d12_36 rfl ?_
      obtain ⟨s4, hs4, h⟩ := Option.bind_eq_some_iff.mp h
      obtain ⟨ys4, gs4, es4⟩ := wrA_e hs4
      refine WP.iastore (i := 2) (xs := gA s3 1) (H' := (Hb 0 s4)) d12_37 rfl (leb rfl) gs4 (by subst es4; rfl) ?_
      refine WP.aloadN d12_38 rfl ?_
      refine WP.getfield (i := 0) (j := 4) d12_39 (hw _ m_14) rfl rfl rfl ?_
      refine WP.aloadN d12_42 rfl ?_
      refine WP.getfield (i := 0) (j := 5) d12_43 (hw _ m_42) rfl rfl rfl ?_
      refine WP.iloadN d12_46 rfl ?_
      obtain ⟨s5, hs5, h⟩ := Option.bind_eq_some_iff.mp h
      obtain ⟨ys5, gs5, es5⟩ := wrA_e hs5
      refine WP.iastore (i := 3) (xs := gA s4 2) (H' := (Hb 0 s5)) d12_47 rfl (leb rfl) gs5 (by subst es5; rfl) ?_
      refine WP.aloadN d12_48 rfl ?_
      refine WP.dup d12_49 rfl ?_
      refine WP.getfield (i := 0) (j := 5) d12_50 (hw _ m_42) rfl rfl rfl ?_
      refine WP.iconst (1 : Int32) d12_53 rfl ?_
      refine WP.iadd d12_54 ?_
      obtain ⟨s6, es6, h⟩ := lt_e h
      refine WP.putI (i := 0) (j := 5) (H' := (Hb 0 s6)) d12_55 (hw _ m_42) (Or.inl (hw _ m_43)) (hw _ m_1) (hlay hw) rfl rfl rfl (leb rfl) (by subst es6; rfl) ?_
      refine WP.aloadN d12_58 rfl ?_
      refine WP.getfield (i := 0) (j := 5) d12_59 (hw _ m_42) rfl rfl rfl ?_
      refine WP.iconst (1 : Int32) d12_62 rfl ?_
      refine WP.isub d12_63 ?_
      cases h
      exact WP.ireturn d12_64 rfl (leb rfl) (leb rfl) ⟨rfl, rfl⟩
    ·
      refine WP.icmpN d12_13 (XT.ii_lt_f hc2) ?_
      exact WP.weak (L' := [.unset, .unset, .unset, .unset]) trivial (ok12_16 l Z a0 hw n0 s _ h)
theorem d2_0 : dc prog_1_method_2_code 0 (.aload_n 0) 1 := by decide +kernel
theorem d2_1 : dc prog_1_method_2_code 1 (.getfield 57) 3 := by decide +kernel
theorem d2_4 : dc prog_1_method_2_code 4 (.aload_n 0) 1 := by decide +kernel
theorem d2_5 : dc prog_1_method_2_code 5 (.getfield 50) 3 := by decide +kernel
theorem d2_8 : dc prog_1_method_2_code 8 (.if_icmp .lt 5) 3 := by decide +kernel
theorem d2_11 : dc prog_1_method_2_code 11 (.iconst (-1)) 1 := by decide +kernel
theorem d2_12 : dc prog_1_method_2_code 12 (.ireturn) 1 := by decide +kernel
theorem d2_13 : dc prog_1_method_2_code 13 (.aload_n 0) 1 := by decide +kernel
theorem d2_14 : dc prog_1_method_2_code 14 (.iload_n 1) 1 := by decide +kernel
theorem d2_15 : dc prog_1_method_2_code 15 (.iload_n 2) 1 := by decide +kernel
theorem d2_16 : dc prog_1_method_2_code 16 (.iload_n 3) 1 := by decide +kernel
theorem d2_17 : dc prog_1_method_2_code 17 (.invokevirtual 88) 3 := by decide +kernel
theorem d2_20 : dc prog_1_method_2_code 20 (.ifCond .ne 6) 3 := by decide +kernel
theorem d2_23 : dc prog_1_method_2_code 23 (.bipush (-2)) 2 := by decide +kernel
theorem d2_25 : dc prog_1_method_2_code 25 (.ireturn) 1 := by decide +kernel
theorem d2_26 : dc prog_1_method_2_code 26 (.aload_n 0) 1 := by decide +kernel
theorem d2_27 : dc prog_1_method_2_code 27 (.invokevirtual 92) 3 := by decide +kernel
theorem d2_30 : dc prog_1_method_2_code 30 (.aload_n 0) 1 := by decide +kernel
theorem d2_31 : dc prog_1_method_2_code 31 (.iload_n 1) 1 := by decide +kernel
theorem d2_32 : dc prog_1_method_2_code 32 (.iload_n 2) 1 := by decide +kernel
theorem d2_33 : dc prog_1_method_2_code 33 (.iload_n 3) 1 := by decide +kernel
theorem d2_34 : dc prog_1_method_2_code 34 (.invokevirtual 95) 3 := by decide +kernel
theorem d2_37 : dc prog_1_method_2_code 37 (.pop) 1 := by decide +kernel
theorem d2_38 : dc prog_1_method_2_code 38 (.aload_n 0) 1 := by decide +kernel
theorem d2_39 : dc prog_1_method_2_code 39 (.aload_n 0) 1 := by decide +kernel
theorem d2_40 : dc prog_1_method_2_code 40 (.getfield 54) 3 := by decide +kernel
theorem d2_43 : dc prog_1_method_2_code 43 (.invokevirtual 98) 3 := by decide +kernel
theorem d2_46 : dc prog_1_method_2_code 46 (.istore 4) 2 := by decide +kernel
theorem d2_48 : dc prog_1_method_2_code 48 (.iload 4) 2 := by decide +kernel
theorem d2_50 : dc prog_1_method_2_code 50 (.aload_n 0) 1 := by decide +kernel
theorem d2_51 : dc prog_1_method_2_code 51 (.getfield 54) 3 := by decide +kernel
theorem d2_54 : dc prog_1_method_2_code 54 (.if_icmp .le 21) 3 := by decide +kernel
theorem d2_57 : dc prog_1_method_2_code 57 (.aload_n 0) 1 := by decide +kernel
theorem d2_58 : dc prog_1_method_2_code 58 (.iconst 0) 1 := by decide +kernel
theorem d2_59 : dc prog_1_method_2_code 59 (.putfield 63) 3 := by decide +kernel
theorem d2_62 : dc prog_1_method_2_code 62 (.aload_n 0) 1 := by decide +kernel
theorem d2_63 : dc prog_1_method_2_code 63 (.iconst 0) 1 := by decide +kernel
theorem d2_64 : dc prog_1_method_2_code 64 (.putfield 73) 3 := by decide +kernel
theorem d2_67 : dc prog_1_method_2_code 67 (.aload_n 0) 1 := by decide +kernel
theorem d2_68 : dc prog_1_method_2_code 68 (.iconst 0) 1 := by decide +kernel
theorem d2_69 : dc prog_1_method_2_code 69 (.putfield 70) 3 := by decide +kernel
theorem d2_72 : dc prog_1_method_2_code 72 (.bipush (-3)) 2 := by decide +kernel
theorem d2_74 : dc prog_1_method_2_code 74 (.ireturn) 1 := by decide +kernel
theorem d2_75 : dc prog_1_method_2_code 75 (.aload_n 0) 1 := by decide +kernel
theorem d2_76 : dc prog_1_method_2_code 76 (.iload 4) 2 := by decide +kernel
theorem d2_78 : dc prog_1_method_2_code 78 (.invokevirtual 102) 3 := by decide +kernel
theorem d2_81 : dc prog_1_method_2_code 81 (.aload_n 0) 1 := by decide +kernel
theorem d2_82 : dc prog_1_method_2_code 82 (.iload 4) 2 := by decide +kernel
theorem d2_84 : dc prog_1_method_2_code 84 (.putfield 73) 3 := by decide +kernel
theorem d2_87 : dc prog_1_method_2_code 87 (.aload_n 0) 1 := by decide +kernel
theorem d2_88 : dc prog_1_method_2_code 88 (.aload_n 0) 1 := by decide +kernel
theorem d2_89 : dc prog_1_method_2_code 89 (.iload 4) 2 := by decide +kernel
theorem d2_91 : dc prog_1_method_2_code 91 (.invokevirtual 106) 3 := by decide +kernel
theorem d2_94 : dc prog_1_method_2_code 94 (.putfield 70) 3 := by decide +kernel
theorem d2_97 : dc prog_1_method_2_code 97 (.aload_n 0) 1 := by decide +kernel
theorem d2_98 : dc prog_1_method_2_code 98 (.getfield 70) 3 := by decide +kernel
theorem d2_101 : dc prog_1_method_2_code 101 (.ifCond .eq 6) 3 := by decide +kernel
theorem d2_104 : dc prog_1_method_2_code 104 (.bipush (-4)) 2 := by decide +kernel
theorem d2_106 : dc prog_1_method_2_code 106 (.ireturn) 1 := by decide +kernel
theorem d2_107 : dc prog_1_method_2_code 107 (.aload_n 0) 1 := by decide +kernel
theorem d2_108 : dc prog_1_method_2_code 108 (.iload_n 1) 1 := by decide +kernel
theorem d2_109 : dc prog_1_method_2_code 109 (.iload_n 2) 1 := by decide +kernel
theorem d2_110 : dc prog_1_method_2_code 110 (.iload_n 3) 1 := by decide +kernel
theorem d2_111 : dc prog_1_method_2_code 111 (.invokevirtual 109) 3 := by decide +kernel
theorem d2_114 : dc prog_1_method_2_code 114 (.ireturn) 1 := by decide +kernel
abbrev y2 : MethodName := ⟨"DemandGate", "propose", "(III)I"⟩
theorem hy2 : y2.cls ≠ "java/lang/invoke/MethodHandle" ∧ y2.cls ≠ "java/lang/invoke/VarHandle" := by decide
theorem pd2 : parseMethodDescriptor y2.desc = some ⟨[.int, .int, .int], some .int⟩ := by decide +kernel
abbrev R2 : Room := { frames := 3, cells := 0, slots := 0, locals := 57 }
abbrev P2 (r : Int32 × St) : Option Value → List OwnC → Prop := fun v H' => v = some (.int r.1) ∧ H' = (Hb 0 r.2)
abbrev W2 (l : Launch) (Z : State) (n0 : Nat) (Q : Option Value → List OwnC → Prop) (k n pc : Nat) (L : List Slot) (S : List Value) (H : List OwnC) : Prop := WP l Z CN lay "DemandGate" "propose" prog_1_method_2_code 5 (some FieldType.int) R2 n0 0 Q k n pc L S H
def f_propose (n : Nat) (p1 : Int32) (p2 : Int32) (p3 : Int32) (s : St) : Option (Int32 × St) :=
  if (gI s 2) < (gI s 0) then
    (f_validParams p1 p2 p3 s).bind fun c2 =>
    if c2 = 0 then
      some ((-2 : Int32), s)
    else
      (f_loadAdmitted n s).bind fun c4 =>
      (f_appendWork p1 p2 p3 c4).bind fun c5 =>
      (f_workHyper n (gI c5.2 1) c5.2).bind fun c6 =>
      if (gI c5.2 1) < c6 then
        lt (sI c5.2 4 (0 : Int32)) fun s8 =>
        lt (sI s8 7 (0 : Int32)) fun s9 =>
        lt (sI s9 6 (0 : Int32)) fun s10 =>
        some ((-3 : Int32), s10)
      else
        (f_storeCandidate n c6 c5.2).bind fun c11 =>
        lt (sI c11 7 c6) fun s12 =>
        (f_overloadOfWork n c6 s12).bind fun c13 =>
        lt (sI c13.2 6 c13.1) fun s14 =>
        if (gI s14 6) = 0 then
          (f_admitTask p1 p2 p3 s14).bind fun c16 =>
          some (c16.1, c16.2)
        else
          some ((-4 : Int32), s14)
  else
    some ((-1 : Int32), s)
set_option maxRecDepth 65536 in
set_option maxHeartbeats 4000000 in
theorem ok2 (l : Launch) (Z : State) (a0 : Array Value) (hw : HW a0 Z) (n : Nat) (p1 : Int32) (p2 : Int32) (p3 : Int32) (s : St) (r : Int32 × St) (h : f_propose n p1 p2 p3 s = some r) : CS l Z CN lay y2 prog_1_method_2_code 5 (some FieldType.int) R2 0 [.ref 0, .int p1, .int p2, .int p3] (Hb 0 s) (P2 r) := by
  refine CS.of_wp pn_cls (leb rfl) fun n0 => ?_
  show W2 l Z n0 (P2 r) 0 0 0 [.val (.ref 0), .val (.int p1), .val (.int p2), .val (.int p3), .unset] [] (Hb 0 s)
  unfold f_propose at h
  refine WP.aloadN d2_0 rfl ?_
  refine WP.getfield (i := 0) (j := 5) d2_1 (hw _ m_42) rfl rfl rfl ?_
  refine WP.aloadN d2_4 rfl ?_
  refine WP.getfield (i := 0) (j := 0) d2_5 (hw _ m_38) rfl rfl rfl ?_
  rcases ite_e h with ⟨hc1, h⟩ | ⟨hc1, h⟩
  ·
    refine WP.icmpY (pc' := 13) d2_8 (XT.ii_lt_t hc1) (by decide) rfl ?_
    refine WP.aloadN d2_13 rfl ?_
    refine WP.iloadN d2_14 rfl ?_
    refine WP.iloadN d2_15 rfl ?_
    refine WP.iloadN d2_16 rfl ?_
    obtain ⟨c2, hc2, h⟩ := Option.bind_eq_some_iff.mp h
    refine WP.callP (i := 0) (y := y3) (as := [.int p1, .int p2, .int p3]) (S := []) d2_17 (hw _ m_67) (hw _ m_69) (hw _ m_1) (hw _ m_68) (hw _ m_70) (hw _ m_2) hy3 rfl (ok3 l Z a0 hw p1 p2 p3 s _ hc2) rfl (lenOf pd3 rfl) (leb rfl) (leb rfl) (leb rfl) (leb rfl) ?_
    rintro _ _ ⟨rfl, rfl⟩
    show W2 l Z n0 (P2 r) 0 0 20 [.val (.ref 0), .val (.int p1), .val (.int p2), .val (.int p3), .unset] [.int c2] (Hb 0 s)
    rcases ite_e h with ⟨hc3, h⟩ | ⟨hc3, h⟩
    ·
      refine WP.ifN d2_20 (XT.i0_ne_f hc3) ?_
      refine WP.bipush (-2 : Int32) d2_23 rfl ?_
      cases h
      exact WP.ireturn d2_25 rfl (leb rfl) (leb rfl) ⟨rfl, rfl⟩
    ·
      refine WP.ifY (pc' := 26) d2_20 (XT.i0_ne_t hc3) (by decide) rfl ?_
      refine WP.aloadN d2_26 rfl ?_
      obtain ⟨c4, hc4, h⟩ := Option.bind_eq_some_iff.mp h
      refine WP.callP (i := 0) (y := y4) (as := []) (S := []) d2_27 (hw _ m_71) (hw _ m_73) (hw _ m_1) (hw _ m_72) (hw _ m_74) (hw _ m_2) hy4 rfl (ok4 l Z a0 hw n s _ hc4) rfl (lenOf pd4 rfl) (leb rfl) (leb rfl) (leb rfl) (leb rfl) ?_
      rintro _ _ ⟨rfl, rfl⟩
      show W2 l Z n0 (P2 r) 0 0 30 [.val (.ref 0), .val (.int p1), .val (.int p2), .val (.int p3), .unset] [] (Hb 0 c4)
      refine WP.aloadN d2_30 rfl ?_
      refine WP.iloadN d2_31 rfl ?_
      refine WP.iloadN d2_32 rfl ?_
      refine WP.iloadN d2_33 rfl ?_
      obtain ⟨c5, hc5, h⟩ := Option.bind_eq_some_iff.mp h
      refine WP.callP (i := 0) (y := y5) (as := [.int p1, .int p2, .int p3]) (S := []) d2_34 (hw _ m_75) (hw _ m_77) (hw _ m_1) (hw _ m_76) (hw _ m_78) (hw _ m_2) hy5 rfl (ok5 l Z a0 hw p1 p2 p3 c4 _ hc5) rfl (lenOf pd5 rfl) (leb rfl) (leb rfl) (leb rfl) (leb rfl) ?_
      rintro _ _ ⟨rfl, rfl⟩
      show W2 l Z n0 (P2 r) 0 0 37 [.val (.ref 0), .val (.int p1), .val (.int p2), .val (.int p3), .unset] [.int c5.1] (Hb 0 c5.2)
      refine WP.pop d2_37 rfl ?_
      refine WP.aloadN d2_38 rfl ?_
      refine WP.aloadN d2_39 rfl ?_
      refine WP.getfield (i := 0) (j := 1) d2_40 (hw _ m_40) rfl rfl rfl ?_
      obtain ⟨c6, hc6, h⟩ := Option.bind_eq_some_iff.mp h
      refine WP.callP (i := 0) (y := y6) (as := [.int (gI c5.2 1)]) (S := []) d2_43 (hw _ m_79) (hw _ m_81) (hw _ m_1) (hw _ m_80) (hw _ m_82) (hw _ m_2) hy6 rfl (ok6 l Z a0 hw n (gI c5.2 1) c5.2 _ hc6) rfl (lenOf pd6 rfl) (leb rfl) (leb rfl) (leb rfl) (leb rfl) ?_
      rintro _ _ ⟨rfl, rfl⟩
      show W2 l Z n0 (P2 r) 0 0 46 [.val (.ref 0), .val (.int p1), .val (.int p2), .val (.int p3), .unset] [.int c6] (Hb 0 c5.2)
      refine WP.istore (L' := [.val (.ref 0), .val (.int p1), .val (.int p2), .val (.int p3), .val (.int c6)]) d2_46 (leb rfl) rfl ?_
      refine WP.iload d2_48 rfl ?_
      refine WP.aloadN d2_50 rfl ?_
      refine WP.getfield (i := 0) (j := 1) d2_51 (hw _ m_40) rfl rfl rfl ?_
      rcases ite_e h with ⟨hc7, h⟩ | ⟨hc7, h⟩
      ·
        refine WP.icmpN d2_54 (XT.ii_le_f hc7) ?_
        refine WP.aloadN d2_57 rfl ?_
        refine WP.iconst (0 : Int32) d2_58 rfl ?_
        obtain ⟨s8, es8, h⟩ := lt_e h
        refine WP.putZ (i := 0) (j := 10) (H' := (Hb 0 s8)) d2_59 (hw _ m_46) (Or.inl (hw _ m_47)) (hw _ m_1) (hlay hw) rfl rfl rfl (leb rfl) (by subst es8; rfl) ?_
        refine WP.aloadN d2_62 rfl ?_
        refine WP.iconst (0 : Int32) d2_63 rfl ?_
        obtain ⟨s9, es9, h⟩ := lt_e h
        refine WP.putI (i := 0) (j := 13) (H' := (Hb 0 s9)) d2_64 (hw _ m_52) (Or.inl (hw _ m_53)) (hw _ m_1) (hlay hw) rfl rfl rfl (leb rfl) (by subst es9; rfl) ?_
        refine WP.aloadN d2_67 rfl ?_
        refine WP.iconst (0 : Int32) d2_68 rfl ?_
        obtain ⟨s10, es10, h⟩ := lt_e h
        refine WP.putI (i := 0) (j := 12) (H' := (Hb 0 s10)) d2_69 (hw _ m_50) (Or.inl (hw _ m_51)) (hw _ m_1) (hlay hw) rfl rfl rfl (leb rfl) (by subst es10; rfl) ?_
        refine WP.bipush (-3 : Int32) d2_72 rfl ?_
        cases h
        exact WP.ireturn d2_74 rfl (leb rfl) (leb rfl) ⟨rfl, rfl⟩
      ·
        refine WP.icmpY (pc' := 75) d2_54 (XT.ii_le_t hc7) (by decide) rfl ?_
        refine WP.aloadN d2_75 rfl ?_
        refine WP.iload d2_76 rfl ?_
        obtain ⟨c11, hc11, h⟩ := Option.bind_eq_some_iff.mp h
        refine WP.callP (i := 0) (y := y9) (as := [.int c6]) (S := []) d2_78 (hw _ m_91) (hw _ m_93) (hw _ m_1) (hw _ m_92) (hw _ m_94) (hw _ m_2) hy9 rfl (ok9 l Z a0 hw n c6 c5.2 _ hc11) rfl (lenOf pd9 rfl) (leb rfl) (leb rfl) (leb rfl) (leb rfl) ?_
        rintro _ _ ⟨rfl, rfl⟩
        show W2 l Z n0 (P2 r) 0 0 81 [.val (.ref 0), .val (.int p1), .val (.int p2), .val (.int p3), .val (.int c6)] [] (Hb 0 c11)
        refine WP.aloadN d2_81 rfl ?_
        refine WP.iload d2_82 rfl ?_
        obtain ⟨s12, es12, h⟩ := lt_e h
        refine WP.putI (i := 0) (j := 13) (H' := (Hb 0 s12)) d2_84 (hw _ m_52) (Or.inl (hw _ m_53)) (hw _ m_1) (hlay hw) rfl rfl rfl (leb rfl) (by subst es12; rfl) ?_
        refine WP.aloadN d2_87 rfl ?_
        refine WP.aloadN d2_88 rfl ?_
        refine WP.iload d2_89 rfl ?_
        obtain ⟨c13, hc13, h⟩ := Option.bind_eq_some_iff.mp h
        refine WP.callP (i := 0) (y := y10) (as := [.int c6]) (S := [.ref 0]) d2_91 (hw _ m_95) (hw _ m_97) (hw _ m_1) (hw _ m_96) (hw _ m_98) (hw _ m_2) hy10 rfl (ok10 l Z a0 hw n c6 s12 _ hc13) rfl (lenOf pd10 rfl) (leb rfl) (leb rfl) (leb rfl) (leb rfl) ?_
        rintro _ _ ⟨rfl, rfl⟩
        show W2 l Z n0 (P2 r) 0 0 94 [.val (.ref 0), .val (.int p1), .val (.int p2), .val (.int p3), .val (.int c6)] [.int c13.1, .ref 0] (Hb 0 c13.2)
        obtain ⟨s14, es14, h⟩ := lt_e h
        refine WP.putI (i := 0) (j := 12) (H' := (Hb 0 s14)) d2_94 (hw _ m_50) (Or.inl (hw _ m_51)) (hw _ m_1) (hlay hw) rfl rfl rfl (leb rfl) (by subst es14; rfl) ?_
        refine WP.aloadN d2_97 rfl ?_
        refine WP.getfield (i := 0) (j := 12) d2_98 (hw _ m_50) rfl rfl rfl ?_
        rcases ite_e h with ⟨hc15, h⟩ | ⟨hc15, h⟩
        ·
          refine WP.ifY (pc' := 107) d2_101 (XT.i0_eq_t hc15) (by decide) rfl ?_
          refine WP.aloadN d2_107 rfl ?_
          refine WP.iloadN d2_108 rfl ?_
          refine WP.iloadN d2_109 rfl ?_
          refine WP.iloadN d2_110 rfl ?_
          obtain ⟨c16, hc16, h⟩ := Option.bind_eq_some_iff.mp h
          refine WP.callP (i := 0) (y := y12) (as := [.int p1, .int p2, .int p3]) (S := []) d2_111 (hw _ m_103) (hw _ m_105) (hw _ m_1) (hw _ m_104) (hw _ m_106) (hw _ m_2) hy12 rfl (ok12 l Z a0 hw p1 p2 p3 s14 _ hc16) rfl (lenOf pd12 rfl) (leb rfl) (leb rfl) (leb rfl) (leb rfl) ?_
          rintro _ _ ⟨rfl, rfl⟩
          show W2 l Z n0 (P2 r) 0 0 114 [.val (.ref 0), .val (.int p1), .val (.int p2), .val (.int p3), .val (.int c6)] [.int c16.1] (Hb 0 c16.2)
          cases h
          exact WP.ireturn d2_114 rfl (leb rfl) (leb rfl) ⟨rfl, rfl⟩
        ·
          refine WP.ifN d2_101 (XT.i0_eq_f hc15) ?_
          refine WP.bipush (-4 : Int32) d2_104 rfl ?_
          cases h
          exact WP.ireturn d2_106 rfl (leb rfl) (leb rfl) ⟨rfl, rfl⟩
  ·
    refine WP.icmpN d2_8 (XT.ii_lt_f hc1) ?_
    refine WP.iconst (-1 : Int32) d2_11 rfl ?_
    cases h
    exact WP.ireturn d2_12 rfl (leb rfl) (leb rfl) ⟨rfl, rfl⟩
theorem d16_0 : dc prog_1_method_12_code 0 (.aload_n 0) 1 := by decide +kernel
theorem d16_1 : dc prog_1_method_12_code 1 (.getfield 70) 3 := by decide +kernel
theorem d16_4 : dc prog_1_method_12_code 4 (.ireturn) 1 := by decide +kernel
abbrev y16 : MethodName := ⟨"DemandGate", "lastOverload", "()I"⟩
theorem hy16 : y16.cls ≠ "java/lang/invoke/MethodHandle" ∧ y16.cls ≠ "java/lang/invoke/VarHandle" := by decide
theorem pd16 : parseMethodDescriptor y16.desc = some ⟨[], some .int⟩ := by decide +kernel
abbrev R16 : Room := { frames := 0, cells := 0, slots := 0, locals := 0 }
abbrev P16 (s : St) (r : Int32) : Option Value → List OwnC → Prop := fun v H' => v = some (.int r) ∧ H' = (Hb 0 s)
abbrev W16 (l : Launch) (Z : State) (n0 : Nat) (Q : Option Value → List OwnC → Prop) (k n pc : Nat) (L : List Slot) (S : List Value) (H : List OwnC) : Prop := WP l Z CN lay "DemandGate" "lastOverload" prog_1_method_12_code 1 (some FieldType.int) R16 n0 0 Q k n pc L S H
def f_lastOverload (s : St) : Option (Int32) :=
  some (gI s 6)
set_option maxRecDepth 65536 in
set_option maxHeartbeats 4000000 in
theorem ok16 (l : Launch) (Z : State) (a0 : Array Value) (hw : HW a0 Z) (s : St) (r : Int32) (h : f_lastOverload s = some r) : CS l Z CN lay y16 prog_1_method_12_code 1 (some FieldType.int) R16 0 [.ref 0] (Hb 0 s) (P16 s r) := by
  refine CS.of_wp pn_cls (leb rfl) fun n0 => ?_
  show W16 l Z n0 (P16 s r) 0 0 0 [.val (.ref 0)] [] (Hb 0 s)
  unfold f_lastOverload at h
  refine WP.aloadN d16_0 rfl ?_
  refine WP.getfield (i := 0) (j := 12) d16_1 (hw _ m_50) rfl rfl rfl ?_
  cases h
  exact WP.ireturn d16_4 rfl (leb rfl) (leb rfl) ⟨rfl, rfl⟩
theorem d17_0 : dc prog_1_method_13_code 0 (.aload_n 0) 1 := by decide +kernel
theorem d17_1 : dc prog_1_method_13_code 1 (.getfield 73) 3 := by decide +kernel
theorem d17_4 : dc prog_1_method_13_code 4 (.ireturn) 1 := by decide +kernel
abbrev y17 : MethodName := ⟨"DemandGate", "lastHyper", "()I"⟩
theorem hy17 : y17.cls ≠ "java/lang/invoke/MethodHandle" ∧ y17.cls ≠ "java/lang/invoke/VarHandle" := by decide
theorem pd17 : parseMethodDescriptor y17.desc = some ⟨[], some .int⟩ := by decide +kernel
abbrev R17 : Room := { frames := 0, cells := 0, slots := 0, locals := 0 }
abbrev P17 (s : St) (r : Int32) : Option Value → List OwnC → Prop := fun v H' => v = some (.int r) ∧ H' = (Hb 0 s)
abbrev W17 (l : Launch) (Z : State) (n0 : Nat) (Q : Option Value → List OwnC → Prop) (k n pc : Nat) (L : List Slot) (S : List Value) (H : List OwnC) : Prop := WP l Z CN lay "DemandGate" "lastHyper" prog_1_method_13_code 1 (some FieldType.int) R17 n0 0 Q k n pc L S H
def f_lastHyper (s : St) : Option (Int32) :=
  some (gI s 7)
set_option maxRecDepth 65536 in
set_option maxHeartbeats 4000000 in
theorem ok17 (l : Launch) (Z : State) (a0 : Array Value) (hw : HW a0 Z) (s : St) (r : Int32) (h : f_lastHyper s = some r) : CS l Z CN lay y17 prog_1_method_13_code 1 (some FieldType.int) R17 0 [.ref 0] (Hb 0 s) (P17 s r) := by
  refine CS.of_wp pn_cls (leb rfl) fun n0 => ?_
  show W17 l Z n0 (P17 s r) 0 0 0 [.val (.ref 0)] [] (Hb 0 s)
  unfold f_lastHyper at h
  refine WP.aloadN d17_0 rfl ?_
  refine WP.getfield (i := 0) (j := 13) d17_1 (hw _ m_52) rfl rfl rfl ?_
  cases h
  exact WP.ireturn d17_4 rfl (leb rfl) (leb rfl) ⟨rfl, rfl⟩
theorem d18_0 : dc prog_1_method_5_code 0 (.aload_n 0) 1 := by decide +kernel
theorem d18_1 : dc prog_1_method_5_code 1 (.getfield 57) 3 := by decide +kernel
theorem d18_4 : dc prog_1_method_5_code 4 (.ireturn) 1 := by decide +kernel
abbrev y18 : MethodName := ⟨"DemandGate", "count", "()I"⟩
theorem hy18 : y18.cls ≠ "java/lang/invoke/MethodHandle" ∧ y18.cls ≠ "java/lang/invoke/VarHandle" := by decide
theorem pd18 : parseMethodDescriptor y18.desc = some ⟨[], some .int⟩ := by decide +kernel
abbrev R18 : Room := { frames := 0, cells := 0, slots := 0, locals := 0 }
abbrev P18 (s : St) (r : Int32) : Option Value → List OwnC → Prop := fun v H' => v = some (.int r) ∧ H' = (Hb 0 s)
abbrev W18 (l : Launch) (Z : State) (n0 : Nat) (Q : Option Value → List OwnC → Prop) (k n pc : Nat) (L : List Slot) (S : List Value) (H : List OwnC) : Prop := WP l Z CN lay "DemandGate" "count" prog_1_method_5_code 1 (some FieldType.int) R18 n0 0 Q k n pc L S H
def f_count (s : St) : Option (Int32) :=
  some (gI s 2)
set_option maxRecDepth 65536 in
set_option maxHeartbeats 4000000 in
theorem ok18 (l : Launch) (Z : State) (a0 : Array Value) (hw : HW a0 Z) (s : St) (r : Int32) (h : f_count s = some r) : CS l Z CN lay y18 prog_1_method_5_code 1 (some FieldType.int) R18 0 [.ref 0] (Hb 0 s) (P18 s r) := by
  refine CS.of_wp pn_cls (leb rfl) fun n0 => ?_
  show W18 l Z n0 (P18 s r) 0 0 0 [.val (.ref 0)] [] (Hb 0 s)
  unfold f_count at h
  refine WP.aloadN d18_0 rfl ?_
  refine WP.getfield (i := 0) (j := 5) d18_1 (hw _ m_42) rfl rfl rfl ?_
  cases h
  exact WP.ireturn d18_4 rfl (leb rfl) (leb rfl) ⟨rfl, rfl⟩
theorem d20_0 : dc prog_1_method_21_code 0 (.aload_n 0) 1 := by decide +kernel
theorem d20_1 : dc prog_1_method_21_code 1 (.iconst 0) 1 := by decide +kernel
theorem d20_2 : dc prog_1_method_21_code 2 (.putfield 85) 3 := by decide +kernel
theorem d20_5 : dc prog_1_method_21_code 5 (.iconst 0) 1 := by decide +kernel
theorem d20_6 : dc prog_1_method_21_code 6 (.istore_n 1) 1 := by decide +kernel
theorem d20_7 : dc prog_1_method_21_code 7 (.iload_n 1) 1 := by decide +kernel
theorem d20_8 : dc prog_1_method_21_code 8 (.aload_n 0) 1 := by decide +kernel
theorem d20_9 : dc prog_1_method_21_code 9 (.getfield 60) 3 := by decide +kernel
theorem d20_12 : dc prog_1_method_21_code 12 (.if_icmp .ge 38) 3 := by decide +kernel
theorem d20_15 : dc prog_1_method_21_code 15 (.iload_n 1) 1 := by decide +kernel
theorem d20_16 : dc prog_1_method_21_code 16 (.bipush 12) 2 := by decide +kernel
theorem d20_18 : dc prog_1_method_21_code 18 (.if_icmp .ge 32) 3 := by decide +kernel
theorem d20_21 : dc prog_1_method_21_code 21 (.aload_n 0) 1 := by decide +kernel
theorem d20_22 : dc prog_1_method_21_code 22 (.aload_n 0) 1 := by decide +kernel
theorem d20_23 : dc prog_1_method_21_code 23 (.getfield 19) 3 := by decide +kernel
theorem d20_26 : dc prog_1_method_21_code 26 (.iload_n 1) 1 := by decide +kernel
theorem d20_27 : dc prog_1_method_21_code 27 (.iaload) 1 := by decide +kernel
theorem d20_28 : dc prog_1_method_21_code 28 (.aload_n 0) 1 := by decide +kernel
theorem d20_29 : dc prog_1_method_21_code 29 (.getfield 22) 3 := by decide +kernel
theorem d20_32 : dc prog_1_method_21_code 32 (.iload_n 1) 1 := by decide +kernel
theorem d20_33 : dc prog_1_method_21_code 33 (.iaload) 1 := by decide +kernel
theorem d20_34 : dc prog_1_method_21_code 34 (.aload_n 0) 1 := by decide +kernel
theorem d20_35 : dc prog_1_method_21_code 35 (.getfield 25) 3 := by decide +kernel
theorem d20_38 : dc prog_1_method_21_code 38 (.iload_n 1) 1 := by decide +kernel
theorem d20_39 : dc prog_1_method_21_code 39 (.iaload) 1 := by decide +kernel
theorem d20_40 : dc prog_1_method_21_code 40 (.invokevirtual 95) 3 := by decide +kernel
theorem d20_43 : dc prog_1_method_21_code 43 (.pop) 1 := by decide +kernel
theorem d20_44 : dc prog_1_method_21_code 44 (.iinc 1 1) 3 := by decide +kernel
theorem d20_47 : dc prog_1_method_21_code 47 (.goto (-40)) 3 := by decide +kernel
theorem d20_50 : dc prog_1_method_21_code 50 (.return_) 1 := by decide +kernel
abbrev y20 : MethodName := ⟨"DemandGate", "loadCandidate", "()V"⟩
theorem hy20 : y20.cls ≠ "java/lang/invoke/MethodHandle" ∧ y20.cls ≠ "java/lang/invoke/VarHandle" := by decide
theorem pd20 : parseMethodDescriptor y20.desc = some ⟨[], none⟩ := by decide +kernel
abbrev R20 : Room := { frames := 1, cells := 0, slots := 0, locals := 15 }
abbrev P20 (r : St) : Option Value → List OwnC → Prop := fun v H' => v = none ∧ H' = (Hb 0 r)
abbrev W20 (l : Launch) (Z : State) (n0 : Nat) (Q : Option Value → List OwnC → Prop) (k n pc : Nat) (L : List Slot) (S : List Value) (H : List OwnC) : Prop := WP l Z CN lay "DemandGate" "loadCandidate" prog_1_method_21_code 2 (none) R20 n0 0 Q k n pc L S H
def f_loadCandidate_50 (n : Nat) (s : St) : Option (St) :=
  some s
set_option maxRecDepth 65536 in
set_option maxHeartbeats 4000000 in
theorem ok20_50 (l : Launch) (Z : State) (a0 : Array Value) (hw : HW a0 Z) (n0 : Nat) (n : Nat) (s : St) (r : St) (h : f_loadCandidate_50 n s = some r) : W20 l Z n0 (P20 r) 0 0 50 [.unset, .unset] [] (Hb 0 s) := by
  unfold f_loadCandidate_50 at h
  cases h
  exact WP.vreturn d20_50 rfl (leb rfl) (leb rfl) ⟨rfl, rfl⟩
def g_loadCandidate_7 (k7 : Int32 → St → Option (St)) (n : Nat) (v1 : Int32) (s : St) : Option (St) :=
  if v1 < (gI s 3) then
    if v1 < (12 : Int32) then
      (rd (gA s 3) v1).bind fun x3 =>
      (rd (gA s 4) v1).bind fun x4 =>
      (rd (gA s 5) v1).bind fun x5 =>
      (f_appendWork x3 x4 x5 s).bind fun c6 =>
      lt (v1 + (1 : Int32)) fun x7 =>
      k7 x7 c6.2
    else
      f_loadCandidate_50 n s
  else
    f_loadCandidate_50 n s
set_option maxRecDepth 65536 in
set_option maxHeartbeats 4000000 in
theorem okg20_7 (l : Launch) (Z : State) (a0 : Array Value) (hw : HW a0 Z) (n0 : Nat) (k7 : Int32 → St → Option (St)) (hk7 : ∀ (v1 : Int32) (s : St) (r : St), k7 v1 s = some r → W20 l Z n0 (P20 r) 0 0 7 [.val (.ref 0), .val (.int v1)] [] (Hb 0 s)) (n : Nat) (v1 : Int32) (s : St) (r : St) (h : g_loadCandidate_7 k7 n v1 s = some r) : W20 l Z n0 (P20 r) 0 0 7 [.val (.ref 0), .val (.int v1)] [] (Hb 0 s) := by
  unfold g_loadCandidate_7 at h
  refine WP.iloadN d20_7 rfl ?_
  refine WP.aloadN d20_8 rfl ?_
  refine WP.getfield (i := 0) (j := 9) d20_9 (hw _ m_44) rfl rfl rfl ?_
  rcases ite_e h with ⟨hc1, h⟩ | ⟨hc1, h⟩
  ·
    refine WP.icmpN d20_12 (XT.ii_ge_f hc1) ?_
    refine WP.iloadN d20_15 rfl ?_
    refine WP.bipush (12 : Int32) d20_16 rfl ?_
    rcases ite_e h with ⟨hc2, h⟩ | ⟨hc2, h⟩
    ·
      refine WP.icmpN d20_18 (XT.ii_ge_f hc2) ?_
      refine WP.aloadN d20_21 rfl ?_
      refine WP.aloadN d20_22 rfl ?_
      refine WP.getfield (i := 0) (j := 6) d20_23 (hw _ m_16) rfl rfl rfl ?_
      refine WP.iloadN d20_26 rfl ?_
      obtain ⟨x3, hx3, h⟩ := Option.bind_eq_some_iff.mp h
      refine WP.iaload (i := 4) d20_27 rfl hx3 ?_
      refine WP.aloadN d20_28 rfl ?_
      refine WP.getfield (i := 0) (j := 7) d20_29 (hw _ m_18) rfl rfl rfl ?_
      refine WP.iloadN d20_32 rfl ?_
      obtain ⟨x4, hx4, h⟩ := Option.bind_eq_some_iff.mp h
      refine WP.iaload (i := 5) d20_33 rfl hx4 ?_
      refine WP.aloadN d20_34 rfl ?_
      refine WP.getfield (i := 0) (j := 8) d20_35 (hw _ m_20) rfl rfl rfl ?_
      refine WP.iloadN d20_38 rfl ?_
      obtain ⟨x5, hx5, h⟩ := Option.bind_eq_some_iff.mp h
      refine WP.iaload (i := 6) d20_39 rfl hx5 ?_
      obtain ⟨c6, hc6, h⟩ := Option.bind_eq_some_iff.mp h
      refine WP.callP (i := 0) (y := y5) (as := [.int x3, .int x4, .int x5]) (S := []) d20_40 (hw _ m_75) (hw _ m_77) (hw _ m_1) (hw _ m_76) (hw _ m_78) (hw _ m_2) hy5 rfl (ok5 l Z a0 hw x3 x4 x5 s _ hc6) rfl (lenOf pd5 rfl) (leb rfl) (leb rfl) (leb rfl) (leb rfl) ?_
      rintro _ _ ⟨rfl, rfl⟩
      show W20 l Z n0 (P20 r) 0 0 43 [.val (.ref 0), .val (.int v1)] [.int c6.1] (Hb 0 c6.2)
      refine WP.pop d20_43 rfl ?_
      obtain ⟨x7, ex7, h⟩ := lt_e h
      refine WP.iinc (L' := [.val (.ref 0), .val (.int x7)]) (1 : Int32) d20_44 rfl rfl (by subst ex7; rfl) ?_
      refine WP.goto (pc' := 7) d20_47 (by decide) rfl ?_
      exact WP.weak (L' := [.val (.ref 0), .val (.int x7)]) ⟨rfl, rfl, trivial⟩ (hk7 x7 c6.2 _ h)
    ·
      refine WP.icmpY (pc' := 50) d20_18 (XT.ii_ge_t hc2) (by decide) rfl ?_
      exact WP.weak (L' := [.unset, .unset]) trivial (ok20_50 l Z a0 hw n0 n s _ h)
  ·
    refine WP.icmpY (pc' := 50) d20_12 (XT.ii_ge_t hc1) (by decide) rfl ?_
    exact WP.weak (L' := [.unset, .unset]) trivial (ok20_50 l Z a0 hw n0 n s _ h)
def f_loadCandidate_7 : Nat → Int32 → St → Option (St)
  | 0 => fun _ _ => none
  | n + 1 => g_loadCandidate_7 (f_loadCandidate_7 n) n
theorem ok20_7 (l : Launch) (Z : State) (a0 : Array Value) (hw : HW a0 Z) (n0 : Nat) : ∀ (n : Nat) (v1 : Int32) (s : St) (r : St), f_loadCandidate_7 n v1 s = some r → W20 l Z n0 (P20 r) 0 0 7 [.val (.ref 0), .val (.int v1)] [] (Hb 0 s)
  | 0, v1, s, r, h => nomatch (show none = some r from h)
  | n + 1, v1, s, r, h => okg20_7 l Z a0 hw n0 _ (ok20_7 l Z a0 hw n0 n) n v1 s r h
def f_loadCandidate (n : Nat) (s : St) : Option (St) :=
  lt (sI s 11 (0 : Int32)) fun s1 =>
  f_loadCandidate_7 n (0 : Int32) s1
set_option maxRecDepth 65536 in
set_option maxHeartbeats 4000000 in
theorem ok20 (l : Launch) (Z : State) (a0 : Array Value) (hw : HW a0 Z) (n : Nat) (s : St) (r : St) (h : f_loadCandidate n s = some r) : CS l Z CN lay y20 prog_1_method_21_code 2 (none) R20 0 [.ref 0] (Hb 0 s) (P20 r) := by
  refine CS.of_wp pn_cls (leb rfl) fun n0 => ?_
  show W20 l Z n0 (P20 r) 0 0 0 [.val (.ref 0), .unset] [] (Hb 0 s)
  unfold f_loadCandidate at h
  refine WP.aloadN d20_0 rfl ?_
  refine WP.iconst (0 : Int32) d20_1 rfl ?_
  obtain ⟨s1, es1, h⟩ := lt_e h
  refine WP.putI (i := 0) (j := 20) (H' := (Hb 0 s1)) d20_2 (hw _ m_60) (Or.inl (hw _ m_61)) (hw _ m_1) (hlay hw) rfl rfl rfl (leb rfl) (by subst es1; rfl) ?_
  refine WP.iconst (0 : Int32) d20_5 rfl ?_
  refine WP.istoreN (L' := [.val (.ref 0), .val (.int (0 : Int32))]) d20_6 (leb rfl) rfl ?_
  exact WP.weak (L' := [.val (.ref 0), .val (.int (0 : Int32))]) ⟨rfl, rfl, trivial⟩ (ok20_7 l Z a0 hw n0 n (0 : Int32) s1 _ h)
theorem d22_0 : dc prog_1_method_35_code 0 (.iconst 0) 1 := by decide +kernel
theorem d22_1 : dc prog_1_method_35_code 1 (.istore_n 1) 1 := by decide +kernel
theorem d22_2 : dc prog_1_method_35_code 2 (.iload_n 1) 1 := by decide +kernel
theorem d22_3 : dc prog_1_method_35_code 3 (.bipush 12) 2 := by decide +kernel
theorem d22_5 : dc prog_1_method_35_code 5 (.if_icmp .ge 23) 3 := by decide +kernel
theorem d22_8 : dc prog_1_method_35_code 8 (.aload_n 0) 1 := by decide +kernel
theorem d22_9 : dc prog_1_method_35_code 9 (.getfield 40) 3 := by decide +kernel
theorem d22_12 : dc prog_1_method_35_code 12 (.iload_n 1) 1 := by decide +kernel
theorem d22_13 : dc prog_1_method_35_code 13 (.iconst 0) 1 := by decide +kernel
theorem d22_14 : dc prog_1_method_35_code 14 (.iastore) 1 := by decide +kernel
theorem d22_15 : dc prog_1_method_35_code 15 (.aload_n 0) 1 := by decide +kernel
theorem d22_16 : dc prog_1_method_35_code 16 (.getfield 43) 3 := by decide +kernel
theorem d22_19 : dc prog_1_method_35_code 19 (.iload_n 1) 1 := by decide +kernel
theorem d22_20 : dc prog_1_method_35_code 20 (.iconst 0) 1 := by decide +kernel
theorem d22_21 : dc prog_1_method_35_code 21 (.iastore) 1 := by decide +kernel
theorem d22_22 : dc prog_1_method_35_code 22 (.iinc 1 1) 3 := by decide +kernel
theorem d22_25 : dc prog_1_method_35_code 25 (.goto (-23)) 3 := by decide +kernel
theorem d22_28 : dc prog_1_method_35_code 28 (.return_) 1 := by decide +kernel
abbrev y22 : MethodName := ⟨"DemandGate", "resetJobs", "()V"⟩
theorem hy22 : y22.cls ≠ "java/lang/invoke/MethodHandle" ∧ y22.cls ≠ "java/lang/invoke/VarHandle" := by decide
theorem pd22 : parseMethodDescriptor y22.desc = some ⟨[], none⟩ := by decide +kernel
abbrev R22 : Room := { frames := 0, cells := 0, slots := 0, locals := 0 }
abbrev P22 (r : St) : Option Value → List OwnC → Prop := fun v H' => v = none ∧ H' = (Hb 0 r)
abbrev W22 (l : Launch) (Z : State) (n0 : Nat) (Q : Option Value → List OwnC → Prop) (k n pc : Nat) (L : List Slot) (S : List Value) (H : List OwnC) : Prop := WP l Z CN lay "DemandGate" "resetJobs" prog_1_method_35_code 2 (none) R22 n0 0 Q k n pc L S H
def g_resetJobs_2 (k2 : Int32 → St → Option (St)) (n : Nat) (v1 : Int32) (s : St) : Option (St) :=
  if v1 < (12 : Int32) then
    (wrA s 10 v1 (0 : Int32)).bind fun s2 =>
    (wrA s2 11 v1 (0 : Int32)).bind fun s3 =>
    lt (v1 + (1 : Int32)) fun x4 =>
    k2 x4 s3
  else
    some s
set_option maxRecDepth 65536 in
set_option maxHeartbeats 4000000 in
theorem okg22_2 (l : Launch) (Z : State) (a0 : Array Value) (hw : HW a0 Z) (n0 : Nat) (k2 : Int32 → St → Option (St)) (hk2 : ∀ (v1 : Int32) (s : St) (r : St), k2 v1 s = some r → W22 l Z n0 (P22 r) 0 0 2 [.val (.ref 0), .val (.int v1)] [] (Hb 0 s)) (n : Nat) (v1 : Int32) (s : St) (r : St) (h : g_resetJobs_2 k2 n v1 s = some r) : W22 l Z n0 (P22 r) 0 0 2 [.val (.ref 0), .val (.int v1)] [] (Hb 0 s) := by
  unfold g_resetJobs_2 at h
  refine WP.iloadN d22_2 rfl ?_
  refine WP.bipush (12 : Int32) d22_3 rfl ?_
  rcases ite_e h with ⟨hc1, h⟩ | ⟨hc1, h⟩
  ·
    refine WP.icmpN d22_5 (XT.ii_ge_f hc1) ?_
    refine WP.aloadN d22_8 rfl ?_
    refine WP.getfield (i := 0) (j := 22) d22_9 (hw _ m_30) rfl rfl rfl ?_
    refine WP.iloadN d22_12 rfl ?_
    refine WP.iconst (0 : Int32) d22_13 rfl ?_
    obtain ⟨s2, hs2, h⟩ := Option.bind_eq_some_iff.mp h
    obtain ⟨ys2, gs2, es2⟩ := wrA_e hs2
    refine WP.iastore (i := 11) (xs := gA s 10) (H' := (Hb 0 s2)) d22_14 rfl (leb rfl) gs2 (by subst es2; rfl) ?_
    refine WP.aloadN d22_15 rfl ?_
    refine WP.getfield (i := 0) (j := 23) d22_16 (hw _ m_32) rfl rfl rfl ?_
    refine WP.iloadN d22_19 rfl ?_
    refine WP.iconst (0 : Int32) d22_20 rfl ?_
    obtain ⟨s3, hs3, h⟩ := Option.bind_eq_some_iff.mp h
    obtain ⟨ys3, gs3, es3⟩ := wrA_e hs3
    refine WP.iastore (i := 12) (xs := gA s2 11) (H' := (Hb 0 s3)) d22_21 rfl (leb rfl) gs3 (by subst es3; rfl) ?_
    obtain ⟨x4, ex4, h⟩ := lt_e h
    refine WP.iinc (L' := [.val (.ref 0), .val (.int x4)]) (1 : Int32) d22_22 rfl rfl (by subst ex4; rfl) ?_
    refine WP.goto (pc' := 2) d22_25 (by decide) rfl ?_
    exact WP.weak (L' := [.val (.ref 0), .val (.int x4)]) ⟨rfl, rfl, trivial⟩ (hk2 x4 s3 _ h)
  ·
    refine WP.icmpY (pc' := 28) d22_5 (XT.ii_ge_t hc1) (by decide) rfl ?_
    cases h
    exact WP.vreturn d22_28 rfl (leb rfl) (leb rfl) ⟨rfl, rfl⟩
def f_resetJobs_2 : Nat → Int32 → St → Option (St)
  | 0 => fun _ _ => none
  | n + 1 => g_resetJobs_2 (f_resetJobs_2 n) n
theorem ok22_2 (l : Launch) (Z : State) (a0 : Array Value) (hw : HW a0 Z) (n0 : Nat) : ∀ (n : Nat) (v1 : Int32) (s : St) (r : St), f_resetJobs_2 n v1 s = some r → W22 l Z n0 (P22 r) 0 0 2 [.val (.ref 0), .val (.int v1)] [] (Hb 0 s)
  | 0, v1, s, r, h => nomatch (show none = some r from h)
  | n + 1, v1, s, r, h => okg22_2 l Z a0 hw n0 _ (ok22_2 l Z a0 hw n0 n) n v1 s r h
def f_resetJobs (n : Nat) (s : St) : Option (St) :=
  f_resetJobs_2 n (0 : Int32) s
set_option maxRecDepth 65536 in
set_option maxHeartbeats 4000000 in
theorem ok22 (l : Launch) (Z : State) (a0 : Array Value) (hw : HW a0 Z) (n : Nat) (s : St) (r : St) (h : f_resetJobs n s = some r) : CS l Z CN lay y22 prog_1_method_35_code 2 (none) R22 0 [.ref 0] (Hb 0 s) (P22 r) := by
  refine CS.of_wp pn_cls (leb rfl) fun n0 => ?_
  show W22 l Z n0 (P22 r) 0 0 0 [.val (.ref 0), .unset] [] (Hb 0 s)
  unfold f_resetJobs at h
  refine WP.iconst (0 : Int32) d22_0 rfl ?_
  refine WP.istoreN (L' := [.val (.ref 0), .val (.int (0 : Int32))]) d22_1 (leb rfl) rfl ?_
  exact WP.weak (L' := [.val (.ref 0), .val (.int (0 : Int32))]) ⟨rfl, rfl, trivial⟩ (ok22_2 l Z a0 hw n0 n (0 : Int32) s _ h)
theorem d23_0 : dc prog_1_method_37_code 0 (.iconst 0) 1 := by decide +kernel
theorem d23_1 : dc prog_1_method_37_code 1 (.istore_n 2) 1 := by decide +kernel
theorem d23_2 : dc prog_1_method_37_code 2 (.iload_n 2) 1 := by decide +kernel
theorem d23_3 : dc prog_1_method_37_code 3 (.aload_n 0) 1 := by decide +kernel
theorem d23_4 : dc prog_1_method_37_code 4 (.getfield 85) 3 := by decide +kernel
theorem d23_7 : dc prog_1_method_37_code 7 (.if_icmp .ge 30) 3 := by decide +kernel
theorem d23_10 : dc prog_1_method_37_code 10 (.aload_n 0) 1 := by decide +kernel
theorem d23_11 : dc prog_1_method_37_code 11 (.getfield 40) 3 := by decide +kernel
theorem d23_14 : dc prog_1_method_37_code 14 (.iload_n 2) 1 := by decide +kernel
theorem d23_15 : dc prog_1_method_37_code 15 (.iaload) 1 := by decide +kernel
theorem d23_16 : dc prog_1_method_37_code 16 (.ifCond .le 15) 3 := by decide +kernel
theorem d23_19 : dc prog_1_method_37_code 19 (.aload_n 0) 1 := by decide +kernel
theorem d23_20 : dc prog_1_method_37_code 20 (.getfield 43) 3 := by decide +kernel
theorem d23_23 : dc prog_1_method_37_code 23 (.iload_n 2) 1 := by decide +kernel
theorem d23_24 : dc prog_1_method_37_code 24 (.iaload) 1 := by decide +kernel
theorem d23_25 : dc prog_1_method_37_code 25 (.iload_n 1) 1 := by decide +kernel
theorem d23_26 : dc prog_1_method_37_code 26 (.if_icmp .ne 5) 3 := by decide +kernel
theorem d23_29 : dc prog_1_method_37_code 29 (.iload_n 2) 1 := by decide +kernel
theorem d23_30 : dc prog_1_method_37_code 30 (.ireturn) 1 := by decide +kernel
theorem d23_31 : dc prog_1_method_37_code 31 (.iinc 2 1) 3 := by decide +kernel
theorem d23_34 : dc prog_1_method_37_code 34 (.goto (-32)) 3 := by decide +kernel
theorem d23_37 : dc prog_1_method_37_code 37 (.iconst (-1)) 1 := by decide +kernel
theorem d23_38 : dc prog_1_method_37_code 38 (.ireturn) 1 := by decide +kernel
abbrev y23 : MethodName := ⟨"DemandGate", "firstMissAt", "(I)I"⟩
theorem hy23 : y23.cls ≠ "java/lang/invoke/MethodHandle" ∧ y23.cls ≠ "java/lang/invoke/VarHandle" := by decide
theorem pd23 : parseMethodDescriptor y23.desc = some ⟨[.int], some .int⟩ := by decide +kernel
abbrev R23 : Room := { frames := 0, cells := 0, slots := 0, locals := 0 }
abbrev P23 (s : St) (r : Int32) : Option Value → List OwnC → Prop := fun v H' => v = some (.int r) ∧ H' = (Hb 0 s)
abbrev W23 (l : Launch) (Z : State) (n0 : Nat) (Q : Option Value → List OwnC → Prop) (k n pc : Nat) (L : List Slot) (S : List Value) (H : List OwnC) : Prop := WP l Z CN lay "DemandGate" "firstMissAt" prog_1_method_37_code 3 (some FieldType.int) R23 n0 0 Q k n pc L S H
def f_firstMissAt_31 (k2 : Int32 → Int32 → St → Option (Int32)) (n : Nat) (v1 : Int32) (v2 : Int32) (s : St) : Option (Int32) :=
  lt (v2 + (1 : Int32)) fun x1 =>
  k2 v1 x1 s
set_option maxRecDepth 65536 in
set_option maxHeartbeats 4000000 in
theorem ok23_31 (l : Launch) (Z : State) (a0 : Array Value) (hw : HW a0 Z) (n0 : Nat) (k2 : Int32 → Int32 → St → Option (Int32)) (hk2 : ∀ (v1 : Int32) (v2 : Int32) (s : St) (r : Int32), k2 v1 v2 s = some r → W23 l Z n0 (P23 s r) 0 0 2 [.val (.ref 0), .val (.int v1), .val (.int v2)] [] (Hb 0 s)) (n : Nat) (v1 : Int32) (v2 : Int32) (s : St) (r : Int32) (h : f_firstMissAt_31 k2 n v1 v2 s = some r) : W23 l Z n0 (P23 s r) 0 0 31 [.val (.ref 0), .val (.int v1), .val (.int v2)] [] (Hb 0 s) := by
  unfold f_firstMissAt_31 at h
  obtain ⟨x1, ex1, h⟩ := lt_e h
  refine WP.iinc (L' := [.val (.ref 0), .val (.int v1), .val (.int x1)]) (1 : Int32) d23_31 rfl rfl (by subst ex1; rfl) ?_
  refine WP.goto (pc' := 2) d23_34 (by decide) rfl ?_
  exact WP.weak (L' := [.val (.ref 0), .val (.int v1), .val (.int x1)]) ⟨rfl, rfl, rfl, trivial⟩ (hk2 v1 x1 s _ h)
def g_firstMissAt_2 (k2 : Int32 → Int32 → St → Option (Int32)) (n : Nat) (v1 : Int32) (v2 : Int32) (s : St) : Option (Int32) :=
  if v2 < (gI s 11) then
    (rd (gA s 10) v2).bind fun x2 =>
    if 0 < x2 then
      (rd (gA s 11) v2).bind fun x4 =>
      if x4 = v1 then
        some v2
      else
        f_firstMissAt_31 k2 n v1 v2 s
    else
      f_firstMissAt_31 k2 n v1 v2 s
  else
    some (-1 : Int32)
set_option maxRecDepth 65536 in
set_option maxHeartbeats 4000000 in
theorem okg23_2 (l : Launch) (Z : State) (a0 : Array Value) (hw : HW a0 Z) (n0 : Nat) (k2 : Int32 → Int32 → St → Option (Int32)) (hk2 : ∀ (v1 : Int32) (v2 : Int32) (s : St) (r : Int32), k2 v1 v2 s = some r → W23 l Z n0 (P23 s r) 0 0 2 [.val (.ref 0), .val (.int v1), .val (.int v2)] [] (Hb 0 s)) (n : Nat) (v1 : Int32) (v2 : Int32) (s : St) (r : Int32) (h : g_firstMissAt_2 k2 n v1 v2 s = some r) : W23 l Z n0 (P23 s r) 0 0 2 [.val (.ref 0), .val (.int v1), .val (.int v2)] [] (Hb 0 s) := by
  unfold g_firstMissAt_2 at h
  refine WP.iloadN d23_2 rfl ?_
  refine WP.aloadN d23_3 rfl ?_
  refine WP.getfield (i := 0) (j := 20) d23_4 (hw _ m_60) rfl rfl rfl ?_
  rcases ite_e h with ⟨hc1, h⟩ | ⟨hc1, h⟩
  ·
    refine WP.icmpN d23_7 (XT.ii_ge_f hc1) ?_
    refine WP.aloadN d23_10 rfl ?_
    refine WP.getfield (i := 0) (j := 22) d23_11 (hw _ m_30) rfl rfl rfl ?_
    refine WP.iloadN d23_14 rfl ?_
    obtain ⟨x2, hx2, h⟩ := Option.bind_eq_some_iff.mp h
    refine WP.iaload (i := 11) d23_15 rfl hx2 ?_
    rcases ite_e h with ⟨hc3, h⟩ | ⟨hc3, h⟩
    ·
      refine WP.ifN d23_16 (XT.i0_le_f hc3) ?_
      refine WP.aloadN d23_19 rfl ?_
      refine WP.getfield (i := 0) (j := 23) d23_20 (hw _ m_32) rfl rfl rfl ?_
      refine WP.iloadN d23_23 rfl ?_
      obtain ⟨x4, hx4, h⟩ := Option.bind_eq_some_iff.mp h
      refine WP.iaload (i := 12) d23_24 rfl hx4 ?_
      refine WP.iloadN d23_25 rfl ?_
      rcases ite_e h with ⟨hc5, h⟩ | ⟨hc5, h⟩
      ·
        refine WP.icmpN d23_26 (XT.ii_ne_f hc5) ?_
        refine WP.iloadN d23_29 rfl ?_
        cases h
        exact WP.ireturn d23_30 rfl (leb rfl) (leb rfl) ⟨rfl, rfl⟩
      ·
        refine WP.icmpY (pc' := 31) d23_26 (XT.ii_ne_t hc5) (by decide) rfl ?_
        exact WP.weak (L' := [.val (.ref 0), .val (.int v1), .val (.int v2)]) ⟨rfl, rfl, rfl, trivial⟩ (ok23_31 l Z a0 hw n0 _ hk2 n v1 v2 s _ h)
    ·
      refine WP.ifY (pc' := 31) d23_16 (XT.i0_le_t hc3) (by decide) rfl ?_
      exact WP.weak (L' := [.val (.ref 0), .val (.int v1), .val (.int v2)]) ⟨rfl, rfl, rfl, trivial⟩ (ok23_31 l Z a0 hw n0 _ hk2 n v1 v2 s _ h)
  ·
    refine WP.icmpY (pc' := 37) d23_7 (XT.ii_ge_t hc1) (by decide) rfl ?_
    refine WP.iconst (-1 : Int32) d23_37 rfl ?_
    cases h
    exact WP.ireturn d23_38 rfl (leb rfl) (leb rfl) ⟨rfl, rfl⟩
def f_firstMissAt_2 : Nat → Int32 → Int32 → St → Option (Int32)
  | 0 => fun _ _ _ => none
  | n + 1 => g_firstMissAt_2 (f_firstMissAt_2 n) n
theorem ok23_2 (l : Launch) (Z : State) (a0 : Array Value) (hw : HW a0 Z) (n0 : Nat) : ∀ (n : Nat) (v1 : Int32) (v2 : Int32) (s : St) (r : Int32), f_firstMissAt_2 n v1 v2 s = some r → W23 l Z n0 (P23 s r) 0 0 2 [.val (.ref 0), .val (.int v1), .val (.int v2)] [] (Hb 0 s)
  | 0, v1, v2, s, r, h => nomatch (show none = some r from h)
  | n + 1, v1, v2, s, r, h => okg23_2 l Z a0 hw n0 _ (ok23_2 l Z a0 hw n0 n) n v1 v2 s r h
def f_firstMissAt (n : Nat) (p1 : Int32) (s : St) : Option (Int32) :=
  f_firstMissAt_2 n p1 (0 : Int32) s
set_option maxRecDepth 65536 in
set_option maxHeartbeats 4000000 in
theorem ok23 (l : Launch) (Z : State) (a0 : Array Value) (hw : HW a0 Z) (n : Nat) (p1 : Int32) (s : St) (r : Int32) (h : f_firstMissAt n p1 s = some r) : CS l Z CN lay y23 prog_1_method_37_code 3 (some FieldType.int) R23 0 [.ref 0, .int p1] (Hb 0 s) (P23 s r) := by
  refine CS.of_wp pn_cls (leb rfl) fun n0 => ?_
  show W23 l Z n0 (P23 s r) 0 0 0 [.val (.ref 0), .val (.int p1), .unset] [] (Hb 0 s)
  unfold f_firstMissAt at h
  refine WP.iconst (0 : Int32) d23_0 rfl ?_
  refine WP.istoreN (L' := [.val (.ref 0), .val (.int p1), .val (.int (0 : Int32))]) d23_1 (leb rfl) rfl ?_
  exact WP.weak (L' := [.val (.ref 0), .val (.int p1), .val (.int (0 : Int32))]) ⟨rfl, rfl, rfl, trivial⟩ (ok23_2 l Z a0 hw n0 n p1 (0 : Int32) s _ h)
theorem d27_0 : dc prog_1_method_36_code 0 (.aload_n 0) 1 := by decide +kernel
theorem d27_1 : dc prog_1_method_36_code 1 (.iload_n 1) 1 := by decide +kernel
theorem d27_2 : dc prog_1_method_36_code 2 (.putfield 76) 3 := by decide +kernel
theorem d27_5 : dc prog_1_method_36_code 5 (.aload_n 0) 1 := by decide +kernel
theorem d27_6 : dc prog_1_method_36_code 6 (.iload_n 2) 1 := by decide +kernel
theorem d27_7 : dc prog_1_method_36_code 7 (.putfield 79) 3 := by decide +kernel
theorem d27_10 : dc prog_1_method_36_code 10 (.aload_n 0) 1 := by decide +kernel
theorem d27_11 : dc prog_1_method_36_code 11 (.iload_n 3) 1 := by decide +kernel
theorem d27_12 : dc prog_1_method_36_code 12 (.putfield 82) 3 := by decide +kernel
theorem d27_15 : dc prog_1_method_36_code 15 (.return_) 1 := by decide +kernel
abbrev y27 : MethodName := ⟨"DemandGate", "recordRun", "(III)V"⟩
theorem hy27 : y27.cls ≠ "java/lang/invoke/MethodHandle" ∧ y27.cls ≠ "java/lang/invoke/VarHandle" := by decide
theorem pd27 : parseMethodDescriptor y27.desc = some ⟨[.int, .int, .int], none⟩ := by decide +kernel
abbrev R27 : Room := { frames := 0, cells := 0, slots := 0, locals := 0 }
abbrev P27 (r : St) : Option Value → List OwnC → Prop := fun v H' => v = none ∧ H' = (Hb 0 r)
abbrev W27 (l : Launch) (Z : State) (n0 : Nat) (Q : Option Value → List OwnC → Prop) (k n pc : Nat) (L : List Slot) (S : List Value) (H : List OwnC) : Prop := WP l Z CN lay "DemandGate" "recordRun" prog_1_method_36_code 4 (none) R27 n0 0 Q k n pc L S H
def f_recordRun (p1 : Int32) (p2 : Int32) (p3 : Int32) (s : St) : Option (St) :=
  lt (sI s 8 p1) fun s1 =>
  lt (sI s1 9 p2) fun s2 =>
  lt (sI s2 10 p3) fun s3 =>
  some s3
set_option maxRecDepth 65536 in
set_option maxHeartbeats 4000000 in
theorem ok27 (l : Launch) (Z : State) (a0 : Array Value) (hw : HW a0 Z) (p1 : Int32) (p2 : Int32) (p3 : Int32) (s : St) (r : St) (h : f_recordRun p1 p2 p3 s = some r) : CS l Z CN lay y27 prog_1_method_36_code 4 (none) R27 0 [.ref 0, .int p1, .int p2, .int p3] (Hb 0 s) (P27 r) := by
  refine CS.of_wp pn_cls (leb rfl) fun n0 => ?_
  show W27 l Z n0 (P27 r) 0 0 0 [.val (.ref 0), .val (.int p1), .val (.int p2), .val (.int p3)] [] (Hb 0 s)
  unfold f_recordRun at h
  refine WP.aloadN d27_0 rfl ?_
  refine WP.iloadN d27_1 rfl ?_
  obtain ⟨s1, es1, h⟩ := lt_e h
  refine WP.putI (i := 0) (j := 14) (H' := (Hb 0 s1)) d27_2 (hw _ m_54) (Or.inl (hw _ m_55)) (hw _ m_1) (hlay hw) rfl rfl rfl (leb rfl) (by subst es1; rfl) ?_
  refine WP.aloadN d27_5 rfl ?_
  refine WP.iloadN d27_6 rfl ?_
  obtain ⟨s2, es2, h⟩ := lt_e h
  refine WP.putI (i := 0) (j := 15) (H' := (Hb 0 s2)) d27_7 (hw _ m_56) (Or.inl (hw _ m_57)) (hw _ m_1) (hlay hw) rfl rfl rfl (leb rfl) (by subst es2; rfl) ?_
  refine WP.aloadN d27_10 rfl ?_
  refine WP.iloadN d27_11 rfl ?_
  obtain ⟨s3, es3, h⟩ := lt_e h
  refine WP.putI (i := 0) (j := 16) (H' := (Hb 0 s3)) d27_12 (hw _ m_58) (Or.inl (hw _ m_59)) (hw _ m_1) (hlay hw) rfl rfl rfl (leb rfl) (by subst es3; rfl) ?_
  cases h
  exact WP.vreturn d27_15 rfl (leb rfl) (leb rfl) ⟨rfl, rfl⟩
theorem d24_0 : dc prog_1_method_38_code 0 (.iconst 0) 1 := by decide +kernel
theorem d24_1 : dc prog_1_method_38_code 1 (.istore_n 2) 1 := by decide +kernel
theorem d24_2 : dc prog_1_method_38_code 2 (.iload_n 2) 1 := by decide +kernel
theorem d24_3 : dc prog_1_method_38_code 3 (.aload_n 0) 1 := by decide +kernel
theorem d24_4 : dc prog_1_method_38_code 4 (.getfield 85) 3 := by decide +kernel
theorem d24_7 : dc prog_1_method_38_code 7 (.if_icmp .ge 55) 3 := by decide +kernel
theorem d24_10 : dc prog_1_method_38_code 10 (.aload_n 0) 1 := by decide +kernel
theorem d24_11 : dc prog_1_method_38_code 11 (.getfield 34) 3 := by decide +kernel
theorem d24_14 : dc prog_1_method_38_code 14 (.iload_n 2) 1 := by decide +kernel
theorem d24_15 : dc prog_1_method_38_code 15 (.iaload) 1 := by decide +kernel
theorem d24_16 : dc prog_1_method_38_code 16 (.ifCond .le 40) 3 := by decide +kernel
theorem d24_19 : dc prog_1_method_38_code 19 (.iload_n 1) 1 := by decide +kernel
theorem d24_20 : dc prog_1_method_38_code 20 (.aload_n 0) 1 := by decide +kernel
theorem d24_21 : dc prog_1_method_38_code 21 (.getfield 34) 3 := by decide +kernel
theorem d24_24 : dc prog_1_method_38_code 24 (.iload_n 2) 1 := by decide +kernel
theorem d24_25 : dc prog_1_method_38_code 25 (.iaload) 1 := by decide +kernel
theorem d24_26 : dc prog_1_method_38_code 26 (.irem) 1 := by decide +kernel
theorem d24_27 : dc prog_1_method_38_code 27 (.ifCond .ne 29) 3 := by decide +kernel
theorem d24_30 : dc prog_1_method_38_code 30 (.aload_n 0) 1 := by decide +kernel
theorem d24_31 : dc prog_1_method_38_code 31 (.getfield 40) 3 := by decide +kernel
theorem d24_34 : dc prog_1_method_38_code 34 (.iload_n 2) 1 := by decide +kernel
theorem d24_35 : dc prog_1_method_38_code 35 (.aload_n 0) 1 := by decide +kernel
theorem d24_36 : dc prog_1_method_38_code 36 (.getfield 28) 3 := by decide +kernel
theorem d24_39 : dc prog_1_method_38_code 39 (.iload_n 2) 1 := by decide +kernel
theorem d24_40 : dc prog_1_method_38_code 40 (.iaload) 1 := by decide +kernel
theorem d24_41 : dc prog_1_method_38_code 41 (.iastore) 1 := by decide +kernel
theorem d24_42 : dc prog_1_method_38_code 42 (.aload_n 0) 1 := by decide +kernel
theorem d24_43 : dc prog_1_method_38_code 43 (.getfield 43) 3 := by decide +kernel
theorem d24_46 : dc prog_1_method_38_code 46 (.iload_n 2) 1 := by decide +kernel
theorem d24_47 : dc prog_1_method_38_code 47 (.iload_n 1) 1 := by decide +kernel
theorem d24_48 : dc prog_1_method_38_code 48 (.aload_n 0) 1 := by decide +kernel
theorem d24_49 : dc prog_1_method_38_code 49 (.getfield 31) 3 := by decide +kernel
theorem d24_52 : dc prog_1_method_38_code 52 (.iload_n 2) 1 := by decide +kernel
theorem d24_53 : dc prog_1_method_38_code 53 (.iaload) 1 := by decide +kernel
theorem d24_54 : dc prog_1_method_38_code 54 (.iadd) 1 := by decide +kernel
theorem d24_55 : dc prog_1_method_38_code 55 (.iastore) 1 := by decide +kernel
theorem d24_56 : dc prog_1_method_38_code 56 (.iinc 2 1) 3 := by decide +kernel
theorem d24_59 : dc prog_1_method_38_code 59 (.goto (-57)) 3 := by decide +kernel
theorem d24_62 : dc prog_1_method_38_code 62 (.return_) 1 := by decide +kernel
abbrev y24 : MethodName := ⟨"DemandGate", "releaseAt", "(I)V"⟩
theorem hy24 : y24.cls ≠ "java/lang/invoke/MethodHandle" ∧ y24.cls ≠ "java/lang/invoke/VarHandle" := by decide
theorem pd24 : parseMethodDescriptor y24.desc = some ⟨[.int], none⟩ := by decide +kernel
abbrev R24 : Room := { frames := 0, cells := 0, slots := 0, locals := 0 }
abbrev P24 (r : St) : Option Value → List OwnC → Prop := fun v H' => v = none ∧ H' = (Hb 0 r)
abbrev W24 (l : Launch) (Z : State) (n0 : Nat) (Q : Option Value → List OwnC → Prop) (k n pc : Nat) (L : List Slot) (S : List Value) (H : List OwnC) : Prop := WP l Z CN lay "DemandGate" "releaseAt" prog_1_method_38_code 3 (none) R24 n0 0 Q k n pc L S H
def f_releaseAt_56 (k2 : Int32 → Int32 → St → Option (St)) (n : Nat) (v1 : Int32) (v2 : Int32) (s : St) : Option (St) :=
  lt (v2 + (1 : Int32)) fun x1 =>
  k2 v1 x1 s
set_option maxRecDepth 65536 in
set_option maxHeartbeats 4000000 in
theorem ok24_56 (l : Launch) (Z : State) (a0 : Array Value) (hw : HW a0 Z) (n0 : Nat) (k2 : Int32 → Int32 → St → Option (St)) (hk2 : ∀ (v1 : Int32) (v2 : Int32) (s : St) (r : St), k2 v1 v2 s = some r → W24 l Z n0 (P24 r) 0 0 2 [.val (.ref 0), .val (.int v1), .val (.int v2)] [] (Hb 0 s)) (n : Nat) (v1 : Int32) (v2 : Int32) (s : St) (r : St) (h : f_releaseAt_56 k2 n v1 v2 s = some r) : W24 l Z n0 (P24 r) 0 0 56 [.val (.ref 0), .val (.int v1), .val (.int v2)] [] (Hb 0 s) := by
  unfold f_releaseAt_56 at h
  obtain ⟨x1, ex1, h⟩ := lt_e h
  refine WP.iinc (L' := [.val (.ref 0), .val (.int v1), .val (.int x1)]) (1 : Int32) d24_56 rfl rfl (by subst ex1; rfl) ?_
  refine WP.goto (pc' := 2) d24_59 (by decide) rfl ?_
  exact WP.weak (L' := [.val (.ref 0), .val (.int v1), .val (.int x1)]) ⟨rfl, rfl, rfl, trivial⟩ (hk2 v1 x1 s _ h)
def g_releaseAt_2 (k2 : Int32 → Int32 → St → Option (St)) (n : Nat) (v1 : Int32) (v2 : Int32) (s : St) : Option (St) :=
  if v2 < (gI s 11) then
    (rd (gA s 8) v2).bind fun x2 =>
    if 0 < x2 then
      (rd (gA s 8) v2).bind fun x4 =>
      if x4 = 0 then none else
      if (v1 % x4) = 0 then
        (rd (gA s 6) v2).bind fun x7 =>
        (wrA s 10 v2 x7).bind fun s8 =>
        (rd (gA s8 7) v2).bind fun x9 =>
        (wrA s8 11 v2 (v1 + x9)).bind fun s10 =>
        f_releaseAt_56 k2 n v1 v2 s10
      else
        f_releaseAt_56 k2 n v1 v2 s
    else
      f_releaseAt_56 k2 n v1 v2 s
  else
    some s
set_option maxRecDepth 65536 in
set_option maxHeartbeats 4000000 in
theorem okg24_2 (l : Launch) (Z : State) (a0 : Array Value) (hw : HW a0 Z) (n0 : Nat) (k2 : Int32 → Int32 → St → Option (St)) (hk2 : ∀ (v1 : Int32) (v2 : Int32) (s : St) (r : St), k2 v1 v2 s = some r → W24 l Z n0 (P24 r) 0 0 2 [.val (.ref 0), .val (.int v1), .val (.int v2)] [] (Hb 0 s)) (n : Nat) (v1 : Int32) (v2 : Int32) (s : St) (r : St) (h : g_releaseAt_2 k2 n v1 v2 s = some r) : W24 l Z n0 (P24 r) 0 0 2 [.val (.ref 0), .val (.int v1), .val (.int v2)] [] (Hb 0 s) := by
  unfold g_releaseAt_2 at h
  refine WP.iloadN d24_2 rfl ?_
  refine WP.aloadN d24_3 rfl ?_
  refine WP.getfield (i := 0) (j := 20) d24_4 (hw _ m_60) rfl rfl rfl ?_
  rcases ite_e h with ⟨hc1, h⟩ | ⟨hc1, h⟩
  ·
    refine WP.icmpN d24_7 (XT.ii_ge_f hc1) ?_
    refine WP.aloadN d24_10 rfl ?_
    refine WP.getfield (i := 0) (j := 19) d24_11 (hw _ m_26) rfl rfl rfl ?_
    refine WP.iloadN d24_14 rfl ?_
    obtain ⟨x2, hx2, h⟩ := Option.bind_eq_some_iff.mp h
    refine WP.iaload (i := 9) d24_15 rfl hx2 ?_
    rcases ite_e h with ⟨hc3, h⟩ | ⟨hc3, h⟩
    ·
      refine WP.ifN d24_16 (XT.i0_le_f hc3) ?_
      refine WP.iloadN d24_19 rfl ?_
      refine WP.aloadN d24_20 rfl ?_
      refine WP.getfield (i := 0) (j := 19) d24_21 (hw _ m_26) rfl rfl rfl ?_
      refine WP.iloadN d24_24 rfl ?_
      obtain ⟨x4, hx4, h⟩ := Option.bind_eq_some_iff.mp h
      refine WP.iaload (i := 9) d24_25 rfl hx4 ?_
      obtain ⟨hz5, h⟩ := nz_e h
      refine WP.irem d24_26 hz5 ?_
      rcases ite_e h with ⟨hc6, h⟩ | ⟨hc6, h⟩
      ·
        refine WP.ifN d24_27 (XT.i0_ne_f hc6) ?_
        refine WP.aloadN d24_30 rfl ?_
        refine WP.getfield (i := 0) (j := 22) d24_31 (hw _ m_30) rfl rfl rfl ?_
        refine WP.iloadN d24_34 rfl ?_
        refine WP.aloadN d24_35 rfl ?_
        refine WP.getfield (i := 0) (j := 17) d24_36 (hw _ m_22) rfl rfl rfl ?_
        refine WP.iloadN d24_39 rfl ?_
        obtain ⟨x7, hx7, h⟩ := Option.bind_eq_some_iff.mp h
        refine WP.iaload (i := 7) d24_40 rfl hx7 ?_
        obtain ⟨s8, hs8, h⟩ := Option.bind_eq_some_iff.mp h
        obtain ⟨ys8, gs8, es8⟩ := wrA_e hs8
        refine WP.iastore (i := 11) (xs := gA s 10) (H' := (Hb 0 s8)) d24_41 rfl (leb rfl) gs8 (by subst es8; rfl) ?_
        refine WP.aloadN d24_42 rfl ?_
        refine WP.getfield (i := 0) (j := 23) d24_43 (hw _ m_32) rfl rfl rfl ?_
        refine WP.iloadN d24_46 rfl ?_
        refine WP.iloadN d24_47 rfl ?_
        refine WP.aloadN d24_48 rfl ?_
        refine WP.getfield (i := 0) (j := 18) d24_49 (hw _ m_24) rfl rfl rfl ?_
        refine WP.iloadN d24_52 rfl ?_
        obtain ⟨x9, hx9, h⟩ := Option.bind_eq_some_iff.mp h
        refine WP.iaload (i := 8) d24_53 rfl hx9 ?_
        refine WP.iadd d24_54 ?_
        obtain ⟨s10, hs10, h⟩ := Option.bind_eq_some_iff.mp h
        obtain ⟨ys10, gs10, es10⟩ := wrA_e hs10
        refine WP.iastore (i := 12) (xs := gA s8 11) (H' := (Hb 0 s10)) d24_55 rfl (leb rfl) gs10 (by subst es10; rfl) ?_
        exact WP.weak (L' := [.val (.ref 0), .val (.int v1), .val (.int v2)]) ⟨rfl, rfl, rfl, trivial⟩ (ok24_56 l Z a0 hw n0 _ hk2 n v1 v2 s10 _ h)
      ·
        refine WP.ifY (pc' := 56) d24_27 (XT.i0_ne_t hc6) (by decide) rfl ?_
        exact WP.weak (L' := [.val (.ref 0), .val (.int v1), .val (.int v2)]) ⟨rfl, rfl, rfl, trivial⟩ (ok24_56 l Z a0 hw n0 _ hk2 n v1 v2 s _ h)
    ·
      refine WP.ifY (pc' := 56) d24_16 (XT.i0_le_t hc3) (by decide) rfl ?_
      exact WP.weak (L' := [.val (.ref 0), .val (.int v1), .val (.int v2)]) ⟨rfl, rfl, rfl, trivial⟩ (ok24_56 l Z a0 hw n0 _ hk2 n v1 v2 s _ h)
  ·
    refine WP.icmpY (pc' := 62) d24_7 (XT.ii_ge_t hc1) (by decide) rfl ?_
    cases h
    exact WP.vreturn d24_62 rfl (leb rfl) (leb rfl) ⟨rfl, rfl⟩
def f_releaseAt_2 : Nat → Int32 → Int32 → St → Option (St)
  | 0 => fun _ _ _ => none
  | n + 1 => g_releaseAt_2 (f_releaseAt_2 n) n
theorem ok24_2 (l : Launch) (Z : State) (a0 : Array Value) (hw : HW a0 Z) (n0 : Nat) : ∀ (n : Nat) (v1 : Int32) (v2 : Int32) (s : St) (r : St), f_releaseAt_2 n v1 v2 s = some r → W24 l Z n0 (P24 r) 0 0 2 [.val (.ref 0), .val (.int v1), .val (.int v2)] [] (Hb 0 s)
  | 0, v1, v2, s, r, h => nomatch (show none = some r from h)
  | n + 1, v1, v2, s, r, h => okg24_2 l Z a0 hw n0 _ (ok24_2 l Z a0 hw n0 n) n v1 v2 s r h
def f_releaseAt (n : Nat) (p1 : Int32) (s : St) : Option (St) :=
  f_releaseAt_2 n p1 (0 : Int32) s
set_option maxRecDepth 65536 in
set_option maxHeartbeats 4000000 in
theorem ok24 (l : Launch) (Z : State) (a0 : Array Value) (hw : HW a0 Z) (n : Nat) (p1 : Int32) (s : St) (r : St) (h : f_releaseAt n p1 s = some r) : CS l Z CN lay y24 prog_1_method_38_code 3 (none) R24 0 [.ref 0, .int p1] (Hb 0 s) (P24 r) := by
  refine CS.of_wp pn_cls (leb rfl) fun n0 => ?_
  show W24 l Z n0 (P24 r) 0 0 0 [.val (.ref 0), .val (.int p1), .unset] [] (Hb 0 s)
  unfold f_releaseAt at h
  refine WP.iconst (0 : Int32) d24_0 rfl ?_
  refine WP.istoreN (L' := [.val (.ref 0), .val (.int p1), .val (.int (0 : Int32))]) d24_1 (leb rfl) rfl ?_
  exact WP.weak (L' := [.val (.ref 0), .val (.int p1), .val (.int (0 : Int32))]) ⟨rfl, rfl, rfl, trivial⟩ (ok24_2 l Z a0 hw n0 n p1 (0 : Int32) s _ h)
theorem d25_0 : dc prog_1_method_39_code 0 (.iconst (-1)) 1 := by decide +kernel
theorem d25_1 : dc prog_1_method_39_code 1 (.istore_n 1) 1 := by decide +kernel
theorem d25_2 : dc prog_1_method_39_code 2 (.iconst 0) 1 := by decide +kernel
theorem d25_3 : dc prog_1_method_39_code 3 (.istore_n 2) 1 := by decide +kernel
theorem d25_4 : dc prog_1_method_39_code 4 (.iload_n 2) 1 := by decide +kernel
theorem d25_5 : dc prog_1_method_39_code 5 (.aload_n 0) 1 := by decide +kernel
theorem d25_6 : dc prog_1_method_39_code 6 (.getfield 85) 3 := by decide +kernel
theorem d25_9 : dc prog_1_method_39_code 9 (.if_icmp .ge 39) 3 := by decide +kernel
theorem d25_12 : dc prog_1_method_39_code 12 (.aload_n 0) 1 := by decide +kernel
theorem d25_13 : dc prog_1_method_39_code 13 (.getfield 40) 3 := by decide +kernel
theorem d25_16 : dc prog_1_method_39_code 16 (.iload_n 2) 1 := by decide +kernel
theorem d25_17 : dc prog_1_method_39_code 17 (.iaload) 1 := by decide +kernel
theorem d25_18 : dc prog_1_method_39_code 18 (.ifCond .le 24) 3 := by decide +kernel
theorem d25_21 : dc prog_1_method_39_code 21 (.iload_n 1) 1 := by decide +kernel
theorem d25_22 : dc prog_1_method_39_code 22 (.ifCond .lt 18) 3 := by decide +kernel
theorem d25_25 : dc prog_1_method_39_code 25 (.aload_n 0) 1 := by decide +kernel
theorem d25_26 : dc prog_1_method_39_code 26 (.getfield 43) 3 := by decide +kernel
theorem d25_29 : dc prog_1_method_39_code 29 (.iload_n 2) 1 := by decide +kernel
theorem d25_30 : dc prog_1_method_39_code 30 (.iaload) 1 := by decide +kernel
theorem d25_31 : dc prog_1_method_39_code 31 (.aload_n 0) 1 := by decide +kernel
theorem d25_32 : dc prog_1_method_39_code 32 (.getfield 43) 3 := by decide +kernel
theorem d25_35 : dc prog_1_method_39_code 35 (.iload_n 1) 1 := by decide +kernel
theorem d25_36 : dc prog_1_method_39_code 36 (.iaload) 1 := by decide +kernel
theorem d25_37 : dc prog_1_method_39_code 37 (.if_icmp .ge 5) 3 := by decide +kernel
theorem d25_40 : dc prog_1_method_39_code 40 (.iload_n 2) 1 := by decide +kernel
theorem d25_41 : dc prog_1_method_39_code 41 (.istore_n 1) 1 := by decide +kernel
theorem d25_42 : dc prog_1_method_39_code 42 (.iinc 2 1) 3 := by decide +kernel
theorem d25_45 : dc prog_1_method_39_code 45 (.goto (-41)) 3 := by decide +kernel
theorem d25_48 : dc prog_1_method_39_code 48 (.iload_n 1) 1 := by decide +kernel
theorem d25_49 : dc prog_1_method_39_code 49 (.ifCond .ge 5) 3 := by decide +kernel
theorem d25_52 : dc prog_1_method_39_code 52 (.iconst 0) 1 := by decide +kernel
theorem d25_53 : dc prog_1_method_39_code 53 (.ireturn) 1 := by decide +kernel
theorem d25_54 : dc prog_1_method_39_code 54 (.aload_n 0) 1 := by decide +kernel
theorem d25_55 : dc prog_1_method_39_code 55 (.getfield 40) 3 := by decide +kernel
theorem d25_58 : dc prog_1_method_39_code 58 (.iload_n 1) 1 := by decide +kernel
theorem d25_59 : dc prog_1_method_39_code 59 (.aload_n 0) 1 := by decide +kernel
theorem d25_60 : dc prog_1_method_39_code 60 (.getfield 40) 3 := by decide +kernel
theorem d25_63 : dc prog_1_method_39_code 63 (.iload_n 1) 1 := by decide +kernel
theorem d25_64 : dc prog_1_method_39_code 64 (.iaload) 1 := by decide +kernel
theorem d25_65 : dc prog_1_method_39_code 65 (.iconst 1) 1 := by decide +kernel
theorem d25_66 : dc prog_1_method_39_code 66 (.isub) 1 := by decide +kernel
theorem d25_67 : dc prog_1_method_39_code 67 (.iastore) 1 := by decide +kernel
theorem d25_68 : dc prog_1_method_39_code 68 (.iconst 1) 1 := by decide +kernel
theorem d25_69 : dc prog_1_method_39_code 69 (.ireturn) 1 := by decide +kernel
abbrev y25 : MethodName := ⟨"DemandGate", "dispatchSlot", "()Z"⟩
theorem hy25 : y25.cls ≠ "java/lang/invoke/MethodHandle" ∧ y25.cls ≠ "java/lang/invoke/VarHandle" := by decide
theorem pd25 : parseMethodDescriptor y25.desc = some ⟨[], some .boolean⟩ := by decide +kernel
abbrev R25 : Room := { frames := 0, cells := 0, slots := 0, locals := 0 }
abbrev P25 (r : Int32 × St) : Option Value → List OwnC → Prop := fun v H' => v = some (.int r.1) ∧ H' = (Hb 0 r.2)
abbrev W25 (l : Launch) (Z : State) (n0 : Nat) (Q : Option Value → List OwnC → Prop) (k n pc : Nat) (L : List Slot) (S : List Value) (H : List OwnC) : Prop := WP l Z CN lay "DemandGate" "dispatchSlot" prog_1_method_39_code 3 (some FieldType.boolean) R25 n0 0 Q k n pc L S H
def f_dispatchSlot_42 (k4 : Int32 → Int32 → St → Option (Int32 × St)) (n : Nat) (v1 : Int32) (v2 : Int32) (s : St) : Option (Int32 × St) :=
  lt (v2 + (1 : Int32)) fun x1 =>
  k4 v1 x1 s
set_option maxRecDepth 65536 in
set_option maxHeartbeats 4000000 in
theorem ok25_42 (l : Launch) (Z : State) (a0 : Array Value) (hw : HW a0 Z) (n0 : Nat) (k4 : Int32 → Int32 → St → Option (Int32 × St)) (hk4 : ∀ (v1 : Int32) (v2 : Int32) (s : St) (r : Int32 × St), k4 v1 v2 s = some r → W25 l Z n0 (P25 r) 0 0 4 [.val (.ref 0), .val (.int v1), .val (.int v2)] [] (Hb 0 s)) (n : Nat) (v1 : Int32) (v2 : Int32) (s : St) (r : Int32 × St) (h : f_dispatchSlot_42 k4 n v1 v2 s = some r) : W25 l Z n0 (P25 r) 0 0 42 [.val (.ref 0), .val (.int v1), .val (.int v2)] [] (Hb 0 s) := by
  unfold f_dispatchSlot_42 at h
  obtain ⟨x1, ex1, h⟩ := lt_e h
  refine WP.iinc (L' := [.val (.ref 0), .val (.int v1), .val (.int x1)]) (1 : Int32) d25_42 rfl rfl (by subst ex1; rfl) ?_
  refine WP.goto (pc' := 4) d25_45 (by decide) rfl ?_
  exact WP.weak (L' := [.val (.ref 0), .val (.int v1), .val (.int x1)]) ⟨rfl, rfl, rfl, trivial⟩ (hk4 v1 x1 s _ h)
def f_dispatchSlot_40 (k4 : Int32 → Int32 → St → Option (Int32 × St)) (n : Nat) (v2 : Int32) (s : St) : Option (Int32 × St) :=
  f_dispatchSlot_42 k4 n v2 v2 s
set_option maxRecDepth 65536 in
set_option maxHeartbeats 4000000 in
theorem ok25_40 (l : Launch) (Z : State) (a0 : Array Value) (hw : HW a0 Z) (n0 : Nat) (k4 : Int32 → Int32 → St → Option (Int32 × St)) (hk4 : ∀ (v1 : Int32) (v2 : Int32) (s : St) (r : Int32 × St), k4 v1 v2 s = some r → W25 l Z n0 (P25 r) 0 0 4 [.val (.ref 0), .val (.int v1), .val (.int v2)] [] (Hb 0 s)) (n : Nat) (v2 : Int32) (s : St) (r : Int32 × St) (h : f_dispatchSlot_40 k4 n v2 s = some r) : W25 l Z n0 (P25 r) 0 0 40 [.val (.ref 0), .unset, .val (.int v2)] [] (Hb 0 s) := by
  unfold f_dispatchSlot_40 at h
  refine WP.iloadN d25_40 rfl ?_
  refine WP.istoreN (L' := [.val (.ref 0), .val (.int v2), .val (.int v2)]) d25_41 (leb rfl) rfl ?_
  exact WP.weak (L' := [.val (.ref 0), .val (.int v2), .val (.int v2)]) ⟨rfl, rfl, rfl, trivial⟩ (ok25_42 l Z a0 hw n0 _ hk4 n v2 v2 s _ h)
def g_dispatchSlot_4 (k4 : Int32 → Int32 → St → Option (Int32 × St)) (n : Nat) (v1 : Int32) (v2 : Int32) (s : St) : Option (Int32 × St) :=
  if v2 < (gI s 11) then
    (rd (gA s 10) v2).bind fun x2 =>
    if 0 < x2 then
      if v1 < 0 then
        f_dispatchSlot_40 k4 n v2 s
      else
        (rd (gA s 11) v2).bind fun x5 =>
        (rd (gA s 11) v1).bind fun x6 =>
        if x5 < x6 then
          f_dispatchSlot_40 k4 n v2 s
        else
          f_dispatchSlot_42 k4 n v1 v2 s
    else
      f_dispatchSlot_42 k4 n v1 v2 s
  else
    if v1 < 0 then
      some ((0 : Int32), s)
    else
      (rd (gA s 10) v1).bind fun x9 =>
      (wrA s 10 v1 (x9 - (1 : Int32))).bind fun s10 =>
      some ((1 : Int32), s10)
set_option maxRecDepth 65536 in
set_option maxHeartbeats 4000000 in
theorem okg25_4 (l : Launch) (Z : State) (a0 : Array Value) (hw : HW a0 Z) (n0 : Nat) (k4 : Int32 → Int32 → St → Option (Int32 × St)) (hk4 : ∀ (v1 : Int32) (v2 : Int32) (s : St) (r : Int32 × St), k4 v1 v2 s = some r → W25 l Z n0 (P25 r) 0 0 4 [.val (.ref 0), .val (.int v1), .val (.int v2)] [] (Hb 0 s)) (n : Nat) (v1 : Int32) (v2 : Int32) (s : St) (r : Int32 × St) (h : g_dispatchSlot_4 k4 n v1 v2 s = some r) : W25 l Z n0 (P25 r) 0 0 4 [.val (.ref 0), .val (.int v1), .val (.int v2)] [] (Hb 0 s) := by
  unfold g_dispatchSlot_4 at h
  refine WP.iloadN d25_4 rfl ?_
  refine WP.aloadN d25_5 rfl ?_
  refine WP.getfield (i := 0) (j := 20) d25_6 (hw _ m_60) rfl rfl rfl ?_
  rcases ite_e h with ⟨hc1, h⟩ | ⟨hc1, h⟩
  ·
    refine WP.icmpN d25_9 (XT.ii_ge_f hc1) ?_
    refine WP.aloadN d25_12 rfl ?_
    refine WP.getfield (i := 0) (j := 22) d25_13 (hw _ m_30) rfl rfl rfl ?_
    refine WP.iloadN d25_16 rfl ?_
    obtain ⟨x2, hx2, h⟩ := Option.bind_eq_some_iff.mp h
    refine WP.iaload (i := 11) d25_17 rfl hx2 ?_
    rcases ite_e h with ⟨hc3, h⟩ | ⟨hc3, h⟩
    ·
      refine WP.ifN d25_18 (XT.i0_le_f hc3) ?_
      refine WP.iloadN d25_21 rfl ?_
      rcases ite_e h with ⟨hc4, h⟩ | ⟨hc4, h⟩
      ·
        refine WP.ifY (pc' := 40) d25_22 (XT.i0_lt_t hc4) (by decide) rfl ?_
        exact WP.weak (L' := [.val (.ref 0), .unset, .val (.int v2)]) ⟨rfl, rfl, trivial⟩ (ok25_40 l Z a0 hw n0 _ hk4 n v2 s _ h)
      ·
        refine WP.ifN d25_22 (XT.i0_lt_f hc4) ?_
        refine WP.aloadN d25_25 rfl ?_
        refine WP.getfield (i := 0) (j := 23) d25_26 (hw _ m_32) rfl rfl rfl ?_
        refine WP.iloadN d25_29 rfl ?_
        obtain ⟨x5, hx5, h⟩ := Option.bind_eq_some_iff.mp h
        refine WP.iaload (i := 12) d25_30 rfl hx5 ?_
        refine WP.aloadN d25_31 rfl ?_
        refine WP.getfield (i := 0) (j := 23) d25_32 (hw _ m_32) rfl rfl rfl ?_
        refine WP.iloadN d25_35 rfl ?_
        obtain ⟨x6, hx6, h⟩ := Option.bind_eq_some_iff.mp h
        refine WP.iaload (i := 12) d25_36 rfl hx6 ?_
        rcases ite_e h with ⟨hc7, h⟩ | ⟨hc7, h⟩
        ·
          refine WP.icmpN d25_37 (XT.ii_ge_f hc7) ?_
          exact WP.weak (L' := [.val (.ref 0), .unset, .val (.int v2)]) ⟨rfl, rfl, trivial⟩ (ok25_40 l Z a0 hw n0 _ hk4 n v2 s _ h)
        ·
          refine WP.icmpY (pc' := 42) d25_37 (XT.ii_ge_t hc7) (by decide) rfl ?_
          exact WP.weak (L' := [.val (.ref 0), .val (.int v1), .val (.int v2)]) ⟨rfl, rfl, rfl, trivial⟩ (ok25_42 l Z a0 hw n0 _ hk4 n v1 v2 s _ h)
    ·
      refine WP.ifY (pc' := 42) d25_18 (XT.i0_le_t hc3) (by decide) rfl ?_
      exact WP.weak (L' := [.val (.ref 0), .val (.int v1), .val (.int v2)]) ⟨rfl, rfl, rfl, trivial⟩ (ok25_42 l Z a0 hw n0 _ hk4 n v1 v2 s _ h)
  ·
    refine WP.icmpY (pc' := 48) d25_9 (XT.ii_ge_t hc1) (by decide) rfl ?_
    refine WP.iloadN d25_48 rfl ?_
    rcases ite_e h with ⟨hc8, h⟩ | ⟨hc8, h⟩
    ·
      refine WP.ifN d25_49 (XT.i0_ge_f hc8) ?_
      refine WP.iconst (0 : Int32) d25_52 rfl ?_
      cases h
      exact WP.zreturn d25_53 rfl (leb rfl) (leb rfl) ⟨rfl, rfl⟩
    ·
      refine WP.ifY (pc' := 54) d25_49 (XT.i0_ge_t hc8) (by decide) rfl ?_
      refine WP.aloadN d25_54 rfl ?_
      refine WP.getfield (i := 0) (j := 22) d25_55 (hw _ m_30) rfl rfl rfl ?_
      refine WP.iloadN d25_58 rfl ?_
      refine WP.aloadN d25_59 rfl ?_
      refine WP.getfield (i := 0) (j := 22) d25_60 (hw _ m_30) rfl rfl rfl ?_
      refine WP.iloadN d25_63 rfl ?_
      obtain ⟨x9, hx9, h⟩ := Option.bind_eq_some_iff.mp h
      refine WP.iaload (i := 11) d25_64 rfl hx9 ?_
      refine WP.iconst (1 : Int32) d25_65 rfl ?_
      refine WP.isub d25_66 ?_
      obtain ⟨s10, hs10, h⟩ := Option.bind_eq_some_iff.mp h
      obtain ⟨ys10, gs10, es10⟩ := wrA_e hs10
      refine WP.iastore (i := 11) (xs := gA s 10) (H' := (Hb 0 s10)) d25_67 rfl (leb rfl) gs10 (by subst es10; rfl) ?_
      refine WP.iconst (1 : Int32) d25_68 rfl ?_
      cases h
      exact WP.zreturn d25_69 rfl (leb rfl) (leb rfl) ⟨rfl, rfl⟩
def f_dispatchSlot_4 : Nat → Int32 → Int32 → St → Option (Int32 × St)
  | 0 => fun _ _ _ => none
  | n + 1 => g_dispatchSlot_4 (f_dispatchSlot_4 n) n
theorem ok25_4 (l : Launch) (Z : State) (a0 : Array Value) (hw : HW a0 Z) (n0 : Nat) : ∀ (n : Nat) (v1 : Int32) (v2 : Int32) (s : St) (r : Int32 × St), f_dispatchSlot_4 n v1 v2 s = some r → W25 l Z n0 (P25 r) 0 0 4 [.val (.ref 0), .val (.int v1), .val (.int v2)] [] (Hb 0 s)
  | 0, v1, v2, s, r, h => nomatch (show none = some r from h)
  | n + 1, v1, v2, s, r, h => okg25_4 l Z a0 hw n0 _ (ok25_4 l Z a0 hw n0 n) n v1 v2 s r h
def f_dispatchSlot (n : Nat) (s : St) : Option (Int32 × St) :=
  f_dispatchSlot_4 n (-1 : Int32) (0 : Int32) s
set_option maxRecDepth 65536 in
set_option maxHeartbeats 4000000 in
theorem ok25 (l : Launch) (Z : State) (a0 : Array Value) (hw : HW a0 Z) (n : Nat) (s : St) (r : Int32 × St) (h : f_dispatchSlot n s = some r) : CS l Z CN lay y25 prog_1_method_39_code 3 (some FieldType.boolean) R25 0 [.ref 0] (Hb 0 s) (P25 r) := by
  refine CS.of_wp pn_cls (leb rfl) fun n0 => ?_
  show W25 l Z n0 (P25 r) 0 0 0 [.val (.ref 0), .unset, .unset] [] (Hb 0 s)
  unfold f_dispatchSlot at h
  refine WP.iconst (-1 : Int32) d25_0 rfl ?_
  refine WP.istoreN (L' := [.val (.ref 0), .val (.int (-1 : Int32)), .unset]) d25_1 (leb rfl) rfl ?_
  refine WP.iconst (0 : Int32) d25_2 rfl ?_
  refine WP.istoreN (L' := [.val (.ref 0), .val (.int (-1 : Int32)), .val (.int (0 : Int32))]) d25_3 (leb rfl) rfl ?_
  exact WP.weak (L' := [.val (.ref 0), .val (.int (-1 : Int32)), .val (.int (0 : Int32))]) ⟨rfl, rfl, rfl, trivial⟩ (ok25_4 l Z a0 hw n0 n (-1 : Int32) (0 : Int32) s _ h)
theorem d26_0 : dc prog_1_method_40_code 0 (.iconst 0) 1 := by decide +kernel
theorem d26_1 : dc prog_1_method_40_code 1 (.istore_n 1) 1 := by decide +kernel
theorem d26_2 : dc prog_1_method_40_code 2 (.iload_n 1) 1 := by decide +kernel
theorem d26_3 : dc prog_1_method_40_code 3 (.aload_n 0) 1 := by decide +kernel
theorem d26_4 : dc prog_1_method_40_code 4 (.getfield 85) 3 := by decide +kernel
theorem d26_7 : dc prog_1_method_40_code 7 (.if_icmp .ge 20) 3 := by decide +kernel
theorem d26_10 : dc prog_1_method_40_code 10 (.aload_n 0) 1 := by decide +kernel
theorem d26_11 : dc prog_1_method_40_code 11 (.getfield 40) 3 := by decide +kernel
theorem d26_14 : dc prog_1_method_40_code 14 (.iload_n 1) 1 := by decide +kernel
theorem d26_15 : dc prog_1_method_40_code 15 (.iaload) 1 := by decide +kernel
theorem d26_16 : dc prog_1_method_40_code 16 (.ifCond .le 5) 3 := by decide +kernel
theorem d26_19 : dc prog_1_method_40_code 19 (.iconst 1) 1 := by decide +kernel
theorem d26_20 : dc prog_1_method_40_code 20 (.ireturn) 1 := by decide +kernel
theorem d26_21 : dc prog_1_method_40_code 21 (.iinc 1 1) 3 := by decide +kernel
theorem d26_24 : dc prog_1_method_40_code 24 (.goto (-22)) 3 := by decide +kernel
theorem d26_27 : dc prog_1_method_40_code 27 (.iconst 0) 1 := by decide +kernel
theorem d26_28 : dc prog_1_method_40_code 28 (.ireturn) 1 := by decide +kernel
abbrev y26 : MethodName := ⟨"DemandGate", "anyPending", "()Z"⟩
theorem hy26 : y26.cls ≠ "java/lang/invoke/MethodHandle" ∧ y26.cls ≠ "java/lang/invoke/VarHandle" := by decide
theorem pd26 : parseMethodDescriptor y26.desc = some ⟨[], some .boolean⟩ := by decide +kernel
abbrev R26 : Room := { frames := 0, cells := 0, slots := 0, locals := 0 }
abbrev P26 (s : St) (r : Int32) : Option Value → List OwnC → Prop := fun v H' => v = some (.int r) ∧ H' = (Hb 0 s)
abbrev W26 (l : Launch) (Z : State) (n0 : Nat) (Q : Option Value → List OwnC → Prop) (k n pc : Nat) (L : List Slot) (S : List Value) (H : List OwnC) : Prop := WP l Z CN lay "DemandGate" "anyPending" prog_1_method_40_code 2 (some FieldType.boolean) R26 n0 0 Q k n pc L S H
def g_anyPending_2 (k2 : Int32 → St → Option (Int32)) (n : Nat) (v1 : Int32) (s : St) : Option (Int32) :=
  if v1 < (gI s 11) then
    (rd (gA s 10) v1).bind fun x2 =>
    if 0 < x2 then
      some (1 : Int32)
    else
      lt (v1 + (1 : Int32)) fun x4 =>
      k2 x4 s
  else
    some (0 : Int32)
set_option maxRecDepth 65536 in
set_option maxHeartbeats 4000000 in
theorem okg26_2 (l : Launch) (Z : State) (a0 : Array Value) (hw : HW a0 Z) (n0 : Nat) (k2 : Int32 → St → Option (Int32)) (hk2 : ∀ (v1 : Int32) (s : St) (r : Int32), k2 v1 s = some r → W26 l Z n0 (P26 s r) 0 0 2 [.val (.ref 0), .val (.int v1)] [] (Hb 0 s)) (n : Nat) (v1 : Int32) (s : St) (r : Int32) (h : g_anyPending_2 k2 n v1 s = some r) : W26 l Z n0 (P26 s r) 0 0 2 [.val (.ref 0), .val (.int v1)] [] (Hb 0 s) := by
  unfold g_anyPending_2 at h
  refine WP.iloadN d26_2 rfl ?_
  refine WP.aloadN d26_3 rfl ?_
  refine WP.getfield (i := 0) (j := 20) d26_4 (hw _ m_60) rfl rfl rfl ?_
  rcases ite_e h with ⟨hc1, h⟩ | ⟨hc1, h⟩
  ·
    refine WP.icmpN d26_7 (XT.ii_ge_f hc1) ?_
    refine WP.aloadN d26_10 rfl ?_
    refine WP.getfield (i := 0) (j := 22) d26_11 (hw _ m_30) rfl rfl rfl ?_
    refine WP.iloadN d26_14 rfl ?_
    obtain ⟨x2, hx2, h⟩ := Option.bind_eq_some_iff.mp h
    refine WP.iaload (i := 11) d26_15 rfl hx2 ?_
    rcases ite_e h with ⟨hc3, h⟩ | ⟨hc3, h⟩
    ·
      refine WP.ifN d26_16 (XT.i0_le_f hc3) ?_
      refine WP.iconst (1 : Int32) d26_19 rfl ?_
      cases h
      exact WP.zreturn d26_20 rfl (leb rfl) (leb rfl) ⟨rfl, rfl⟩
    ·
      refine WP.ifY (pc' := 21) d26_16 (XT.i0_le_t hc3) (by decide) rfl ?_
      obtain ⟨x4, ex4, h⟩ := lt_e h
      refine WP.iinc (L' := [.val (.ref 0), .val (.int x4)]) (1 : Int32) d26_21 rfl rfl (by subst ex4; rfl) ?_
      refine WP.goto (pc' := 2) d26_24 (by decide) rfl ?_
      exact WP.weak (L' := [.val (.ref 0), .val (.int x4)]) ⟨rfl, rfl, trivial⟩ (hk2 x4 s _ h)
  ·
    refine WP.icmpY (pc' := 27) d26_7 (XT.ii_ge_t hc1) (by decide) rfl ?_
    refine WP.iconst (0 : Int32) d26_27 rfl ?_
    cases h
    exact WP.zreturn d26_28 rfl (leb rfl) (leb rfl) ⟨rfl, rfl⟩
def f_anyPending_2 : Nat → Int32 → St → Option (Int32)
  | 0 => fun _ _ => none
  | n + 1 => g_anyPending_2 (f_anyPending_2 n) n
theorem ok26_2 (l : Launch) (Z : State) (a0 : Array Value) (hw : HW a0 Z) (n0 : Nat) : ∀ (n : Nat) (v1 : Int32) (s : St) (r : Int32), f_anyPending_2 n v1 s = some r → W26 l Z n0 (P26 s r) 0 0 2 [.val (.ref 0), .val (.int v1)] [] (Hb 0 s)
  | 0, v1, s, r, h => nomatch (show none = some r from h)
  | n + 1, v1, s, r, h => okg26_2 l Z a0 hw n0 _ (ok26_2 l Z a0 hw n0 n) n v1 s r h
def f_anyPending (n : Nat) (s : St) : Option (Int32) :=
  f_anyPending_2 n (0 : Int32) s
set_option maxRecDepth 65536 in
set_option maxHeartbeats 4000000 in
theorem ok26 (l : Launch) (Z : State) (a0 : Array Value) (hw : HW a0 Z) (n : Nat) (s : St) (r : Int32) (h : f_anyPending n s = some r) : CS l Z CN lay y26 prog_1_method_40_code 2 (some FieldType.boolean) R26 0 [.ref 0] (Hb 0 s) (P26 s r) := by
  refine CS.of_wp pn_cls (leb rfl) fun n0 => ?_
  show W26 l Z n0 (P26 s r) 0 0 0 [.val (.ref 0), .unset] [] (Hb 0 s)
  unfold f_anyPending at h
  refine WP.iconst (0 : Int32) d26_0 rfl ?_
  refine WP.istoreN (L' := [.val (.ref 0), .val (.int (0 : Int32))]) d26_1 (leb rfl) rfl ?_
  exact WP.weak (L' := [.val (.ref 0), .val (.int (0 : Int32))]) ⟨rfl, rfl, trivial⟩ (ok26_2 l Z a0 hw n0 n (0 : Int32) s _ h)
theorem d31_0 : dc prog_1_method_41_code 0 (.iload_n 2) 1 := by decide +kernel
theorem d31_1 : dc prog_1_method_41_code 1 (.istore_n 3) 1 := by decide +kernel
theorem d31_2 : dc prog_1_method_41_code 2 (.iconst 0) 1 := by decide +kernel
theorem d31_3 : dc prog_1_method_41_code 3 (.istore 4) 2 := by decide +kernel
theorem d31_5 : dc prog_1_method_41_code 5 (.iload 4) 2 := by decide +kernel
theorem d31_7 : dc prog_1_method_41_code 7 (.aload_n 0) 1 := by decide +kernel
theorem d31_8 : dc prog_1_method_41_code 8 (.getfield 85) 3 := by decide +kernel
theorem d31_11 : dc prog_1_method_41_code 11 (.if_icmp .ge 49) 3 := by decide +kernel
theorem d31_14 : dc prog_1_method_41_code 14 (.aload_n 0) 1 := by decide +kernel
theorem d31_15 : dc prog_1_method_41_code 15 (.getfield 34) 3 := by decide +kernel
theorem d31_18 : dc prog_1_method_41_code 18 (.iload 4) 2 := by decide +kernel
theorem d31_20 : dc prog_1_method_41_code 20 (.iaload) 1 := by decide +kernel
theorem d31_21 : dc prog_1_method_41_code 21 (.ifCond .le 33) 3 := by decide +kernel
theorem d31_24 : dc prog_1_method_41_code 24 (.iload_n 1) 1 := by decide +kernel
theorem d31_25 : dc prog_1_method_41_code 25 (.aload_n 0) 1 := by decide +kernel
theorem d31_26 : dc prog_1_method_41_code 26 (.getfield 34) 3 := by decide +kernel
theorem d31_29 : dc prog_1_method_41_code 29 (.iload 4) 2 := by decide +kernel
theorem d31_31 : dc prog_1_method_41_code 31 (.iaload) 1 := by decide +kernel
theorem d31_32 : dc prog_1_method_41_code 32 (.idiv) 1 := by decide +kernel
theorem d31_33 : dc prog_1_method_41_code 33 (.iconst 1) 1 := by decide +kernel
theorem d31_34 : dc prog_1_method_41_code 34 (.iadd) 1 := by decide +kernel
theorem d31_35 : dc prog_1_method_41_code 35 (.aload_n 0) 1 := by decide +kernel
theorem d31_36 : dc prog_1_method_41_code 36 (.getfield 34) 3 := by decide +kernel
theorem d31_39 : dc prog_1_method_41_code 39 (.iload 4) 2 := by decide +kernel
theorem d31_41 : dc prog_1_method_41_code 41 (.iaload) 1 := by decide +kernel
theorem d31_42 : dc prog_1_method_41_code 42 (.imul) 1 := by decide +kernel
theorem d31_43 : dc prog_1_method_41_code 43 (.istore 5) 2 := by decide +kernel
theorem d31_45 : dc prog_1_method_41_code 45 (.iload 5) 2 := by decide +kernel
theorem d31_47 : dc prog_1_method_41_code 47 (.iload_n 3) 1 := by decide +kernel
theorem d31_48 : dc prog_1_method_41_code 48 (.if_icmp .ge 6) 3 := by decide +kernel
theorem d31_51 : dc prog_1_method_41_code 51 (.iload 5) 2 := by decide +kernel
theorem d31_53 : dc prog_1_method_41_code 53 (.istore_n 3) 1 := by decide +kernel
theorem d31_54 : dc prog_1_method_41_code 54 (.iinc 4 1) 3 := by decide +kernel
theorem d31_57 : dc prog_1_method_41_code 57 (.goto (-52)) 3 := by decide +kernel
theorem d31_60 : dc prog_1_method_41_code 60 (.iload_n 3) 1 := by decide +kernel
theorem d31_61 : dc prog_1_method_41_code 61 (.iload_n 1) 1 := by decide +kernel
theorem d31_62 : dc prog_1_method_41_code 62 (.if_icmp .gt 7) 3 := by decide +kernel
theorem d31_65 : dc prog_1_method_41_code 65 (.iload_n 1) 1 := by decide +kernel
theorem d31_66 : dc prog_1_method_41_code 66 (.iconst 1) 1 := by decide +kernel
theorem d31_67 : dc prog_1_method_41_code 67 (.iadd) 1 := by decide +kernel
theorem d31_68 : dc prog_1_method_41_code 68 (.istore_n 3) 1 := by decide +kernel
theorem d31_69 : dc prog_1_method_41_code 69 (.iload_n 3) 1 := by decide +kernel
theorem d31_70 : dc prog_1_method_41_code 70 (.ireturn) 1 := by decide +kernel
abbrev y31 : MethodName := ⟨"DemandGate", "nextReleaseAfter", "(II)I"⟩
theorem hy31 : y31.cls ≠ "java/lang/invoke/MethodHandle" ∧ y31.cls ≠ "java/lang/invoke/VarHandle" := by decide
theorem pd31 : parseMethodDescriptor y31.desc = some ⟨[.int, .int], some .int⟩ := by decide +kernel
abbrev R31 : Room := { frames := 0, cells := 0, slots := 0, locals := 0 }
abbrev P31 (s : St) (r : Int32) : Option Value → List OwnC → Prop := fun v H' => v = some (.int r) ∧ H' = (Hb 0 s)
abbrev W31 (l : Launch) (Z : State) (n0 : Nat) (Q : Option Value → List OwnC → Prop) (k n pc : Nat) (L : List Slot) (S : List Value) (H : List OwnC) : Prop := WP l Z CN lay "DemandGate" "nextReleaseAfter" prog_1_method_41_code 6 (some FieldType.int) R31 n0 0 Q k n pc L S H
def f_nextReleaseAfter_54 (k5 : Int32 → Int32 → Int32 → St → Option (Int32)) (n : Nat) (v1 : Int32) (v3 : Int32) (v4 : Int32) (s : St) : Option (Int32) :=
  lt (v4 + (1 : Int32)) fun x1 =>
  k5 v1 v3 x1 s
set_option maxRecDepth 65536 in
set_option maxHeartbeats 4000000 in
theorem ok31_54 (l : Launch) (Z : State) (a0 : Array Value) (hw : HW a0 Z) (n0 : Nat) (k5 : Int32 → Int32 → Int32 → St → Option (Int32)) (hk5 : ∀ (v1 : Int32) (v3 : Int32) (v4 : Int32) (s : St) (r : Int32), k5 v1 v3 v4 s = some r → W31 l Z n0 (P31 s r) 0 0 5 [.val (.ref 0), .val (.int v1), .unset, .val (.int v3), .val (.int v4), .unset] [] (Hb 0 s)) (n : Nat) (v1 : Int32) (v3 : Int32) (v4 : Int32) (s : St) (r : Int32) (h : f_nextReleaseAfter_54 k5 n v1 v3 v4 s = some r) : W31 l Z n0 (P31 s r) 0 0 54 [.val (.ref 0), .val (.int v1), .unset, .val (.int v3), .val (.int v4), .unset] [] (Hb 0 s) := by
  unfold f_nextReleaseAfter_54 at h
  obtain ⟨x1, ex1, h⟩ := lt_e h
  refine WP.iinc (L' := [.val (.ref 0), .val (.int v1), .unset, .val (.int v3), .val (.int x1), .unset]) (1 : Int32) d31_54 rfl rfl (by subst ex1; rfl) ?_
  refine WP.goto (pc' := 5) d31_57 (by decide) rfl ?_
  exact WP.weak (L' := [.val (.ref 0), .val (.int v1), .unset, .val (.int v3), .val (.int x1), .unset]) ⟨rfl, rfl, rfl, rfl, trivial⟩ (hk5 v1 v3 x1 s _ h)
def f_nextReleaseAfter_69 (n : Nat) (v3 : Int32) (s : St) : Option (Int32) :=
  some v3
set_option maxRecDepth 65536 in
set_option maxHeartbeats 4000000 in
theorem ok31_69 (l : Launch) (Z : State) (a0 : Array Value) (hw : HW a0 Z) (n0 : Nat) (n : Nat) (v3 : Int32) (s : St) (r : Int32) (h : f_nextReleaseAfter_69 n v3 s = some r) : W31 l Z n0 (P31 s r) 0 0 69 [.unset, .unset, .unset, .val (.int v3), .unset, .unset] [] (Hb 0 s) := by
  unfold f_nextReleaseAfter_69 at h
  refine WP.iloadN d31_69 rfl ?_
  cases h
  exact WP.ireturn d31_70 rfl (leb rfl) (leb rfl) ⟨rfl, rfl⟩
def g_nextReleaseAfter_5 (k5 : Int32 → Int32 → Int32 → St → Option (Int32)) (n : Nat) (v1 : Int32) (v3 : Int32) (v4 : Int32) (s : St) : Option (Int32) :=
  if v4 < (gI s 11) then
    (rd (gA s 8) v4).bind fun x2 =>
    if 0 < x2 then
      (rd (gA s 8) v4).bind fun x4 =>
      if x4 = 0 then none else
      (rd (gA s 8) v4).bind fun x6 =>
      lt (((v1 / x4) + (1 : Int32)) * x6) fun x7 =>
      if x7 < v3 then
        f_nextReleaseAfter_54 k5 n v1 x7 v4 s
      else
        f_nextReleaseAfter_54 k5 n v1 v3 v4 s
    else
      f_nextReleaseAfter_54 k5 n v1 v3 v4 s
  else
    if v1 < v3 then
      f_nextReleaseAfter_69 n v3 s
    else
      lt (v1 + (1 : Int32)) fun x10 =>
      f_nextReleaseAfter_69 n x10 s
set_option maxRecDepth 65536 in
set_option maxHeartbeats 4000000 in
theorem okg31_5 (l : Launch) (Z : State) (a0 : Array Value) (hw : HW a0 Z) (n0 : Nat) (k5 : Int32 → Int32 → Int32 → St → Option (Int32)) (hk5 : ∀ (v1 : Int32) (v3 : Int32) (v4 : Int32) (s : St) (r : Int32), k5 v1 v3 v4 s = some r → W31 l Z n0 (P31 s r) 0 0 5 [.val (.ref 0), .val (.int v1), .unset, .val (.int v3), .val (.int v4), .unset] [] (Hb 0 s)) (n : Nat) (v1 : Int32) (v3 : Int32) (v4 : Int32) (s : St) (r : Int32) (h : g_nextReleaseAfter_5 k5 n v1 v3 v4 s = some r) : W31 l Z n0 (P31 s r) 0 0 5 [.val (.ref 0), .val (.int v1), .unset, .val (.int v3), .val (.int v4), .unset] [] (Hb 0 s) := by
  unfold g_nextReleaseAfter_5 at h
  refine WP.iload d31_5 rfl ?_
  refine WP.aloadN d31_7 rfl ?_
  refine WP.getfield (i := 0) (j := 20) d31_8 (hw _ m_60) rfl rfl rfl ?_
  rcases ite_e h with ⟨hc1, h⟩ | ⟨hc1, h⟩
  ·
    refine WP.icmpN d31_11 (XT.ii_ge_f hc1) ?_
    refine WP.aloadN d31_14 rfl ?_
    refine WP.getfield (i := 0) (j := 19) d31_15 (hw _ m_26) rfl rfl rfl ?_
    refine WP.iload d31_18 rfl ?_
    obtain ⟨x2, hx2, h⟩ := Option.bind_eq_some_iff.mp h
    refine WP.iaload (i := 9) d31_20 rfl hx2 ?_
    rcases ite_e h with ⟨hc3, h⟩ | ⟨hc3, h⟩
    ·
      refine WP.ifN d31_21 (XT.i0_le_f hc3) ?_
      refine WP.iloadN d31_24 rfl ?_
      refine WP.aloadN d31_25 rfl ?_
      refine WP.getfield (i := 0) (j := 19) d31_26 (hw _ m_26) rfl rfl rfl ?_
      refine WP.iload d31_29 rfl ?_
      obtain ⟨x4, hx4, h⟩ := Option.bind_eq_some_iff.mp h
      refine WP.iaload (i := 9) d31_31 rfl hx4 ?_
      obtain ⟨hz5, h⟩ := nz_e h
      refine WP.idiv d31_32 hz5 ?_
      refine WP.iconst (1 : Int32) d31_33 rfl ?_
      refine WP.iadd d31_34 ?_
      refine WP.aloadN d31_35 rfl ?_
      refine WP.getfield (i := 0) (j := 19) d31_36 (hw _ m_26) rfl rfl rfl ?_
      refine WP.iload d31_39 rfl ?_
      obtain ⟨x6, hx6, h⟩ := Option.bind_eq_some_iff.mp h
      refine WP.iaload (i := 9) d31_41 rfl hx6 ?_
      refine WP.imul d31_42 ?_
      obtain ⟨x7, ex7, h⟩ := lt_e h
      refine WP.istore (L' := [.val (.ref 0), .val (.int v1), .unset, .val (.int v3), .val (.int v4), .val (.int x7)]) d31_43 (leb rfl) (by subst ex7; rfl) ?_
      refine WP.iload d31_45 rfl ?_
      refine WP.iloadN d31_47 rfl ?_
      rcases ite_e h with ⟨hc8, h⟩ | ⟨hc8, h⟩
      ·
        refine WP.icmpN d31_48 (XT.ii_ge_f hc8) ?_
        refine WP.iload d31_51 rfl ?_
        refine WP.istoreN (L' := [.val (.ref 0), .val (.int v1), .unset, .val (.int x7), .val (.int v4), .val (.int x7)]) d31_53 (leb rfl) rfl ?_
        exact WP.weak (L' := [.val (.ref 0), .val (.int v1), .unset, .val (.int x7), .val (.int v4), .unset]) ⟨rfl, rfl, rfl, rfl, trivial⟩ (ok31_54 l Z a0 hw n0 _ hk5 n v1 x7 v4 s _ h)
      ·
        refine WP.icmpY (pc' := 54) d31_48 (XT.ii_ge_t hc8) (by decide) rfl ?_
        exact WP.weak (L' := [.val (.ref 0), .val (.int v1), .unset, .val (.int v3), .val (.int v4), .unset]) ⟨rfl, rfl, rfl, rfl, trivial⟩ (ok31_54 l Z a0 hw n0 _ hk5 n v1 v3 v4 s _ h)
    ·
      refine WP.ifY (pc' := 54) d31_21 (XT.i0_le_t hc3) (by decide) rfl ?_
      exact WP.weak (L' := [.val (.ref 0), .val (.int v1), .unset, .val (.int v3), .val (.int v4), .unset]) ⟨rfl, rfl, rfl, rfl, trivial⟩ (ok31_54 l Z a0 hw n0 _ hk5 n v1 v3 v4 s _ h)
  ·
    refine WP.icmpY (pc' := 60) d31_11 (XT.ii_ge_t hc1) (by decide) rfl ?_
    refine WP.iloadN d31_60 rfl ?_
    refine WP.iloadN d31_61 rfl ?_
    rcases ite_e h with ⟨hc9, h⟩ | ⟨hc9, h⟩
    ·
      refine WP.icmpY (pc' := 69) d31_62 (XT.ii_gt_t hc9) (by decide) rfl ?_
      exact WP.weak (L' := [.unset, .unset, .unset, .val (.int v3), .unset, .unset]) ⟨rfl, trivial⟩ (ok31_69 l Z a0 hw n0 n v3 s _ h)
    ·
      refine WP.icmpN d31_62 (XT.ii_gt_f hc9) ?_
      refine WP.iloadN d31_65 rfl ?_
      refine WP.iconst (1 : Int32) d31_66 rfl ?_
      refine WP.iadd d31_67 ?_
      obtain ⟨x10, ex10, h⟩ := lt_e h
      refine WP.istoreN (L' := [.val (.ref 0), .val (.int v1), .unset, .val (.int x10), .val (.int v4), .unset]) d31_68 (leb rfl) (by subst ex10; rfl) ?_
      exact WP.weak (L' := [.unset, .unset, .unset, .val (.int x10), .unset, .unset]) ⟨rfl, trivial⟩ (ok31_69 l Z a0 hw n0 n x10 s _ h)
def f_nextReleaseAfter_5 : Nat → Int32 → Int32 → Int32 → St → Option (Int32)
  | 0 => fun _ _ _ _ => none
  | n + 1 => g_nextReleaseAfter_5 (f_nextReleaseAfter_5 n) n
theorem ok31_5 (l : Launch) (Z : State) (a0 : Array Value) (hw : HW a0 Z) (n0 : Nat) : ∀ (n : Nat) (v1 : Int32) (v3 : Int32) (v4 : Int32) (s : St) (r : Int32), f_nextReleaseAfter_5 n v1 v3 v4 s = some r → W31 l Z n0 (P31 s r) 0 0 5 [.val (.ref 0), .val (.int v1), .unset, .val (.int v3), .val (.int v4), .unset] [] (Hb 0 s)
  | 0, v1, v3, v4, s, r, h => nomatch (show none = some r from h)
  | n + 1, v1, v3, v4, s, r, h => okg31_5 l Z a0 hw n0 _ (ok31_5 l Z a0 hw n0 n) n v1 v3 v4 s r h
def f_nextReleaseAfter (n : Nat) (p1 : Int32) (p2 : Int32) (s : St) : Option (Int32) :=
  f_nextReleaseAfter_5 n p1 p2 (0 : Int32) s
set_option maxRecDepth 65536 in
set_option maxHeartbeats 4000000 in
theorem ok31 (l : Launch) (Z : State) (a0 : Array Value) (hw : HW a0 Z) (n : Nat) (p1 : Int32) (p2 : Int32) (s : St) (r : Int32) (h : f_nextReleaseAfter n p1 p2 s = some r) : CS l Z CN lay y31 prog_1_method_41_code 6 (some FieldType.int) R31 0 [.ref 0, .int p1, .int p2] (Hb 0 s) (P31 s r) := by
  refine CS.of_wp pn_cls (leb rfl) fun n0 => ?_
  show W31 l Z n0 (P31 s r) 0 0 0 [.val (.ref 0), .val (.int p1), .val (.int p2), .unset, .unset, .unset] [] (Hb 0 s)
  unfold f_nextReleaseAfter at h
  refine WP.iloadN d31_0 rfl ?_
  refine WP.istoreN (L' := [.val (.ref 0), .val (.int p1), .val (.int p2), .val (.int p2), .unset, .unset]) d31_1 (leb rfl) rfl ?_
  refine WP.iconst (0 : Int32) d31_2 rfl ?_
  refine WP.istore (L' := [.val (.ref 0), .val (.int p1), .val (.int p2), .val (.int p2), .val (.int (0 : Int32)), .unset]) d31_3 (leb rfl) rfl ?_
  exact WP.weak (L' := [.val (.ref 0), .val (.int p1), .unset, .val (.int p2), .val (.int (0 : Int32)), .unset]) ⟨rfl, rfl, rfl, rfl, trivial⟩ (ok31_5 l Z a0 hw n0 n p1 p2 (0 : Int32) s _ h)
theorem d21_0 : dc prog_1_method_34_code 0 (.aload_n 0) 1 := by decide +kernel
theorem d21_1 : dc prog_1_method_34_code 1 (.invokevirtual 145) 3 := by decide +kernel
theorem d21_4 : dc prog_1_method_34_code 4 (.iconst 0) 1 := by decide +kernel
theorem d21_5 : dc prog_1_method_34_code 5 (.istore_n 2) 1 := by decide +kernel
theorem d21_6 : dc prog_1_method_34_code 6 (.iconst 0) 1 := by decide +kernel
theorem d21_7 : dc prog_1_method_34_code 7 (.istore_n 3) 1 := by decide +kernel
theorem d21_8 : dc prog_1_method_34_code 8 (.iload_n 3) 1 := by decide +kernel
theorem d21_9 : dc prog_1_method_34_code 9 (.iload_n 1) 1 := by decide +kernel
theorem d21_10 : dc prog_1_method_34_code 10 (.if_icmp .gt 90) 3 := by decide +kernel
theorem d21_13 : dc prog_1_method_34_code 13 (.iload_n 3) 1 := by decide +kernel
theorem d21_14 : dc prog_1_method_34_code 14 (.sipush 2048) 3 := by decide +kernel
theorem d21_17 : dc prog_1_method_34_code 17 (.if_icmp .gt 83) 3 := by decide +kernel
theorem d21_20 : dc prog_1_method_34_code 20 (.aload_n 0) 1 := by decide +kernel
theorem d21_21 : dc prog_1_method_34_code 21 (.iload_n 3) 1 := by decide +kernel
theorem d21_22 : dc prog_1_method_34_code 22 (.invokevirtual 148) 3 := by decide +kernel
theorem d21_25 : dc prog_1_method_34_code 25 (.istore 4) 2 := by decide +kernel
theorem d21_27 : dc prog_1_method_34_code 27 (.iload 4) 2 := by decide +kernel
theorem d21_29 : dc prog_1_method_34_code 29 (.ifCond .lt 13) 3 := by decide +kernel
theorem d21_32 : dc prog_1_method_34_code 32 (.aload_n 0) 1 := by decide +kernel
theorem d21_33 : dc prog_1_method_34_code 33 (.iload_n 3) 1 := by decide +kernel
theorem d21_34 : dc prog_1_method_34_code 34 (.iload 4) 2 := by decide +kernel
theorem d21_36 : dc prog_1_method_34_code 36 (.iload_n 2) 1 := by decide +kernel
theorem d21_37 : dc prog_1_method_34_code 37 (.invokevirtual 151) 3 := by decide +kernel
theorem d21_40 : dc prog_1_method_34_code 40 (.iconst 2) 1 := by decide +kernel
theorem d21_41 : dc prog_1_method_34_code 41 (.ireturn) 1 := by decide +kernel
theorem d21_42 : dc prog_1_method_34_code 42 (.iload_n 3) 1 := by decide +kernel
theorem d21_43 : dc prog_1_method_34_code 43 (.iload_n 1) 1 := by decide +kernel
theorem d21_44 : dc prog_1_method_34_code 44 (.if_icmp .ne 6) 3 := by decide +kernel
theorem d21_47 : dc prog_1_method_34_code 47 (.goto 53) 3 := by decide +kernel
theorem d21_50 : dc prog_1_method_34_code 50 (.aload_n 0) 1 := by decide +kernel
theorem d21_51 : dc prog_1_method_34_code 51 (.iload_n 3) 1 := by decide +kernel
theorem d21_52 : dc prog_1_method_34_code 52 (.invokevirtual 155) 3 := by decide +kernel
theorem d21_55 : dc prog_1_method_34_code 55 (.aload_n 0) 1 := by decide +kernel
theorem d21_56 : dc prog_1_method_34_code 56 (.invokevirtual 158) 3 := by decide +kernel
theorem d21_59 : dc prog_1_method_34_code 59 (.ifCond .ne 6) 3 := by decide +kernel
theorem d21_62 : dc prog_1_method_34_code 62 (.iinc 2 1) 3 := by decide +kernel
theorem d21_65 : dc prog_1_method_34_code 65 (.aload_n 0) 1 := by decide +kernel
theorem d21_66 : dc prog_1_method_34_code 66 (.invokevirtual 162) 3 := by decide +kernel
theorem d21_69 : dc prog_1_method_34_code 69 (.ifCond .ne 25) 3 := by decide +kernel
theorem d21_72 : dc prog_1_method_34_code 72 (.aload_n 0) 1 := by decide +kernel
theorem d21_73 : dc prog_1_method_34_code 73 (.iload_n 3) 1 := by decide +kernel
theorem d21_74 : dc prog_1_method_34_code 74 (.iload_n 1) 1 := by decide +kernel
theorem d21_75 : dc prog_1_method_34_code 75 (.invokevirtual 165) 3 := by decide +kernel
theorem d21_78 : dc prog_1_method_34_code 78 (.istore 5) 2 := by decide +kernel
theorem d21_80 : dc prog_1_method_34_code 80 (.iload_n 2) 1 := by decide +kernel
theorem d21_81 : dc prog_1_method_34_code 81 (.iload 5) 2 := by decide +kernel
theorem d21_83 : dc prog_1_method_34_code 83 (.iload_n 3) 1 := by decide +kernel
theorem d21_84 : dc prog_1_method_34_code 84 (.isub) 1 := by decide +kernel
theorem d21_85 : dc prog_1_method_34_code 85 (.iconst 1) 1 := by decide +kernel
theorem d21_86 : dc prog_1_method_34_code 86 (.isub) 1 := by decide +kernel
theorem d21_87 : dc prog_1_method_34_code 87 (.iadd) 1 := by decide +kernel
theorem d21_88 : dc prog_1_method_34_code 88 (.istore_n 2) 1 := by decide +kernel
theorem d21_89 : dc prog_1_method_34_code 89 (.iload 5) 2 := by decide +kernel
theorem d21_91 : dc prog_1_method_34_code 91 (.iconst 1) 1 := by decide +kernel
theorem d21_92 : dc prog_1_method_34_code 92 (.isub) 1 := by decide +kernel
theorem d21_93 : dc prog_1_method_34_code 93 (.istore_n 3) 1 := by decide +kernel
theorem d21_94 : dc prog_1_method_34_code 94 (.iinc 3 1) 3 := by decide +kernel
theorem d21_97 : dc prog_1_method_34_code 97 (.goto (-89)) 3 := by decide +kernel
theorem d21_100 : dc prog_1_method_34_code 100 (.aload_n 0) 1 := by decide +kernel
theorem d21_101 : dc prog_1_method_34_code 101 (.iconst 0) 1 := by decide +kernel
theorem d21_102 : dc prog_1_method_34_code 102 (.iconst (-1)) 1 := by decide +kernel
theorem d21_103 : dc prog_1_method_34_code 103 (.iload_n 2) 1 := by decide +kernel
theorem d21_104 : dc prog_1_method_34_code 104 (.invokevirtual 151) 3 := by decide +kernel
theorem d21_107 : dc prog_1_method_34_code 107 (.iconst 1) 1 := by decide +kernel
theorem d21_108 : dc prog_1_method_34_code 108 (.ireturn) 1 := by decide +kernel
abbrev y21 : MethodName := ⟨"DemandGate", "runEdf", "(I)I"⟩
theorem hy21 : y21.cls ≠ "java/lang/invoke/MethodHandle" ∧ y21.cls ≠ "java/lang/invoke/VarHandle" := by decide
theorem pd21 : parseMethodDescriptor y21.desc = some ⟨[.int], some .int⟩ := by decide +kernel
abbrev R21 : Room := { frames := 1, cells := 0, slots := 0, locals := 17 }
abbrev P21 (r : Int32 × St) : Option Value → List OwnC → Prop := fun v H' => v = some (.int r.1) ∧ H' = (Hb 0 r.2)
abbrev W21 (l : Launch) (Z : State) (n0 : Nat) (Q : Option Value → List OwnC → Prop) (k n pc : Nat) (L : List Slot) (S : List Value) (H : List OwnC) : Prop := WP l Z CN lay "DemandGate" "runEdf" prog_1_method_34_code 6 (some FieldType.int) R21 n0 0 Q k n pc L S H
def f_runEdf_94 (k8 : Int32 → Int32 → Int32 → St → Option (Int32 × St)) (n : Nat) (v1 : Int32) (v2 : Int32) (v3 : Int32) (s : St) : Option (Int32 × St) :=
  lt (v3 + (1 : Int32)) fun x1 =>
  k8 v1 v2 x1 s
set_option maxRecDepth 65536 in
set_option maxHeartbeats 4000000 in
theorem ok21_94 (l : Launch) (Z : State) (a0 : Array Value) (hw : HW a0 Z) (n0 : Nat) (k8 : Int32 → Int32 → Int32 → St → Option (Int32 × St)) (hk8 : ∀ (v1 : Int32) (v2 : Int32) (v3 : Int32) (s : St) (r : Int32 × St), k8 v1 v2 v3 s = some r → W21 l Z n0 (P21 r) 0 0 8 [.val (.ref 0), .val (.int v1), .val (.int v2), .val (.int v3), .unset, .unset] [] (Hb 0 s)) (n : Nat) (v1 : Int32) (v2 : Int32) (v3 : Int32) (s : St) (r : Int32 × St) (h : f_runEdf_94 k8 n v1 v2 v3 s = some r) : W21 l Z n0 (P21 r) 0 0 94 [.val (.ref 0), .val (.int v1), .val (.int v2), .val (.int v3), .unset, .unset] [] (Hb 0 s) := by
  unfold f_runEdf_94 at h
  obtain ⟨x1, ex1, h⟩ := lt_e h
  refine WP.iinc (L' := [.val (.ref 0), .val (.int v1), .val (.int v2), .val (.int x1), .unset, .unset]) (1 : Int32) d21_94 rfl rfl (by subst ex1; rfl) ?_
  refine WP.goto (pc' := 8) d21_97 (by decide) rfl ?_
  exact WP.weak (L' := [.val (.ref 0), .val (.int v1), .val (.int v2), .val (.int x1), .unset, .unset]) ⟨rfl, rfl, rfl, rfl, trivial⟩ (hk8 v1 v2 x1 s _ h)
def f_runEdf_65 (k8 : Int32 → Int32 → Int32 → St → Option (Int32 × St)) (n : Nat) (v1 : Int32) (v2 : Int32) (v3 : Int32) (s : St) : Option (Int32 × St) :=
  (f_anyPending n s).bind fun c1 =>
  if c1 = 0 then
    (f_nextReleaseAfter n v3 v1 s).bind fun c3 =>
    lt (v2 + ((c3 - v3) - (1 : Int32))) fun x4 =>
    lt (c3 - (1 : Int32)) fun x5 =>
    f_runEdf_94 k8 n v1 x4 x5 s
  else
    f_runEdf_94 k8 n v1 v2 v3 s
set_option maxRecDepth 65536 in
set_option maxHeartbeats 4000000 in
theorem ok21_65 (l : Launch) (Z : State) (a0 : Array Value) (hw : HW a0 Z) (n0 : Nat) (k8 : Int32 → Int32 → Int32 → St → Option (Int32 × St)) (hk8 : ∀ (v1 : Int32) (v2 : Int32) (v3 : Int32) (s : St) (r : Int32 × St), k8 v1 v2 v3 s = some r → W21 l Z n0 (P21 r) 0 0 8 [.val (.ref 0), .val (.int v1), .val (.int v2), .val (.int v3), .unset, .unset] [] (Hb 0 s)) (n : Nat) (v1 : Int32) (v2 : Int32) (v3 : Int32) (s : St) (r : Int32 × St) (h : f_runEdf_65 k8 n v1 v2 v3 s = some r) : W21 l Z n0 (P21 r) 0 0 65 [.val (.ref 0), .val (.int v1), .val (.int v2), .val (.int v3), .unset, .unset] [] (Hb 0 s) := by
  unfold f_runEdf_65 at h
  refine WP.aloadN d21_65 rfl ?_
  obtain ⟨c1, hc1, h⟩ := Option.bind_eq_some_iff.mp h
  refine WP.callP (i := 0) (y := y26) (as := []) (S := []) d21_66 (hw _ m_164) (hw _ m_166) (hw _ m_1) (hw _ m_165) (hw _ m_167) (hw _ m_2) hy26 rfl (ok26 l Z a0 hw n s _ hc1) rfl (lenOf pd26 rfl) (leb rfl) (leb rfl) (leb rfl) (leb rfl) ?_
  rintro _ _ ⟨rfl, rfl⟩
  show W21 l Z n0 (P21 r) 0 0 69 [.val (.ref 0), .val (.int v1), .val (.int v2), .val (.int v3), .unset, .unset] [.int c1] (Hb 0 s)
  rcases ite_e h with ⟨hc2, h⟩ | ⟨hc2, h⟩
  ·
    refine WP.ifN d21_69 (XT.i0_ne_f hc2) ?_
    refine WP.aloadN d21_72 rfl ?_
    refine WP.iloadN d21_73 rfl ?_
    refine WP.iloadN d21_74 rfl ?_
    obtain ⟨c3, hc3, h⟩ := Option.bind_eq_some_iff.mp h
    refine WP.callP (i := 0) (y := y31) (as := [.int v3, .int v1]) (S := []) d21_75 (hw _ m_187) (hw _ m_189) (hw _ m_1) (hw _ m_188) (hw _ m_190) (hw _ m_2) hy31 rfl (ok31 l Z a0 hw n v3 v1 s _ hc3) rfl (lenOf pd31 rfl) (leb rfl) (leb rfl) (leb rfl) (leb rfl) ?_
    rintro _ _ ⟨rfl, rfl⟩
    show W21 l Z n0 (P21 r) 0 0 78 [.val (.ref 0), .val (.int v1), .val (.int v2), .val (.int v3), .unset, .unset] [.int c3] (Hb 0 s)
    refine WP.istore (L' := [.val (.ref 0), .val (.int v1), .val (.int v2), .val (.int v3), .unset, .val (.int c3)]) d21_78 (leb rfl) rfl ?_
    refine WP.iloadN d21_80 rfl ?_
    refine WP.iload d21_81 rfl ?_
    refine WP.iloadN d21_83 rfl ?_
    refine WP.isub d21_84 ?_
    refine WP.iconst (1 : Int32) d21_85 rfl ?_
    refine WP.isub d21_86 ?_
    refine WP.iadd d21_87 ?_
    obtain ⟨x4, ex4, h⟩ := lt_e h
    refine WP.istoreN (L' := [.val (.ref 0), .val (.int v1), .val (.int x4), .val (.int v3), .unset, .val (.int c3)]) d21_88 (leb rfl) (by subst ex4; rfl) ?_
    refine WP.iload d21_89 rfl ?_
    refine WP.iconst (1 : Int32) d21_91 rfl ?_
    refine WP.isub d21_92 ?_
    obtain ⟨x5, ex5, h⟩ := lt_e h
    refine WP.istoreN (L' := [.val (.ref 0), .val (.int v1), .val (.int x4), .val (.int x5), .unset, .val (.int c3)]) d21_93 (leb rfl) (by subst ex5; rfl) ?_
    exact WP.weak (L' := [.val (.ref 0), .val (.int v1), .val (.int x4), .val (.int x5), .unset, .unset]) ⟨rfl, rfl, rfl, rfl, trivial⟩ (ok21_94 l Z a0 hw n0 _ hk8 n v1 x4 x5 s _ h)
  ·
    refine WP.ifY (pc' := 94) d21_69 (XT.i0_ne_t hc2) (by decide) rfl ?_
    exact WP.weak (L' := [.val (.ref 0), .val (.int v1), .val (.int v2), .val (.int v3), .unset, .unset]) ⟨rfl, rfl, rfl, rfl, trivial⟩ (ok21_94 l Z a0 hw n0 _ hk8 n v1 v2 v3 s _ h)
def f_runEdf_100 (n : Nat) (v2 : Int32) (s : St) : Option (Int32 × St) :=
  (f_recordRun (0 : Int32) (-1 : Int32) v2 s).bind fun c1 =>
  some ((1 : Int32), c1)
set_option maxRecDepth 65536 in
set_option maxHeartbeats 4000000 in
theorem ok21_100 (l : Launch) (Z : State) (a0 : Array Value) (hw : HW a0 Z) (n0 : Nat) (n : Nat) (v2 : Int32) (s : St) (r : Int32 × St) (h : f_runEdf_100 n v2 s = some r) : W21 l Z n0 (P21 r) 0 0 100 [.val (.ref 0), .unset, .val (.int v2), .unset, .unset, .unset] [] (Hb 0 s) := by
  unfold f_runEdf_100 at h
  refine WP.aloadN d21_100 rfl ?_
  refine WP.iconst (0 : Int32) d21_101 rfl ?_
  refine WP.iconst (-1 : Int32) d21_102 rfl ?_
  refine WP.iloadN d21_103 rfl ?_
  obtain ⟨c1, hc1, h⟩ := Option.bind_eq_some_iff.mp h
  refine WP.callP (i := 0) (y := y27) (as := [.int (0 : Int32), .int (-1 : Int32), .int v2]) (S := []) d21_104 (hw _ m_168) (hw _ m_170) (hw _ m_1) (hw _ m_169) (hw _ m_171) (hw _ m_2) hy27 rfl (ok27 l Z a0 hw (0 : Int32) (-1 : Int32) v2 s _ hc1) rfl (lenOf pd27 rfl) (leb rfl) (leb rfl) (leb rfl) (leb rfl) ?_
  rintro _ _ ⟨rfl, rfl⟩
  show W21 l Z n0 (P21 r) 0 0 107 [.val (.ref 0), .unset, .val (.int v2), .unset, .unset, .unset] [] (Hb 0 c1)
  refine WP.iconst (1 : Int32) d21_107 rfl ?_
  cases h
  exact WP.ireturn d21_108 rfl (leb rfl) (leb rfl) ⟨rfl, rfl⟩
def g_runEdf_8 (k8 : Int32 → Int32 → Int32 → St → Option (Int32 × St)) (n : Nat) (v1 : Int32) (v2 : Int32) (v3 : Int32) (s : St) : Option (Int32 × St) :=
  if v1 < v3 then
    f_runEdf_100 n v2 s
  else
    if (2048 : Int32) < v3 then
      f_runEdf_100 n v2 s
    else
      (f_firstMissAt n v3 s).bind fun c3 =>
      if c3 < 0 then
        if v3 = v1 then
          f_runEdf_100 n v2 s
        else
          (f_releaseAt n v3 s).bind fun c6 =>
          (f_dispatchSlot n c6).bind fun c7 =>
          if c7.1 = 0 then
            lt (v2 + (1 : Int32)) fun x9 =>
            f_runEdf_65 k8 n v1 x9 v3 c7.2
          else
            f_runEdf_65 k8 n v1 v2 v3 c7.2
      else
        (f_recordRun v3 c3 v2 s).bind fun c10 =>
        some ((2 : Int32), c10)
set_option maxRecDepth 65536 in
set_option maxHeartbeats 4000000 in
theorem okg21_8 (l : Launch) (Z : State) (a0 : Array Value) (hw : HW a0 Z) (n0 : Nat) (k8 : Int32 → Int32 → Int32 → St → Option (Int32 × St)) (hk8 : ∀ (v1 : Int32) (v2 : Int32) (v3 : Int32) (s : St) (r : Int32 × St), k8 v1 v2 v3 s = some r → W21 l Z n0 (P21 r) 0 0 8 [.val (.ref 0), .val (.int v1), .val (.int v2), .val (.int v3), .unset, .unset] [] (Hb 0 s)) (n : Nat) (v1 : Int32) (v2 : Int32) (v3 : Int32) (s : St) (r : Int32 × St) (h : g_runEdf_8 k8 n v1 v2 v3 s = some r) : W21 l Z n0 (P21 r) 0 0 8 [.val (.ref 0), .val (.int v1), .val (.int v2), .val (.int v3), .unset, .unset] [] (Hb 0 s) := by
  unfold g_runEdf_8 at h
  refine WP.iloadN d21_8 rfl ?_
  refine WP.iloadN d21_9 rfl ?_
  rcases ite_e h with ⟨hc1, h⟩ | ⟨hc1, h⟩
  ·
    refine WP.icmpY (pc' := 100) d21_10 (XT.ii_gt_t hc1) (by decide) rfl ?_
    exact WP.weak (L' := [.val (.ref 0), .unset, .val (.int v2), .unset, .unset, .unset]) ⟨rfl, rfl, trivial⟩ (ok21_100 l Z a0 hw n0 n v2 s _ h)
  ·
    refine WP.icmpN d21_10 (XT.ii_gt_f hc1) ?_
    refine WP.iloadN d21_13 rfl ?_
    refine WP.sipush (2048 : Int32) d21_14 rfl ?_
    rcases ite_e h with ⟨hc2, h⟩ | ⟨hc2, h⟩
    ·
      refine WP.icmpY (pc' := 100) d21_17 (XT.ii_gt_t hc2) (by decide) rfl ?_
      exact WP.weak (L' := [.val (.ref 0), .unset, .val (.int v2), .unset, .unset, .unset]) ⟨rfl, rfl, trivial⟩ (ok21_100 l Z a0 hw n0 n v2 s _ h)
    ·
      refine WP.icmpN d21_17 (XT.ii_gt_f hc2) ?_
      refine WP.aloadN d21_20 rfl ?_
      refine WP.iloadN d21_21 rfl ?_
      obtain ⟨c3, hc3, h⟩ := Option.bind_eq_some_iff.mp h
      refine WP.callP (i := 0) (y := y23) (as := [.int v3]) (S := []) d21_22 (hw _ m_152) (hw _ m_154) (hw _ m_1) (hw _ m_153) (hw _ m_155) (hw _ m_2) hy23 rfl (ok23 l Z a0 hw n v3 s _ hc3) rfl (lenOf pd23 rfl) (leb rfl) (leb rfl) (leb rfl) (leb rfl) ?_
      rintro _ _ ⟨rfl, rfl⟩
      show W21 l Z n0 (P21 r) 0 0 25 [.val (.ref 0), .val (.int v1), .val (.int v2), .val (.int v3), .unset, .unset] [.int c3] (Hb 0 s)
      refine WP.istore (L' := [.val (.ref 0), .val (.int v1), .val (.int v2), .val (.int v3), .val (.int c3), .unset]) d21_25 (leb rfl) rfl ?_
      refine WP.iload d21_27 rfl ?_
      rcases ite_e h with ⟨hc4, h⟩ | ⟨hc4, h⟩
      ·
        refine WP.ifY (pc' := 42) d21_29 (XT.i0_lt_t hc4) (by decide) rfl ?_
        refine WP.iloadN d21_42 rfl ?_
        refine WP.iloadN d21_43 rfl ?_
        rcases ite_e h with ⟨hc5, h⟩ | ⟨hc5, h⟩
        ·
          refine WP.icmpN d21_44 (XT.ii_ne_f hc5) ?_
          refine WP.goto (pc' := 100) d21_47 (by decide) rfl ?_
          exact WP.weak (L' := [.val (.ref 0), .unset, .val (.int v2), .unset, .unset, .unset]) ⟨rfl, rfl, trivial⟩ (ok21_100 l Z a0 hw n0 n v2 s _ h)
        ·
          refine WP.icmpY (pc' := 50) d21_44 (XT.ii_ne_t hc5) (by decide) rfl ?_
          refine WP.aloadN d21_50 rfl ?_
          refine WP.iloadN d21_51 rfl ?_
          obtain ⟨c6, hc6, h⟩ := Option.bind_eq_some_iff.mp h
          refine WP.callP (i := 0) (y := y24) (as := [.int v3]) (S := []) d21_52 (hw _ m_156) (hw _ m_158) (hw _ m_1) (hw _ m_157) (hw _ m_159) (hw _ m_2) hy24 rfl (ok24 l Z a0 hw n v3 s _ hc6) rfl (lenOf pd24 rfl) (leb rfl) (leb rfl) (leb rfl) (leb rfl) ?_
          rintro _ _ ⟨rfl, rfl⟩
          show W21 l Z n0 (P21 r) 0 0 55 [.val (.ref 0), .val (.int v1), .val (.int v2), .val (.int v3), .val (.int c3), .unset] [] (Hb 0 c6)
          refine WP.aloadN d21_55 rfl ?_
          obtain ⟨c7, hc7, h⟩ := Option.bind_eq_some_iff.mp h
          refine WP.callP (i := 0) (y := y25) (as := []) (S := []) d21_56 (hw _ m_160) (hw _ m_162) (hw _ m_1) (hw _ m_161) (hw _ m_163) (hw _ m_2) hy25 rfl (ok25 l Z a0 hw n c6 _ hc7) rfl (lenOf pd25 rfl) (leb rfl) (leb rfl) (leb rfl) (leb rfl) ?_
          rintro _ _ ⟨rfl, rfl⟩
          show W21 l Z n0 (P21 r) 0 0 59 [.val (.ref 0), .val (.int v1), .val (.int v2), .val (.int v3), .val (.int c3), .unset] [.int c7.1] (Hb 0 c7.2)
          rcases ite_e h with ⟨hc8, h⟩ | ⟨hc8, h⟩
          ·
            refine WP.ifN d21_59 (XT.i0_ne_f hc8) ?_
            obtain ⟨x9, ex9, h⟩ := lt_e h
            refine WP.iinc (L' := [.val (.ref 0), .val (.int v1), .val (.int x9), .val (.int v3), .val (.int c3), .unset]) (1 : Int32) d21_62 rfl rfl (by subst ex9; rfl) ?_
            exact WP.weak (L' := [.val (.ref 0), .val (.int v1), .val (.int x9), .val (.int v3), .unset, .unset]) ⟨rfl, rfl, rfl, rfl, trivial⟩ (ok21_65 l Z a0 hw n0 _ hk8 n v1 x9 v3 c7.2 _ h)
          ·
            refine WP.ifY (pc' := 65) d21_59 (XT.i0_ne_t hc8) (by decide) rfl ?_
            exact WP.weak (L' := [.val (.ref 0), .val (.int v1), .val (.int v2), .val (.int v3), .unset, .unset]) ⟨rfl, rfl, rfl, rfl, trivial⟩ (ok21_65 l Z a0 hw n0 _ hk8 n v1 v2 v3 c7.2 _ h)
      ·
        refine WP.ifN d21_29 (XT.i0_lt_f hc4) ?_
        refine WP.aloadN d21_32 rfl ?_
        refine WP.iloadN d21_33 rfl ?_
        refine WP.iload d21_34 rfl ?_
        refine WP.iloadN d21_36 rfl ?_
        obtain ⟨c10, hc10, h⟩ := Option.bind_eq_some_iff.mp h
        refine WP.callP (i := 0) (y := y27) (as := [.int v3, .int c3, .int v2]) (S := []) d21_37 (hw _ m_168) (hw _ m_170) (hw _ m_1) (hw _ m_169) (hw _ m_171) (hw _ m_2) hy27 rfl (ok27 l Z a0 hw v3 c3 v2 s _ hc10) rfl (lenOf pd27 rfl) (leb rfl) (leb rfl) (leb rfl) (leb rfl) ?_
        rintro _ _ ⟨rfl, rfl⟩
        show W21 l Z n0 (P21 r) 0 0 40 [.val (.ref 0), .val (.int v1), .val (.int v2), .val (.int v3), .val (.int c3), .unset] [] (Hb 0 c10)
        refine WP.iconst (2 : Int32) d21_40 rfl ?_
        cases h
        exact WP.ireturn d21_41 rfl (leb rfl) (leb rfl) ⟨rfl, rfl⟩
def f_runEdf_8 : Nat → Int32 → Int32 → Int32 → St → Option (Int32 × St)
  | 0 => fun _ _ _ _ => none
  | n + 1 => g_runEdf_8 (f_runEdf_8 n) n
theorem ok21_8 (l : Launch) (Z : State) (a0 : Array Value) (hw : HW a0 Z) (n0 : Nat) : ∀ (n : Nat) (v1 : Int32) (v2 : Int32) (v3 : Int32) (s : St) (r : Int32 × St), f_runEdf_8 n v1 v2 v3 s = some r → W21 l Z n0 (P21 r) 0 0 8 [.val (.ref 0), .val (.int v1), .val (.int v2), .val (.int v3), .unset, .unset] [] (Hb 0 s)
  | 0, v1, v2, v3, s, r, h => nomatch (show none = some r from h)
  | n + 1, v1, v2, v3, s, r, h => okg21_8 l Z a0 hw n0 _ (ok21_8 l Z a0 hw n0 n) n v1 v2 v3 s r h
def f_runEdf (n : Nat) (p1 : Int32) (s : St) : Option (Int32 × St) :=
  (f_resetJobs n s).bind fun c1 =>
  f_runEdf_8 n p1 (0 : Int32) (0 : Int32) c1
set_option maxRecDepth 65536 in
set_option maxHeartbeats 4000000 in
theorem ok21 (l : Launch) (Z : State) (a0 : Array Value) (hw : HW a0 Z) (n : Nat) (p1 : Int32) (s : St) (r : Int32 × St) (h : f_runEdf n p1 s = some r) : CS l Z CN lay y21 prog_1_method_34_code 6 (some FieldType.int) R21 0 [.ref 0, .int p1] (Hb 0 s) (P21 r) := by
  refine CS.of_wp pn_cls (leb rfl) fun n0 => ?_
  show W21 l Z n0 (P21 r) 0 0 0 [.val (.ref 0), .val (.int p1), .unset, .unset, .unset, .unset] [] (Hb 0 s)
  unfold f_runEdf at h
  refine WP.aloadN d21_0 rfl ?_
  obtain ⟨c1, hc1, h⟩ := Option.bind_eq_some_iff.mp h
  refine WP.callP (i := 0) (y := y22) (as := []) (S := []) d21_1 (hw _ m_148) (hw _ m_150) (hw _ m_1) (hw _ m_149) (hw _ m_151) (hw _ m_2) hy22 rfl (ok22 l Z a0 hw n s _ hc1) rfl (lenOf pd22 rfl) (leb rfl) (leb rfl) (leb rfl) (leb rfl) ?_
  rintro _ _ ⟨rfl, rfl⟩
  show W21 l Z n0 (P21 r) 0 0 4 [.val (.ref 0), .val (.int p1), .unset, .unset, .unset, .unset] [] (Hb 0 c1)
  refine WP.iconst (0 : Int32) d21_4 rfl ?_
  refine WP.istoreN (L' := [.val (.ref 0), .val (.int p1), .val (.int (0 : Int32)), .unset, .unset, .unset]) d21_5 (leb rfl) rfl ?_
  refine WP.iconst (0 : Int32) d21_6 rfl ?_
  refine WP.istoreN (L' := [.val (.ref 0), .val (.int p1), .val (.int (0 : Int32)), .val (.int (0 : Int32)), .unset, .unset]) d21_7 (leb rfl) rfl ?_
  exact WP.weak (L' := [.val (.ref 0), .val (.int p1), .val (.int (0 : Int32)), .val (.int (0 : Int32)), .unset, .unset]) ⟨rfl, rfl, rfl, rfl, trivial⟩ (ok21_8 l Z a0 hw n0 n p1 (0 : Int32) (0 : Int32) c1 _ h)
theorem d19_0 : dc prog_1_method_14_code 0 (.iload_n 1) 1 := by decide +kernel
theorem d19_1 : dc prog_1_method_14_code 1 (.ifCond .eq 10) 3 := by decide +kernel
theorem d19_4 : dc prog_1_method_14_code 4 (.iload_n 1) 1 := by decide +kernel
theorem d19_5 : dc prog_1_method_14_code 5 (.iconst 1) 1 := by decide +kernel
theorem d19_6 : dc prog_1_method_14_code 6 (.if_icmp .eq 5) 3 := by decide +kernel
theorem d19_9 : dc prog_1_method_14_code 9 (.iconst 0) 1 := by decide +kernel
theorem d19_10 : dc prog_1_method_14_code 10 (.ireturn) 1 := by decide +kernel
theorem d19_11 : dc prog_1_method_14_code 11 (.iload_n 1) 1 := by decide +kernel
theorem d19_12 : dc prog_1_method_14_code 12 (.iconst 1) 1 := by decide +kernel
theorem d19_13 : dc prog_1_method_14_code 13 (.if_icmp .ne 12) 3 := by decide +kernel
theorem d19_16 : dc prog_1_method_14_code 16 (.aload_n 0) 1 := by decide +kernel
theorem d19_17 : dc prog_1_method_14_code 17 (.getfield 63) 3 := by decide +kernel
theorem d19_20 : dc prog_1_method_14_code 20 (.ifCond .ne 5) 3 := by decide +kernel
theorem d19_23 : dc prog_1_method_14_code 23 (.iconst 0) 1 := by decide +kernel
theorem d19_24 : dc prog_1_method_14_code 24 (.ireturn) 1 := by decide +kernel
theorem d19_25 : dc prog_1_method_14_code 25 (.iload_n 1) 1 := by decide +kernel
theorem d19_26 : dc prog_1_method_14_code 26 (.ifCond .ne 19) 3 := by decide +kernel
theorem d19_29 : dc prog_1_method_14_code 29 (.aload_n 0) 1 := by decide +kernel
theorem d19_30 : dc prog_1_method_14_code 30 (.invokevirtual 92) 3 := by decide +kernel
theorem d19_33 : dc prog_1_method_14_code 33 (.aload_n 0) 1 := by decide +kernel
theorem d19_34 : dc prog_1_method_14_code 34 (.aload_n 0) 1 := by decide +kernel
theorem d19_35 : dc prog_1_method_14_code 35 (.getfield 54) 3 := by decide +kernel
theorem d19_38 : dc prog_1_method_14_code 38 (.invokevirtual 98) 3 := by decide +kernel
theorem d19_41 : dc prog_1_method_14_code 41 (.istore_n 2) 1 := by decide +kernel
theorem d19_42 : dc prog_1_method_14_code 42 (.goto 12) 3 := by decide +kernel
theorem d19_45 : dc prog_1_method_14_code 45 (.aload_n 0) 1 := by decide +kernel
theorem d19_46 : dc prog_1_method_14_code 46 (.invokevirtual 116) 3 := by decide +kernel
theorem d19_49 : dc prog_1_method_14_code 49 (.aload_n 0) 1 := by decide +kernel
theorem d19_50 : dc prog_1_method_14_code 50 (.getfield 67) 3 := by decide +kernel
theorem d19_53 : dc prog_1_method_14_code 53 (.istore_n 2) 1 := by decide +kernel
theorem d19_54 : dc prog_1_method_14_code 54 (.iload_n 2) 1 := by decide +kernel
theorem d19_55 : dc prog_1_method_14_code 55 (.iconst 1) 1 := by decide +kernel
theorem d19_56 : dc prog_1_method_14_code 56 (.if_icmp .ge 5) 3 := by decide +kernel
theorem d19_59 : dc prog_1_method_14_code 59 (.iconst 1) 1 := by decide +kernel
theorem d19_60 : dc prog_1_method_14_code 60 (.istore_n 2) 1 := by decide +kernel
theorem d19_61 : dc prog_1_method_14_code 61 (.aload_n 0) 1 := by decide +kernel
theorem d19_62 : dc prog_1_method_14_code 62 (.iload_n 2) 1 := by decide +kernel
theorem d19_63 : dc prog_1_method_14_code 63 (.invokevirtual 119) 3 := by decide +kernel
theorem d19_66 : dc prog_1_method_14_code 66 (.ireturn) 1 := by decide +kernel
abbrev y19 : MethodName := ⟨"DemandGate", "simulate", "(I)I"⟩
theorem hy19 : y19.cls ≠ "java/lang/invoke/MethodHandle" ∧ y19.cls ≠ "java/lang/invoke/VarHandle" := by decide
theorem pd19 : parseMethodDescriptor y19.desc = some ⟨[.int], some .int⟩ := by decide +kernel
abbrev R19 : Room := { frames := 3, cells := 0, slots := 0, locals := 57 }
abbrev P19 (r : Int32 × St) : Option Value → List OwnC → Prop := fun v H' => v = some (.int r.1) ∧ H' = (Hb 0 r.2)
abbrev W19 (l : Launch) (Z : State) (n0 : Nat) (Q : Option Value → List OwnC → Prop) (k n pc : Nat) (L : List Slot) (S : List Value) (H : List OwnC) : Prop := WP l Z CN lay "DemandGate" "simulate" prog_1_method_14_code 3 (some FieldType.int) R19 n0 0 Q k n pc L S H
def f_simulate_61 (n : Nat) (v2 : Int32) (s : St) : Option (Int32 × St) :=
  (f_runEdf n v2 s).bind fun c1 =>
  some (c1.1, c1.2)
set_option maxRecDepth 65536 in
set_option maxHeartbeats 4000000 in
theorem ok19_61 (l : Launch) (Z : State) (a0 : Array Value) (hw : HW a0 Z) (n0 : Nat) (n : Nat) (v2 : Int32) (s : St) (r : Int32 × St) (h : f_simulate_61 n v2 s = some r) : W19 l Z n0 (P19 r) 0 0 61 [.val (.ref 0), .unset, .val (.int v2)] [] (Hb 0 s) := by
  unfold f_simulate_61 at h
  refine WP.aloadN d19_61 rfl ?_
  refine WP.iloadN d19_62 rfl ?_
  obtain ⟨c1, hc1, h⟩ := Option.bind_eq_some_iff.mp h
  refine WP.callP (i := 0) (y := y21) (as := [.int v2]) (S := []) d19_63 (hw _ m_144) (hw _ m_146) (hw _ m_1) (hw _ m_145) (hw _ m_147) (hw _ m_2) hy21 rfl (ok21 l Z a0 hw n v2 s _ hc1) rfl (lenOf pd21 rfl) (leb rfl) (leb rfl) (leb rfl) (leb rfl) ?_
  rintro _ _ ⟨rfl, rfl⟩
  show W19 l Z n0 (P19 r) 0 0 66 [.val (.ref 0), .unset, .val (.int v2)] [.int c1.1] (Hb 0 c1.2)
  cases h
  exact WP.ireturn d19_66 rfl (leb rfl) (leb rfl) ⟨rfl, rfl⟩
def f_simulate_54 (n : Nat) (v2 : Int32) (s : St) : Option (Int32 × St) :=
  if v2 < (1 : Int32) then
    f_simulate_61 n (1 : Int32) s
  else
    f_simulate_61 n v2 s
set_option maxRecDepth 65536 in
set_option maxHeartbeats 4000000 in
theorem ok19_54 (l : Launch) (Z : State) (a0 : Array Value) (hw : HW a0 Z) (n0 : Nat) (n : Nat) (v2 : Int32) (s : St) (r : Int32 × St) (h : f_simulate_54 n v2 s = some r) : W19 l Z n0 (P19 r) 0 0 54 [.val (.ref 0), .unset, .val (.int v2)] [] (Hb 0 s) := by
  unfold f_simulate_54 at h
  refine WP.iloadN d19_54 rfl ?_
  refine WP.iconst (1 : Int32) d19_55 rfl ?_
  rcases ite_e h with ⟨hc1, h⟩ | ⟨hc1, h⟩
  ·
    refine WP.icmpN d19_56 (XT.ii_ge_f hc1) ?_
    refine WP.iconst (1 : Int32) d19_59 rfl ?_
    refine WP.istoreN (L' := [.val (.ref 0), .unset, .val (.int (1 : Int32))]) d19_60 (leb rfl) rfl ?_
    exact WP.weak (L' := [.val (.ref 0), .unset, .val (.int (1 : Int32))]) ⟨rfl, rfl, trivial⟩ (ok19_61 l Z a0 hw n0 n (1 : Int32) s _ h)
  ·
    refine WP.icmpY (pc' := 61) d19_56 (XT.ii_ge_t hc1) (by decide) rfl ?_
    exact WP.weak (L' := [.val (.ref 0), .unset, .val (.int v2)]) ⟨rfl, rfl, trivial⟩ (ok19_61 l Z a0 hw n0 n v2 s _ h)
def f_simulate_25 (n : Nat) (v1 : Int32) (s : St) : Option (Int32 × St) :=
  if v1 = 0 then
    (f_loadAdmitted n s).bind fun c2 =>
    (f_workHyper n (gI c2 1) c2).bind fun c3 =>
    f_simulate_54 n c3 c2
  else
    (f_loadCandidate n s).bind fun c4 =>
    lt (gI c4 5) fun x5 =>
    f_simulate_54 n x5 c4
set_option maxRecDepth 65536 in
set_option maxHeartbeats 4000000 in
theorem ok19_25 (l : Launch) (Z : State) (a0 : Array Value) (hw : HW a0 Z) (n0 : Nat) (n : Nat) (v1 : Int32) (s : St) (r : Int32 × St) (h : f_simulate_25 n v1 s = some r) : W19 l Z n0 (P19 r) 0 0 25 [.val (.ref 0), .val (.int v1), .unset] [] (Hb 0 s) := by
  unfold f_simulate_25 at h
  refine WP.iloadN d19_25 rfl ?_
  rcases ite_e h with ⟨hc1, h⟩ | ⟨hc1, h⟩
  ·
    refine WP.ifN d19_26 (XT.i0_ne_f hc1) ?_
    refine WP.aloadN d19_29 rfl ?_
    obtain ⟨c2, hc2, h⟩ := Option.bind_eq_some_iff.mp h
    refine WP.callP (i := 0) (y := y4) (as := []) (S := []) d19_30 (hw _ m_71) (hw _ m_73) (hw _ m_1) (hw _ m_72) (hw _ m_74) (hw _ m_2) hy4 rfl (ok4 l Z a0 hw n s _ hc2) rfl (lenOf pd4 rfl) (leb rfl) (leb rfl) (leb rfl) (leb rfl) ?_
    rintro _ _ ⟨rfl, rfl⟩
    show W19 l Z n0 (P19 r) 0 0 33 [.val (.ref 0), .val (.int v1), .unset] [] (Hb 0 c2)
    refine WP.aloadN d19_33 rfl ?_
    refine WP.aloadN d19_34 rfl ?_
    refine WP.getfield (i := 0) (j := 1) d19_35 (hw _ m_40) rfl rfl rfl ?_
    obtain ⟨c3, hc3, h⟩ := Option.bind_eq_some_iff.mp h
    refine WP.callP (i := 0) (y := y6) (as := [.int (gI c2 1)]) (S := []) d19_38 (hw _ m_79) (hw _ m_81) (hw _ m_1) (hw _ m_80) (hw _ m_82) (hw _ m_2) hy6 rfl (ok6 l Z a0 hw n (gI c2 1) c2 _ hc3) rfl (lenOf pd6 rfl) (leb rfl) (leb rfl) (leb rfl) (leb rfl) ?_
    rintro _ _ ⟨rfl, rfl⟩
    show W19 l Z n0 (P19 r) 0 0 41 [.val (.ref 0), .val (.int v1), .unset] [.int c3] (Hb 0 c2)
    refine WP.istoreN (L' := [.val (.ref 0), .val (.int v1), .val (.int c3)]) d19_41 (leb rfl) rfl ?_
    refine WP.goto (pc' := 54) d19_42 (by decide) rfl ?_
    exact WP.weak (L' := [.val (.ref 0), .unset, .val (.int c3)]) ⟨rfl, rfl, trivial⟩ (ok19_54 l Z a0 hw n0 n c3 c2 _ h)
  ·
    refine WP.ifY (pc' := 45) d19_26 (XT.i0_ne_t hc1) (by decide) rfl ?_
    refine WP.aloadN d19_45 rfl ?_
    obtain ⟨c4, hc4, h⟩ := Option.bind_eq_some_iff.mp h
    refine WP.callP (i := 0) (y := y20) (as := []) (S := []) d19_46 (hw _ m_140) (hw _ m_142) (hw _ m_1) (hw _ m_141) (hw _ m_143) (hw _ m_2) hy20 rfl (ok20 l Z a0 hw n s _ hc4) rfl (lenOf pd20 rfl) (leb rfl) (leb rfl) (leb rfl) (leb rfl) ?_
    rintro _ _ ⟨rfl, rfl⟩
    show W19 l Z n0 (P19 r) 0 0 49 [.val (.ref 0), .val (.int v1), .unset] [] (Hb 0 c4)
    refine WP.aloadN d19_49 rfl ?_
    refine WP.getfield (i := 0) (j := 11) d19_50 (hw _ m_48) rfl rfl rfl ?_
    obtain ⟨x5, ex5, h⟩ := lt_e h
    refine WP.istoreN (L' := [.val (.ref 0), .val (.int v1), .val (.int x5)]) d19_53 (leb rfl) (by subst ex5; rfl) ?_
    exact WP.weak (L' := [.val (.ref 0), .unset, .val (.int x5)]) ⟨rfl, rfl, trivial⟩ (ok19_54 l Z a0 hw n0 n x5 c4 _ h)
def f_simulate_11 (n : Nat) (v1 : Int32) (s : St) : Option (Int32 × St) :=
  if v1 = (1 : Int32) then
    if (gI s 4) = 0 then
      some ((0 : Int32), s)
    else
      f_simulate_25 n v1 s
  else
    f_simulate_25 n v1 s
set_option maxRecDepth 65536 in
set_option maxHeartbeats 4000000 in
theorem ok19_11 (l : Launch) (Z : State) (a0 : Array Value) (hw : HW a0 Z) (n0 : Nat) (n : Nat) (v1 : Int32) (s : St) (r : Int32 × St) (h : f_simulate_11 n v1 s = some r) : W19 l Z n0 (P19 r) 0 0 11 [.val (.ref 0), .val (.int v1), .unset] [] (Hb 0 s) := by
  unfold f_simulate_11 at h
  refine WP.iloadN d19_11 rfl ?_
  refine WP.iconst (1 : Int32) d19_12 rfl ?_
  rcases ite_e h with ⟨hc1, h⟩ | ⟨hc1, h⟩
  ·
    refine WP.icmpN d19_13 (XT.ii_ne_f hc1) ?_
    refine WP.aloadN d19_16 rfl ?_
    refine WP.getfield (i := 0) (j := 10) d19_17 (hw _ m_46) rfl rfl rfl ?_
    rcases ite_e h with ⟨hc2, h⟩ | ⟨hc2, h⟩
    ·
      refine WP.ifN d19_20 (XT.i0_ne_f hc2) ?_
      refine WP.iconst (0 : Int32) d19_23 rfl ?_
      cases h
      exact WP.ireturn d19_24 rfl (leb rfl) (leb rfl) ⟨rfl, rfl⟩
    ·
      refine WP.ifY (pc' := 25) d19_20 (XT.i0_ne_t hc2) (by decide) rfl ?_
      exact WP.weak (L' := [.val (.ref 0), .val (.int v1), .unset]) ⟨rfl, rfl, trivial⟩ (ok19_25 l Z a0 hw n0 n v1 s _ h)
  ·
    refine WP.icmpY (pc' := 25) d19_13 (XT.ii_ne_t hc1) (by decide) rfl ?_
    exact WP.weak (L' := [.val (.ref 0), .val (.int v1), .unset]) ⟨rfl, rfl, trivial⟩ (ok19_25 l Z a0 hw n0 n v1 s _ h)
def f_simulate (n : Nat) (p1 : Int32) (s : St) : Option (Int32 × St) :=
  if p1 = 0 then
    f_simulate_11 n p1 s
  else
    if p1 = (1 : Int32) then
      f_simulate_11 n p1 s
    else
      some ((0 : Int32), s)
set_option maxRecDepth 65536 in
set_option maxHeartbeats 4000000 in
theorem ok19 (l : Launch) (Z : State) (a0 : Array Value) (hw : HW a0 Z) (n : Nat) (p1 : Int32) (s : St) (r : Int32 × St) (h : f_simulate n p1 s = some r) : CS l Z CN lay y19 prog_1_method_14_code 3 (some FieldType.int) R19 0 [.ref 0, .int p1] (Hb 0 s) (P19 r) := by
  refine CS.of_wp pn_cls (leb rfl) fun n0 => ?_
  show W19 l Z n0 (P19 r) 0 0 0 [.val (.ref 0), .val (.int p1), .unset] [] (Hb 0 s)
  unfold f_simulate at h
  refine WP.iloadN d19_0 rfl ?_
  rcases ite_e h with ⟨hc1, h⟩ | ⟨hc1, h⟩
  ·
    refine WP.ifY (pc' := 11) d19_1 (XT.i0_eq_t hc1) (by decide) rfl ?_
    exact WP.weak (L' := [.val (.ref 0), .val (.int p1), .unset]) ⟨rfl, rfl, trivial⟩ (ok19_11 l Z a0 hw n0 n p1 s _ h)
  ·
    refine WP.ifN d19_1 (XT.i0_eq_f hc1) ?_
    refine WP.iloadN d19_4 rfl ?_
    refine WP.iconst (1 : Int32) d19_5 rfl ?_
    rcases ite_e h with ⟨hc2, h⟩ | ⟨hc2, h⟩
    ·
      refine WP.icmpY (pc' := 11) d19_6 (XT.ii_eq_t hc2) (by decide) rfl ?_
      exact WP.weak (L' := [.val (.ref 0), .val (.int p1), .unset]) ⟨rfl, rfl, trivial⟩ (ok19_11 l Z a0 hw n0 n p1 s _ h)
    ·
      refine WP.icmpN d19_6 (XT.ii_eq_f hc2) ?_
      refine WP.iconst (0 : Int32) d19_9 rfl ?_
      cases h
      exact WP.ireturn d19_10 rfl (leb rfl) (leb rfl) ⟨rfl, rfl⟩
theorem d28_0 : dc prog_1_method_15_code 0 (.aload_n 0) 1 := by decide +kernel
theorem d28_1 : dc prog_1_method_15_code 1 (.getfield 76) 3 := by decide +kernel
theorem d28_4 : dc prog_1_method_15_code 4 (.ireturn) 1 := by decide +kernel
abbrev y28 : MethodName := ⟨"DemandGate", "missDeadline", "()I"⟩
theorem hy28 : y28.cls ≠ "java/lang/invoke/MethodHandle" ∧ y28.cls ≠ "java/lang/invoke/VarHandle" := by decide
theorem pd28 : parseMethodDescriptor y28.desc = some ⟨[], some .int⟩ := by decide +kernel
abbrev R28 : Room := { frames := 0, cells := 0, slots := 0, locals := 0 }
abbrev P28 (s : St) (r : Int32) : Option Value → List OwnC → Prop := fun v H' => v = some (.int r) ∧ H' = (Hb 0 s)
abbrev W28 (l : Launch) (Z : State) (n0 : Nat) (Q : Option Value → List OwnC → Prop) (k n pc : Nat) (L : List Slot) (S : List Value) (H : List OwnC) : Prop := WP l Z CN lay "DemandGate" "missDeadline" prog_1_method_15_code 1 (some FieldType.int) R28 n0 0 Q k n pc L S H
def f_missDeadline (s : St) : Option (Int32) :=
  some (gI s 8)
set_option maxRecDepth 65536 in
set_option maxHeartbeats 4000000 in
theorem ok28 (l : Launch) (Z : State) (a0 : Array Value) (hw : HW a0 Z) (s : St) (r : Int32) (h : f_missDeadline s = some r) : CS l Z CN lay y28 prog_1_method_15_code 1 (some FieldType.int) R28 0 [.ref 0] (Hb 0 s) (P28 s r) := by
  refine CS.of_wp pn_cls (leb rfl) fun n0 => ?_
  show W28 l Z n0 (P28 s r) 0 0 0 [.val (.ref 0)] [] (Hb 0 s)
  unfold f_missDeadline at h
  refine WP.aloadN d28_0 rfl ?_
  refine WP.getfield (i := 0) (j := 14) d28_1 (hw _ m_54) rfl rfl rfl ?_
  cases h
  exact WP.ireturn d28_4 rfl (leb rfl) (leb rfl) ⟨rfl, rfl⟩
theorem d29_0 : dc prog_1_method_16_code 0 (.aload_n 0) 1 := by decide +kernel
theorem d29_1 : dc prog_1_method_16_code 1 (.getfield 79) 3 := by decide +kernel
theorem d29_4 : dc prog_1_method_16_code 4 (.ireturn) 1 := by decide +kernel
abbrev y29 : MethodName := ⟨"DemandGate", "missTask", "()I"⟩
theorem hy29 : y29.cls ≠ "java/lang/invoke/MethodHandle" ∧ y29.cls ≠ "java/lang/invoke/VarHandle" := by decide
theorem pd29 : parseMethodDescriptor y29.desc = some ⟨[], some .int⟩ := by decide +kernel
abbrev R29 : Room := { frames := 0, cells := 0, slots := 0, locals := 0 }
abbrev P29 (s : St) (r : Int32) : Option Value → List OwnC → Prop := fun v H' => v = some (.int r) ∧ H' = (Hb 0 s)
abbrev W29 (l : Launch) (Z : State) (n0 : Nat) (Q : Option Value → List OwnC → Prop) (k n pc : Nat) (L : List Slot) (S : List Value) (H : List OwnC) : Prop := WP l Z CN lay "DemandGate" "missTask" prog_1_method_16_code 1 (some FieldType.int) R29 n0 0 Q k n pc L S H
def f_missTask (s : St) : Option (Int32) :=
  some (gI s 9)
set_option maxRecDepth 65536 in
set_option maxHeartbeats 4000000 in
theorem ok29 (l : Launch) (Z : State) (a0 : Array Value) (hw : HW a0 Z) (s : St) (r : Int32) (h : f_missTask s = some r) : CS l Z CN lay y29 prog_1_method_16_code 1 (some FieldType.int) R29 0 [.ref 0] (Hb 0 s) (P29 s r) := by
  refine CS.of_wp pn_cls (leb rfl) fun n0 => ?_
  show W29 l Z n0 (P29 s r) 0 0 0 [.val (.ref 0)] [] (Hb 0 s)
  unfold f_missTask at h
  refine WP.aloadN d29_0 rfl ?_
  refine WP.getfield (i := 0) (j := 15) d29_1 (hw _ m_56) rfl rfl rfl ?_
  cases h
  exact WP.ireturn d29_4 rfl (leb rfl) (leb rfl) ⟨rfl, rfl⟩
theorem d30_0 : dc prog_1_method_17_code 0 (.aload_n 0) 1 := by decide +kernel
theorem d30_1 : dc prog_1_method_17_code 1 (.getfield 82) 3 := by decide +kernel
theorem d30_4 : dc prog_1_method_17_code 4 (.ireturn) 1 := by decide +kernel
abbrev y30 : MethodName := ⟨"DemandGate", "idleUnits", "()I"⟩
theorem hy30 : y30.cls ≠ "java/lang/invoke/MethodHandle" ∧ y30.cls ≠ "java/lang/invoke/VarHandle" := by decide
theorem pd30 : parseMethodDescriptor y30.desc = some ⟨[], some .int⟩ := by decide +kernel
abbrev R30 : Room := { frames := 0, cells := 0, slots := 0, locals := 0 }
abbrev P30 (s : St) (r : Int32) : Option Value → List OwnC → Prop := fun v H' => v = some (.int r) ∧ H' = (Hb 0 s)
abbrev W30 (l : Launch) (Z : State) (n0 : Nat) (Q : Option Value → List OwnC → Prop) (k n pc : Nat) (L : List Slot) (S : List Value) (H : List OwnC) : Prop := WP l Z CN lay "DemandGate" "idleUnits" prog_1_method_17_code 1 (some FieldType.int) R30 n0 0 Q k n pc L S H
def f_idleUnits (s : St) : Option (Int32) :=
  some (gI s 10)
set_option maxRecDepth 65536 in
set_option maxHeartbeats 4000000 in
theorem ok30 (l : Launch) (Z : State) (a0 : Array Value) (hw : HW a0 Z) (s : St) (r : Int32) (h : f_idleUnits s = some r) : CS l Z CN lay y30 prog_1_method_17_code 1 (some FieldType.int) R30 0 [.ref 0] (Hb 0 s) (P30 s r) := by
  refine CS.of_wp pn_cls (leb rfl) fun n0 => ?_
  show W30 l Z n0 (P30 s r) 0 0 0 [.val (.ref 0)] [] (Hb 0 s)
  unfold f_idleUnits at h
  refine WP.aloadN d30_0 rfl ?_
  refine WP.getfield (i := 0) (j := 16) d30_1 (hw _ m_58) rfl rfl rfl ?_
  cases h
  exact WP.ireturn d30_4 rfl (leb rfl) (leb rfl) ⟨rfl, rfl⟩
abbrev PLAW (r : Int32) : Option Value → List OwnC → Prop := fun v _ => v = some (.int r)
abbrev WLAW (l : Launch) (Z : State) (n0 : Nat) (Q : Option Value → List OwnC → Prop) (k n pc : Nat) (L : List Slot) (S : List Value) (H : List OwnC) : Prop := WP l Z CN lay "DemandGateL3" "law" code maxLocals ret room_1 n0 0 Q k n pc L S H
def f_law_203 (k152 : Int32 → Int32 → Int32 → Int32 → Int32 → Int32 → Int32 → Int32 → Int32 → Int32 → Int32 → Int32 → Int32 → Int32 → Int32 → Int32 → Int32 → Int32 → Int32 → St → Option (Int32)) (n : Nat) (v4 : Int32) (v5 : Int32) (v6 : Int32) (v7 : Int32) (v9 : Int32) (v10 : Int32) (v11 : Int32) (v12 : Int32) (v13 : Int32) (v14 : Int32) (v15 : Int32) (v16 : Int32) (v17 : Int32) (v18 : Int32) (v19 : Int32) (v20 : Int32) (v21 : Int32) (v22 : Int32) (v23 : Int32) (s0 : St) : Option (Int32) :=
  lt (v23 + (1 : Int32)) fun x1 =>
  k152 v4 v5 v6 v7 v9 v10 v11 v12 v13 v14 v15 v16 v17 v18 v19 v20 v21 v22 x1 s0
set_option maxRecDepth 65536 in
set_option maxHeartbeats 4000000 in
theorem okLAW_203 (l : Launch) (Z : State) (a0 : Array Value) (hw : HW a0 Z) (n0 : Nat) (k152 : Int32 → Int32 → Int32 → Int32 → Int32 → Int32 → Int32 → Int32 → Int32 → Int32 → Int32 → Int32 → Int32 → Int32 → Int32 → Int32 → Int32 → Int32 → Int32 → St → Option (Int32)) (hk152 : ∀ (v4 : Int32) (v5 : Int32) (v6 : Int32) (v7 : Int32) (v9 : Int32) (v10 : Int32) (v11 : Int32) (v12 : Int32) (v13 : Int32) (v14 : Int32) (v15 : Int32) (v16 : Int32) (v17 : Int32) (v18 : Int32) (v19 : Int32) (v20 : Int32) (v21 : Int32) (v22 : Int32) (v23 : Int32) (s0 : St) (r : Int32), k152 v4 v5 v6 v7 v9 v10 v11 v12 v13 v14 v15 v16 v17 v18 v19 v20 v21 v22 v23 s0 = some r → WLAW l Z n0 (PLAW r) 13 168 152 [.unset, .unset, .unset, .unset, .val (.int v4), .val (.int v5), .val (.int v6), .val (.int v7), .unset, .val (.int v9), .val (.int v10), .val (.int v11), .val (.int v12), .val (.int v13), .val (.int v14), .val (.int v15), .val (.int v16), .val (.int v17), .val (.int v18), .val (.int v19), .val (.int v20), .val (.int v21), .val (.int v22), .val (.int v23), .unset, .unset, .unset] [] (Hb 0 s0)) (n : Nat) (v4 : Int32) (v5 : Int32) (v6 : Int32) (v7 : Int32) (v9 : Int32) (v10 : Int32) (v11 : Int32) (v12 : Int32) (v13 : Int32) (v14 : Int32) (v15 : Int32) (v16 : Int32) (v17 : Int32) (v18 : Int32) (v19 : Int32) (v20 : Int32) (v21 : Int32) (v22 : Int32) (v23 : Int32) (s0 : St) (r : Int32) (h : f_law_203 k152 n v4 v5 v6 v7 v9 v10 v11 v12 v13 v14 v15 v16 v17 v18 v19 v20 v21 v22 v23 s0 = some r) : WLAW l Z n0 (PLAW r) 13 168 203 [.unset, .unset, .unset, .unset, .val (.int v4), .val (.int v5), .val (.int v6), .val (.int v7), .unset, .val (.int v9), .val (.int v10), .val (.int v11), .val (.int v12), .val (.int v13), .val (.int v14), .val (.int v15), .val (.int v16), .val (.int v17), .val (.int v18), .val (.int v19), .val (.int v20), .val (.int v21), .val (.int v22), .val (.int v23), .unset, .unset, .unset] [] (Hb 0 s0) := by
  unfold f_law_203 at h
  obtain ⟨x1, ex1, h⟩ := lt_e h
  refine WP.iinc (L' := [.unset, .unset, .unset, .unset, .val (.int v4), .val (.int v5), .val (.int v6), .val (.int v7), .unset, .val (.int v9), .val (.int v10), .val (.int v11), .val (.int v12), .val (.int v13), .val (.int v14), .val (.int v15), .val (.int v16), .val (.int v17), .val (.int v18), .val (.int v19), .val (.int v20), .val (.int v21), .val (.int v22), .val (.int x1), .unset, .unset, .unset]) (1 : Int32) at_203 rfl rfl (by subst ex1; rfl) ?_
  refine WP.goto (pc' := 152) at_206 (by decide) rfl ?_
  exact WP.weak (L' := [.unset, .unset, .unset, .unset, .val (.int v4), .val (.int v5), .val (.int v6), .val (.int v7), .unset, .val (.int v9), .val (.int v10), .val (.int v11), .val (.int v12), .val (.int v13), .val (.int v14), .val (.int v15), .val (.int v16), .val (.int v17), .val (.int v18), .val (.int v19), .val (.int v20), .val (.int v21), .val (.int v22), .val (.int x1), .unset, .unset, .unset]) ⟨rfl, rfl, rfl, rfl, rfl, rfl, rfl, rfl, rfl, rfl, rfl, rfl, rfl, rfl, rfl, rfl, rfl, rfl, rfl, trivial⟩ (hk152 v4 v5 v6 v7 v9 v10 v11 v12 v13 v14 v15 v16 v17 v18 v19 v20 v21 v22 x1 s0 _ h)
def f_law_184 (k152 : Int32 → Int32 → Int32 → Int32 → Int32 → Int32 → Int32 → Int32 → Int32 → Int32 → Int32 → Int32 → Int32 → Int32 → Int32 → Int32 → Int32 → Int32 → Int32 → St → Option (Int32)) (n : Nat) (v4 : Int32) (v5 : Int32) (v6 : Int32) (v7 : Int32) (v9 : Int32) (v10 : Int32) (v11 : Int32) (v12 : Int32) (v13 : Int32) (v14 : Int32) (v15 : Int32) (v16 : Int32) (v17 : Int32) (v18 : Int32) (v19 : Int32) (v20 : Int32) (v21 : Int32) (v22 : Int32) (v23 : Int32) (t0 : Int32) (t1 : Int32) (s0 : St) : Option (Int32) :=
  lt (t1 + t0) fun x1 =>
  if v22 = 0 then
    if v23 < x1 then
      f_law_203 k152 n v4 v5 v6 v7 v9 v10 v11 v12 v13 v14 v15 v16 v17 v18 v19 v20 v21 v23 v23 s0
    else
      f_law_203 k152 n v4 v5 v6 v7 v9 v10 v11 v12 v13 v14 v15 v16 v17 v18 v19 v20 v21 v22 v23 s0
  else
    f_law_203 k152 n v4 v5 v6 v7 v9 v10 v11 v12 v13 v14 v15 v16 v17 v18 v19 v20 v21 v22 v23 s0
set_option maxRecDepth 65536 in
set_option maxHeartbeats 4000000 in
theorem okLAW_184 (l : Launch) (Z : State) (a0 : Array Value) (hw : HW a0 Z) (n0 : Nat) (k152 : Int32 → Int32 → Int32 → Int32 → Int32 → Int32 → Int32 → Int32 → Int32 → Int32 → Int32 → Int32 → Int32 → Int32 → Int32 → Int32 → Int32 → Int32 → Int32 → St → Option (Int32)) (hk152 : ∀ (v4 : Int32) (v5 : Int32) (v6 : Int32) (v7 : Int32) (v9 : Int32) (v10 : Int32) (v11 : Int32) (v12 : Int32) (v13 : Int32) (v14 : Int32) (v15 : Int32) (v16 : Int32) (v17 : Int32) (v18 : Int32) (v19 : Int32) (v20 : Int32) (v21 : Int32) (v22 : Int32) (v23 : Int32) (s0 : St) (r : Int32), k152 v4 v5 v6 v7 v9 v10 v11 v12 v13 v14 v15 v16 v17 v18 v19 v20 v21 v22 v23 s0 = some r → WLAW l Z n0 (PLAW r) 13 168 152 [.unset, .unset, .unset, .unset, .val (.int v4), .val (.int v5), .val (.int v6), .val (.int v7), .unset, .val (.int v9), .val (.int v10), .val (.int v11), .val (.int v12), .val (.int v13), .val (.int v14), .val (.int v15), .val (.int v16), .val (.int v17), .val (.int v18), .val (.int v19), .val (.int v20), .val (.int v21), .val (.int v22), .val (.int v23), .unset, .unset, .unset] [] (Hb 0 s0)) (n : Nat) (v4 : Int32) (v5 : Int32) (v6 : Int32) (v7 : Int32) (v9 : Int32) (v10 : Int32) (v11 : Int32) (v12 : Int32) (v13 : Int32) (v14 : Int32) (v15 : Int32) (v16 : Int32) (v17 : Int32) (v18 : Int32) (v19 : Int32) (v20 : Int32) (v21 : Int32) (v22 : Int32) (v23 : Int32) (t0 : Int32) (t1 : Int32) (s0 : St) (r : Int32) (h : f_law_184 k152 n v4 v5 v6 v7 v9 v10 v11 v12 v13 v14 v15 v16 v17 v18 v19 v20 v21 v22 v23 t0 t1 s0 = some r) : WLAW l Z n0 (PLAW r) 13 168 184 [.unset, .unset, .unset, .unset, .val (.int v4), .val (.int v5), .val (.int v6), .val (.int v7), .unset, .val (.int v9), .val (.int v10), .val (.int v11), .val (.int v12), .val (.int v13), .val (.int v14), .val (.int v15), .val (.int v16), .val (.int v17), .val (.int v18), .val (.int v19), .val (.int v20), .val (.int v21), .val (.int v22), .val (.int v23), .unset, .unset, .unset] [.int t0, .int t1] (Hb 0 s0) := by
  unfold f_law_184 at h
  refine WP.iadd at_184 ?_
  obtain ⟨x1, ex1, h⟩ := lt_e h
  refine WP.istore (L' := [.unset, .unset, .unset, .unset, .val (.int v4), .val (.int v5), .val (.int v6), .val (.int v7), .unset, .val (.int v9), .val (.int v10), .val (.int v11), .val (.int v12), .val (.int v13), .val (.int v14), .val (.int v15), .val (.int v16), .val (.int v17), .val (.int v18), .val (.int v19), .val (.int v20), .val (.int v21), .val (.int v22), .val (.int v23), .val (.int x1), .unset, .unset]) at_185 (leb rfl) (by subst ex1; rfl) ?_
  refine WP.iload at_187 rfl ?_
  rcases ite_e h with ⟨hc2, h⟩ | ⟨hc2, h⟩
  ·
    refine WP.ifN at_189 (XT.i0_ne_f hc2) ?_
    refine WP.iload at_192 rfl ?_
    refine WP.iload at_194 rfl ?_
    rcases ite_e h with ⟨hc3, h⟩ | ⟨hc3, h⟩
    ·
      refine WP.icmpN at_196 (XT.ii_le_f hc3) ?_
      refine WP.iload at_199 rfl ?_
      refine WP.istore (L' := [.unset, .unset, .unset, .unset, .val (.int v4), .val (.int v5), .val (.int v6), .val (.int v7), .unset, .val (.int v9), .val (.int v10), .val (.int v11), .val (.int v12), .val (.int v13), .val (.int v14), .val (.int v15), .val (.int v16), .val (.int v17), .val (.int v18), .val (.int v19), .val (.int v20), .val (.int v21), .val (.int v23), .val (.int v23), .val (.int x1), .unset, .unset]) at_201 (leb rfl) rfl ?_
      exact WP.weak (L' := [.unset, .unset, .unset, .unset, .val (.int v4), .val (.int v5), .val (.int v6), .val (.int v7), .unset, .val (.int v9), .val (.int v10), .val (.int v11), .val (.int v12), .val (.int v13), .val (.int v14), .val (.int v15), .val (.int v16), .val (.int v17), .val (.int v18), .val (.int v19), .val (.int v20), .val (.int v21), .val (.int v23), .val (.int v23), .unset, .unset, .unset]) ⟨rfl, rfl, rfl, rfl, rfl, rfl, rfl, rfl, rfl, rfl, rfl, rfl, rfl, rfl, rfl, rfl, rfl, rfl, rfl, trivial⟩ (okLAW_203 l Z a0 hw n0 _ hk152 n v4 v5 v6 v7 v9 v10 v11 v12 v13 v14 v15 v16 v17 v18 v19 v20 v21 v23 v23 s0 _ h)
    ·
      refine WP.icmpY (pc' := 203) at_196 (XT.ii_le_t hc3) (by decide) rfl ?_
      exact WP.weak (L' := [.unset, .unset, .unset, .unset, .val (.int v4), .val (.int v5), .val (.int v6), .val (.int v7), .unset, .val (.int v9), .val (.int v10), .val (.int v11), .val (.int v12), .val (.int v13), .val (.int v14), .val (.int v15), .val (.int v16), .val (.int v17), .val (.int v18), .val (.int v19), .val (.int v20), .val (.int v21), .val (.int v22), .val (.int v23), .unset, .unset, .unset]) ⟨rfl, rfl, rfl, rfl, rfl, rfl, rfl, rfl, rfl, rfl, rfl, rfl, rfl, rfl, rfl, rfl, rfl, rfl, rfl, trivial⟩ (okLAW_203 l Z a0 hw n0 _ hk152 n v4 v5 v6 v7 v9 v10 v11 v12 v13 v14 v15 v16 v17 v18 v19 v20 v21 v22 v23 s0 _ h)
  ·
    refine WP.ifY (pc' := 203) at_189 (XT.i0_ne_t hc2) (by decide) rfl ?_
    exact WP.weak (L' := [.unset, .unset, .unset, .unset, .val (.int v4), .val (.int v5), .val (.int v6), .val (.int v7), .unset, .val (.int v9), .val (.int v10), .val (.int v11), .val (.int v12), .val (.int v13), .val (.int v14), .val (.int v15), .val (.int v16), .val (.int v17), .val (.int v18), .val (.int v19), .val (.int v20), .val (.int v21), .val (.int v22), .val (.int v23), .unset, .unset, .unset]) ⟨rfl, rfl, rfl, rfl, rfl, rfl, rfl, rfl, rfl, rfl, rfl, rfl, rfl, rfl, rfl, rfl, rfl, rfl, rfl, trivial⟩ (okLAW_203 l Z a0 hw n0 _ hk152 n v4 v5 v6 v7 v9 v10 v11 v12 v13 v14 v15 v16 v17 v18 v19 v20 v21 v22 v23 s0 _ h)
def f_law_171 (k152 : Int32 → Int32 → Int32 → Int32 → Int32 → Int32 → Int32 → Int32 → Int32 → Int32 → Int32 → Int32 → Int32 → Int32 → Int32 → Int32 → Int32 → Int32 → Int32 → St → Option (Int32)) (n : Nat) (v4 : Int32) (v5 : Int32) (v6 : Int32) (v7 : Int32) (v9 : Int32) (v10 : Int32) (v11 : Int32) (v12 : Int32) (v13 : Int32) (v14 : Int32) (v15 : Int32) (v16 : Int32) (v17 : Int32) (v18 : Int32) (v19 : Int32) (v20 : Int32) (v21 : Int32) (v22 : Int32) (v23 : Int32) (t0 : Int32) (s0 : St) : Option (Int32) :=
  if v23 < v7 then
    f_law_184 k152 n v4 v5 v6 v7 v9 v10 v11 v12 v13 v14 v15 v16 v17 v18 v19 v20 v21 v22 v23 (0 : Int32) t0 s0
  else
    f_law_184 k152 n v4 v5 v6 v7 v9 v10 v11 v12 v13 v14 v15 v16 v17 v18 v19 v20 v21 v22 v23 v6 t0 s0
set_option maxRecDepth 65536 in
set_option maxHeartbeats 4000000 in
theorem okLAW_171 (l : Launch) (Z : State) (a0 : Array Value) (hw : HW a0 Z) (n0 : Nat) (k152 : Int32 → Int32 → Int32 → Int32 → Int32 → Int32 → Int32 → Int32 → Int32 → Int32 → Int32 → Int32 → Int32 → Int32 → Int32 → Int32 → Int32 → Int32 → Int32 → St → Option (Int32)) (hk152 : ∀ (v4 : Int32) (v5 : Int32) (v6 : Int32) (v7 : Int32) (v9 : Int32) (v10 : Int32) (v11 : Int32) (v12 : Int32) (v13 : Int32) (v14 : Int32) (v15 : Int32) (v16 : Int32) (v17 : Int32) (v18 : Int32) (v19 : Int32) (v20 : Int32) (v21 : Int32) (v22 : Int32) (v23 : Int32) (s0 : St) (r : Int32), k152 v4 v5 v6 v7 v9 v10 v11 v12 v13 v14 v15 v16 v17 v18 v19 v20 v21 v22 v23 s0 = some r → WLAW l Z n0 (PLAW r) 13 168 152 [.unset, .unset, .unset, .unset, .val (.int v4), .val (.int v5), .val (.int v6), .val (.int v7), .unset, .val (.int v9), .val (.int v10), .val (.int v11), .val (.int v12), .val (.int v13), .val (.int v14), .val (.int v15), .val (.int v16), .val (.int v17), .val (.int v18), .val (.int v19), .val (.int v20), .val (.int v21), .val (.int v22), .val (.int v23), .unset, .unset, .unset] [] (Hb 0 s0)) (n : Nat) (v4 : Int32) (v5 : Int32) (v6 : Int32) (v7 : Int32) (v9 : Int32) (v10 : Int32) (v11 : Int32) (v12 : Int32) (v13 : Int32) (v14 : Int32) (v15 : Int32) (v16 : Int32) (v17 : Int32) (v18 : Int32) (v19 : Int32) (v20 : Int32) (v21 : Int32) (v22 : Int32) (v23 : Int32) (t0 : Int32) (s0 : St) (r : Int32) (h : f_law_171 k152 n v4 v5 v6 v7 v9 v10 v11 v12 v13 v14 v15 v16 v17 v18 v19 v20 v21 v22 v23 t0 s0 = some r) : WLAW l Z n0 (PLAW r) 13 168 171 [.unset, .unset, .unset, .unset, .val (.int v4), .val (.int v5), .val (.int v6), .val (.int v7), .unset, .val (.int v9), .val (.int v10), .val (.int v11), .val (.int v12), .val (.int v13), .val (.int v14), .val (.int v15), .val (.int v16), .val (.int v17), .val (.int v18), .val (.int v19), .val (.int v20), .val (.int v21), .val (.int v22), .val (.int v23), .unset, .unset, .unset] [.int t0] (Hb 0 s0) := by
  unfold f_law_171 at h
  refine WP.iload at_171 rfl ?_
  refine WP.iload at_173 rfl ?_
  rcases ite_e h with ⟨hc1, h⟩ | ⟨hc1, h⟩
  ·
    refine WP.icmpY (pc' := 183) at_175 (XT.ii_lt_t hc1) (by decide) rfl ?_
    refine WP.iconst (0 : Int32) at_183 rfl ?_
    exact WP.weak (L' := [.unset, .unset, .unset, .unset, .val (.int v4), .val (.int v5), .val (.int v6), .val (.int v7), .unset, .val (.int v9), .val (.int v10), .val (.int v11), .val (.int v12), .val (.int v13), .val (.int v14), .val (.int v15), .val (.int v16), .val (.int v17), .val (.int v18), .val (.int v19), .val (.int v20), .val (.int v21), .val (.int v22), .val (.int v23), .unset, .unset, .unset]) ⟨rfl, rfl, rfl, rfl, rfl, rfl, rfl, rfl, rfl, rfl, rfl, rfl, rfl, rfl, rfl, rfl, rfl, rfl, rfl, trivial⟩ (okLAW_184 l Z a0 hw n0 _ hk152 n v4 v5 v6 v7 v9 v10 v11 v12 v13 v14 v15 v16 v17 v18 v19 v20 v21 v22 v23 (0 : Int32) t0 s0 _ h)
  ·
    refine WP.icmpN at_175 (XT.ii_lt_f hc1) ?_
    refine WP.iload at_178 rfl ?_
    refine WP.goto (pc' := 184) at_180 (by decide) rfl ?_
    exact WP.weak (L' := [.unset, .unset, .unset, .unset, .val (.int v4), .val (.int v5), .val (.int v6), .val (.int v7), .unset, .val (.int v9), .val (.int v10), .val (.int v11), .val (.int v12), .val (.int v13), .val (.int v14), .val (.int v15), .val (.int v16), .val (.int v17), .val (.int v18), .val (.int v19), .val (.int v20), .val (.int v21), .val (.int v22), .val (.int v23), .unset, .unset, .unset]) ⟨rfl, rfl, rfl, rfl, rfl, rfl, rfl, rfl, rfl, rfl, rfl, rfl, rfl, rfl, rfl, rfl, rfl, rfl, rfl, trivial⟩ (okLAW_184 l Z a0 hw n0 _ hk152 n v4 v5 v6 v7 v9 v10 v11 v12 v13 v14 v15 v16 v17 v18 v19 v20 v21 v22 v23 v6 t0 s0 _ h)
def f_law_311 (n : Nat) (s0 : St) : Option (Int32) :=
  some (0 : Int32)
set_option maxRecDepth 65536 in
set_option maxHeartbeats 4000000 in
theorem okLAW_311 (l : Launch) (Z : State) (a0 : Array Value) (hw : HW a0 Z) (n0 : Nat) (n : Nat) (s0 : St) (r : Int32) (h : f_law_311 n s0 = some r) : WLAW l Z n0 (PLAW r) 13 168 311 [.unset, .unset, .unset, .unset, .unset, .unset, .unset, .unset, .unset, .unset, .unset, .unset, .unset, .unset, .unset, .unset, .unset, .unset, .unset, .unset, .unset, .unset, .unset, .unset, .unset, .unset, .unset] [] (Hb 0 s0) := by
  unfold f_law_311 at h
  refine WP.iconst (0 : Int32) at_311 rfl ?_
  cases h
  exact WP.zreturn at_312 rfl (leb rfl) (leb rfl) rfl
def f_law_393 (n : Nat) (t0 : Int32) (s0 : St) : Option (Int32) :=
  some (t0 &&& 1)
set_option maxRecDepth 65536 in
set_option maxHeartbeats 4000000 in
theorem okLAW_393 (l : Launch) (Z : State) (a0 : Array Value) (hw : HW a0 Z) (n0 : Nat) (n : Nat) (t0 : Int32) (s0 : St) (r : Int32) (h : f_law_393 n t0 s0 = some r) : WLAW l Z n0 (PLAW r) 13 168 393 [.unset, .unset, .unset, .unset, .unset, .unset, .unset, .unset, .unset, .unset, .unset, .unset, .unset, .unset, .unset, .unset, .unset, .unset, .unset, .unset, .unset, .unset, .unset, .unset, .unset, .unset, .unset] [.int t0] (Hb 0 s0) := by
  unfold f_law_393 at h
  cases h
  exact WP.zreturn at_393 rfl (leb rfl) (leb rfl) rfl
def f_law_392 (n : Nat) (s0 : St) : Option (Int32) :=
  f_law_393 n (0 : Int32) s0
set_option maxRecDepth 65536 in
set_option maxHeartbeats 4000000 in
theorem okLAW_392 (l : Launch) (Z : State) (a0 : Array Value) (hw : HW a0 Z) (n0 : Nat) (n : Nat) (s0 : St) (r : Int32) (h : f_law_392 n s0 = some r) : WLAW l Z n0 (PLAW r) 13 168 392 [.unset, .unset, .unset, .unset, .unset, .unset, .unset, .unset, .unset, .unset, .unset, .unset, .unset, .unset, .unset, .unset, .unset, .unset, .unset, .unset, .unset, .unset, .unset, .unset, .unset, .unset, .unset] [] (Hb 0 s0) := by
  unfold f_law_392 at h
  refine WP.iconst (0 : Int32) at_392 rfl ?_
  exact WP.weak (L' := [.unset, .unset, .unset, .unset, .unset, .unset, .unset, .unset, .unset, .unset, .unset, .unset, .unset, .unset, .unset, .unset, .unset, .unset, .unset, .unset, .unset, .unset, .unset, .unset, .unset, .unset, .unset]) trivial (okLAW_393 l Z a0 hw n0 n (0 : Int32) s0 _ h)
def f_law_463 (n : Nat) (t0 : Int32) (s0 : St) : Option (Int32) :=
  some (t0 &&& 1)
set_option maxRecDepth 65536 in
set_option maxHeartbeats 4000000 in
theorem okLAW_463 (l : Launch) (Z : State) (a0 : Array Value) (hw : HW a0 Z) (n0 : Nat) (n : Nat) (t0 : Int32) (s0 : St) (r : Int32) (h : f_law_463 n t0 s0 = some r) : WLAW l Z n0 (PLAW r) 13 168 463 [.unset, .unset, .unset, .unset, .unset, .unset, .unset, .unset, .unset, .unset, .unset, .unset, .unset, .unset, .unset, .unset, .unset, .unset, .unset, .unset, .unset, .unset, .unset, .unset, .unset, .unset, .unset] [.int t0] (Hb 0 s0) := by
  unfold f_law_463 at h
  cases h
  exact WP.zreturn at_463 rfl (leb rfl) (leb rfl) rfl
def f_law_462 (n : Nat) (s0 : St) : Option (Int32) :=
  f_law_463 n (0 : Int32) s0
set_option maxRecDepth 65536 in
set_option maxHeartbeats 4000000 in
theorem okLAW_462 (l : Launch) (Z : State) (a0 : Array Value) (hw : HW a0 Z) (n0 : Nat) (n : Nat) (s0 : St) (r : Int32) (h : f_law_462 n s0 = some r) : WLAW l Z n0 (PLAW r) 13 168 462 [.unset, .unset, .unset, .unset, .unset, .unset, .unset, .unset, .unset, .unset, .unset, .unset, .unset, .unset, .unset, .unset, .unset, .unset, .unset, .unset, .unset, .unset, .unset, .unset, .unset, .unset, .unset] [] (Hb 0 s0) := by
  unfold f_law_462 at h
  refine WP.iconst (0 : Int32) at_462 rfl ?_
  exact WP.weak (L' := [.unset, .unset, .unset, .unset, .unset, .unset, .unset, .unset, .unset, .unset, .unset, .unset, .unset, .unset, .unset, .unset, .unset, .unset, .unset, .unset, .unset, .unset, .unset, .unset, .unset, .unset, .unset]) trivial (okLAW_463 l Z a0 hw n0 n (0 : Int32) s0 _ h)
def f_law_293 (n : Nat) (v5 : Int32) (v6 : Int32) (v9 : Int32) (v10 : Int32) (v11 : Int32) (v12 : Int32) (v13 : Int32) (v14 : Int32) (v15 : Int32) (v16 : Int32) (v17 : Int32) (v18 : Int32) (v19 : Int32) (v20 : Int32) (v21 : Int32) (v22 : Int32) (v25 : Int32) (v26 : Int32) (s0 : St) : Option (Int32) :=
  if v9 = 0 then
    if v11 = v22 then
      if v12 = (4 : Int32) then
        if v22 = 0 then
          if v10 = (1 : Int32) then
            if v13 = (2 : Int32) then
              if v14 = (1 : Int32) then
                if v15 = 0 then
                  if v16 = (-1 : Int32) then
                    if v17 = (((4 : Int32) - v5) - v6) then
                      if v18 = (1 : Int32) then
                        if v19 = 0 then
                          if v20 = (-1 : Int32) then
                            if v21 = (((4 : Int32) - v5) - v6) then
                              f_law_393 n (1 : Int32) s0
                            else
                              f_law_392 n s0
                          else
                            f_law_392 n s0
                        else
                          f_law_392 n s0
                      else
                        f_law_392 n s0
                    else
                      f_law_392 n s0
                  else
                    f_law_392 n s0
                else
                  f_law_392 n s0
              else
                f_law_392 n s0
            else
              f_law_392 n s0
          else
            f_law_392 n s0
        else
          if v10 = (-4 : Int32) then
            if v13 = (1 : Int32) then
              if v14 = (2 : Int32) then
                if v15 = v25 then
                  if v16 = v26 then
                    if v17 = 0 then
                      if v18 = (1 : Int32) then
                        if v19 = 0 then
                          if v20 = (-1 : Int32) then
                            if v21 = ((4 : Int32) - v5) then
                              f_law_463 n (1 : Int32) s0
                            else
                              f_law_462 n s0
                          else
                            f_law_462 n s0
                        else
                          f_law_462 n s0
                      else
                        f_law_462 n s0
                    else
                      f_law_462 n s0
                  else
                    f_law_462 n s0
                else
                  f_law_462 n s0
              else
                f_law_462 n s0
            else
              f_law_462 n s0
          else
            f_law_462 n s0
      else
        f_law_311 n s0
    else
      f_law_311 n s0
  else
    f_law_311 n s0
set_option maxRecDepth 65536 in
set_option maxHeartbeats 4000000 in
theorem okLAW_293 (l : Launch) (Z : State) (a0 : Array Value) (hw : HW a0 Z) (n0 : Nat) (n : Nat) (v5 : Int32) (v6 : Int32) (v9 : Int32) (v10 : Int32) (v11 : Int32) (v12 : Int32) (v13 : Int32) (v14 : Int32) (v15 : Int32) (v16 : Int32) (v17 : Int32) (v18 : Int32) (v19 : Int32) (v20 : Int32) (v21 : Int32) (v22 : Int32) (v25 : Int32) (v26 : Int32) (s0 : St) (r : Int32) (h : f_law_293 n v5 v6 v9 v10 v11 v12 v13 v14 v15 v16 v17 v18 v19 v20 v21 v22 v25 v26 s0 = some r) : WLAW l Z n0 (PLAW r) 13 168 293 [.unset, .unset, .unset, .unset, .unset, .val (.int v5), .val (.int v6), .unset, .unset, .val (.int v9), .val (.int v10), .val (.int v11), .val (.int v12), .val (.int v13), .val (.int v14), .val (.int v15), .val (.int v16), .val (.int v17), .val (.int v18), .val (.int v19), .val (.int v20), .val (.int v21), .val (.int v22), .unset, .unset, .val (.int v25), .val (.int v26)] [] (Hb 0 s0) := by
  unfold f_law_293 at h
  refine WP.iload at_293 rfl ?_
  rcases ite_e h with ⟨hc1, h⟩ | ⟨hc1, h⟩
  ·
    refine WP.ifN at_295 (XT.i0_ne_f hc1) ?_
    refine WP.iload at_298 rfl ?_
    refine WP.iload at_300 rfl ?_
    rcases ite_e h with ⟨hc2, h⟩ | ⟨hc2, h⟩
    ·
      refine WP.icmpN at_302 (XT.ii_ne_f hc2) ?_
      refine WP.iload at_305 rfl ?_
      refine WP.iconst (4 : Int32) at_307 rfl ?_
      rcases ite_e h with ⟨hc3, h⟩ | ⟨hc3, h⟩
      ·
        refine WP.icmpY (pc' := 313) at_308 (XT.ii_eq_t hc3) (by decide) rfl ?_
        refine WP.iload at_313 rfl ?_
        rcases ite_e h with ⟨hc4, h⟩ | ⟨hc4, h⟩
        ·
          refine WP.ifN at_315 (XT.i0_ne_f hc4) ?_
          refine WP.iload at_318 rfl ?_
          refine WP.iconst (1 : Int32) at_320 rfl ?_
          rcases ite_e h with ⟨hc5, h⟩ | ⟨hc5, h⟩
          ·
            refine WP.icmpN at_321 (XT.ii_ne_f hc5) ?_
            refine WP.iload at_324 rfl ?_
            refine WP.iconst (2 : Int32) at_326 rfl ?_
            rcases ite_e h with ⟨hc6, h⟩ | ⟨hc6, h⟩
            ·
              refine WP.icmpN at_327 (XT.ii_ne_f hc6) ?_
              refine WP.iload at_330 rfl ?_
              refine WP.iconst (1 : Int32) at_332 rfl ?_
              rcases ite_e h with ⟨hc7, h⟩ | ⟨hc7, h⟩
              ·
                refine WP.icmpN at_333 (XT.ii_ne_f hc7) ?_
                refine WP.iload at_336 rfl ?_
                rcases ite_e h with ⟨hc8, h⟩ | ⟨hc8, h⟩
                ·
                  refine WP.ifN at_338 (XT.i0_ne_f hc8) ?_
                  refine WP.iload at_341 rfl ?_
                  refine WP.iconst (-1 : Int32) at_343 rfl ?_
                  rcases ite_e h with ⟨hc9, h⟩ | ⟨hc9, h⟩
                  ·
                    refine WP.icmpN at_344 (XT.ii_ne_f hc9) ?_
                    refine WP.iload at_347 rfl ?_
                    refine WP.iconst (4 : Int32) at_349 rfl ?_
                    refine WP.iload at_350 rfl ?_
                    refine WP.isub at_352 ?_
                    refine WP.iload at_353 rfl ?_
                    refine WP.isub at_355 ?_
                    rcases ite_e h with ⟨hc10, h⟩ | ⟨hc10, h⟩
                    ·
                      refine WP.icmpN at_356 (XT.ii_ne_f hc10) ?_
                      refine WP.iload at_359 rfl ?_
                      refine WP.iconst (1 : Int32) at_361 rfl ?_
                      rcases ite_e h with ⟨hc11, h⟩ | ⟨hc11, h⟩
                      ·
                        refine WP.icmpN at_362 (XT.ii_ne_f hc11) ?_
                        refine WP.iload at_365 rfl ?_
                        rcases ite_e h with ⟨hc12, h⟩ | ⟨hc12, h⟩
                        ·
                          refine WP.ifN at_367 (XT.i0_ne_f hc12) ?_
                          refine WP.iload at_370 rfl ?_
                          refine WP.iconst (-1 : Int32) at_372 rfl ?_
                          rcases ite_e h with ⟨hc13, h⟩ | ⟨hc13, h⟩
                          ·
                            refine WP.icmpN at_373 (XT.ii_ne_f hc13) ?_
                            refine WP.iload at_376 rfl ?_
                            refine WP.iconst (4 : Int32) at_378 rfl ?_
                            refine WP.iload at_379 rfl ?_
                            refine WP.isub at_381 ?_
                            refine WP.iload at_382 rfl ?_
                            refine WP.isub at_384 ?_
                            rcases ite_e h with ⟨hc14, h⟩ | ⟨hc14, h⟩
                            ·
                              refine WP.icmpN at_385 (XT.ii_ne_f hc14) ?_
                              refine WP.iconst (1 : Int32) at_388 rfl ?_
                              refine WP.goto (pc' := 393) at_389 (by decide) rfl ?_
                              exact WP.weak (L' := [.unset, .unset, .unset, .unset, .unset, .unset, .unset, .unset, .unset, .unset, .unset, .unset, .unset, .unset, .unset, .unset, .unset, .unset, .unset, .unset, .unset, .unset, .unset, .unset, .unset, .unset, .unset]) trivial (okLAW_393 l Z a0 hw n0 n (1 : Int32) s0 _ h)
                            ·
                              refine WP.icmpY (pc' := 392) at_385 (XT.ii_ne_t hc14) (by decide) rfl ?_
                              exact WP.weak (L' := [.unset, .unset, .unset, .unset, .unset, .unset, .unset, .unset, .unset, .unset, .unset, .unset, .unset, .unset, .unset, .unset, .unset, .unset, .unset, .unset, .unset, .unset, .unset, .unset, .unset, .unset, .unset]) trivial (okLAW_392 l Z a0 hw n0 n s0 _ h)
                          ·
                            refine WP.icmpY (pc' := 392) at_373 (XT.ii_ne_t hc13) (by decide) rfl ?_
                            exact WP.weak (L' := [.unset, .unset, .unset, .unset, .unset, .unset, .unset, .unset, .unset, .unset, .unset, .unset, .unset, .unset, .unset, .unset, .unset, .unset, .unset, .unset, .unset, .unset, .unset, .unset, .unset, .unset, .unset]) trivial (okLAW_392 l Z a0 hw n0 n s0 _ h)
                        ·
                          refine WP.ifY (pc' := 392) at_367 (XT.i0_ne_t hc12) (by decide) rfl ?_
                          exact WP.weak (L' := [.unset, .unset, .unset, .unset, .unset, .unset, .unset, .unset, .unset, .unset, .unset, .unset, .unset, .unset, .unset, .unset, .unset, .unset, .unset, .unset, .unset, .unset, .unset, .unset, .unset, .unset, .unset]) trivial (okLAW_392 l Z a0 hw n0 n s0 _ h)
                      ·
                        refine WP.icmpY (pc' := 392) at_362 (XT.ii_ne_t hc11) (by decide) rfl ?_
                        exact WP.weak (L' := [.unset, .unset, .unset, .unset, .unset, .unset, .unset, .unset, .unset, .unset, .unset, .unset, .unset, .unset, .unset, .unset, .unset, .unset, .unset, .unset, .unset, .unset, .unset, .unset, .unset, .unset, .unset]) trivial (okLAW_392 l Z a0 hw n0 n s0 _ h)
                    ·
                      refine WP.icmpY (pc' := 392) at_356 (XT.ii_ne_t hc10) (by decide) rfl ?_
                      exact WP.weak (L' := [.unset, .unset, .unset, .unset, .unset, .unset, .unset, .unset, .unset, .unset, .unset, .unset, .unset, .unset, .unset, .unset, .unset, .unset, .unset, .unset, .unset, .unset, .unset, .unset, .unset, .unset, .unset]) trivial (okLAW_392 l Z a0 hw n0 n s0 _ h)
                  ·
                    refine WP.icmpY (pc' := 392) at_344 (XT.ii_ne_t hc9) (by decide) rfl ?_
                    exact WP.weak (L' := [.unset, .unset, .unset, .unset, .unset, .unset, .unset, .unset, .unset, .unset, .unset, .unset, .unset, .unset, .unset, .unset, .unset, .unset, .unset, .unset, .unset, .unset, .unset, .unset, .unset, .unset, .unset]) trivial (okLAW_392 l Z a0 hw n0 n s0 _ h)
                ·
                  refine WP.ifY (pc' := 392) at_338 (XT.i0_ne_t hc8) (by decide) rfl ?_
                  exact WP.weak (L' := [.unset, .unset, .unset, .unset, .unset, .unset, .unset, .unset, .unset, .unset, .unset, .unset, .unset, .unset, .unset, .unset, .unset, .unset, .unset, .unset, .unset, .unset, .unset, .unset, .unset, .unset, .unset]) trivial (okLAW_392 l Z a0 hw n0 n s0 _ h)
              ·
                refine WP.icmpY (pc' := 392) at_333 (XT.ii_ne_t hc7) (by decide) rfl ?_
                exact WP.weak (L' := [.unset, .unset, .unset, .unset, .unset, .unset, .unset, .unset, .unset, .unset, .unset, .unset, .unset, .unset, .unset, .unset, .unset, .unset, .unset, .unset, .unset, .unset, .unset, .unset, .unset, .unset, .unset]) trivial (okLAW_392 l Z a0 hw n0 n s0 _ h)
            ·
              refine WP.icmpY (pc' := 392) at_327 (XT.ii_ne_t hc6) (by decide) rfl ?_
              exact WP.weak (L' := [.unset, .unset, .unset, .unset, .unset, .unset, .unset, .unset, .unset, .unset, .unset, .unset, .unset, .unset, .unset, .unset, .unset, .unset, .unset, .unset, .unset, .unset, .unset, .unset, .unset, .unset, .unset]) trivial (okLAW_392 l Z a0 hw n0 n s0 _ h)
          ·
            refine WP.icmpY (pc' := 392) at_321 (XT.ii_ne_t hc5) (by decide) rfl ?_
            exact WP.weak (L' := [.unset, .unset, .unset, .unset, .unset, .unset, .unset, .unset, .unset, .unset, .unset, .unset, .unset, .unset, .unset, .unset, .unset, .unset, .unset, .unset, .unset, .unset, .unset, .unset, .unset, .unset, .unset]) trivial (okLAW_392 l Z a0 hw n0 n s0 _ h)
        ·
          refine WP.ifY (pc' := 394) at_315 (XT.i0_ne_t hc4) (by decide) rfl ?_
          refine WP.iload at_394 rfl ?_
          refine WP.bipush (-4 : Int32) at_396 rfl ?_
          rcases ite_e h with ⟨hc15, h⟩ | ⟨hc15, h⟩
          ·
            refine WP.icmpN at_398 (XT.ii_ne_f hc15) ?_
            refine WP.iload at_401 rfl ?_
            refine WP.iconst (1 : Int32) at_403 rfl ?_
            rcases ite_e h with ⟨hc16, h⟩ | ⟨hc16, h⟩
            ·
              refine WP.icmpN at_404 (XT.ii_ne_f hc16) ?_
              refine WP.iload at_407 rfl ?_
              refine WP.iconst (2 : Int32) at_409 rfl ?_
              rcases ite_e h with ⟨hc17, h⟩ | ⟨hc17, h⟩
              ·
                refine WP.icmpN at_410 (XT.ii_ne_f hc17) ?_
                refine WP.iload at_413 rfl ?_
                refine WP.iload at_415 rfl ?_
                rcases ite_e h with ⟨hc18, h⟩ | ⟨hc18, h⟩
                ·
                  refine WP.icmpN at_417 (XT.ii_ne_f hc18) ?_
                  refine WP.iload at_420 rfl ?_
                  refine WP.iload at_422 rfl ?_
                  rcases ite_e h with ⟨hc19, h⟩ | ⟨hc19, h⟩
                  ·
                    refine WP.icmpN at_424 (XT.ii_ne_f hc19) ?_
                    refine WP.iload at_427 rfl ?_
                    rcases ite_e h with ⟨hc20, h⟩ | ⟨hc20, h⟩
                    ·
                      refine WP.ifN at_429 (XT.i0_ne_f hc20) ?_
                      refine WP.iload at_432 rfl ?_
                      refine WP.iconst (1 : Int32) at_434 rfl ?_
                      rcases ite_e h with ⟨hc21, h⟩ | ⟨hc21, h⟩
                      ·
                        refine WP.icmpN at_435 (XT.ii_ne_f hc21) ?_
                        refine WP.iload at_438 rfl ?_
                        rcases ite_e h with ⟨hc22, h⟩ | ⟨hc22, h⟩
                        ·
                          refine WP.ifN at_440 (XT.i0_ne_f hc22) ?_
                          refine WP.iload at_443 rfl ?_
                          refine WP.iconst (-1 : Int32) at_445 rfl ?_
                          rcases ite_e h with ⟨hc23, h⟩ | ⟨hc23, h⟩
                          ·
                            refine WP.icmpN at_446 (XT.ii_ne_f hc23) ?_
                            refine WP.iload at_449 rfl ?_
                            refine WP.iconst (4 : Int32) at_451 rfl ?_
                            refine WP.iload at_452 rfl ?_
                            refine WP.isub at_454 ?_
                            rcases ite_e h with ⟨hc24, h⟩ | ⟨hc24, h⟩
                            ·
                              refine WP.icmpN at_455 (XT.ii_ne_f hc24) ?_
                              refine WP.iconst (1 : Int32) at_458 rfl ?_
                              refine WP.goto (pc' := 463) at_459 (by decide) rfl ?_
                              exact WP.weak (L' := [.unset, .unset, .unset, .unset, .unset, .unset, .unset, .unset, .unset, .unset, .unset, .unset, .unset, .unset, .unset, .unset, .unset, .unset, .unset, .unset, .unset, .unset, .unset, .unset, .unset, .unset, .unset]) trivial (okLAW_463 l Z a0 hw n0 n (1 : Int32) s0 _ h)
                            ·
                              refine WP.icmpY (pc' := 462) at_455 (XT.ii_ne_t hc24) (by decide) rfl ?_
                              exact WP.weak (L' := [.unset, .unset, .unset, .unset, .unset, .unset, .unset, .unset, .unset, .unset, .unset, .unset, .unset, .unset, .unset, .unset, .unset, .unset, .unset, .unset, .unset, .unset, .unset, .unset, .unset, .unset, .unset]) trivial (okLAW_462 l Z a0 hw n0 n s0 _ h)
                          ·
                            refine WP.icmpY (pc' := 462) at_446 (XT.ii_ne_t hc23) (by decide) rfl ?_
                            exact WP.weak (L' := [.unset, .unset, .unset, .unset, .unset, .unset, .unset, .unset, .unset, .unset, .unset, .unset, .unset, .unset, .unset, .unset, .unset, .unset, .unset, .unset, .unset, .unset, .unset, .unset, .unset, .unset, .unset]) trivial (okLAW_462 l Z a0 hw n0 n s0 _ h)
                        ·
                          refine WP.ifY (pc' := 462) at_440 (XT.i0_ne_t hc22) (by decide) rfl ?_
                          exact WP.weak (L' := [.unset, .unset, .unset, .unset, .unset, .unset, .unset, .unset, .unset, .unset, .unset, .unset, .unset, .unset, .unset, .unset, .unset, .unset, .unset, .unset, .unset, .unset, .unset, .unset, .unset, .unset, .unset]) trivial (okLAW_462 l Z a0 hw n0 n s0 _ h)
                      ·
                        refine WP.icmpY (pc' := 462) at_435 (XT.ii_ne_t hc21) (by decide) rfl ?_
                        exact WP.weak (L' := [.unset, .unset, .unset, .unset, .unset, .unset, .unset, .unset, .unset, .unset, .unset, .unset, .unset, .unset, .unset, .unset, .unset, .unset, .unset, .unset, .unset, .unset, .unset, .unset, .unset, .unset, .unset]) trivial (okLAW_462 l Z a0 hw n0 n s0 _ h)
                    ·
                      refine WP.ifY (pc' := 462) at_429 (XT.i0_ne_t hc20) (by decide) rfl ?_
                      exact WP.weak (L' := [.unset, .unset, .unset, .unset, .unset, .unset, .unset, .unset, .unset, .unset, .unset, .unset, .unset, .unset, .unset, .unset, .unset, .unset, .unset, .unset, .unset, .unset, .unset, .unset, .unset, .unset, .unset]) trivial (okLAW_462 l Z a0 hw n0 n s0 _ h)
                  ·
                    refine WP.icmpY (pc' := 462) at_424 (XT.ii_ne_t hc19) (by decide) rfl ?_
                    exact WP.weak (L' := [.unset, .unset, .unset, .unset, .unset, .unset, .unset, .unset, .unset, .unset, .unset, .unset, .unset, .unset, .unset, .unset, .unset, .unset, .unset, .unset, .unset, .unset, .unset, .unset, .unset, .unset, .unset]) trivial (okLAW_462 l Z a0 hw n0 n s0 _ h)
                ·
                  refine WP.icmpY (pc' := 462) at_417 (XT.ii_ne_t hc18) (by decide) rfl ?_
                  exact WP.weak (L' := [.unset, .unset, .unset, .unset, .unset, .unset, .unset, .unset, .unset, .unset, .unset, .unset, .unset, .unset, .unset, .unset, .unset, .unset, .unset, .unset, .unset, .unset, .unset, .unset, .unset, .unset, .unset]) trivial (okLAW_462 l Z a0 hw n0 n s0 _ h)
              ·
                refine WP.icmpY (pc' := 462) at_410 (XT.ii_ne_t hc17) (by decide) rfl ?_
                exact WP.weak (L' := [.unset, .unset, .unset, .unset, .unset, .unset, .unset, .unset, .unset, .unset, .unset, .unset, .unset, .unset, .unset, .unset, .unset, .unset, .unset, .unset, .unset, .unset, .unset, .unset, .unset, .unset, .unset]) trivial (okLAW_462 l Z a0 hw n0 n s0 _ h)
            ·
              refine WP.icmpY (pc' := 462) at_404 (XT.ii_ne_t hc16) (by decide) rfl ?_
              exact WP.weak (L' := [.unset, .unset, .unset, .unset, .unset, .unset, .unset, .unset, .unset, .unset, .unset, .unset, .unset, .unset, .unset, .unset, .unset, .unset, .unset, .unset, .unset, .unset, .unset, .unset, .unset, .unset, .unset]) trivial (okLAW_462 l Z a0 hw n0 n s0 _ h)
          ·
            refine WP.icmpY (pc' := 462) at_398 (XT.ii_ne_t hc15) (by decide) rfl ?_
            exact WP.weak (L' := [.unset, .unset, .unset, .unset, .unset, .unset, .unset, .unset, .unset, .unset, .unset, .unset, .unset, .unset, .unset, .unset, .unset, .unset, .unset, .unset, .unset, .unset, .unset, .unset, .unset, .unset, .unset]) trivial (okLAW_462 l Z a0 hw n0 n s0 _ h)
      ·
        refine WP.icmpN at_308 (XT.ii_eq_f hc3) ?_
        exact WP.weak (L' := [.unset, .unset, .unset, .unset, .unset, .unset, .unset, .unset, .unset, .unset, .unset, .unset, .unset, .unset, .unset, .unset, .unset, .unset, .unset, .unset, .unset, .unset, .unset, .unset, .unset, .unset, .unset]) trivial (okLAW_311 l Z a0 hw n0 n s0 _ h)
    ·
      refine WP.icmpY (pc' := 311) at_302 (XT.ii_ne_t hc2) (by decide) rfl ?_
      exact WP.weak (L' := [.unset, .unset, .unset, .unset, .unset, .unset, .unset, .unset, .unset, .unset, .unset, .unset, .unset, .unset, .unset, .unset, .unset, .unset, .unset, .unset, .unset, .unset, .unset, .unset, .unset, .unset, .unset]) trivial (okLAW_311 l Z a0 hw n0 n s0 _ h)
  ·
    refine WP.ifY (pc' := 311) at_295 (XT.i0_ne_t hc1) (by decide) rfl ?_
    exact WP.weak (L' := [.unset, .unset, .unset, .unset, .unset, .unset, .unset, .unset, .unset, .unset, .unset, .unset, .unset, .unset, .unset, .unset, .unset, .unset, .unset, .unset, .unset, .unset, .unset, .unset, .unset, .unset, .unset]) trivial (okLAW_311 l Z a0 hw n0 n s0 _ h)
def f_law_286 (n : Nat) (v4 : Int32) (v5 : Int32) (v6 : Int32) (v9 : Int32) (v10 : Int32) (v11 : Int32) (v12 : Int32) (v13 : Int32) (v14 : Int32) (v15 : Int32) (v16 : Int32) (v17 : Int32) (v18 : Int32) (v19 : Int32) (v20 : Int32) (v21 : Int32) (v22 : Int32) (s0 : St) : Option (Int32) :=
  f_law_293 n v5 v6 v9 v10 v11 v12 v13 v14 v15 v16 v17 v18 v19 v20 v21 v22 v4 (0 : Int32) s0
set_option maxRecDepth 65536 in
set_option maxHeartbeats 4000000 in
theorem okLAW_286 (l : Launch) (Z : State) (a0 : Array Value) (hw : HW a0 Z) (n0 : Nat) (n : Nat) (v4 : Int32) (v5 : Int32) (v6 : Int32) (v9 : Int32) (v10 : Int32) (v11 : Int32) (v12 : Int32) (v13 : Int32) (v14 : Int32) (v15 : Int32) (v16 : Int32) (v17 : Int32) (v18 : Int32) (v19 : Int32) (v20 : Int32) (v21 : Int32) (v22 : Int32) (s0 : St) (r : Int32) (h : f_law_286 n v4 v5 v6 v9 v10 v11 v12 v13 v14 v15 v16 v17 v18 v19 v20 v21 v22 s0 = some r) : WLAW l Z n0 (PLAW r) 13 168 286 [.unset, .unset, .unset, .unset, .val (.int v4), .val (.int v5), .val (.int v6), .unset, .unset, .val (.int v9), .val (.int v10), .val (.int v11), .val (.int v12), .val (.int v13), .val (.int v14), .val (.int v15), .val (.int v16), .val (.int v17), .val (.int v18), .val (.int v19), .val (.int v20), .val (.int v21), .val (.int v22), .unset, .unset, .unset, .unset] [] (Hb 0 s0) := by
  unfold f_law_286 at h
  refine WP.iload at_286 rfl ?_
  refine WP.istore (L' := [.unset, .unset, .unset, .unset, .val (.int v4), .val (.int v5), .val (.int v6), .unset, .unset, .val (.int v9), .val (.int v10), .val (.int v11), .val (.int v12), .val (.int v13), .val (.int v14), .val (.int v15), .val (.int v16), .val (.int v17), .val (.int v18), .val (.int v19), .val (.int v20), .val (.int v21), .val (.int v22), .unset, .unset, .val (.int v4), .unset]) at_288 (leb rfl) rfl ?_
  refine WP.iconst (0 : Int32) at_290 rfl ?_
  refine WP.istore (L' := [.unset, .unset, .unset, .unset, .val (.int v4), .val (.int v5), .val (.int v6), .unset, .unset, .val (.int v9), .val (.int v10), .val (.int v11), .val (.int v12), .val (.int v13), .val (.int v14), .val (.int v15), .val (.int v16), .val (.int v17), .val (.int v18), .val (.int v19), .val (.int v20), .val (.int v21), .val (.int v22), .unset, .unset, .val (.int v4), .val (.int (0 : Int32))]) at_291 (leb rfl) rfl ?_
  exact WP.weak (L' := [.unset, .unset, .unset, .unset, .unset, .val (.int v5), .val (.int v6), .unset, .unset, .val (.int v9), .val (.int v10), .val (.int v11), .val (.int v12), .val (.int v13), .val (.int v14), .val (.int v15), .val (.int v16), .val (.int v17), .val (.int v18), .val (.int v19), .val (.int v20), .val (.int v21), .val (.int v22), .unset, .unset, .val (.int v4), .val (.int (0 : Int32))]) ⟨rfl, rfl, rfl, rfl, rfl, rfl, rfl, rfl, rfl, rfl, rfl, rfl, rfl, rfl, rfl, rfl, rfl, rfl, trivial⟩ (okLAW_293 l Z a0 hw n0 n v5 v6 v9 v10 v11 v12 v13 v14 v15 v16 v17 v18 v19 v20 v21 v22 v4 (0 : Int32) s0 _ h)
def f_law_267 (n : Nat) (v4 : Int32) (v5 : Int32) (v6 : Int32) (v9 : Int32) (v10 : Int32) (v11 : Int32) (v12 : Int32) (v13 : Int32) (v14 : Int32) (v15 : Int32) (v16 : Int32) (v17 : Int32) (v18 : Int32) (v19 : Int32) (v20 : Int32) (v21 : Int32) (v22 : Int32) (v23 : Int32) (v25 : Int32) (v26 : Int32) (s0 : St) : Option (Int32) :=
  if v4 < v23 then
    if v25 = 0 then
      f_law_286 n v4 v5 v6 v9 v10 v11 v12 v13 v14 v15 v16 v17 v18 v19 v20 v21 v22 s0
    else
      if v25 < v4 then
        f_law_293 n v5 v6 v9 v10 v11 v12 v13 v14 v15 v16 v17 v18 v19 v20 v21 v22 v25 v26 s0
      else
        f_law_286 n v4 v5 v6 v9 v10 v11 v12 v13 v14 v15 v16 v17 v18 v19 v20 v21 v22 s0
  else
    f_law_293 n v5 v6 v9 v10 v11 v12 v13 v14 v15 v16 v17 v18 v19 v20 v21 v22 v25 v26 s0
set_option maxRecDepth 65536 in
set_option maxHeartbeats 4000000 in
theorem okLAW_267 (l : Launch) (Z : State) (a0 : Array Value) (hw : HW a0 Z) (n0 : Nat) (n : Nat) (v4 : Int32) (v5 : Int32) (v6 : Int32) (v9 : Int32) (v10 : Int32) (v11 : Int32) (v12 : Int32) (v13 : Int32) (v14 : Int32) (v15 : Int32) (v16 : Int32) (v17 : Int32) (v18 : Int32) (v19 : Int32) (v20 : Int32) (v21 : Int32) (v22 : Int32) (v23 : Int32) (v25 : Int32) (v26 : Int32) (s0 : St) (r : Int32) (h : f_law_267 n v4 v5 v6 v9 v10 v11 v12 v13 v14 v15 v16 v17 v18 v19 v20 v21 v22 v23 v25 v26 s0 = some r) : WLAW l Z n0 (PLAW r) 13 168 267 [.unset, .unset, .unset, .unset, .val (.int v4), .val (.int v5), .val (.int v6), .unset, .unset, .val (.int v9), .val (.int v10), .val (.int v11), .val (.int v12), .val (.int v13), .val (.int v14), .val (.int v15), .val (.int v16), .val (.int v17), .val (.int v18), .val (.int v19), .val (.int v20), .val (.int v21), .val (.int v22), .val (.int v23), .unset, .val (.int v25), .val (.int v26)] [] (Hb 0 s0) := by
  unfold f_law_267 at h
  refine WP.iload at_267 rfl ?_
  refine WP.iload at_269 rfl ?_
  rcases ite_e h with ⟨hc1, h⟩ | ⟨hc1, h⟩
  ·
    refine WP.icmpN at_271 (XT.ii_le_f hc1) ?_
    refine WP.iload at_274 rfl ?_
    rcases ite_e h with ⟨hc2, h⟩ | ⟨hc2, h⟩
    ·
      refine WP.ifY (pc' := 286) at_276 (XT.i0_eq_t hc2) (by decide) rfl ?_
      exact WP.weak (L' := [.unset, .unset, .unset, .unset, .val (.int v4), .val (.int v5), .val (.int v6), .unset, .unset, .val (.int v9), .val (.int v10), .val (.int v11), .val (.int v12), .val (.int v13), .val (.int v14), .val (.int v15), .val (.int v16), .val (.int v17), .val (.int v18), .val (.int v19), .val (.int v20), .val (.int v21), .val (.int v22), .unset, .unset, .unset, .unset]) ⟨rfl, rfl, rfl, rfl, rfl, rfl, rfl, rfl, rfl, rfl, rfl, rfl, rfl, rfl, rfl, rfl, rfl, trivial⟩ (okLAW_286 l Z a0 hw n0 n v4 v5 v6 v9 v10 v11 v12 v13 v14 v15 v16 v17 v18 v19 v20 v21 v22 s0 _ h)
    ·
      refine WP.ifN at_276 (XT.i0_eq_f hc2) ?_
      refine WP.iload at_279 rfl ?_
      refine WP.iload at_281 rfl ?_
      rcases ite_e h with ⟨hc3, h⟩ | ⟨hc3, h⟩
      ·
        refine WP.icmpY (pc' := 293) at_283 (XT.ii_gt_t hc3) (by decide) rfl ?_
        exact WP.weak (L' := [.unset, .unset, .unset, .unset, .unset, .val (.int v5), .val (.int v6), .unset, .unset, .val (.int v9), .val (.int v10), .val (.int v11), .val (.int v12), .val (.int v13), .val (.int v14), .val (.int v15), .val (.int v16), .val (.int v17), .val (.int v18), .val (.int v19), .val (.int v20), .val (.int v21), .val (.int v22), .unset, .unset, .val (.int v25), .val (.int v26)]) ⟨rfl, rfl, rfl, rfl, rfl, rfl, rfl, rfl, rfl, rfl, rfl, rfl, rfl, rfl, rfl, rfl, rfl, rfl, trivial⟩ (okLAW_293 l Z a0 hw n0 n v5 v6 v9 v10 v11 v12 v13 v14 v15 v16 v17 v18 v19 v20 v21 v22 v25 v26 s0 _ h)
      ·
        refine WP.icmpN at_283 (XT.ii_gt_f hc3) ?_
        exact WP.weak (L' := [.unset, .unset, .unset, .unset, .val (.int v4), .val (.int v5), .val (.int v6), .unset, .unset, .val (.int v9), .val (.int v10), .val (.int v11), .val (.int v12), .val (.int v13), .val (.int v14), .val (.int v15), .val (.int v16), .val (.int v17), .val (.int v18), .val (.int v19), .val (.int v20), .val (.int v21), .val (.int v22), .unset, .unset, .unset, .unset]) ⟨rfl, rfl, rfl, rfl, rfl, rfl, rfl, rfl, rfl, rfl, rfl, rfl, rfl, rfl, rfl, rfl, rfl, trivial⟩ (okLAW_286 l Z a0 hw n0 n v4 v5 v6 v9 v10 v11 v12 v13 v14 v15 v16 v17 v18 v19 v20 v21 v22 s0 _ h)
  ·
    refine WP.icmpY (pc' := 293) at_271 (XT.ii_le_t hc1) (by decide) rfl ?_
    exact WP.weak (L' := [.unset, .unset, .unset, .unset, .unset, .val (.int v5), .val (.int v6), .unset, .unset, .val (.int v9), .val (.int v10), .val (.int v11), .val (.int v12), .val (.int v13), .val (.int v14), .val (.int v15), .val (.int v16), .val (.int v17), .val (.int v18), .val (.int v19), .val (.int v20), .val (.int v21), .val (.int v22), .unset, .unset, .val (.int v25), .val (.int v26)]) ⟨rfl, rfl, rfl, rfl, rfl, rfl, rfl, rfl, rfl, rfl, rfl, rfl, rfl, rfl, rfl, rfl, rfl, rfl, trivial⟩ (okLAW_293 l Z a0 hw n0 n v5 v6 v9 v10 v11 v12 v13 v14 v15 v16 v17 v18 v19 v20 v21 v22 v25 v26 s0 _ h)
def f_law_245 (n : Nat) (v4 : Int32) (v5 : Int32) (v6 : Int32) (v7 : Int32) (v9 : Int32) (v10 : Int32) (v11 : Int32) (v12 : Int32) (v13 : Int32) (v14 : Int32) (v15 : Int32) (v16 : Int32) (v17 : Int32) (v18 : Int32) (v19 : Int32) (v20 : Int32) (v21 : Int32) (v22 : Int32) (v23 : Int32) (t0 : Int32) (s0 : St) : Option (Int32) :=
  if v7 < t0 then
    f_law_267 n v4 v5 v6 v9 v10 v11 v12 v13 v14 v15 v16 v17 v18 v19 v20 v21 v22 v23 v7 (1 : Int32) s0
  else
    f_law_267 n v4 v5 v6 v9 v10 v11 v12 v13 v14 v15 v16 v17 v18 v19 v20 v21 v22 v23 (0 : Int32) (-1 : Int32) s0
set_option maxRecDepth 65536 in
set_option maxHeartbeats 4000000 in
theorem okLAW_245 (l : Launch) (Z : State) (a0 : Array Value) (hw : HW a0 Z) (n0 : Nat) (n : Nat) (v4 : Int32) (v5 : Int32) (v6 : Int32) (v7 : Int32) (v9 : Int32) (v10 : Int32) (v11 : Int32) (v12 : Int32) (v13 : Int32) (v14 : Int32) (v15 : Int32) (v16 : Int32) (v17 : Int32) (v18 : Int32) (v19 : Int32) (v20 : Int32) (v21 : Int32) (v22 : Int32) (v23 : Int32) (t0 : Int32) (s0 : St) (r : Int32) (h : f_law_245 n v4 v5 v6 v7 v9 v10 v11 v12 v13 v14 v15 v16 v17 v18 v19 v20 v21 v22 v23 t0 s0 = some r) : WLAW l Z n0 (PLAW r) 13 168 245 [.unset, .unset, .unset, .unset, .val (.int v4), .val (.int v5), .val (.int v6), .val (.int v7), .unset, .val (.int v9), .val (.int v10), .val (.int v11), .val (.int v12), .val (.int v13), .val (.int v14), .val (.int v15), .val (.int v16), .val (.int v17), .val (.int v18), .val (.int v19), .val (.int v20), .val (.int v21), .val (.int v22), .val (.int v23), .unset, .unset, .unset] [.int t0] (Hb 0 s0) := by
  unfold f_law_245 at h
  refine WP.istore (L' := [.unset, .unset, .unset, .unset, .val (.int v4), .val (.int v5), .val (.int v6), .val (.int v7), .unset, .val (.int v9), .val (.int v10), .val (.int v11), .val (.int v12), .val (.int v13), .val (.int v14), .val (.int v15), .val (.int v16), .val (.int v17), .val (.int v18), .val (.int v19), .val (.int v20), .val (.int v21), .val (.int v22), .val (.int v23), .val (.int t0), .unset, .unset]) at_245 (leb rfl) rfl ?_
  refine WP.iconst (0 : Int32) at_247 rfl ?_
  refine WP.istore (L' := [.unset, .unset, .unset, .unset, .val (.int v4), .val (.int v5), .val (.int v6), .val (.int v7), .unset, .val (.int v9), .val (.int v10), .val (.int v11), .val (.int v12), .val (.int v13), .val (.int v14), .val (.int v15), .val (.int v16), .val (.int v17), .val (.int v18), .val (.int v19), .val (.int v20), .val (.int v21), .val (.int v22), .val (.int v23), .val (.int t0), .val (.int (0 : Int32)), .unset]) at_248 (leb rfl) rfl ?_
  refine WP.iconst (-1 : Int32) at_250 rfl ?_
  refine WP.istore (L' := [.unset, .unset, .unset, .unset, .val (.int v4), .val (.int v5), .val (.int v6), .val (.int v7), .unset, .val (.int v9), .val (.int v10), .val (.int v11), .val (.int v12), .val (.int v13), .val (.int v14), .val (.int v15), .val (.int v16), .val (.int v17), .val (.int v18), .val (.int v19), .val (.int v20), .val (.int v21), .val (.int v22), .val (.int v23), .val (.int t0), .val (.int (0 : Int32)), .val (.int (-1 : Int32))]) at_251 (leb rfl) rfl ?_
  refine WP.iload at_253 rfl ?_
  refine WP.iload at_255 rfl ?_
  rcases ite_e h with ⟨hc1, h⟩ | ⟨hc1, h⟩
  ·
    refine WP.icmpN at_257 (XT.ii_le_f hc1) ?_
    refine WP.iload at_260 rfl ?_
    refine WP.istore (L' := [.unset, .unset, .unset, .unset, .val (.int v4), .val (.int v5), .val (.int v6), .val (.int v7), .unset, .val (.int v9), .val (.int v10), .val (.int v11), .val (.int v12), .val (.int v13), .val (.int v14), .val (.int v15), .val (.int v16), .val (.int v17), .val (.int v18), .val (.int v19), .val (.int v20), .val (.int v21), .val (.int v22), .val (.int v23), .val (.int t0), .val (.int v7), .val (.int (-1 : Int32))]) at_262 (leb rfl) rfl ?_
    refine WP.iconst (1 : Int32) at_264 rfl ?_
    refine WP.istore (L' := [.unset, .unset, .unset, .unset, .val (.int v4), .val (.int v5), .val (.int v6), .val (.int v7), .unset, .val (.int v9), .val (.int v10), .val (.int v11), .val (.int v12), .val (.int v13), .val (.int v14), .val (.int v15), .val (.int v16), .val (.int v17), .val (.int v18), .val (.int v19), .val (.int v20), .val (.int v21), .val (.int v22), .val (.int v23), .val (.int t0), .val (.int v7), .val (.int (1 : Int32))]) at_265 (leb rfl) rfl ?_
    exact WP.weak (L' := [.unset, .unset, .unset, .unset, .val (.int v4), .val (.int v5), .val (.int v6), .unset, .unset, .val (.int v9), .val (.int v10), .val (.int v11), .val (.int v12), .val (.int v13), .val (.int v14), .val (.int v15), .val (.int v16), .val (.int v17), .val (.int v18), .val (.int v19), .val (.int v20), .val (.int v21), .val (.int v22), .val (.int v23), .unset, .val (.int v7), .val (.int (1 : Int32))]) ⟨rfl, rfl, rfl, rfl, rfl, rfl, rfl, rfl, rfl, rfl, rfl, rfl, rfl, rfl, rfl, rfl, rfl, rfl, rfl, rfl, trivial⟩ (okLAW_267 l Z a0 hw n0 n v4 v5 v6 v9 v10 v11 v12 v13 v14 v15 v16 v17 v18 v19 v20 v21 v22 v23 v7 (1 : Int32) s0 _ h)
  ·
    refine WP.icmpY (pc' := 267) at_257 (XT.ii_le_t hc1) (by decide) rfl ?_
    exact WP.weak (L' := [.unset, .unset, .unset, .unset, .val (.int v4), .val (.int v5), .val (.int v6), .unset, .unset, .val (.int v9), .val (.int v10), .val (.int v11), .val (.int v12), .val (.int v13), .val (.int v14), .val (.int v15), .val (.int v16), .val (.int v17), .val (.int v18), .val (.int v19), .val (.int v20), .val (.int v21), .val (.int v22), .val (.int v23), .unset, .val (.int (0 : Int32)), .val (.int (-1 : Int32))]) ⟨rfl, rfl, rfl, rfl, rfl, rfl, rfl, rfl, rfl, rfl, rfl, rfl, rfl, rfl, rfl, rfl, rfl, rfl, rfl, rfl, trivial⟩ (okLAW_267 l Z a0 hw n0 n v4 v5 v6 v9 v10 v11 v12 v13 v14 v15 v16 v17 v18 v19 v20 v21 v22 v23 (0 : Int32) (-1 : Int32) s0 _ h)
def f_law_226 (n : Nat) (v4 : Int32) (v5 : Int32) (v6 : Int32) (v7 : Int32) (v9 : Int32) (v10 : Int32) (v11 : Int32) (v12 : Int32) (v13 : Int32) (v14 : Int32) (v15 : Int32) (v16 : Int32) (v17 : Int32) (v18 : Int32) (v19 : Int32) (v20 : Int32) (v21 : Int32) (v22 : Int32) (t0 : Int32) (s0 : St) : Option (Int32) :=
  if v7 < v4 then
    f_law_245 n v4 v5 v6 v7 v9 v10 v11 v12 v13 v14 v15 v16 v17 v18 v19 v20 v21 v22 t0 v6 s0
  else
    f_law_245 n v4 v5 v6 v7 v9 v10 v11 v12 v13 v14 v15 v16 v17 v18 v19 v20 v21 v22 t0 (v5 + v6) s0
set_option maxRecDepth 65536 in
set_option maxHeartbeats 4000000 in
theorem okLAW_226 (l : Launch) (Z : State) (a0 : Array Value) (hw : HW a0 Z) (n0 : Nat) (n : Nat) (v4 : Int32) (v5 : Int32) (v6 : Int32) (v7 : Int32) (v9 : Int32) (v10 : Int32) (v11 : Int32) (v12 : Int32) (v13 : Int32) (v14 : Int32) (v15 : Int32) (v16 : Int32) (v17 : Int32) (v18 : Int32) (v19 : Int32) (v20 : Int32) (v21 : Int32) (v22 : Int32) (t0 : Int32) (s0 : St) (r : Int32) (h : f_law_226 n v4 v5 v6 v7 v9 v10 v11 v12 v13 v14 v15 v16 v17 v18 v19 v20 v21 v22 t0 s0 = some r) : WLAW l Z n0 (PLAW r) 13 168 226 [.unset, .unset, .unset, .unset, .val (.int v4), .val (.int v5), .val (.int v6), .val (.int v7), .unset, .val (.int v9), .val (.int v10), .val (.int v11), .val (.int v12), .val (.int v13), .val (.int v14), .val (.int v15), .val (.int v16), .val (.int v17), .val (.int v18), .val (.int v19), .val (.int v20), .val (.int v21), .val (.int v22), .unset, .unset, .unset, .unset] [.int t0] (Hb 0 s0) := by
  unfold f_law_226 at h
  refine WP.istore (L' := [.unset, .unset, .unset, .unset, .val (.int v4), .val (.int v5), .val (.int v6), .val (.int v7), .unset, .val (.int v9), .val (.int v10), .val (.int v11), .val (.int v12), .val (.int v13), .val (.int v14), .val (.int v15), .val (.int v16), .val (.int v17), .val (.int v18), .val (.int v19), .val (.int v20), .val (.int v21), .val (.int v22), .val (.int t0), .unset, .unset, .unset]) at_226 (leb rfl) rfl ?_
  refine WP.iload at_228 rfl ?_
  refine WP.iload at_230 rfl ?_
  rcases ite_e h with ⟨hc1, h⟩ | ⟨hc1, h⟩
  ·
    refine WP.icmpY (pc' := 243) at_232 (XT.ii_gt_t hc1) (by decide) rfl ?_
    refine WP.iload at_243 rfl ?_
    exact WP.weak (L' := [.unset, .unset, .unset, .unset, .val (.int v4), .val (.int v5), .val (.int v6), .val (.int v7), .unset, .val (.int v9), .val (.int v10), .val (.int v11), .val (.int v12), .val (.int v13), .val (.int v14), .val (.int v15), .val (.int v16), .val (.int v17), .val (.int v18), .val (.int v19), .val (.int v20), .val (.int v21), .val (.int v22), .val (.int t0), .unset, .unset, .unset]) ⟨rfl, rfl, rfl, rfl, rfl, rfl, rfl, rfl, rfl, rfl, rfl, rfl, rfl, rfl, rfl, rfl, rfl, rfl, rfl, trivial⟩ (okLAW_245 l Z a0 hw n0 n v4 v5 v6 v7 v9 v10 v11 v12 v13 v14 v15 v16 v17 v18 v19 v20 v21 v22 t0 v6 s0 _ h)
  ·
    refine WP.icmpN at_232 (XT.ii_gt_f hc1) ?_
    refine WP.iload at_235 rfl ?_
    refine WP.iload at_237 rfl ?_
    refine WP.iadd at_239 ?_
    refine WP.goto (pc' := 245) at_240 (by decide) rfl ?_
    exact WP.weak (L' := [.unset, .unset, .unset, .unset, .val (.int v4), .val (.int v5), .val (.int v6), .val (.int v7), .unset, .val (.int v9), .val (.int v10), .val (.int v11), .val (.int v12), .val (.int v13), .val (.int v14), .val (.int v15), .val (.int v16), .val (.int v17), .val (.int v18), .val (.int v19), .val (.int v20), .val (.int v21), .val (.int v22), .val (.int t0), .unset, .unset, .unset]) ⟨rfl, rfl, rfl, rfl, rfl, rfl, rfl, rfl, rfl, rfl, rfl, rfl, rfl, rfl, rfl, rfl, rfl, rfl, rfl, trivial⟩ (okLAW_245 l Z a0 hw n0 n v4 v5 v6 v7 v9 v10 v11 v12 v13 v14 v15 v16 v17 v18 v19 v20 v21 v22 t0 (v5 + v6) s0 _ h)
def g_law_152 (k152 : Int32 → Int32 → Int32 → Int32 → Int32 → Int32 → Int32 → Int32 → Int32 → Int32 → Int32 → Int32 → Int32 → Int32 → Int32 → Int32 → Int32 → Int32 → Int32 → St → Option (Int32)) (n : Nat) (v4 : Int32) (v5 : Int32) (v6 : Int32) (v7 : Int32) (v9 : Int32) (v10 : Int32) (v11 : Int32) (v12 : Int32) (v13 : Int32) (v14 : Int32) (v15 : Int32) (v16 : Int32) (v17 : Int32) (v18 : Int32) (v19 : Int32) (v20 : Int32) (v21 : Int32) (v22 : Int32) (v23 : Int32) (s0 : St) : Option (Int32) :=
  if (4 : Int32) < v23 then
    if v7 < v4 then
      f_law_226 n v4 v5 v6 v7 v9 v10 v11 v12 v13 v14 v15 v16 v17 v18 v19 v20 v21 v22 (v6 + v5) s0
    else
      f_law_226 n v4 v5 v6 v7 v9 v10 v11 v12 v13 v14 v15 v16 v17 v18 v19 v20 v21 v22 v5 s0
  else
    if v23 < v4 then
      f_law_171 k152 n v4 v5 v6 v7 v9 v10 v11 v12 v13 v14 v15 v16 v17 v18 v19 v20 v21 v22 v23 (0 : Int32) s0
    else
      f_law_171 k152 n v4 v5 v6 v7 v9 v10 v11 v12 v13 v14 v15 v16 v17 v18 v19 v20 v21 v22 v23 v5 s0
set_option maxRecDepth 65536 in
set_option maxHeartbeats 4000000 in
theorem okgLAW_152 (l : Launch) (Z : State) (a0 : Array Value) (hw : HW a0 Z) (n0 : Nat) (k152 : Int32 → Int32 → Int32 → Int32 → Int32 → Int32 → Int32 → Int32 → Int32 → Int32 → Int32 → Int32 → Int32 → Int32 → Int32 → Int32 → Int32 → Int32 → Int32 → St → Option (Int32)) (hk152 : ∀ (v4 : Int32) (v5 : Int32) (v6 : Int32) (v7 : Int32) (v9 : Int32) (v10 : Int32) (v11 : Int32) (v12 : Int32) (v13 : Int32) (v14 : Int32) (v15 : Int32) (v16 : Int32) (v17 : Int32) (v18 : Int32) (v19 : Int32) (v20 : Int32) (v21 : Int32) (v22 : Int32) (v23 : Int32) (s0 : St) (r : Int32), k152 v4 v5 v6 v7 v9 v10 v11 v12 v13 v14 v15 v16 v17 v18 v19 v20 v21 v22 v23 s0 = some r → WLAW l Z n0 (PLAW r) 13 168 152 [.unset, .unset, .unset, .unset, .val (.int v4), .val (.int v5), .val (.int v6), .val (.int v7), .unset, .val (.int v9), .val (.int v10), .val (.int v11), .val (.int v12), .val (.int v13), .val (.int v14), .val (.int v15), .val (.int v16), .val (.int v17), .val (.int v18), .val (.int v19), .val (.int v20), .val (.int v21), .val (.int v22), .val (.int v23), .unset, .unset, .unset] [] (Hb 0 s0)) (n : Nat) (v4 : Int32) (v5 : Int32) (v6 : Int32) (v7 : Int32) (v9 : Int32) (v10 : Int32) (v11 : Int32) (v12 : Int32) (v13 : Int32) (v14 : Int32) (v15 : Int32) (v16 : Int32) (v17 : Int32) (v18 : Int32) (v19 : Int32) (v20 : Int32) (v21 : Int32) (v22 : Int32) (v23 : Int32) (s0 : St) (r : Int32) (h : g_law_152 k152 n v4 v5 v6 v7 v9 v10 v11 v12 v13 v14 v15 v16 v17 v18 v19 v20 v21 v22 v23 s0 = some r) : WLAW l Z n0 (PLAW r) 13 168 152 [.unset, .unset, .unset, .unset, .val (.int v4), .val (.int v5), .val (.int v6), .val (.int v7), .unset, .val (.int v9), .val (.int v10), .val (.int v11), .val (.int v12), .val (.int v13), .val (.int v14), .val (.int v15), .val (.int v16), .val (.int v17), .val (.int v18), .val (.int v19), .val (.int v20), .val (.int v21), .val (.int v22), .val (.int v23), .unset, .unset, .unset] [] (Hb 0 s0) := by
  unfold g_law_152 at h
  refine WP.iload at_152 rfl ?_
  refine WP.iconst (4 : Int32) at_154 rfl ?_
  rcases ite_e h with ⟨hc1, h⟩ | ⟨hc1, h⟩
  ·
    refine WP.icmpY (pc' := 209) at_155 (XT.ii_gt_t hc1) (by decide) rfl ?_
    refine WP.iload at_209 rfl ?_
    refine WP.iload at_211 rfl ?_
    rcases ite_e h with ⟨hc2, h⟩ | ⟨hc2, h⟩
    ·
      refine WP.icmpY (pc' := 221) at_213 (XT.ii_gt_t hc2) (by decide) rfl ?_
      refine WP.iload at_221 rfl ?_
      refine WP.iload at_223 rfl ?_
      refine WP.iadd at_225 ?_
      exact WP.weak (L' := [.unset, .unset, .unset, .unset, .val (.int v4), .val (.int v5), .val (.int v6), .val (.int v7), .unset, .val (.int v9), .val (.int v10), .val (.int v11), .val (.int v12), .val (.int v13), .val (.int v14), .val (.int v15), .val (.int v16), .val (.int v17), .val (.int v18), .val (.int v19), .val (.int v20), .val (.int v21), .val (.int v22), .unset, .unset, .unset, .unset]) ⟨rfl, rfl, rfl, rfl, rfl, rfl, rfl, rfl, rfl, rfl, rfl, rfl, rfl, rfl, rfl, rfl, rfl, rfl, trivial⟩ (okLAW_226 l Z a0 hw n0 n v4 v5 v6 v7 v9 v10 v11 v12 v13 v14 v15 v16 v17 v18 v19 v20 v21 v22 (v6 + v5) s0 _ h)
    ·
      refine WP.icmpN at_213 (XT.ii_gt_f hc2) ?_
      refine WP.iload at_216 rfl ?_
      refine WP.goto (pc' := 226) at_218 (by decide) rfl ?_
      exact WP.weak (L' := [.unset, .unset, .unset, .unset, .val (.int v4), .val (.int v5), .val (.int v6), .val (.int v7), .unset, .val (.int v9), .val (.int v10), .val (.int v11), .val (.int v12), .val (.int v13), .val (.int v14), .val (.int v15), .val (.int v16), .val (.int v17), .val (.int v18), .val (.int v19), .val (.int v20), .val (.int v21), .val (.int v22), .unset, .unset, .unset, .unset]) ⟨rfl, rfl, rfl, rfl, rfl, rfl, rfl, rfl, rfl, rfl, rfl, rfl, rfl, rfl, rfl, rfl, rfl, rfl, trivial⟩ (okLAW_226 l Z a0 hw n0 n v4 v5 v6 v7 v9 v10 v11 v12 v13 v14 v15 v16 v17 v18 v19 v20 v21 v22 v5 s0 _ h)
  ·
    refine WP.icmpN at_155 (XT.ii_gt_f hc1) ?_
    refine WP.iload at_158 rfl ?_
    refine WP.iload at_160 rfl ?_
    rcases ite_e h with ⟨hc3, h⟩ | ⟨hc3, h⟩
    ·
      refine WP.icmpY (pc' := 170) at_162 (XT.ii_lt_t hc3) (by decide) rfl ?_
      refine WP.iconst (0 : Int32) at_170 rfl ?_
      exact WP.weak (L' := [.unset, .unset, .unset, .unset, .val (.int v4), .val (.int v5), .val (.int v6), .val (.int v7), .unset, .val (.int v9), .val (.int v10), .val (.int v11), .val (.int v12), .val (.int v13), .val (.int v14), .val (.int v15), .val (.int v16), .val (.int v17), .val (.int v18), .val (.int v19), .val (.int v20), .val (.int v21), .val (.int v22), .val (.int v23), .unset, .unset, .unset]) ⟨rfl, rfl, rfl, rfl, rfl, rfl, rfl, rfl, rfl, rfl, rfl, rfl, rfl, rfl, rfl, rfl, rfl, rfl, rfl, trivial⟩ (okLAW_171 l Z a0 hw n0 _ hk152 n v4 v5 v6 v7 v9 v10 v11 v12 v13 v14 v15 v16 v17 v18 v19 v20 v21 v22 v23 (0 : Int32) s0 _ h)
    ·
      refine WP.icmpN at_162 (XT.ii_lt_f hc3) ?_
      refine WP.iload at_165 rfl ?_
      refine WP.goto (pc' := 171) at_167 (by decide) rfl ?_
      exact WP.weak (L' := [.unset, .unset, .unset, .unset, .val (.int v4), .val (.int v5), .val (.int v6), .val (.int v7), .unset, .val (.int v9), .val (.int v10), .val (.int v11), .val (.int v12), .val (.int v13), .val (.int v14), .val (.int v15), .val (.int v16), .val (.int v17), .val (.int v18), .val (.int v19), .val (.int v20), .val (.int v21), .val (.int v22), .val (.int v23), .unset, .unset, .unset]) ⟨rfl, rfl, rfl, rfl, rfl, rfl, rfl, rfl, rfl, rfl, rfl, rfl, rfl, rfl, rfl, rfl, rfl, rfl, rfl, trivial⟩ (okLAW_171 l Z a0 hw n0 _ hk152 n v4 v5 v6 v7 v9 v10 v11 v12 v13 v14 v15 v16 v17 v18 v19 v20 v21 v22 v23 v5 s0 _ h)
def f_law_152 : Nat → Int32 → Int32 → Int32 → Int32 → Int32 → Int32 → Int32 → Int32 → Int32 → Int32 → Int32 → Int32 → Int32 → Int32 → Int32 → Int32 → Int32 → Int32 → Int32 → St → Option (Int32)
  | 0 => fun _ _ _ _ _ _ _ _ _ _ _ _ _ _ _ _ _ _ _ _ => none
  | n + 1 => g_law_152 (f_law_152 n) n
theorem okLAW_152 (l : Launch) (Z : State) (a0 : Array Value) (hw : HW a0 Z) (n0 : Nat) : ∀ (n : Nat) (v4 : Int32) (v5 : Int32) (v6 : Int32) (v7 : Int32) (v9 : Int32) (v10 : Int32) (v11 : Int32) (v12 : Int32) (v13 : Int32) (v14 : Int32) (v15 : Int32) (v16 : Int32) (v17 : Int32) (v18 : Int32) (v19 : Int32) (v20 : Int32) (v21 : Int32) (v22 : Int32) (v23 : Int32) (s0 : St) (r : Int32), f_law_152 n v4 v5 v6 v7 v9 v10 v11 v12 v13 v14 v15 v16 v17 v18 v19 v20 v21 v22 v23 s0 = some r → WLAW l Z n0 (PLAW r) 13 168 152 [.unset, .unset, .unset, .unset, .val (.int v4), .val (.int v5), .val (.int v6), .val (.int v7), .unset, .val (.int v9), .val (.int v10), .val (.int v11), .val (.int v12), .val (.int v13), .val (.int v14), .val (.int v15), .val (.int v16), .val (.int v17), .val (.int v18), .val (.int v19), .val (.int v20), .val (.int v21), .val (.int v22), .val (.int v23), .unset, .unset, .unset] [] (Hb 0 s0)
  | 0, v4, v5, v6, v7, v9, v10, v11, v12, v13, v14, v15, v16, v17, v18, v19, v20, v21, v22, v23, s0, r, h => nomatch (show none = some r from h)
  | n + 1, v4, v5, v6, v7, v9, v10, v11, v12, v13, v14, v15, v16, v17, v18, v19, v20, v21, v22, v23, s0, r, h => okgLAW_152 l Z a0 hw n0 _ (okLAW_152 l Z a0 hw n0 n) n v4 v5 v6 v7 v9 v10 v11 v12 v13 v14 v15 v16 v17 v18 v19 v20 v21 v22 v23 s0 r h
def f_law (n : Nat) (p0 : Int32) (p1 : Int32) (p2 : Int32) (p3 : Int32) : Option (Int32) :=
  lt ((1 : Int32) + (p1 &&& (3 : Int32))) fun x1 =>
  if x1 = 0 then none else
  lt ((1 : Int32) + ((p0 &&& (3 : Int32)) % x1)) fun x3 =>
  lt ((1 : Int32) + (p2 &&& (3 : Int32))) fun x4 =>
  lt ((1 : Int32) + (p3 &&& (3 : Int32))) fun x5 =>
  (f_init (2 : Int32) (16 : Int32)).bind fun c6 =>
  (f_propose n x3 x1 (4 : Int32) c6).bind fun c7 =>
  (f_propose n x4 x5 (4 : Int32) c7.2).bind fun c8 =>
  (f_lastOverload c8.2).bind fun c9 =>
  (f_lastHyper c8.2).bind fun c10 =>
  (f_count c8.2).bind fun c11 =>
  (f_simulate n (1 : Int32) c8.2).bind fun c12 =>
  (f_missDeadline c12.2).bind fun c13 =>
  (f_missTask c12.2).bind fun c14 =>
  (f_idleUnits c12.2).bind fun c15 =>
  (f_simulate n (0 : Int32) c12.2).bind fun c16 =>
  (f_missDeadline c16.2).bind fun c17 =>
  (f_missTask c16.2).bind fun c18 =>
  (f_idleUnits c16.2).bind fun c19 =>
  f_law_152 n x1 x3 x4 x5 c7.1 c8.1 c9 c10 c11 c12.1 c13 c14 c15 c16.1 c17 c18 c19 (0 : Int32) (1 : Int32) c16.2
set_option maxRecDepth 65536 in
set_option maxHeartbeats 4000000 in
theorem okLAW (l : Launch) (Z : State) (a0 : Array Value) (hw : HW a0 Z) (n : Nat) (p0 : Int32) (p1 : Int32) (p2 : Int32) (p3 : Int32) (r : Int32) (h : f_law n p0 p1 p2 p3 = some r) : CS l Z CN lay x code maxLocals ret room_1 0 [.int p0, .int p1, .int p2, .int p3] ([] : List OwnC) (PLAW r) := by
  refine CS.of_wp pn_law (leb rfl) fun n0 => ?_
  show WLAW l Z n0 (PLAW r) 0 0 0 [.val (.int p0), .val (.int p1), .val (.int p2), .val (.int p3), .unset, .unset, .unset, .unset, .unset, .unset, .unset, .unset, .unset, .unset, .unset, .unset, .unset, .unset, .unset, .unset, .unset, .unset, .unset, .unset, .unset, .unset, .unset] [] ([] : List OwnC)
  unfold f_law at h
  refine WP.iconst (1 : Int32) at_0 rfl ?_
  refine WP.iloadN at_1 rfl ?_
  refine WP.iconst (3 : Int32) at_2 rfl ?_
  refine WP.iand at_3 ?_
  refine WP.iadd at_4 ?_
  obtain ⟨x1, ex1, h⟩ := lt_e h
  refine WP.istore (L' := [.val (.int p0), .val (.int p1), .val (.int p2), .val (.int p3), .val (.int x1), .unset, .unset, .unset, .unset, .unset, .unset, .unset, .unset, .unset, .unset, .unset, .unset, .unset, .unset, .unset, .unset, .unset, .unset, .unset, .unset, .unset, .unset]) at_5 (leb rfl) (by subst ex1; rfl) ?_
  refine WP.iconst (1 : Int32) at_7 rfl ?_
  refine WP.iloadN at_8 rfl ?_
  refine WP.iconst (3 : Int32) at_9 rfl ?_
  refine WP.iand at_10 ?_
  refine WP.iload at_11 rfl ?_
  obtain ⟨hz2, h⟩ := nz_e h
  refine WP.irem at_13 hz2 ?_
  refine WP.iadd at_14 ?_
  obtain ⟨x3, ex3, h⟩ := lt_e h
  refine WP.istore (L' := [.val (.int p0), .val (.int p1), .val (.int p2), .val (.int p3), .val (.int x1), .val (.int x3), .unset, .unset, .unset, .unset, .unset, .unset, .unset, .unset, .unset, .unset, .unset, .unset, .unset, .unset, .unset, .unset, .unset, .unset, .unset, .unset, .unset]) at_15 (leb rfl) (by subst ex3; rfl) ?_
  refine WP.iconst (1 : Int32) at_17 rfl ?_
  refine WP.iloadN at_18 rfl ?_
  refine WP.iconst (3 : Int32) at_19 rfl ?_
  refine WP.iand at_20 ?_
  refine WP.iadd at_21 ?_
  obtain ⟨x4, ex4, h⟩ := lt_e h
  refine WP.istore (L' := [.val (.int p0), .val (.int p1), .val (.int p2), .val (.int p3), .val (.int x1), .val (.int x3), .val (.int x4), .unset, .unset, .unset, .unset, .unset, .unset, .unset, .unset, .unset, .unset, .unset, .unset, .unset, .unset, .unset, .unset, .unset, .unset, .unset, .unset]) at_22 (leb rfl) (by subst ex4; rfl) ?_
  refine WP.iconst (1 : Int32) at_24 rfl ?_
  refine WP.iloadN at_25 rfl ?_
  refine WP.iconst (3 : Int32) at_26 rfl ?_
  refine WP.iand at_27 ?_
  refine WP.iadd at_28 ?_
  obtain ⟨x5, ex5, h⟩ := lt_e h
  refine WP.istore (L' := [.val (.int p0), .val (.int p1), .val (.int p2), .val (.int p3), .val (.int x1), .val (.int x3), .val (.int x4), .val (.int x5), .unset, .unset, .unset, .unset, .unset, .unset, .unset, .unset, .unset, .unset, .unset, .unset, .unset, .unset, .unset, .unset, .unset, .unset, .unset]) at_29 (leb rfl) (by subst ex5; rfl) ?_
  refine WP.new (vs := vs0) at_31 (hw _ m_0) (hw _ m_1) (hw _ m_2) (leb rfl) (leb rfl) (vs0_ok hw) ?_
  show WLAW l Z n0 (PLAW r) 1 24 34 [.val (.int p0), .val (.int p1), .val (.int p2), .val (.int p3), .val (.int x1), .val (.int x3), .val (.int x4), .val (.int x5), .unset, .unset, .unset, .unset, .unset, .unset, .unset, .unset, .unset, .unset, .unset, .unset, .unset, .unset, .unset, .unset, .unset, .unset, .unset] [.ref 0] ([cO vs0])
  refine WP.dup at_34 rfl ?_
  refine WP.iconst (2 : Int32) at_35 rfl ?_
  refine WP.bipush (16 : Int32) at_36 rfl ?_
  obtain ⟨c6, hc6, h⟩ := Option.bind_eq_some_iff.mp h
  refine WP.callI (i := 0) (y := y0) (as := [.int (2 : Int32), .int (16 : Int32)]) (S := [.ref 0]) at_38 rfl (hw _ m_3) (hw _ m_4) (hw _ m_5) (hw _ m_2) hy0 (ok0 l Z a0 hw (2 : Int32) (16 : Int32) _ hc6) rfl (lenOf pd0 rfl) (leb rfl) (leb rfl) (leb rfl) (leb rfl) ?_
  rintro _ _ ⟨rfl, rfl⟩
  show WLAW l Z n0 (PLAW r) 13 168 41 [.val (.int p0), .val (.int p1), .val (.int p2), .val (.int p3), .val (.int x1), .val (.int x3), .val (.int x4), .val (.int x5), .unset, .unset, .unset, .unset, .unset, .unset, .unset, .unset, .unset, .unset, .unset, .unset, .unset, .unset, .unset, .unset, .unset, .unset, .unset] [.ref 0] (Hb 0 c6)
  refine WP.astore (L' := [.val (.int p0), .val (.int p1), .val (.int p2), .val (.int p3), .val (.int x1), .val (.int x3), .val (.int x4), .val (.int x5), .val (.ref 0), .unset, .unset, .unset, .unset, .unset, .unset, .unset, .unset, .unset, .unset, .unset, .unset, .unset, .unset, .unset, .unset, .unset, .unset]) at_41 (leb rfl) rfl ?_
  refine WP.aload at_43 rfl ?_
  refine WP.iload at_45 rfl ?_
  refine WP.iload at_47 rfl ?_
  refine WP.iconst (4 : Int32) at_49 rfl ?_
  obtain ⟨c7, hc7, h⟩ := Option.bind_eq_some_iff.mp h
  refine WP.callV (i := 0) (y := y2) (as := [.int x3, .int x1, .int (4 : Int32)]) (S := []) at_50 (hw _ m_62) (hw _ m_63) (hw _ m_65) (hw _ m_64) (hw _ m_66) (hw _ m_2) hy2 rfl (ok2 l Z a0 hw n x3 x1 (4 : Int32) c6 _ hc7) rfl (lenOf pd2 rfl) (leb rfl) (leb rfl) (leb rfl) (leb rfl) ?_
  rintro _ _ ⟨rfl, rfl⟩
  show WLAW l Z n0 (PLAW r) 13 168 53 [.val (.int p0), .val (.int p1), .val (.int p2), .val (.int p3), .val (.int x1), .val (.int x3), .val (.int x4), .val (.int x5), .val (.ref 0), .unset, .unset, .unset, .unset, .unset, .unset, .unset, .unset, .unset, .unset, .unset, .unset, .unset, .unset, .unset, .unset, .unset, .unset] [.int c7.1] (Hb 0 c7.2)
  refine WP.istore (L' := [.val (.int p0), .val (.int p1), .val (.int p2), .val (.int p3), .val (.int x1), .val (.int x3), .val (.int x4), .val (.int x5), .val (.ref 0), .val (.int c7.1), .unset, .unset, .unset, .unset, .unset, .unset, .unset, .unset, .unset, .unset, .unset, .unset, .unset, .unset, .unset, .unset, .unset]) at_53 (leb rfl) rfl ?_
  refine WP.aload at_55 rfl ?_
  refine WP.iload at_57 rfl ?_
  refine WP.iload at_59 rfl ?_
  refine WP.iconst (4 : Int32) at_61 rfl ?_
  obtain ⟨c8, hc8, h⟩ := Option.bind_eq_some_iff.mp h
  refine WP.callV (i := 0) (y := y2) (as := [.int x4, .int x5, .int (4 : Int32)]) (S := []) at_62 (hw _ m_62) (hw _ m_63) (hw _ m_65) (hw _ m_64) (hw _ m_66) (hw _ m_2) hy2 rfl (ok2 l Z a0 hw n x4 x5 (4 : Int32) c7.2 _ hc8) rfl (lenOf pd2 rfl) (leb rfl) (leb rfl) (leb rfl) (leb rfl) ?_
  rintro _ _ ⟨rfl, rfl⟩
  show WLAW l Z n0 (PLAW r) 13 168 65 [.val (.int p0), .val (.int p1), .val (.int p2), .val (.int p3), .val (.int x1), .val (.int x3), .val (.int x4), .val (.int x5), .val (.ref 0), .val (.int c7.1), .unset, .unset, .unset, .unset, .unset, .unset, .unset, .unset, .unset, .unset, .unset, .unset, .unset, .unset, .unset, .unset, .unset] [.int c8.1] (Hb 0 c8.2)
  refine WP.istore (L' := [.val (.int p0), .val (.int p1), .val (.int p2), .val (.int p3), .val (.int x1), .val (.int x3), .val (.int x4), .val (.int x5), .val (.ref 0), .val (.int c7.1), .val (.int c8.1), .unset, .unset, .unset, .unset, .unset, .unset, .unset, .unset, .unset, .unset, .unset, .unset, .unset, .unset, .unset, .unset]) at_65 (leb rfl) rfl ?_
  refine WP.aload at_67 rfl ?_
  obtain ⟨c9, hc9, h⟩ := Option.bind_eq_some_iff.mp h
  refine WP.callV (i := 0) (y := y16) (as := []) (S := []) at_69 (hw _ m_120) (hw _ m_121) (hw _ m_123) (hw _ m_122) (hw _ m_124) (hw _ m_2) hy16 rfl (ok16 l Z a0 hw c8.2 _ hc9) rfl (lenOf pd16 rfl) (leb rfl) (leb rfl) (leb rfl) (leb rfl) ?_
  rintro _ _ ⟨rfl, rfl⟩
  show WLAW l Z n0 (PLAW r) 13 168 72 [.val (.int p0), .val (.int p1), .val (.int p2), .val (.int p3), .val (.int x1), .val (.int x3), .val (.int x4), .val (.int x5), .val (.ref 0), .val (.int c7.1), .val (.int c8.1), .unset, .unset, .unset, .unset, .unset, .unset, .unset, .unset, .unset, .unset, .unset, .unset, .unset, .unset, .unset, .unset] [.int c9] (Hb 0 c8.2)
  refine WP.istore (L' := [.val (.int p0), .val (.int p1), .val (.int p2), .val (.int p3), .val (.int x1), .val (.int x3), .val (.int x4), .val (.int x5), .val (.ref 0), .val (.int c7.1), .val (.int c8.1), .val (.int c9), .unset, .unset, .unset, .unset, .unset, .unset, .unset, .unset, .unset, .unset, .unset, .unset, .unset, .unset, .unset]) at_72 (leb rfl) rfl ?_
  refine WP.aload at_74 rfl ?_
  obtain ⟨c10, hc10, h⟩ := Option.bind_eq_some_iff.mp h
  refine WP.callV (i := 0) (y := y17) (as := []) (S := []) at_76 (hw _ m_125) (hw _ m_126) (hw _ m_128) (hw _ m_127) (hw _ m_129) (hw _ m_2) hy17 rfl (ok17 l Z a0 hw c8.2 _ hc10) rfl (lenOf pd17 rfl) (leb rfl) (leb rfl) (leb rfl) (leb rfl) ?_
  rintro _ _ ⟨rfl, rfl⟩
  show WLAW l Z n0 (PLAW r) 13 168 79 [.val (.int p0), .val (.int p1), .val (.int p2), .val (.int p3), .val (.int x1), .val (.int x3), .val (.int x4), .val (.int x5), .val (.ref 0), .val (.int c7.1), .val (.int c8.1), .val (.int c9), .unset, .unset, .unset, .unset, .unset, .unset, .unset, .unset, .unset, .unset, .unset, .unset, .unset, .unset, .unset] [.int c10] (Hb 0 c8.2)
  refine WP.istore (L' := [.val (.int p0), .val (.int p1), .val (.int p2), .val (.int p3), .val (.int x1), .val (.int x3), .val (.int x4), .val (.int x5), .val (.ref 0), .val (.int c7.1), .val (.int c8.1), .val (.int c9), .val (.int c10), .unset, .unset, .unset, .unset, .unset, .unset, .unset, .unset, .unset, .unset, .unset, .unset, .unset, .unset]) at_79 (leb rfl) rfl ?_
  refine WP.aload at_81 rfl ?_
  obtain ⟨c11, hc11, h⟩ := Option.bind_eq_some_iff.mp h
  refine WP.callV (i := 0) (y := y18) (as := []) (S := []) at_83 (hw _ m_130) (hw _ m_131) (hw _ m_133) (hw _ m_132) (hw _ m_134) (hw _ m_2) hy18 rfl (ok18 l Z a0 hw c8.2 _ hc11) rfl (lenOf pd18 rfl) (leb rfl) (leb rfl) (leb rfl) (leb rfl) ?_
  rintro _ _ ⟨rfl, rfl⟩
  show WLAW l Z n0 (PLAW r) 13 168 86 [.val (.int p0), .val (.int p1), .val (.int p2), .val (.int p3), .val (.int x1), .val (.int x3), .val (.int x4), .val (.int x5), .val (.ref 0), .val (.int c7.1), .val (.int c8.1), .val (.int c9), .val (.int c10), .unset, .unset, .unset, .unset, .unset, .unset, .unset, .unset, .unset, .unset, .unset, .unset, .unset, .unset] [.int c11] (Hb 0 c8.2)
  refine WP.istore (L' := [.val (.int p0), .val (.int p1), .val (.int p2), .val (.int p3), .val (.int x1), .val (.int x3), .val (.int x4), .val (.int x5), .val (.ref 0), .val (.int c7.1), .val (.int c8.1), .val (.int c9), .val (.int c10), .val (.int c11), .unset, .unset, .unset, .unset, .unset, .unset, .unset, .unset, .unset, .unset, .unset, .unset, .unset]) at_86 (leb rfl) rfl ?_
  refine WP.aload at_88 rfl ?_
  refine WP.iconst (1 : Int32) at_90 rfl ?_
  obtain ⟨c12, hc12, h⟩ := Option.bind_eq_some_iff.mp h
  refine WP.callV (i := 0) (y := y19) (as := [.int (1 : Int32)]) (S := []) at_91 (hw _ m_135) (hw _ m_136) (hw _ m_138) (hw _ m_137) (hw _ m_139) (hw _ m_2) hy19 rfl (ok19 l Z a0 hw n (1 : Int32) c8.2 _ hc12) rfl (lenOf pd19 rfl) (leb rfl) (leb rfl) (leb rfl) (leb rfl) ?_
  rintro _ _ ⟨rfl, rfl⟩
  show WLAW l Z n0 (PLAW r) 13 168 94 [.val (.int p0), .val (.int p1), .val (.int p2), .val (.int p3), .val (.int x1), .val (.int x3), .val (.int x4), .val (.int x5), .val (.ref 0), .val (.int c7.1), .val (.int c8.1), .val (.int c9), .val (.int c10), .val (.int c11), .unset, .unset, .unset, .unset, .unset, .unset, .unset, .unset, .unset, .unset, .unset, .unset, .unset] [.int c12.1] (Hb 0 c12.2)
  refine WP.istore (L' := [.val (.int p0), .val (.int p1), .val (.int p2), .val (.int p3), .val (.int x1), .val (.int x3), .val (.int x4), .val (.int x5), .val (.ref 0), .val (.int c7.1), .val (.int c8.1), .val (.int c9), .val (.int c10), .val (.int c11), .val (.int c12.1), .unset, .unset, .unset, .unset, .unset, .unset, .unset, .unset, .unset, .unset, .unset, .unset]) at_94 (leb rfl) rfl ?_
  refine WP.aload at_96 rfl ?_
  obtain ⟨c13, hc13, h⟩ := Option.bind_eq_some_iff.mp h
  refine WP.callV (i := 0) (y := y28) (as := []) (S := []) at_98 (hw _ m_172) (hw _ m_173) (hw _ m_175) (hw _ m_174) (hw _ m_176) (hw _ m_2) hy28 rfl (ok28 l Z a0 hw c12.2 _ hc13) rfl (lenOf pd28 rfl) (leb rfl) (leb rfl) (leb rfl) (leb rfl) ?_
  rintro _ _ ⟨rfl, rfl⟩
  show WLAW l Z n0 (PLAW r) 13 168 101 [.val (.int p0), .val (.int p1), .val (.int p2), .val (.int p3), .val (.int x1), .val (.int x3), .val (.int x4), .val (.int x5), .val (.ref 0), .val (.int c7.1), .val (.int c8.1), .val (.int c9), .val (.int c10), .val (.int c11), .val (.int c12.1), .unset, .unset, .unset, .unset, .unset, .unset, .unset, .unset, .unset, .unset, .unset, .unset] [.int c13] (Hb 0 c12.2)
  refine WP.istore (L' := [.val (.int p0), .val (.int p1), .val (.int p2), .val (.int p3), .val (.int x1), .val (.int x3), .val (.int x4), .val (.int x5), .val (.ref 0), .val (.int c7.1), .val (.int c8.1), .val (.int c9), .val (.int c10), .val (.int c11), .val (.int c12.1), .val (.int c13), .unset, .unset, .unset, .unset, .unset, .unset, .unset, .unset, .unset, .unset, .unset]) at_101 (leb rfl) rfl ?_
  refine WP.aload at_103 rfl ?_
  obtain ⟨c14, hc14, h⟩ := Option.bind_eq_some_iff.mp h
  refine WP.callV (i := 0) (y := y29) (as := []) (S := []) at_105 (hw _ m_177) (hw _ m_178) (hw _ m_180) (hw _ m_179) (hw _ m_181) (hw _ m_2) hy29 rfl (ok29 l Z a0 hw c12.2 _ hc14) rfl (lenOf pd29 rfl) (leb rfl) (leb rfl) (leb rfl) (leb rfl) ?_
  rintro _ _ ⟨rfl, rfl⟩
  show WLAW l Z n0 (PLAW r) 13 168 108 [.val (.int p0), .val (.int p1), .val (.int p2), .val (.int p3), .val (.int x1), .val (.int x3), .val (.int x4), .val (.int x5), .val (.ref 0), .val (.int c7.1), .val (.int c8.1), .val (.int c9), .val (.int c10), .val (.int c11), .val (.int c12.1), .val (.int c13), .unset, .unset, .unset, .unset, .unset, .unset, .unset, .unset, .unset, .unset, .unset] [.int c14] (Hb 0 c12.2)
  refine WP.istore (L' := [.val (.int p0), .val (.int p1), .val (.int p2), .val (.int p3), .val (.int x1), .val (.int x3), .val (.int x4), .val (.int x5), .val (.ref 0), .val (.int c7.1), .val (.int c8.1), .val (.int c9), .val (.int c10), .val (.int c11), .val (.int c12.1), .val (.int c13), .val (.int c14), .unset, .unset, .unset, .unset, .unset, .unset, .unset, .unset, .unset, .unset]) at_108 (leb rfl) rfl ?_
  refine WP.aload at_110 rfl ?_
  obtain ⟨c15, hc15, h⟩ := Option.bind_eq_some_iff.mp h
  refine WP.callV (i := 0) (y := y30) (as := []) (S := []) at_112 (hw _ m_182) (hw _ m_183) (hw _ m_185) (hw _ m_184) (hw _ m_186) (hw _ m_2) hy30 rfl (ok30 l Z a0 hw c12.2 _ hc15) rfl (lenOf pd30 rfl) (leb rfl) (leb rfl) (leb rfl) (leb rfl) ?_
  rintro _ _ ⟨rfl, rfl⟩
  show WLAW l Z n0 (PLAW r) 13 168 115 [.val (.int p0), .val (.int p1), .val (.int p2), .val (.int p3), .val (.int x1), .val (.int x3), .val (.int x4), .val (.int x5), .val (.ref 0), .val (.int c7.1), .val (.int c8.1), .val (.int c9), .val (.int c10), .val (.int c11), .val (.int c12.1), .val (.int c13), .val (.int c14), .unset, .unset, .unset, .unset, .unset, .unset, .unset, .unset, .unset, .unset] [.int c15] (Hb 0 c12.2)
  refine WP.istore (L' := [.val (.int p0), .val (.int p1), .val (.int p2), .val (.int p3), .val (.int x1), .val (.int x3), .val (.int x4), .val (.int x5), .val (.ref 0), .val (.int c7.1), .val (.int c8.1), .val (.int c9), .val (.int c10), .val (.int c11), .val (.int c12.1), .val (.int c13), .val (.int c14), .val (.int c15), .unset, .unset, .unset, .unset, .unset, .unset, .unset, .unset, .unset]) at_115 (leb rfl) rfl ?_
  refine WP.aload at_117 rfl ?_
  refine WP.iconst (0 : Int32) at_119 rfl ?_
  obtain ⟨c16, hc16, h⟩ := Option.bind_eq_some_iff.mp h
  refine WP.callV (i := 0) (y := y19) (as := [.int (0 : Int32)]) (S := []) at_120 (hw _ m_135) (hw _ m_136) (hw _ m_138) (hw _ m_137) (hw _ m_139) (hw _ m_2) hy19 rfl (ok19 l Z a0 hw n (0 : Int32) c12.2 _ hc16) rfl (lenOf pd19 rfl) (leb rfl) (leb rfl) (leb rfl) (leb rfl) ?_
  rintro _ _ ⟨rfl, rfl⟩
  show WLAW l Z n0 (PLAW r) 13 168 123 [.val (.int p0), .val (.int p1), .val (.int p2), .val (.int p3), .val (.int x1), .val (.int x3), .val (.int x4), .val (.int x5), .val (.ref 0), .val (.int c7.1), .val (.int c8.1), .val (.int c9), .val (.int c10), .val (.int c11), .val (.int c12.1), .val (.int c13), .val (.int c14), .val (.int c15), .unset, .unset, .unset, .unset, .unset, .unset, .unset, .unset, .unset] [.int c16.1] (Hb 0 c16.2)
  refine WP.istore (L' := [.val (.int p0), .val (.int p1), .val (.int p2), .val (.int p3), .val (.int x1), .val (.int x3), .val (.int x4), .val (.int x5), .val (.ref 0), .val (.int c7.1), .val (.int c8.1), .val (.int c9), .val (.int c10), .val (.int c11), .val (.int c12.1), .val (.int c13), .val (.int c14), .val (.int c15), .val (.int c16.1), .unset, .unset, .unset, .unset, .unset, .unset, .unset, .unset]) at_123 (leb rfl) rfl ?_
  refine WP.aload at_125 rfl ?_
  obtain ⟨c17, hc17, h⟩ := Option.bind_eq_some_iff.mp h
  refine WP.callV (i := 0) (y := y28) (as := []) (S := []) at_127 (hw _ m_172) (hw _ m_173) (hw _ m_175) (hw _ m_174) (hw _ m_176) (hw _ m_2) hy28 rfl (ok28 l Z a0 hw c16.2 _ hc17) rfl (lenOf pd28 rfl) (leb rfl) (leb rfl) (leb rfl) (leb rfl) ?_
  rintro _ _ ⟨rfl, rfl⟩
  show WLAW l Z n0 (PLAW r) 13 168 130 [.val (.int p0), .val (.int p1), .val (.int p2), .val (.int p3), .val (.int x1), .val (.int x3), .val (.int x4), .val (.int x5), .val (.ref 0), .val (.int c7.1), .val (.int c8.1), .val (.int c9), .val (.int c10), .val (.int c11), .val (.int c12.1), .val (.int c13), .val (.int c14), .val (.int c15), .val (.int c16.1), .unset, .unset, .unset, .unset, .unset, .unset, .unset, .unset] [.int c17] (Hb 0 c16.2)
  refine WP.istore (L' := [.val (.int p0), .val (.int p1), .val (.int p2), .val (.int p3), .val (.int x1), .val (.int x3), .val (.int x4), .val (.int x5), .val (.ref 0), .val (.int c7.1), .val (.int c8.1), .val (.int c9), .val (.int c10), .val (.int c11), .val (.int c12.1), .val (.int c13), .val (.int c14), .val (.int c15), .val (.int c16.1), .val (.int c17), .unset, .unset, .unset, .unset, .unset, .unset, .unset]) at_130 (leb rfl) rfl ?_
  refine WP.aload at_132 rfl ?_
  obtain ⟨c18, hc18, h⟩ := Option.bind_eq_some_iff.mp h
  refine WP.callV (i := 0) (y := y29) (as := []) (S := []) at_134 (hw _ m_177) (hw _ m_178) (hw _ m_180) (hw _ m_179) (hw _ m_181) (hw _ m_2) hy29 rfl (ok29 l Z a0 hw c16.2 _ hc18) rfl (lenOf pd29 rfl) (leb rfl) (leb rfl) (leb rfl) (leb rfl) ?_
  rintro _ _ ⟨rfl, rfl⟩
  show WLAW l Z n0 (PLAW r) 13 168 137 [.val (.int p0), .val (.int p1), .val (.int p2), .val (.int p3), .val (.int x1), .val (.int x3), .val (.int x4), .val (.int x5), .val (.ref 0), .val (.int c7.1), .val (.int c8.1), .val (.int c9), .val (.int c10), .val (.int c11), .val (.int c12.1), .val (.int c13), .val (.int c14), .val (.int c15), .val (.int c16.1), .val (.int c17), .unset, .unset, .unset, .unset, .unset, .unset, .unset] [.int c18] (Hb 0 c16.2)
  refine WP.istore (L' := [.val (.int p0), .val (.int p1), .val (.int p2), .val (.int p3), .val (.int x1), .val (.int x3), .val (.int x4), .val (.int x5), .val (.ref 0), .val (.int c7.1), .val (.int c8.1), .val (.int c9), .val (.int c10), .val (.int c11), .val (.int c12.1), .val (.int c13), .val (.int c14), .val (.int c15), .val (.int c16.1), .val (.int c17), .val (.int c18), .unset, .unset, .unset, .unset, .unset, .unset]) at_137 (leb rfl) rfl ?_
  refine WP.aload at_139 rfl ?_
  obtain ⟨c19, hc19, h⟩ := Option.bind_eq_some_iff.mp h
  refine WP.callV (i := 0) (y := y30) (as := []) (S := []) at_141 (hw _ m_182) (hw _ m_183) (hw _ m_185) (hw _ m_184) (hw _ m_186) (hw _ m_2) hy30 rfl (ok30 l Z a0 hw c16.2 _ hc19) rfl (lenOf pd30 rfl) (leb rfl) (leb rfl) (leb rfl) (leb rfl) ?_
  rintro _ _ ⟨rfl, rfl⟩
  show WLAW l Z n0 (PLAW r) 13 168 144 [.val (.int p0), .val (.int p1), .val (.int p2), .val (.int p3), .val (.int x1), .val (.int x3), .val (.int x4), .val (.int x5), .val (.ref 0), .val (.int c7.1), .val (.int c8.1), .val (.int c9), .val (.int c10), .val (.int c11), .val (.int c12.1), .val (.int c13), .val (.int c14), .val (.int c15), .val (.int c16.1), .val (.int c17), .val (.int c18), .unset, .unset, .unset, .unset, .unset, .unset] [.int c19] (Hb 0 c16.2)
  refine WP.istore (L' := [.val (.int p0), .val (.int p1), .val (.int p2), .val (.int p3), .val (.int x1), .val (.int x3), .val (.int x4), .val (.int x5), .val (.ref 0), .val (.int c7.1), .val (.int c8.1), .val (.int c9), .val (.int c10), .val (.int c11), .val (.int c12.1), .val (.int c13), .val (.int c14), .val (.int c15), .val (.int c16.1), .val (.int c17), .val (.int c18), .val (.int c19), .unset, .unset, .unset, .unset, .unset]) at_144 (leb rfl) rfl ?_
  refine WP.iconst (0 : Int32) at_146 rfl ?_
  refine WP.istore (L' := [.val (.int p0), .val (.int p1), .val (.int p2), .val (.int p3), .val (.int x1), .val (.int x3), .val (.int x4), .val (.int x5), .val (.ref 0), .val (.int c7.1), .val (.int c8.1), .val (.int c9), .val (.int c10), .val (.int c11), .val (.int c12.1), .val (.int c13), .val (.int c14), .val (.int c15), .val (.int c16.1), .val (.int c17), .val (.int c18), .val (.int c19), .val (.int (0 : Int32)), .unset, .unset, .unset, .unset]) at_147 (leb rfl) rfl ?_
  refine WP.iconst (1 : Int32) at_149 rfl ?_
  refine WP.istore (L' := [.val (.int p0), .val (.int p1), .val (.int p2), .val (.int p3), .val (.int x1), .val (.int x3), .val (.int x4), .val (.int x5), .val (.ref 0), .val (.int c7.1), .val (.int c8.1), .val (.int c9), .val (.int c10), .val (.int c11), .val (.int c12.1), .val (.int c13), .val (.int c14), .val (.int c15), .val (.int c16.1), .val (.int c17), .val (.int c18), .val (.int c19), .val (.int (0 : Int32)), .val (.int (1 : Int32)), .unset, .unset, .unset]) at_150 (leb rfl) rfl ?_
  exact WP.weak (L' := [.unset, .unset, .unset, .unset, .val (.int x1), .val (.int x3), .val (.int x4), .val (.int x5), .unset, .val (.int c7.1), .val (.int c8.1), .val (.int c9), .val (.int c10), .val (.int c11), .val (.int c12.1), .val (.int c13), .val (.int c14), .val (.int c15), .val (.int c16.1), .val (.int c17), .val (.int c18), .val (.int c19), .val (.int (0 : Int32)), .val (.int (1 : Int32)), .unset, .unset, .unset]) ⟨rfl, rfl, rfl, rfl, rfl, rfl, rfl, rfl, rfl, rfl, rfl, rfl, rfl, rfl, rfl, rfl, rfl, rfl, rfl, trivial⟩ (okLAW_152 l Z a0 hw n0 n x1 x3 x4 x5 c7.1 c8.1 c9 c10 c11 c12.1 c13 c14 c15 c16.1 c17 c18 c19 (0 : Int32) (1 : Int32) c16.2 _ h)
set_option maxRecDepth 100000
set_option maxHeartbeats 0
theorem own_c000 : ∀ b : Fin 4, f_law 40 0 0 0 (Int32.ofNat b.val) = some 1 := by decide +kernel
theorem own_c001 : ∀ b : Fin 4, f_law 40 0 0 1 (Int32.ofNat b.val) = some 1 := by decide +kernel
theorem own_c002 : ∀ b : Fin 4, f_law 40 0 0 2 (Int32.ofNat b.val) = some 1 := by decide +kernel
theorem own_c003 : ∀ b : Fin 4, f_law 40 0 0 3 (Int32.ofNat b.val) = some 1 := by decide +kernel
theorem own_e10 (n : Nat) (a b : Int32) : f_law n 1 0 a b = f_law n 0 0 a b := by
  unfold f_law lt; dsimp only
  rw [show (1 : Int32) + (1 &&& 3) % (1 + (0 &&& 3)) = 1 + (0 &&& 3) % (1 + (0 &&& 3)) from by decide]
theorem own_e20 (n : Nat) (a b : Int32) : f_law n 2 0 a b = f_law n 0 0 a b := by
  unfold f_law lt; dsimp only
  rw [show (1 : Int32) + (2 &&& 3) % (1 + (0 &&& 3)) = 1 + (0 &&& 3) % (1 + (0 &&& 3)) from by decide]
theorem own_e30 (n : Nat) (a b : Int32) : f_law n 3 0 a b = f_law n 0 0 a b := by
  unfold f_law lt; dsimp only
  rw [show (1 : Int32) + (3 &&& 3) % (1 + (0 &&& 3)) = 1 + (0 &&& 3) % (1 + (0 &&& 3)) from by decide]
theorem own_c010 : ∀ b : Fin 4, f_law 40 0 1 0 (Int32.ofNat b.val) = some 1 := by decide +kernel
theorem own_c011 : ∀ b : Fin 4, f_law 40 0 1 1 (Int32.ofNat b.val) = some 1 := by decide +kernel
theorem own_c012 : ∀ b : Fin 4, f_law 40 0 1 2 (Int32.ofNat b.val) = some 1 := by decide +kernel
theorem own_c013 : ∀ b : Fin 4, f_law 40 0 1 3 (Int32.ofNat b.val) = some 1 := by decide +kernel
theorem own_c110 : ∀ b : Fin 4, f_law 40 1 1 0 (Int32.ofNat b.val) = some 1 := by decide +kernel
theorem own_c111 : ∀ b : Fin 4, f_law 40 1 1 1 (Int32.ofNat b.val) = some 1 := by decide +kernel
theorem own_c112 : ∀ b : Fin 4, f_law 40 1 1 2 (Int32.ofNat b.val) = some 1 := by decide +kernel
theorem own_c113 : ∀ b : Fin 4, f_law 40 1 1 3 (Int32.ofNat b.val) = some 1 := by decide +kernel
theorem own_e21 (n : Nat) (a b : Int32) : f_law n 2 1 a b = f_law n 0 1 a b := by
  unfold f_law lt; dsimp only
  rw [show (1 : Int32) + (2 &&& 3) % (1 + (1 &&& 3)) = 1 + (0 &&& 3) % (1 + (1 &&& 3)) from by decide]
theorem own_e31 (n : Nat) (a b : Int32) : f_law n 3 1 a b = f_law n 1 1 a b := by
  unfold f_law lt; dsimp only
  rw [show (1 : Int32) + (3 &&& 3) % (1 + (1 &&& 3)) = 1 + (1 &&& 3) % (1 + (1 &&& 3)) from by decide]
theorem own_c020 : ∀ b : Fin 4, f_law 40 0 2 0 (Int32.ofNat b.val) = some 1 := by decide +kernel
theorem own_c021 : ∀ b : Fin 4, f_law 40 0 2 1 (Int32.ofNat b.val) = some 1 := by decide +kernel
theorem own_c022 : ∀ b : Fin 4, f_law 40 0 2 2 (Int32.ofNat b.val) = some 1 := by decide +kernel
theorem own_c023 : ∀ b : Fin 4, f_law 40 0 2 3 (Int32.ofNat b.val) = some 1 := by decide +kernel
theorem own_c120 : ∀ b : Fin 4, f_law 40 1 2 0 (Int32.ofNat b.val) = some 1 := by decide +kernel
theorem own_c121 : ∀ b : Fin 4, f_law 40 1 2 1 (Int32.ofNat b.val) = some 1 := by decide +kernel
theorem own_c122 : ∀ b : Fin 4, f_law 40 1 2 2 (Int32.ofNat b.val) = some 1 := by decide +kernel
theorem own_c123 : ∀ b : Fin 4, f_law 40 1 2 3 (Int32.ofNat b.val) = some 1 := by decide +kernel
theorem own_c220 : ∀ b : Fin 4, f_law 40 2 2 0 (Int32.ofNat b.val) = some 1 := by decide +kernel
theorem own_c221 : ∀ b : Fin 4, f_law 40 2 2 1 (Int32.ofNat b.val) = some 1 := by decide +kernel
theorem own_c222 : ∀ b : Fin 4, f_law 40 2 2 2 (Int32.ofNat b.val) = some 1 := by decide +kernel
theorem own_c223 : ∀ b : Fin 4, f_law 40 2 2 3 (Int32.ofNat b.val) = some 1 := by decide +kernel
theorem own_e32 (n : Nat) (a b : Int32) : f_law n 3 2 a b = f_law n 0 2 a b := by
  unfold f_law lt; dsimp only
  rw [show (1 : Int32) + (3 &&& 3) % (1 + (2 &&& 3)) = 1 + (0 &&& 3) % (1 + (2 &&& 3)) from by decide]
theorem own_c030 : ∀ b : Fin 4, f_law 40 0 3 0 (Int32.ofNat b.val) = some 1 := by decide +kernel
theorem own_c031 : ∀ b : Fin 4, f_law 40 0 3 1 (Int32.ofNat b.val) = some 1 := by decide +kernel
theorem own_c032 : ∀ b : Fin 4, f_law 40 0 3 2 (Int32.ofNat b.val) = some 1 := by decide +kernel
theorem own_c033 : ∀ b : Fin 4, f_law 40 0 3 3 (Int32.ofNat b.val) = some 1 := by decide +kernel
theorem own_c130 : ∀ b : Fin 4, f_law 40 1 3 0 (Int32.ofNat b.val) = some 1 := by decide +kernel
theorem own_c131 : ∀ b : Fin 4, f_law 40 1 3 1 (Int32.ofNat b.val) = some 1 := by decide +kernel
theorem own_c132 : ∀ b : Fin 4, f_law 40 1 3 2 (Int32.ofNat b.val) = some 1 := by decide +kernel
theorem own_c133 : ∀ b : Fin 4, f_law 40 1 3 3 (Int32.ofNat b.val) = some 1 := by decide +kernel
theorem own_c230 : ∀ b : Fin 4, f_law 40 2 3 0 (Int32.ofNat b.val) = some 1 := by decide +kernel
theorem own_c231 : ∀ b : Fin 4, f_law 40 2 3 1 (Int32.ofNat b.val) = some 1 := by decide +kernel
theorem own_c232 : ∀ b : Fin 4, f_law 40 2 3 2 (Int32.ofNat b.val) = some 1 := by decide +kernel
theorem own_c233 : ∀ b : Fin 4, f_law 40 2 3 3 (Int32.ofNat b.val) = some 1 := by decide +kernel
theorem own_c330 : ∀ b : Fin 4, f_law 40 3 3 0 (Int32.ofNat b.val) = some 1 := by decide +kernel
theorem own_c331 : ∀ b : Fin 4, f_law 40 3 3 1 (Int32.ofNat b.val) = some 1 := by decide +kernel
theorem own_c332 : ∀ b : Fin 4, f_law 40 3 3 2 (Int32.ofNat b.val) = some 1 := by decide +kernel
theorem own_c333 : ∀ b : Fin 4, f_law 40 3 3 3 (Int32.ofNat b.val) = some 1 := by decide +kernel
theorem own_4 (x : Int32) : ∃ y, x &&& 3 = y ∧ y &&& 3 = y ∧ (y = 0 ∨ y = 1 ∨ y = 2 ∨ y = 3) := by
  obtain ⟨k, hk, e⟩ := and_natL x 3 (by decide)
  have hk : k ≤ 3 := hk
  refine ⟨_, rfl, ?_⟩
  rw [e]
  have : k = 0 ∨ k = 1 ∨ k = 2 ∨ k = 3 := by omega
  rcases this with rfl | rfl | rfl | rfl <;> decide
theorem own_f4 {P : Int32 → Prop} (h : ∀ b : Fin 4, P (Int32.ofNat b.val)) (y : Int32) (hy : y = 0 ∨ y = 1 ∨ y = 2 ∨ y = 3) : P y := by
  rcases hy with rfl | rfl | rfl | rfl
  · exact h 0
  · exact h 1
  · exact h 2
  · exact h 3
theorem own_d00 (a b : Int32) (ha : a = 0 ∨ a = 1 ∨ a = 2 ∨ a = 3) (hb : b = 0 ∨ b = 1 ∨ b = 2 ∨ b = 3) : f_law 40 0 0 a b = some 1 := by
  rcases ha with rfl | rfl | rfl | rfl
  · exact own_f4 (P := fun y => f_law 40 0 0 0 y = some 1) own_c000 b hb
  · exact own_f4 (P := fun y => f_law 40 0 0 1 y = some 1) own_c001 b hb
  · exact own_f4 (P := fun y => f_law 40 0 0 2 y = some 1) own_c002 b hb
  · exact own_f4 (P := fun y => f_law 40 0 0 3 y = some 1) own_c003 b hb
theorem own_d01 (a b : Int32) (ha : a = 0 ∨ a = 1 ∨ a = 2 ∨ a = 3) (hb : b = 0 ∨ b = 1 ∨ b = 2 ∨ b = 3) : f_law 40 0 1 a b = some 1 := by
  rcases ha with rfl | rfl | rfl | rfl
  · exact own_f4 (P := fun y => f_law 40 0 1 0 y = some 1) own_c010 b hb
  · exact own_f4 (P := fun y => f_law 40 0 1 1 y = some 1) own_c011 b hb
  · exact own_f4 (P := fun y => f_law 40 0 1 2 y = some 1) own_c012 b hb
  · exact own_f4 (P := fun y => f_law 40 0 1 3 y = some 1) own_c013 b hb
theorem own_d11 (a b : Int32) (ha : a = 0 ∨ a = 1 ∨ a = 2 ∨ a = 3) (hb : b = 0 ∨ b = 1 ∨ b = 2 ∨ b = 3) : f_law 40 1 1 a b = some 1 := by
  rcases ha with rfl | rfl | rfl | rfl
  · exact own_f4 (P := fun y => f_law 40 1 1 0 y = some 1) own_c110 b hb
  · exact own_f4 (P := fun y => f_law 40 1 1 1 y = some 1) own_c111 b hb
  · exact own_f4 (P := fun y => f_law 40 1 1 2 y = some 1) own_c112 b hb
  · exact own_f4 (P := fun y => f_law 40 1 1 3 y = some 1) own_c113 b hb
theorem own_d02 (a b : Int32) (ha : a = 0 ∨ a = 1 ∨ a = 2 ∨ a = 3) (hb : b = 0 ∨ b = 1 ∨ b = 2 ∨ b = 3) : f_law 40 0 2 a b = some 1 := by
  rcases ha with rfl | rfl | rfl | rfl
  · exact own_f4 (P := fun y => f_law 40 0 2 0 y = some 1) own_c020 b hb
  · exact own_f4 (P := fun y => f_law 40 0 2 1 y = some 1) own_c021 b hb
  · exact own_f4 (P := fun y => f_law 40 0 2 2 y = some 1) own_c022 b hb
  · exact own_f4 (P := fun y => f_law 40 0 2 3 y = some 1) own_c023 b hb
theorem own_d12 (a b : Int32) (ha : a = 0 ∨ a = 1 ∨ a = 2 ∨ a = 3) (hb : b = 0 ∨ b = 1 ∨ b = 2 ∨ b = 3) : f_law 40 1 2 a b = some 1 := by
  rcases ha with rfl | rfl | rfl | rfl
  · exact own_f4 (P := fun y => f_law 40 1 2 0 y = some 1) own_c120 b hb
  · exact own_f4 (P := fun y => f_law 40 1 2 1 y = some 1) own_c121 b hb
  · exact own_f4 (P := fun y => f_law 40 1 2 2 y = some 1) own_c122 b hb
  · exact own_f4 (P := fun y => f_law 40 1 2 3 y = some 1) own_c123 b hb
theorem own_d22 (a b : Int32) (ha : a = 0 ∨ a = 1 ∨ a = 2 ∨ a = 3) (hb : b = 0 ∨ b = 1 ∨ b = 2 ∨ b = 3) : f_law 40 2 2 a b = some 1 := by
  rcases ha with rfl | rfl | rfl | rfl
  · exact own_f4 (P := fun y => f_law 40 2 2 0 y = some 1) own_c220 b hb
  · exact own_f4 (P := fun y => f_law 40 2 2 1 y = some 1) own_c221 b hb
  · exact own_f4 (P := fun y => f_law 40 2 2 2 y = some 1) own_c222 b hb
  · exact own_f4 (P := fun y => f_law 40 2 2 3 y = some 1) own_c223 b hb
theorem own_d03 (a b : Int32) (ha : a = 0 ∨ a = 1 ∨ a = 2 ∨ a = 3) (hb : b = 0 ∨ b = 1 ∨ b = 2 ∨ b = 3) : f_law 40 0 3 a b = some 1 := by
  rcases ha with rfl | rfl | rfl | rfl
  · exact own_f4 (P := fun y => f_law 40 0 3 0 y = some 1) own_c030 b hb
  · exact own_f4 (P := fun y => f_law 40 0 3 1 y = some 1) own_c031 b hb
  · exact own_f4 (P := fun y => f_law 40 0 3 2 y = some 1) own_c032 b hb
  · exact own_f4 (P := fun y => f_law 40 0 3 3 y = some 1) own_c033 b hb
theorem own_d13 (a b : Int32) (ha : a = 0 ∨ a = 1 ∨ a = 2 ∨ a = 3) (hb : b = 0 ∨ b = 1 ∨ b = 2 ∨ b = 3) : f_law 40 1 3 a b = some 1 := by
  rcases ha with rfl | rfl | rfl | rfl
  · exact own_f4 (P := fun y => f_law 40 1 3 0 y = some 1) own_c130 b hb
  · exact own_f4 (P := fun y => f_law 40 1 3 1 y = some 1) own_c131 b hb
  · exact own_f4 (P := fun y => f_law 40 1 3 2 y = some 1) own_c132 b hb
  · exact own_f4 (P := fun y => f_law 40 1 3 3 y = some 1) own_c133 b hb
theorem own_d23 (a b : Int32) (ha : a = 0 ∨ a = 1 ∨ a = 2 ∨ a = 3) (hb : b = 0 ∨ b = 1 ∨ b = 2 ∨ b = 3) : f_law 40 2 3 a b = some 1 := by
  rcases ha with rfl | rfl | rfl | rfl
  · exact own_f4 (P := fun y => f_law 40 2 3 0 y = some 1) own_c230 b hb
  · exact own_f4 (P := fun y => f_law 40 2 3 1 y = some 1) own_c231 b hb
  · exact own_f4 (P := fun y => f_law 40 2 3 2 y = some 1) own_c232 b hb
  · exact own_f4 (P := fun y => f_law 40 2 3 3 y = some 1) own_c233 b hb
theorem own_d33 (a b : Int32) (ha : a = 0 ∨ a = 1 ∨ a = 2 ∨ a = 3) (hb : b = 0 ∨ b = 1 ∨ b = 2 ∨ b = 3) : f_law 40 3 3 a b = some 1 := by
  rcases ha with rfl | rfl | rfl | rfl
  · exact own_f4 (P := fun y => f_law 40 3 3 0 y = some 1) own_c330 b hb
  · exact own_f4 (P := fun y => f_law 40 3 3 1 y = some 1) own_c331 b hb
  · exact own_f4 (P := fun y => f_law 40 3 3 2 y = some 1) own_c332 b hb
  · exact own_f4 (P := fun y => f_law 40 3 3 3 y = some 1) own_c333 b hb
theorem own_d10 (a b : Int32) (ha : a = 0 ∨ a = 1 ∨ a = 2 ∨ a = 3) (hb : b = 0 ∨ b = 1 ∨ b = 2 ∨ b = 3) : f_law 40 1 0 a b = some 1 := by
  rw [own_e10]; exact own_d00 a b ha hb
theorem own_d20 (a b : Int32) (ha : a = 0 ∨ a = 1 ∨ a = 2 ∨ a = 3) (hb : b = 0 ∨ b = 1 ∨ b = 2 ∨ b = 3) : f_law 40 2 0 a b = some 1 := by
  rw [own_e20]; exact own_d00 a b ha hb
theorem own_d30 (a b : Int32) (ha : a = 0 ∨ a = 1 ∨ a = 2 ∨ a = 3) (hb : b = 0 ∨ b = 1 ∨ b = 2 ∨ b = 3) : f_law 40 3 0 a b = some 1 := by
  rw [own_e30]; exact own_d00 a b ha hb
theorem own_d21 (a b : Int32) (ha : a = 0 ∨ a = 1 ∨ a = 2 ∨ a = 3) (hb : b = 0 ∨ b = 1 ∨ b = 2 ∨ b = 3) : f_law 40 2 1 a b = some 1 := by
  rw [own_e21]; exact own_d01 a b ha hb
theorem own_d31 (a b : Int32) (ha : a = 0 ∨ a = 1 ∨ a = 2 ∨ a = 3) (hb : b = 0 ∨ b = 1 ∨ b = 2 ∨ b = 3) : f_law 40 3 1 a b = some 1 := by
  rw [own_e31]; exact own_d11 a b ha hb
theorem own_d32 (a b : Int32) (ha : a = 0 ∨ a = 1 ∨ a = 2 ∨ a = 3) (hb : b = 0 ∨ b = 1 ∨ b = 2 ∨ b = 3) : f_law 40 3 2 a b = some 1 := by
  rw [own_e32]; exact own_d02 a b ha hb
theorem owed (p0 p1 p2 p3 : Int32) : ∃ fu, f_law fu p0 p1 p2 p3 = some 1 := by
  refine ⟨40, ?_⟩
  obtain ⟨a, a1, a2, ha⟩ := own_4 p0
  obtain ⟨b, b1, b2, hb⟩ := own_4 p1
  obtain ⟨c, c1, c2, hc⟩ := own_4 p2
  obtain ⟨d, d1, d2, hd⟩ := own_4 p3
  have e : f_law 40 p0 p1 p2 p3 = f_law 40 a b c d := by
    unfold f_law
    rw [a1, b1, c1, d1, a2, b2, c2, d2]
  rw [e]
  rcases ha with rfl | rfl | rfl | rfl
  · rcases hb with rfl | rfl | rfl | rfl
    · exact own_d00 c d hc hd
    · exact own_d01 c d hc hd
    · exact own_d02 c d hc hd
    · exact own_d03 c d hc hd
  · rcases hb with rfl | rfl | rfl | rfl
    · exact own_d10 c d hc hd
    · exact own_d11 c d hc hd
    · exact own_d12 c d hc hd
    · exact own_d13 c d hc hd
  · rcases hb with rfl | rfl | rfl | rfl
    · exact own_d20 c d hc hd
    · exact own_d21 c d hc hd
    · exact own_d22 c d hc hd
    · exact own_d23 c d hc hd
  · rcases hb with rfl | rfl | rfl | rfl
    · exact own_d30 c d hc hd
    · exact own_d31 c d hc hd
    · exact own_d32 c d hc hd
    · exact own_d33 c d hc hd


set_option maxRecDepth 65536 in
set_option maxHeartbeats 40000000 in
theorem comes_1 {Post : Tables → Env → Array Value → State → Outcome → State → Prop} (hpost : ∀ tb e args s v u, (limb_1_1.after args s (.returned v) u = true ∧ limb_1_2.after args s (.returned v) u = true ∧ True) → FrameEnd s (.returned v) u (Jvm.fieldLocs frame_1_writes args s ++ Jvm.arrayLocs frame_1_arrays args s ++ Jvm.staticLocs frame_1_statics s) 40 448 → Post tb e args s (.returned v) u) :
    ArmFor flags0 classFile x code maxLocals ret World_1 tables_1 room_1 Calls_1 rest_1 Pre_1 Post := by
  intro l hfl _ _ p e ha hc hk s m args below hf hA hF happ hP
  obtain ⟨hcalls, hrest, hpre⟩ := hP
  obtain ⟨-, -, -, hnamed, -, -, -, hat⟩ := (Spec.applies_iff hf).mp happ
  obtain ⟨hg, hn⟩ := and_e (Cond.before_iff.mp (show (Jvm.Cond.and given_1 narrow_1).before args s = true from hpre))
  obtain ⟨g0, q0⟩ := and_e hg
  obtain ⟨w0, w1, w2, w3, rfl⟩ : ∃ w0 w1 w2 w3 : Value, args = #[w0, w1, w2, w3] := by
    have hs : args.size = 4 := by simpa [Cond.value, given_1] using g0
    obtain ⟨L⟩ := args
    match L, hs with
    | [w0, w1, w2, w3], _ => exact ⟨w0, w1, w2, w3, rfl⟩
  have hw := fun d (hd : d ∈ tables_1) => atoms_spec (ws := Jvm.Cond.code x code maxLocals ret :: tables_1) hat d (List.mem_cons_of_mem _ hd)
  obtain ⟨h0, q1⟩ := and_e q0
  obtain ⟨i0, e0⟩ := is_v h0
  obtain rfl : w0 = (.int i0) := Option.some.inj e0
  obtain ⟨h1, q2⟩ := and_e q1
  obtain ⟨i1, e1⟩ := is_v h1
  obtain rfl : w1 = (.int i1) := Option.some.inj e1
  obtain ⟨h2, q3⟩ := and_e q2
  obtain ⟨i2, e2⟩ := is_v h2
  obtain rfl : w2 = (.int i2) := Option.some.inj e2
  obtain ⟨i3, e3⟩ := is_v q3
  obtain rfl : w3 = (.int i3) := Option.some.inj e3
  obtain ⟨fu, hfu⟩ := owed i0 i1 i2 i3
  obtain ⟨n, o, h1, h2, h3, _, L, rfl, ⟨w, H', rfl, hv, -, -, N⟩, hq⟩ := okLAW l s _ hw fu i0 i1 i2 i3 1 hfu tables_1 s.heap.size _ s.heap (HR.start0 s CN lay) p e ha hc hk s m _ below hf ((Spec.applies_iff_loose hf).mp happ).1 ⟨rfl, State.Warmed39.refl s, rfl⟩ trivial
  obtain rfl : w = some (.int 1) := hv
  refine ⟨n, _, h1, h2, h3, hpost _ _ _ _ _ _ ⟨Cond.after_iff.mpr rfl, Cond.after_iff.mpr (eq_i res_at (Term.int_eval (1)) rfl), trivial⟩ ⟨hq.1, hq.2.1, (hq.2.2.sift fun y hy => Or.inr (N y hy)).mono (by decide) (by decide)⟩⟩
theorem main_1_1 : Claimed_1_1 := comes_1 fun _ _ _ _ _ _ h hF => ⟨h.1, hF⟩
theorem main_1_2 : Claimed_1_2 := comes_1 fun _ _ _ _ _ _ h hF => ⟨h.2.1, hF⟩

end Jvm.Pilot.@@N@@
namespace Jvm.Pilot.@@N@@
open Jvm Jvm.ClassFile Sem Op Lib Jvm.Free Jvm.Stand Jvm.Pilot.@@N@@.Jvm.D
/-! MADE BY PROGRAM (witnessworld.py) out of the Statement's table words and the real class files: 9 classes; the members and pool entries that the words name. The judged class is class 1, her method 1. -/
namespace start1
open Jvm.ClassFile
def u (s : String) : CpInfo := .utf8 (stringToUtf16 s)
/-- a pool by its gaps: so many unusable entries, then the entry; so many at the end -/
def gap : Nat → List CpInfo → List CpInfo
  | 0, r => r
  | n + 1, r => .unusable :: gap n r
def poolList (es : List (Nat × CpInfo)) (last : Nat) : List CpInfo := es.foldr (fun e r => gap e.1 (e.2 :: r)) (gap last [])
def pool (es : List (Nat × CpInfo)) (last : Nat) : Array CpInfo := ⟨poolList es last⟩
def fileOf (pool : Array CpInfo) (this : Nat) (attrs : Array Attribute := #[]) (ms : Array MethodInfo := #[]) (fl : Nat := 33) (sup : Nat := 0) (ifs : Array Nat := #[]) (fds : Array FieldInfo := #[]) : ClassFile where
  minorVersion := 0
  majorVersion := 65
  constantPool := pool
  accessFlags := fl
  thisClass := this
  superClass := sup
  interfaces := ifs
  fields := fds
  methods := ms
  attributes := attrs
def plain (name : String) (sup : Option ClassId) : Class where
  name := name
  kind := .ordinary
  loader := none
  accessFlags := 33
  super := sup
  interfaces := #[]
  cf := none
  fields := #[]
  methods := #[]
  instanceTypes := #[]
  staticTypes := #[]
  resolved := #[]
  callSites := []
  init := .initialized
  statics := none
  mirror := none

def pool0 : Array CpInfo := pool [(5, u "<init>"), (0, u "()V"), (1, .class_ 10), (1, u "java/lang/Object")] 113

def k0c0 : Code := { maxStack := 0, maxLocals := 1, code := object_method_1_code, exceptionTable := #[], attributes := #[] }
def k0m0 : Method := { name := "<init>", desc := "()V", sig := { parameters := [], returnType := none }, accessFlags := 1, code := some k0c0 }
/-- java/lang/Object -/
def k0 : Class := { plain "java/lang/Object" none with
  accessFlags := 33
  interfaces := #[]
  cf := some (fileOf pool0 8 #[] #[{ accessFlags := 1, nameIndex := 5, descriptorIndex := 6, attributes := #[] }] 33 0 #[] #[])
  fields := #[]
  methods := #[k0m0]
  instanceTypes := #[]
  staticTypes := #[]
  resolved := Array.replicate 124 none
  statics := none }

def pool1 : Array CpInfo := pool [(2, .class_ 4), (1, u "java/lang/Object"), (0, u "<init>"), (0, u "()V"), (0, .class_ 8), (0, u "DemandGate"), (0, .methodref 7 10), (0, .nameAndType 5 11), (0, u "(II)V"), (0, .methodref 7 13), (0, .nameAndType 14 15), (0, u "propose"), (0, u "(III)I"), (0, .methodref 7 17), (0, .nameAndType 18 19), (0, u "lastOverload"), (0, u "()I"), (0, .methodref 7 21), (0, .nameAndType 22 19), (0, u "lastHyper"), (0, .methodref 7 24), (0, .nameAndType 25 19), (0, u "count"), (0, .methodref 7 27), (0, .nameAndType 28 29), (0, u "simulate"), (0, u "(I)I"), (0, .methodref 7 31), (0, .nameAndType 32 19), (0, u "missDeadline"), (0, .methodref 7 34), (0, .nameAndType 35 19), (0, u "missTask"), (0, .methodref 7 37), (0, .nameAndType 38 19), (0, u "idleUnits"), (0, .class_ 40), (0, u "DemandGateL3"), (2, u "law"), (0, u "(IIII)Z")] 3

def k1m0 : Method := { name := "<init>", desc := "()V", sig := { parameters := [], returnType := none }, accessFlags := 1, code := none }
def k1c1 : Code := { maxStack := 4, maxLocals := 27, code := code, exceptionTable := #[], attributes := #[] }
def k1m1 : Method := { name := "law", desc := "(IIII)Z", sig := { parameters := [.int, .int, .int, .int], returnType := some .boolean }, accessFlags := 9, code := some k1c1 }
/-- DemandGateL3 -/
def k1 : Class := { plain "DemandGateL3" (some 0) with
  accessFlags := 33
  interfaces := #[]
  cf := some (fileOf pool1 39 #[] #[{ accessFlags := 1, nameIndex := 5, descriptorIndex := 6, attributes := #[] }, { accessFlags := 9, nameIndex := 43, descriptorIndex := 44, attributes := #[] }] 33 2 #[] #[])
  fields := #[]
  methods := #[k1m0, k1m1]
  instanceTypes := #[]
  staticTypes := #[]
  resolved := Array.replicate 48 none
  statics := none }

def pool2 : Array CpInfo := pool [(1, .methodref 2 3), (0, .class_ 4), (0, .nameAndType 5 6), (0, u "java/lang/Object"), (0, u "<init>"), (0, u "()V"), (0, .fieldref 8 9), (0, .class_ 10), (0, .nameAndType 11 12), (0, u "DemandGate"), (0, u "admC"), (0, u "[I"), (0, .fieldref 8 14), (0, .nameAndType 15 12), (0, u "admD"), (0, .fieldref 8 17), (0, .nameAndType 18 12), (0, u "admT"), (0, .fieldref 8 20), (0, .nameAndType 21 12), (0, u "candC"), (0, .fieldref 8 23), (0, .nameAndType 24 12), (0, u "candD"), (0, .fieldref 8 26), (0, .nameAndType 27 12), (0, u "candT"), (0, .fieldref 8 29), (0, .nameAndType 30 12), (0, u "wC"), (0, .fieldref 8 32), (0, .nameAndType 33 12), (0, u "wD"), (0, .fieldref 8 35), (0, .nameAndType 36 12), (0, u "wT"), (0, .fieldref 8 38), (0, .nameAndType 39 12), (0, u "nextDl"), (0, .fieldref 8 41), (0, .nameAndType 42 12), (0, u "rem"), (0, .fieldref 8 44), (0, .nameAndType 45 12), (0, u "absDl"), (0, .methodref 8 47), (0, .nameAndType 48 49), (0, u "clamp"), (0, u "(III)I"), (0, .fieldref 8 51), (0, .nameAndType 52 53), (0, u "cap"), (0, u "I"), (0, .fieldref 8 55), (0, .nameAndType 56 53), (0, u "limit"), (0, .fieldref 8 58), (0, .nameAndType 59 53), (0, u "admN"), (0, .fieldref 8 61), (0, .nameAndType 62 53), (0, u "candN"), (0, .fieldref 8 64), (0, .nameAndType 65 66), (0, u "candHeld"), (0, u "Z"), (0, .fieldref 8 68), (0, .nameAndType 69 53), (0, u "candH"), (0, .fieldref 8 71), (0, .nameAndType 72 53), (0, u "lastOverload"), (0, .fieldref 8 74), (0, .nameAndType 75 53), (0, u "lastHyper"), (0, .fieldref 8 77), (0, .nameAndType 78 53), (0, u "missDeadline"), (0, .fieldref 8 80), (0, .nameAndType 81 53), (0, u "missTask"), (0, .fieldref 8 83), (0, .nameAndType 84 53), (0, u "idleUnits"), (0, .fieldref 8 86), (0, .nameAndType 87 53), (0, u "wN"), (0, .methodref 8 89), (0, .nameAndType 90 91), (0, u "validParams"), (0, u "(III)Z"), (0, .methodref 8 93), (0, .nameAndType 94 6), (0, u "loadAdmitted"), (0, .methodref 8 96), (0, .nameAndType 97 91), (0, u "appendWork"), (0, .methodref 8 99), (0, .nameAndType 100 101), (0, u "workHyper"), (0, u "(I)I"), (0, .methodref 8 103), (0, .nameAndType 104 105), (0, u "storeCandidate"), (0, u "(I)V"), (0, .methodref 8 107), (0, .nameAndType 108 101), (0, u "overloadOfWork"), (0, .methodref 8 110), (0, .nameAndType 111 49), (0, u "admitTask"), (4, .methodref 8 117), (0, .nameAndType 118 6), (0, u "loadCandidate"), (0, .methodref 8 120), (0, .nameAndType 121 101), (0, u "runEdf"), (0, .methodref 8 123), (0, .nameAndType 124 125), (0, u "gcd"), (0, u "(JJ)J"), (0, .methodref 8 127), (0, .nameAndType 128 125), (0, u "lcm"), (0, .methodref 8 130), (0, .nameAndType 131 132), (0, u "implicitWithinCapacity"), (0, u "(I)Z"), (0, .methodref 8 134), (0, .nameAndType 135 101), (0, u "scanDeadlinePoints"), (0, .methodref 8 137), (0, .nameAndType 138 139), (0, u "earliestNextDeadline"), (0, u "()I"), (0, .methodref 8 141), (0, .nameAndType 142 143), (0, u "consumeDeadlinesAt"), (0, u "(I)J"), (0, .integer 2147483647), (0, .methodref 8 146), (0, .nameAndType 147 6), (0, u "resetJobs"), (0, .methodref 8 149), (0, .nameAndType 150 101), (0, u "firstMissAt"), (0, .methodref 8 152), (0, .nameAndType 153 154), (0, u "recordRun"), (0, u "(III)V"), (0, .methodref 8 156), (0, .nameAndType 157 105), (0, u "releaseAt"), (0, .methodref 8 159), (0, .nameAndType 160 161), (0, u "dispatchSlot"), (0, u "()Z"), (0, .methodref 8 163), (0, .nameAndType 164 161), (0, u "anyPending"), (0, .methodref 8 166), (0, .nameAndType 167 168), (0, u "nextReleaseAfter"), (0, u "(II)I"), (0, u "MAX_CAPACITY"), (2, u "MAX_HYPER_LIMIT"), (1, u "MAX_PARAM"), (0, u "REFUSED_FULL"), (1, u "REFUSED_PARAM"), (1, u "REFUSED_HYPER"), (1, u "REFUSED_DEMAND"), (1, u "SIM_ADMITTED"), (1, u "SIM_CANDIDATE"), (1, u "SIM_NONE"), (0, u "SIM_MET"), (0, u "SIM_MISSED"), (1, u "(II)V"), (2, u "propose"), (3, u "count"), (6, u "simulate")] 2

def k2c0 : Code := { maxStack := 5, maxLocals := 3, code := prog_1_method_1_code, exceptionTable := #[], attributes := #[] }
def k2m0 : Method := { name := "<init>", desc := "(II)V", sig := { parameters := [.int, .int], returnType := none }, accessFlags := 1, code := some k2c0 }
def k2c1 : Code := { maxStack := 4, maxLocals := 5, code := prog_1_method_2_code, exceptionTable := #[], attributes := #[] }
def k2m1 : Method := { name := "propose", desc := "(III)I", sig := { parameters := [.int, .int, .int], returnType := some .int }, accessFlags := 1, code := some k2c1 }
def k2c2 : Code := { maxStack := 1, maxLocals := 1, code := prog_1_method_5_code, exceptionTable := #[], attributes := #[] }
def k2m2 : Method := { name := "count", desc := "()I", sig := { parameters := [], returnType := some .int }, accessFlags := 1, code := some k2c2 }
def k2c3 : Code := { maxStack := 1, maxLocals := 1, code := prog_1_method_12_code, exceptionTable := #[], attributes := #[] }
def k2m3 : Method := { name := "lastOverload", desc := "()I", sig := { parameters := [], returnType := some .int }, accessFlags := 1, code := some k2c3 }
def k2c4 : Code := { maxStack := 1, maxLocals := 1, code := prog_1_method_13_code, exceptionTable := #[], attributes := #[] }
def k2m4 : Method := { name := "lastHyper", desc := "()I", sig := { parameters := [], returnType := some .int }, accessFlags := 1, code := some k2c4 }
def k2c5 : Code := { maxStack := 2, maxLocals := 3, code := prog_1_method_14_code, exceptionTable := #[], attributes := #[] }
def k2m5 : Method := { name := "simulate", desc := "(I)I", sig := { parameters := [.int], returnType := some .int }, accessFlags := 1, code := some k2c5 }
def k2c6 : Code := { maxStack := 1, maxLocals := 1, code := prog_1_method_15_code, exceptionTable := #[], attributes := #[] }
def k2m6 : Method := { name := "missDeadline", desc := "()I", sig := { parameters := [], returnType := some .int }, accessFlags := 1, code := some k2c6 }
def k2c7 : Code := { maxStack := 1, maxLocals := 1, code := prog_1_method_16_code, exceptionTable := #[], attributes := #[] }
def k2m7 : Method := { name := "missTask", desc := "()I", sig := { parameters := [], returnType := some .int }, accessFlags := 1, code := some k2c7 }
def k2c8 : Code := { maxStack := 1, maxLocals := 1, code := prog_1_method_17_code, exceptionTable := #[], attributes := #[] }
def k2m8 : Method := { name := "idleUnits", desc := "()I", sig := { parameters := [], returnType := some .int }, accessFlags := 1, code := some k2c8 }
def k2c9 : Code := { maxStack := 2, maxLocals := 4, code := prog_1_method_18_code, exceptionTable := #[], attributes := #[] }
def k2m9 : Method := { name := "clamp", desc := "(III)I", sig := { parameters := [.int, .int, .int], returnType := some .int }, accessFlags := 2, code := some k2c9 }
def k2c10 : Code := { maxStack := 2, maxLocals := 4, code := prog_1_method_19_code, exceptionTable := #[], attributes := #[] }
def k2m10 : Method := { name := "validParams", desc := "(III)Z", sig := { parameters := [.int, .int, .int], returnType := some .boolean }, accessFlags := 2, code := some k2c10 }
def k2c11 : Code := { maxStack := 5, maxLocals := 2, code := prog_1_method_20_code, exceptionTable := #[], attributes := #[] }
def k2m11 : Method := { name := "loadAdmitted", desc := "()V", sig := { parameters := [], returnType := none }, accessFlags := 2, code := some k2c11 }
def k2c12 : Code := { maxStack := 5, maxLocals := 2, code := prog_1_method_21_code, exceptionTable := #[], attributes := #[] }
def k2m12 : Method := { name := "loadCandidate", desc := "()V", sig := { parameters := [], returnType := none }, accessFlags := 2, code := some k2c12 }
def k2c13 : Code := { maxStack := 3, maxLocals := 4, code := prog_1_method_22_code, exceptionTable := #[], attributes := #[] }
def k2m13 : Method := { name := "appendWork", desc := "(III)Z", sig := { parameters := [.int, .int, .int], returnType := some .boolean }, accessFlags := 2, code := some k2c13 }
def k2c14 : Code := { maxStack := 4, maxLocals := 3, code := prog_1_method_23_code, exceptionTable := #[], attributes := #[] }
def k2m14 : Method := { name := "storeCandidate", desc := "(I)V", sig := { parameters := [.int], returnType := none }, accessFlags := 2, code := some k2c14 }
def k2c15 : Code := { maxStack := 3, maxLocals := 4, code := prog_1_method_24_code, exceptionTable := #[], attributes := #[] }
def k2m15 : Method := { name := "admitTask", desc := "(III)I", sig := { parameters := [.int, .int, .int], returnType := some .int }, accessFlags := 2, code := some k2c15 }
def k2c16 : Code := { maxStack := 4, maxLocals := 12, code := prog_1_method_25_code, exceptionTable := #[], attributes := #[] }
def k2m16 : Method := { name := "gcd", desc := "(JJ)J", sig := { parameters := [.long, .long], returnType := some .long }, accessFlags := 2, code := some k2c16 }
def k2c17 : Code := { maxStack := 5, maxLocals := 7, code := prog_1_method_26_code, exceptionTable := #[], attributes := #[] }
def k2m17 : Method := { name := "lcm", desc := "(JJ)J", sig := { parameters := [.long, .long], returnType := some .long }, accessFlags := 2, code := some k2c17 }
def k2c18 : Code := { maxStack := 5, maxLocals := 5, code := prog_1_method_27_code, exceptionTable := #[], attributes := #[] }
def k2m18 : Method := { name := "workHyper", desc := "(I)I", sig := { parameters := [.int], returnType := some .int }, accessFlags := 2, code := some k2c18 }
def k2c19 : Code := { maxStack := 2, maxLocals := 2, code := prog_1_method_28_code, exceptionTable := #[], attributes := #[] }
def k2m19 : Method := { name := "overloadOfWork", desc := "(I)I", sig := { parameters := [.int], returnType := some .int }, accessFlags := 2, code := some k2c19 }
def k2c20 : Code := { maxStack := 7, maxLocals := 5, code := prog_1_method_29_code, exceptionTable := #[], attributes := #[] }
def k2m20 : Method := { name := "implicitWithinCapacity", desc := "(I)Z", sig := { parameters := [.int], returnType := some .boolean }, accessFlags := 2, code := some k2c20 }
def k2c21 : Code := { maxStack := 4, maxLocals := 6, code := prog_1_method_30_code, exceptionTable := #[], attributes := #[] }
def k2m21 : Method := { name := "scanDeadlinePoints", desc := "(I)I", sig := { parameters := [.int], returnType := some .int }, accessFlags := 2, code := some k2c21 }
def k2c22 : Code := { maxStack := 2, maxLocals := 3, code := prog_1_method_31_code, exceptionTable := #[], attributes := #[] }
def k2m22 : Method := { name := "earliestNextDeadline", desc := "()I", sig := { parameters := [], returnType := some .int }, accessFlags := 2, code := some k2c22 }
def k2c23 : Code := { maxStack := 5, maxLocals := 5, code := prog_1_method_32_code, exceptionTable := #[], attributes := #[] }
def k2m23 : Method := { name := "consumeDeadlinesAt", desc := "(I)J", sig := { parameters := [.int], returnType := some .long }, accessFlags := 2, code := some k2c23 }
def k2c24 : Code := { maxStack := 4, maxLocals := 6, code := prog_1_method_34_code, exceptionTable := #[], attributes := #[] }
def k2m24 : Method := { name := "runEdf", desc := "(I)I", sig := { parameters := [.int], returnType := some .int }, accessFlags := 2, code := some k2c24 }
def k2c25 : Code := { maxStack := 3, maxLocals := 2, code := prog_1_method_35_code, exceptionTable := #[], attributes := #[] }
def k2m25 : Method := { name := "resetJobs", desc := "()V", sig := { parameters := [], returnType := none }, accessFlags := 2, code := some k2c25 }
def k2c26 : Code := { maxStack := 2, maxLocals := 4, code := prog_1_method_36_code, exceptionTable := #[], attributes := #[] }
def k2m26 : Method := { name := "recordRun", desc := "(III)V", sig := { parameters := [.int, .int, .int], returnType := none }, accessFlags := 2, code := some k2c26 }
def k2c27 : Code := { maxStack := 2, maxLocals := 3, code := prog_1_method_37_code, exceptionTable := #[], attributes := #[] }
def k2m27 : Method := { name := "firstMissAt", desc := "(I)I", sig := { parameters := [.int], returnType := some .int }, accessFlags := 2, code := some k2c27 }
def k2c28 : Code := { maxStack := 5, maxLocals := 3, code := prog_1_method_38_code, exceptionTable := #[], attributes := #[] }
def k2m28 : Method := { name := "releaseAt", desc := "(I)V", sig := { parameters := [.int], returnType := none }, accessFlags := 2, code := some k2c28 }
def k2c29 : Code := { maxStack := 4, maxLocals := 3, code := prog_1_method_39_code, exceptionTable := #[], attributes := #[] }
def k2m29 : Method := { name := "dispatchSlot", desc := "()Z", sig := { parameters := [], returnType := some .boolean }, accessFlags := 2, code := some k2c29 }
def k2c30 : Code := { maxStack := 2, maxLocals := 2, code := prog_1_method_40_code, exceptionTable := #[], attributes := #[] }
def k2m30 : Method := { name := "anyPending", desc := "()Z", sig := { parameters := [], returnType := some .boolean }, accessFlags := 2, code := some k2c30 }
def k2c31 : Code := { maxStack := 3, maxLocals := 6, code := prog_1_method_41_code, exceptionTable := #[], attributes := #[] }
def k2m31 : Method := { name := "nextReleaseAfter", desc := "(II)I", sig := { parameters := [.int, .int], returnType := some .int }, accessFlags := 2, code := some k2c31 }
/-- DemandGate -/
def k2 : Class := { plain "DemandGate" (some 0) with
  accessFlags := 49
  interfaces := #[]
  cf := some (fileOf pool2 8 #[] #[{ accessFlags := 1, nameIndex := 5, descriptorIndex := 191, attributes := #[] }, { accessFlags := 1, nameIndex := 194, descriptorIndex := 49, attributes := #[] }, { accessFlags := 1, nameIndex := 198, descriptorIndex := 139, attributes := #[] }, { accessFlags := 1, nameIndex := 72, descriptorIndex := 139, attributes := #[] }, { accessFlags := 1, nameIndex := 75, descriptorIndex := 139, attributes := #[] }, { accessFlags := 1, nameIndex := 205, descriptorIndex := 101, attributes := #[] }, { accessFlags := 1, nameIndex := 78, descriptorIndex := 139, attributes := #[] }, { accessFlags := 1, nameIndex := 81, descriptorIndex := 139, attributes := #[] }, { accessFlags := 1, nameIndex := 84, descriptorIndex := 139, attributes := #[] }, { accessFlags := 2, nameIndex := 48, descriptorIndex := 49, attributes := #[] }, { accessFlags := 2, nameIndex := 90, descriptorIndex := 91, attributes := #[] }, { accessFlags := 2, nameIndex := 94, descriptorIndex := 6, attributes := #[] }, { accessFlags := 2, nameIndex := 118, descriptorIndex := 6, attributes := #[] }, { accessFlags := 2, nameIndex := 97, descriptorIndex := 91, attributes := #[] }, { accessFlags := 2, nameIndex := 104, descriptorIndex := 105, attributes := #[] }, { accessFlags := 2, nameIndex := 111, descriptorIndex := 49, attributes := #[] }, { accessFlags := 2, nameIndex := 124, descriptorIndex := 125, attributes := #[] }, { accessFlags := 2, nameIndex := 128, descriptorIndex := 125, attributes := #[] }, { accessFlags := 2, nameIndex := 100, descriptorIndex := 101, attributes := #[] }, { accessFlags := 2, nameIndex := 108, descriptorIndex := 101, attributes := #[] }, { accessFlags := 2, nameIndex := 131, descriptorIndex := 132, attributes := #[] }, { accessFlags := 2, nameIndex := 135, descriptorIndex := 101, attributes := #[] }, { accessFlags := 2, nameIndex := 138, descriptorIndex := 139, attributes := #[] }, { accessFlags := 2, nameIndex := 142, descriptorIndex := 143, attributes := #[] }, { accessFlags := 2, nameIndex := 121, descriptorIndex := 101, attributes := #[] }, { accessFlags := 2, nameIndex := 147, descriptorIndex := 6, attributes := #[] }, { accessFlags := 2, nameIndex := 153, descriptorIndex := 154, attributes := #[] }, { accessFlags := 2, nameIndex := 150, descriptorIndex := 101, attributes := #[] }, { accessFlags := 2, nameIndex := 157, descriptorIndex := 105, attributes := #[] }, { accessFlags := 2, nameIndex := 160, descriptorIndex := 161, attributes := #[] }, { accessFlags := 2, nameIndex := 164, descriptorIndex := 161, attributes := #[] }, { accessFlags := 2, nameIndex := 167, descriptorIndex := 168, attributes := #[] }] 49 2 #[] #[{ accessFlags := 25, nameIndex := 169, descriptorIndex := 53, attributes := #[] }, { accessFlags := 25, nameIndex := 172, descriptorIndex := 53, attributes := #[] }, { accessFlags := 25, nameIndex := 174, descriptorIndex := 53, attributes := #[] }, { accessFlags := 25, nameIndex := 175, descriptorIndex := 53, attributes := #[] }, { accessFlags := 25, nameIndex := 177, descriptorIndex := 53, attributes := #[] }, { accessFlags := 25, nameIndex := 179, descriptorIndex := 53, attributes := #[] }, { accessFlags := 25, nameIndex := 181, descriptorIndex := 53, attributes := #[] }, { accessFlags := 25, nameIndex := 183, descriptorIndex := 53, attributes := #[] }, { accessFlags := 25, nameIndex := 185, descriptorIndex := 53, attributes := #[] }, { accessFlags := 25, nameIndex := 187, descriptorIndex := 53, attributes := #[] }, { accessFlags := 25, nameIndex := 188, descriptorIndex := 53, attributes := #[] }, { accessFlags := 25, nameIndex := 189, descriptorIndex := 53, attributes := #[] }, { accessFlags := 2, nameIndex := 52, descriptorIndex := 53, attributes := #[] }, { accessFlags := 2, nameIndex := 56, descriptorIndex := 53, attributes := #[] }, { accessFlags := 18, nameIndex := 11, descriptorIndex := 12, attributes := #[] }, { accessFlags := 18, nameIndex := 15, descriptorIndex := 12, attributes := #[] }, { accessFlags := 18, nameIndex := 18, descriptorIndex := 12, attributes := #[] }, { accessFlags := 2, nameIndex := 59, descriptorIndex := 53, attributes := #[] }, { accessFlags := 18, nameIndex := 21, descriptorIndex := 12, attributes := #[] }, { accessFlags := 18, nameIndex := 24, descriptorIndex := 12, attributes := #[] }, { accessFlags := 18, nameIndex := 27, descriptorIndex := 12, attributes := #[] }, { accessFlags := 2, nameIndex := 62, descriptorIndex := 53, attributes := #[] }, { accessFlags := 2, nameIndex := 65, descriptorIndex := 66, attributes := #[] }, { accessFlags := 2, nameIndex := 69, descriptorIndex := 53, attributes := #[] }, { accessFlags := 2, nameIndex := 72, descriptorIndex := 53, attributes := #[] }, { accessFlags := 2, nameIndex := 75, descriptorIndex := 53, attributes := #[] }, { accessFlags := 2, nameIndex := 78, descriptorIndex := 53, attributes := #[] }, { accessFlags := 2, nameIndex := 81, descriptorIndex := 53, attributes := #[] }, { accessFlags := 2, nameIndex := 84, descriptorIndex := 53, attributes := #[] }, { accessFlags := 18, nameIndex := 30, descriptorIndex := 12, attributes := #[] }, { accessFlags := 18, nameIndex := 33, descriptorIndex := 12, attributes := #[] }, { accessFlags := 18, nameIndex := 36, descriptorIndex := 12, attributes := #[] }, { accessFlags := 2, nameIndex := 87, descriptorIndex := 53, attributes := #[] }, { accessFlags := 18, nameIndex := 39, descriptorIndex := 12, attributes := #[] }, { accessFlags := 18, nameIndex := 42, descriptorIndex := 12, attributes := #[] }, { accessFlags := 18, nameIndex := 45, descriptorIndex := 12, attributes := #[] }])
  fields := #[{ name := "MAX_CAPACITY", type := .int, accessFlags := 25, slot := 0, constantValue := 0 }, { name := "MAX_HYPER_LIMIT", type := .int, accessFlags := 25, slot := 1, constantValue := 0 }, { name := "MAX_PARAM", type := .int, accessFlags := 25, slot := 2, constantValue := 0 }, { name := "REFUSED_FULL", type := .int, accessFlags := 25, slot := 3, constantValue := 0 }, { name := "REFUSED_PARAM", type := .int, accessFlags := 25, slot := 4, constantValue := 0 }, { name := "REFUSED_HYPER", type := .int, accessFlags := 25, slot := 5, constantValue := 0 }, { name := "REFUSED_DEMAND", type := .int, accessFlags := 25, slot := 6, constantValue := 0 }, { name := "SIM_ADMITTED", type := .int, accessFlags := 25, slot := 7, constantValue := 0 }, { name := "SIM_CANDIDATE", type := .int, accessFlags := 25, slot := 8, constantValue := 0 }, { name := "SIM_NONE", type := .int, accessFlags := 25, slot := 9, constantValue := 0 }, { name := "SIM_MET", type := .int, accessFlags := 25, slot := 10, constantValue := 0 }, { name := "SIM_MISSED", type := .int, accessFlags := 25, slot := 11, constantValue := 0 }, { name := "cap", type := .int, accessFlags := 2, slot := 0, constantValue := 0 }, { name := "limit", type := .int, accessFlags := 2, slot := 1, constantValue := 0 }, { name := "admC", type := (.array .int), accessFlags := 18, slot := 2, constantValue := 0 }, { name := "admD", type := (.array .int), accessFlags := 18, slot := 3, constantValue := 0 }, { name := "admT", type := (.array .int), accessFlags := 18, slot := 4, constantValue := 0 }, { name := "admN", type := .int, accessFlags := 2, slot := 5, constantValue := 0 }, { name := "candC", type := (.array .int), accessFlags := 18, slot := 6, constantValue := 0 }, { name := "candD", type := (.array .int), accessFlags := 18, slot := 7, constantValue := 0 }, { name := "candT", type := (.array .int), accessFlags := 18, slot := 8, constantValue := 0 }, { name := "candN", type := .int, accessFlags := 2, slot := 9, constantValue := 0 }, { name := "candHeld", type := .boolean, accessFlags := 2, slot := 10, constantValue := 0 }, { name := "candH", type := .int, accessFlags := 2, slot := 11, constantValue := 0 }, { name := "lastOverload", type := .int, accessFlags := 2, slot := 12, constantValue := 0 }, { name := "lastHyper", type := .int, accessFlags := 2, slot := 13, constantValue := 0 }, { name := "missDeadline", type := .int, accessFlags := 2, slot := 14, constantValue := 0 }, { name := "missTask", type := .int, accessFlags := 2, slot := 15, constantValue := 0 }, { name := "idleUnits", type := .int, accessFlags := 2, slot := 16, constantValue := 0 }, { name := "wC", type := (.array .int), accessFlags := 18, slot := 17, constantValue := 0 }, { name := "wD", type := (.array .int), accessFlags := 18, slot := 18, constantValue := 0 }, { name := "wT", type := (.array .int), accessFlags := 18, slot := 19, constantValue := 0 }, { name := "wN", type := .int, accessFlags := 2, slot := 20, constantValue := 0 }, { name := "nextDl", type := (.array .int), accessFlags := 18, slot := 21, constantValue := 0 }, { name := "rem", type := (.array .int), accessFlags := 18, slot := 22, constantValue := 0 }, { name := "absDl", type := (.array .int), accessFlags := 18, slot := 23, constantValue := 0 }]
  methods := #[k2m0, k2m1, k2m2, k2m3, k2m4, k2m5, k2m6, k2m7, k2m8, k2m9, k2m10, k2m11, k2m12, k2m13, k2m14, k2m15, k2m16, k2m17, k2m18, k2m19, k2m20, k2m21, k2m22, k2m23, k2m24, k2m25, k2m26, k2m27, k2m28, k2m29, k2m30, k2m31]
  instanceTypes := #[.int, .int, (.array .int), (.array .int), (.array .int), .int, (.array .int), (.array .int), (.array .int), .int, .boolean, .int, .int, .int, .int, .int, .int, (.array .int), (.array .int), (.array .int), .int, (.array .int), (.array .int), (.array .int)]
  staticTypes := #[.int, .int, .int, .int, .int, .int, .int, .int, .int, .int, .int, .int]
  resolved := Array.replicate 208 none
  statics := none }

def pool3 : Array CpInfo := pool [(1, u "java/lang/Cloneable"), (0, .class_ 1), (0, u "java/lang/Object"), (0, .class_ 3)] 3

/-- java/lang/Cloneable -/
def k3 : Class := { plain "java/lang/Cloneable" (some 0) with
  accessFlags := 1537
  interfaces := #[]
  cf := some (fileOf pool3 2 #[] #[] 1537 4 #[] #[])
  fields := #[]
  methods := #[]
  instanceTypes := #[]
  staticTypes := #[]
  resolved := Array.replicate 8 none
  statics := none }

def pool4 : Array CpInfo := pool [(1, u "java/io/Serializable"), (0, .class_ 1), (0, u "java/lang/Object"), (0, .class_ 3)] 3

/-- java/io/Serializable -/
def k4 : Class := { plain "java/io/Serializable" (some 0) with
  accessFlags := 1537
  interfaces := #[]
  cf := some (fileOf pool4 2 #[] #[] 1537 4 #[] #[])
  fields := #[]
  methods := #[]
  instanceTypes := #[]
  staticTypes := #[]
  resolved := Array.replicate 8 none
  statics := none }

/-- the primitive byte -/
def k5 : Class := { plain "byte" none with kind := .primitive 'B', accessFlags := 0x411 }
/-- [B -/
def k6 : Class := { plain "[B" (some 0) with kind := .array 5 .byte, interfaces := #[3, 4], accessFlags := 1041 }

/-- the primitive int -/
def k7 : Class := { plain "int" none with kind := .primitive 'I', accessFlags := 0x411 }
/-- [I -/
def k8 : Class := { plain "[I" (some 0) with kind := .array 7 .int, interfaces := #[3, 4], accessFlags := 1041 }

def heap : Heap := #[]
def classes : Array Class := #[k0, k1, k2, k3, k4, k5, k6, k7, k8]
def interned : List (Array UInt16 × Addr) := []
def slotsUsed : Nat := 0
def theMethod : MethodId := ⟨1, 1⟩
def args0 : Array Value := #[.int 1, .int 1, .int 1, .int 1]
def aboutOver (below : List Frame) : State where
  vm := { classes := classes, interned := interned.toArray }
  heap := heap
  slotsUsed := slotsUsed
  threads := #[{ frames := .invoking theMethod args0 :: below }]
def below0 : List Frame := [.native { method := ⟨0, 0⟩, args := #[] }]
def about1 : State := aboutOver below0
def p0 : Program := .bare "" "" ""
def e0 : Env := launch0.env 0 0 0
theorem w_frames : about1.frames = Frame.invoking theMethod args0 :: below0 := rfl
set_option maxRecDepth 65536 in
theorem w_args : argsFit about1.vm theMethod args0 = true := by decide +kernel
set_option maxRecDepth 65536 in
theorem w_heap : heapFits about1 = true := by decide +kernel
set_option maxRecDepth 65536 in
theorem w_runnable : about1.curStatus? = some .runnable := by decide +kernel
set_option maxRecDepth 65536 in
theorem w_alone : about1.alone = true := by decide +kernel
set_option maxRecDepth 65536 in
theorem w_named : about1.methodNamed? x = some theMethod := by decide +kernel
set_option maxRecDepth 65536 in
theorem w_hears : about1.hears theMethod below0 = true := by decide +kernel
set_option maxRecDepth 65536 in
theorem w_ripe : about1.ripe theMethod args0 below0 = true := by decide +kernel
theorem w_running : about1.status = .running := rfl
set_option maxRecDepth 65536 in
theorem w_room : about1.hasRoom e0.platform room_1 = true :=
  launch0.hasRoom_least _ room_1 (by decide +kernel) (by decide +kernel) (by decide +kernel) (by decide +kernel) (by decide +kernel) (by decide +kernel)
theorem allAtoms_all (ts : List Jvm.Cond) (a : Array Jvm.Value) (st : Jvm.State) : (allAtoms ts).before a st = ts.all (fun c => c.before a st) := by
  induction ts with
  | nil => rfl
  | cons c t ih =>
    show (Jvm.Cond.and c (allAtoms t)).before a st = _
    rw [Jvm.Cond.before_and, ih, List.all_cons]
def words1 : List Jvm.Cond := Jvm.Cond.code x code maxLocals ret :: tables_1
/-- a 'code' word, met by the world's own term for the bytes: nothing is compared byte by byte -/
theorem code_word {y : MethodName} {bytes : ByteArray} {mx : Nat} {rt : Option FieldType} {a : Array Value} {s : State} {m : MethodId} {meth : Method} {c : Code} (h1 : s.methodNamed? y = some m) (h2 : s.vm.method? m = some meth) (h3 : meth.code = some c) (h4 : c.code = bytes)
    (h5 : (c.maxLocals == mx && c.exceptionTable.isEmpty && decide (c.maxStack ≤ mostOperands) && decide (meth.sig.returnType = rt) && !meth.locks && decide (parseMethodDescriptor y.desc = some meth.sig)) = true) : (Jvm.Cond.code y bytes mx rt).before a s = true := by
  simp only [Bool.and_eq_true, beq_iff_eq, Bool.not_eq_true', decide_eq_true_eq] at h5
  obtain ⟨⟨⟨⟨⟨g1, g2⟩, g3⟩, g4⟩, g5⟩, g6⟩ := h5
  simp [Cond.before, Cond.holds, Cond.value, h1, h2, h3, h4, g1, g2, g3, g4, g5, g6]
def isCode : Jvm.Cond → Bool
  | .code _ _ _ _ => true
  | _ => false
theorem all_split {L : List Jvm.Cond} {P : Jvm.Cond → Bool} (h1 : L.all (fun c => isCode c || P c) = true) (h2 : ∀ c ∈ L.filter isCode, P c = true) : L.all P = true := by
  refine List.all_eq_true.mpr fun c hc => ?_
  have h := List.all_eq_true.mp h1 c hc
  rcases Bool.eq_false_or_eq_true (isCode c) with hi | hi
  · exact h2 c (List.mem_filter.mpr ⟨hc, hi⟩)
  · simpa [hi] using h
set_option maxRecDepth 65536 in
theorem w_c0 : (Jvm.Cond.code x code maxLocals ret).before args0 about1 = true := code_word (m := ⟨1, 1⟩) (meth := k1m1) (c := k1c1) (by decide +kernel) rfl rfl rfl (by decide +kernel)
set_option maxRecDepth 65536 in
theorem w_c1 : (Jvm.Cond.code ({ cls := "DemandGate", name := "<init>", desc := "(II)V" } : Jvm.MethodName) prog_1_method_1_code (3 : Nat) (Option.none : Option Jvm.ClassFile.FieldType)).before args0 about1 = true := code_word (m := ⟨2, 0⟩) (meth := k2m0) (c := k2c0) (by decide +kernel) rfl rfl rfl (by decide +kernel)
set_option maxRecDepth 65536 in
theorem w_c2 : (Jvm.Cond.code ({ cls := "java/lang/Object", name := "<init>", desc := "()V" } : Jvm.MethodName) object_method_1_code (1 : Nat) (Option.none : Option Jvm.ClassFile.FieldType)).before args0 about1 = true := code_word (m := ⟨0, 0⟩) (meth := k0m0) (c := k0c0) (by decide +kernel) rfl rfl rfl (by decide +kernel)
set_option maxRecDepth 65536 in
theorem w_c3 : (Jvm.Cond.code ({ cls := "DemandGate", name := "clamp", desc := "(III)I" } : Jvm.MethodName) prog_1_method_18_code (4 : Nat) (Option.some Jvm.ClassFile.FieldType.int)).before args0 about1 = true := code_word (m := ⟨2, 9⟩) (meth := k2m9) (c := k2c9) (by decide +kernel) rfl rfl rfl (by decide +kernel)
set_option maxRecDepth 65536 in
theorem w_c4 : (Jvm.Cond.code ({ cls := "DemandGate", name := "propose", desc := "(III)I" } : Jvm.MethodName) prog_1_method_2_code (5 : Nat) (Option.some Jvm.ClassFile.FieldType.int)).before args0 about1 = true := code_word (m := ⟨2, 1⟩) (meth := k2m1) (c := k2c1) (by decide +kernel) rfl rfl rfl (by decide +kernel)
set_option maxRecDepth 65536 in
theorem w_c5 : (Jvm.Cond.code ({ cls := "DemandGate", name := "validParams", desc := "(III)Z" } : Jvm.MethodName) prog_1_method_19_code (4 : Nat) (Option.some Jvm.ClassFile.FieldType.boolean)).before args0 about1 = true := code_word (m := ⟨2, 10⟩) (meth := k2m10) (c := k2c10) (by decide +kernel) rfl rfl rfl (by decide +kernel)
set_option maxRecDepth 65536 in
theorem w_c6 : (Jvm.Cond.code ({ cls := "DemandGate", name := "loadAdmitted", desc := "()V" } : Jvm.MethodName) prog_1_method_20_code (2 : Nat) (Option.none : Option Jvm.ClassFile.FieldType)).before args0 about1 = true := code_word (m := ⟨2, 11⟩) (meth := k2m11) (c := k2c11) (by decide +kernel) rfl rfl rfl (by decide +kernel)
set_option maxRecDepth 65536 in
theorem w_c7 : (Jvm.Cond.code ({ cls := "DemandGate", name := "appendWork", desc := "(III)Z" } : Jvm.MethodName) prog_1_method_22_code (4 : Nat) (Option.some Jvm.ClassFile.FieldType.boolean)).before args0 about1 = true := code_word (m := ⟨2, 13⟩) (meth := k2m13) (c := k2c13) (by decide +kernel) rfl rfl rfl (by decide +kernel)
set_option maxRecDepth 65536 in
theorem w_c8 : (Jvm.Cond.code ({ cls := "DemandGate", name := "workHyper", desc := "(I)I" } : Jvm.MethodName) prog_1_method_27_code (5 : Nat) (Option.some Jvm.ClassFile.FieldType.int)).before args0 about1 = true := code_word (m := ⟨2, 18⟩) (meth := k2m18) (c := k2c18) (by decide +kernel) rfl rfl rfl (by decide +kernel)
set_option maxRecDepth 65536 in
theorem w_c9 : (Jvm.Cond.code ({ cls := "DemandGate", name := "lcm", desc := "(JJ)J" } : Jvm.MethodName) prog_1_method_26_code (7 : Nat) (Option.some Jvm.ClassFile.FieldType.long)).before args0 about1 = true := code_word (m := ⟨2, 17⟩) (meth := k2m17) (c := k2c17) (by decide +kernel) rfl rfl rfl (by decide +kernel)
set_option maxRecDepth 65536 in
theorem w_c10 : (Jvm.Cond.code ({ cls := "DemandGate", name := "gcd", desc := "(JJ)J" } : Jvm.MethodName) prog_1_method_25_code (12 : Nat) (Option.some Jvm.ClassFile.FieldType.long)).before args0 about1 = true := code_word (m := ⟨2, 16⟩) (meth := k2m16) (c := k2c16) (by decide +kernel) rfl rfl rfl (by decide +kernel)
set_option maxRecDepth 65536 in
theorem w_c11 : (Jvm.Cond.code ({ cls := "DemandGate", name := "storeCandidate", desc := "(I)V" } : Jvm.MethodName) prog_1_method_23_code (3 : Nat) (Option.none : Option Jvm.ClassFile.FieldType)).before args0 about1 = true := code_word (m := ⟨2, 14⟩) (meth := k2m14) (c := k2c14) (by decide +kernel) rfl rfl rfl (by decide +kernel)
set_option maxRecDepth 65536 in
theorem w_c12 : (Jvm.Cond.code ({ cls := "DemandGate", name := "overloadOfWork", desc := "(I)I" } : Jvm.MethodName) prog_1_method_28_code (2 : Nat) (Option.some Jvm.ClassFile.FieldType.int)).before args0 about1 = true := code_word (m := ⟨2, 19⟩) (meth := k2m19) (c := k2c19) (by decide +kernel) rfl rfl rfl (by decide +kernel)
set_option maxRecDepth 65536 in
theorem w_c13 : (Jvm.Cond.code ({ cls := "DemandGate", name := "implicitWithinCapacity", desc := "(I)Z" } : Jvm.MethodName) prog_1_method_29_code (5 : Nat) (Option.some Jvm.ClassFile.FieldType.boolean)).before args0 about1 = true := code_word (m := ⟨2, 20⟩) (meth := k2m20) (c := k2c20) (by decide +kernel) rfl rfl rfl (by decide +kernel)
set_option maxRecDepth 65536 in
theorem w_c14 : (Jvm.Cond.code ({ cls := "DemandGate", name := "admitTask", desc := "(III)I" } : Jvm.MethodName) prog_1_method_24_code (4 : Nat) (Option.some Jvm.ClassFile.FieldType.int)).before args0 about1 = true := code_word (m := ⟨2, 15⟩) (meth := k2m15) (c := k2c15) (by decide +kernel) rfl rfl rfl (by decide +kernel)
set_option maxRecDepth 65536 in
theorem w_c15 : (Jvm.Cond.code ({ cls := "DemandGate", name := "scanDeadlinePoints", desc := "(I)I" } : Jvm.MethodName) prog_1_method_30_code (6 : Nat) (Option.some Jvm.ClassFile.FieldType.int)).before args0 about1 = true := code_word (m := ⟨2, 21⟩) (meth := k2m21) (c := k2c21) (by decide +kernel) rfl rfl rfl (by decide +kernel)
set_option maxRecDepth 65536 in
theorem w_c16 : (Jvm.Cond.code ({ cls := "DemandGate", name := "earliestNextDeadline", desc := "()I" } : Jvm.MethodName) prog_1_method_31_code (3 : Nat) (Option.some Jvm.ClassFile.FieldType.int)).before args0 about1 = true := code_word (m := ⟨2, 22⟩) (meth := k2m22) (c := k2c22) (by decide +kernel) rfl rfl rfl (by decide +kernel)
set_option maxRecDepth 65536 in
theorem w_c17 : (Jvm.Cond.code ({ cls := "DemandGate", name := "consumeDeadlinesAt", desc := "(I)J" } : Jvm.MethodName) prog_1_method_32_code (5 : Nat) (Option.some Jvm.ClassFile.FieldType.long)).before args0 about1 = true := code_word (m := ⟨2, 23⟩) (meth := k2m23) (c := k2c23) (by decide +kernel) rfl rfl rfl (by decide +kernel)
set_option maxRecDepth 65536 in
theorem w_c18 : (Jvm.Cond.code ({ cls := "DemandGate", name := "lastOverload", desc := "()I" } : Jvm.MethodName) prog_1_method_12_code (1 : Nat) (Option.some Jvm.ClassFile.FieldType.int)).before args0 about1 = true := code_word (m := ⟨2, 3⟩) (meth := k2m3) (c := k2c3) (by decide +kernel) rfl rfl rfl (by decide +kernel)
set_option maxRecDepth 65536 in
theorem w_c19 : (Jvm.Cond.code ({ cls := "DemandGate", name := "lastHyper", desc := "()I" } : Jvm.MethodName) prog_1_method_13_code (1 : Nat) (Option.some Jvm.ClassFile.FieldType.int)).before args0 about1 = true := code_word (m := ⟨2, 4⟩) (meth := k2m4) (c := k2c4) (by decide +kernel) rfl rfl rfl (by decide +kernel)
set_option maxRecDepth 65536 in
theorem w_c20 : (Jvm.Cond.code ({ cls := "DemandGate", name := "count", desc := "()I" } : Jvm.MethodName) prog_1_method_5_code (1 : Nat) (Option.some Jvm.ClassFile.FieldType.int)).before args0 about1 = true := code_word (m := ⟨2, 2⟩) (meth := k2m2) (c := k2c2) (by decide +kernel) rfl rfl rfl (by decide +kernel)
set_option maxRecDepth 65536 in
theorem w_c21 : (Jvm.Cond.code ({ cls := "DemandGate", name := "simulate", desc := "(I)I" } : Jvm.MethodName) prog_1_method_14_code (3 : Nat) (Option.some Jvm.ClassFile.FieldType.int)).before args0 about1 = true := code_word (m := ⟨2, 5⟩) (meth := k2m5) (c := k2c5) (by decide +kernel) rfl rfl rfl (by decide +kernel)
set_option maxRecDepth 65536 in
theorem w_c22 : (Jvm.Cond.code ({ cls := "DemandGate", name := "loadCandidate", desc := "()V" } : Jvm.MethodName) prog_1_method_21_code (2 : Nat) (Option.none : Option Jvm.ClassFile.FieldType)).before args0 about1 = true := code_word (m := ⟨2, 12⟩) (meth := k2m12) (c := k2c12) (by decide +kernel) rfl rfl rfl (by decide +kernel)
set_option maxRecDepth 65536 in
theorem w_c23 : (Jvm.Cond.code ({ cls := "DemandGate", name := "runEdf", desc := "(I)I" } : Jvm.MethodName) prog_1_method_34_code (6 : Nat) (Option.some Jvm.ClassFile.FieldType.int)).before args0 about1 = true := code_word (m := ⟨2, 24⟩) (meth := k2m24) (c := k2c24) (by decide +kernel) rfl rfl rfl (by decide +kernel)
set_option maxRecDepth 65536 in
theorem w_c24 : (Jvm.Cond.code ({ cls := "DemandGate", name := "resetJobs", desc := "()V" } : Jvm.MethodName) prog_1_method_35_code (2 : Nat) (Option.none : Option Jvm.ClassFile.FieldType)).before args0 about1 = true := code_word (m := ⟨2, 25⟩) (meth := k2m25) (c := k2c25) (by decide +kernel) rfl rfl rfl (by decide +kernel)
set_option maxRecDepth 65536 in
theorem w_c25 : (Jvm.Cond.code ({ cls := "DemandGate", name := "firstMissAt", desc := "(I)I" } : Jvm.MethodName) prog_1_method_37_code (3 : Nat) (Option.some Jvm.ClassFile.FieldType.int)).before args0 about1 = true := code_word (m := ⟨2, 27⟩) (meth := k2m27) (c := k2c27) (by decide +kernel) rfl rfl rfl (by decide +kernel)
set_option maxRecDepth 65536 in
theorem w_c26 : (Jvm.Cond.code ({ cls := "DemandGate", name := "releaseAt", desc := "(I)V" } : Jvm.MethodName) prog_1_method_38_code (3 : Nat) (Option.none : Option Jvm.ClassFile.FieldType)).before args0 about1 = true := code_word (m := ⟨2, 28⟩) (meth := k2m28) (c := k2c28) (by decide +kernel) rfl rfl rfl (by decide +kernel)
set_option maxRecDepth 65536 in
theorem w_c27 : (Jvm.Cond.code ({ cls := "DemandGate", name := "dispatchSlot", desc := "()Z" } : Jvm.MethodName) prog_1_method_39_code (3 : Nat) (Option.some Jvm.ClassFile.FieldType.boolean)).before args0 about1 = true := code_word (m := ⟨2, 29⟩) (meth := k2m29) (c := k2c29) (by decide +kernel) rfl rfl rfl (by decide +kernel)
set_option maxRecDepth 65536 in
theorem w_c28 : (Jvm.Cond.code ({ cls := "DemandGate", name := "anyPending", desc := "()Z" } : Jvm.MethodName) prog_1_method_40_code (2 : Nat) (Option.some Jvm.ClassFile.FieldType.boolean)).before args0 about1 = true := code_word (m := ⟨2, 30⟩) (meth := k2m30) (c := k2c30) (by decide +kernel) rfl rfl rfl (by decide +kernel)
set_option maxRecDepth 65536 in
theorem w_c29 : (Jvm.Cond.code ({ cls := "DemandGate", name := "recordRun", desc := "(III)V" } : Jvm.MethodName) prog_1_method_36_code (4 : Nat) (Option.none : Option Jvm.ClassFile.FieldType)).before args0 about1 = true := code_word (m := ⟨2, 26⟩) (meth := k2m26) (c := k2c26) (by decide +kernel) rfl rfl rfl (by decide +kernel)
set_option maxRecDepth 65536 in
theorem w_c30 : (Jvm.Cond.code ({ cls := "DemandGate", name := "missDeadline", desc := "()I" } : Jvm.MethodName) prog_1_method_15_code (1 : Nat) (Option.some Jvm.ClassFile.FieldType.int)).before args0 about1 = true := code_word (m := ⟨2, 6⟩) (meth := k2m6) (c := k2c6) (by decide +kernel) rfl rfl rfl (by decide +kernel)
set_option maxRecDepth 65536 in
theorem w_c31 : (Jvm.Cond.code ({ cls := "DemandGate", name := "missTask", desc := "()I" } : Jvm.MethodName) prog_1_method_16_code (1 : Nat) (Option.some Jvm.ClassFile.FieldType.int)).before args0 about1 = true := code_word (m := ⟨2, 7⟩) (meth := k2m7) (c := k2c7) (by decide +kernel) rfl rfl rfl (by decide +kernel)
set_option maxRecDepth 65536 in
theorem w_c32 : (Jvm.Cond.code ({ cls := "DemandGate", name := "idleUnits", desc := "()I" } : Jvm.MethodName) prog_1_method_17_code (1 : Nat) (Option.some Jvm.ClassFile.FieldType.int)).before args0 about1 = true := code_word (m := ⟨2, 8⟩) (meth := k2m8) (c := k2c8) (by decide +kernel) rfl rfl rfl (by decide +kernel)
set_option maxRecDepth 65536 in
theorem w_c33 : (Jvm.Cond.code ({ cls := "DemandGate", name := "nextReleaseAfter", desc := "(II)I" } : Jvm.MethodName) prog_1_method_41_code (6 : Nat) (Option.some Jvm.ClassFile.FieldType.int)).before args0 about1 = true := code_word (m := ⟨2, 31⟩) (meth := k2m31) (c := k2c31) (by decide +kernel) rfl rfl rfl (by decide +kernel)
def codes1 : List Jvm.Cond := [Jvm.Cond.code x code maxLocals ret, Jvm.Cond.code ({ cls := "DemandGate", name := "<init>", desc := "(II)V" } : Jvm.MethodName) prog_1_method_1_code (3 : Nat) (Option.none : Option Jvm.ClassFile.FieldType), Jvm.Cond.code ({ cls := "java/lang/Object", name := "<init>", desc := "()V" } : Jvm.MethodName) object_method_1_code (1 : Nat) (Option.none : Option Jvm.ClassFile.FieldType), Jvm.Cond.code ({ cls := "DemandGate", name := "clamp", desc := "(III)I" } : Jvm.MethodName) prog_1_method_18_code (4 : Nat) (Option.some Jvm.ClassFile.FieldType.int), Jvm.Cond.code ({ cls := "DemandGate", name := "propose", desc := "(III)I" } : Jvm.MethodName) prog_1_method_2_code (5 : Nat) (Option.some Jvm.ClassFile.FieldType.int), Jvm.Cond.code ({ cls := "DemandGate", name := "validParams", desc := "(III)Z" } : Jvm.MethodName) prog_1_method_19_code (4 : Nat) (Option.some Jvm.ClassFile.FieldType.boolean), Jvm.Cond.code ({ cls := "DemandGate", name := "loadAdmitted", desc := "()V" } : Jvm.MethodName) prog_1_method_20_code (2 : Nat) (Option.none : Option Jvm.ClassFile.FieldType), Jvm.Cond.code ({ cls := "DemandGate", name := "appendWork", desc := "(III)Z" } : Jvm.MethodName) prog_1_method_22_code (4 : Nat) (Option.some Jvm.ClassFile.FieldType.boolean), Jvm.Cond.code ({ cls := "DemandGate", name := "workHyper", desc := "(I)I" } : Jvm.MethodName) prog_1_method_27_code (5 : Nat) (Option.some Jvm.ClassFile.FieldType.int), Jvm.Cond.code ({ cls := "DemandGate", name := "lcm", desc := "(JJ)J" } : Jvm.MethodName) prog_1_method_26_code (7 : Nat) (Option.some Jvm.ClassFile.FieldType.long), Jvm.Cond.code ({ cls := "DemandGate", name := "gcd", desc := "(JJ)J" } : Jvm.MethodName) prog_1_method_25_code (12 : Nat) (Option.some Jvm.ClassFile.FieldType.long), Jvm.Cond.code ({ cls := "DemandGate", name := "storeCandidate", desc := "(I)V" } : Jvm.MethodName) prog_1_method_23_code (3 : Nat) (Option.none : Option Jvm.ClassFile.FieldType), Jvm.Cond.code ({ cls := "DemandGate", name := "overloadOfWork", desc := "(I)I" } : Jvm.MethodName) prog_1_method_28_code (2 : Nat) (Option.some Jvm.ClassFile.FieldType.int), Jvm.Cond.code ({ cls := "DemandGate", name := "implicitWithinCapacity", desc := "(I)Z" } : Jvm.MethodName) prog_1_method_29_code (5 : Nat) (Option.some Jvm.ClassFile.FieldType.boolean), Jvm.Cond.code ({ cls := "DemandGate", name := "admitTask", desc := "(III)I" } : Jvm.MethodName) prog_1_method_24_code (4 : Nat) (Option.some Jvm.ClassFile.FieldType.int), Jvm.Cond.code ({ cls := "DemandGate", name := "scanDeadlinePoints", desc := "(I)I" } : Jvm.MethodName) prog_1_method_30_code (6 : Nat) (Option.some Jvm.ClassFile.FieldType.int), Jvm.Cond.code ({ cls := "DemandGate", name := "earliestNextDeadline", desc := "()I" } : Jvm.MethodName) prog_1_method_31_code (3 : Nat) (Option.some Jvm.ClassFile.FieldType.int), Jvm.Cond.code ({ cls := "DemandGate", name := "consumeDeadlinesAt", desc := "(I)J" } : Jvm.MethodName) prog_1_method_32_code (5 : Nat) (Option.some Jvm.ClassFile.FieldType.long), Jvm.Cond.code ({ cls := "DemandGate", name := "lastOverload", desc := "()I" } : Jvm.MethodName) prog_1_method_12_code (1 : Nat) (Option.some Jvm.ClassFile.FieldType.int), Jvm.Cond.code ({ cls := "DemandGate", name := "lastHyper", desc := "()I" } : Jvm.MethodName) prog_1_method_13_code (1 : Nat) (Option.some Jvm.ClassFile.FieldType.int), Jvm.Cond.code ({ cls := "DemandGate", name := "count", desc := "()I" } : Jvm.MethodName) prog_1_method_5_code (1 : Nat) (Option.some Jvm.ClassFile.FieldType.int), Jvm.Cond.code ({ cls := "DemandGate", name := "simulate", desc := "(I)I" } : Jvm.MethodName) prog_1_method_14_code (3 : Nat) (Option.some Jvm.ClassFile.FieldType.int), Jvm.Cond.code ({ cls := "DemandGate", name := "loadCandidate", desc := "()V" } : Jvm.MethodName) prog_1_method_21_code (2 : Nat) (Option.none : Option Jvm.ClassFile.FieldType), Jvm.Cond.code ({ cls := "DemandGate", name := "runEdf", desc := "(I)I" } : Jvm.MethodName) prog_1_method_34_code (6 : Nat) (Option.some Jvm.ClassFile.FieldType.int), Jvm.Cond.code ({ cls := "DemandGate", name := "resetJobs", desc := "()V" } : Jvm.MethodName) prog_1_method_35_code (2 : Nat) (Option.none : Option Jvm.ClassFile.FieldType), Jvm.Cond.code ({ cls := "DemandGate", name := "firstMissAt", desc := "(I)I" } : Jvm.MethodName) prog_1_method_37_code (3 : Nat) (Option.some Jvm.ClassFile.FieldType.int), Jvm.Cond.code ({ cls := "DemandGate", name := "releaseAt", desc := "(I)V" } : Jvm.MethodName) prog_1_method_38_code (3 : Nat) (Option.none : Option Jvm.ClassFile.FieldType), Jvm.Cond.code ({ cls := "DemandGate", name := "dispatchSlot", desc := "()Z" } : Jvm.MethodName) prog_1_method_39_code (3 : Nat) (Option.some Jvm.ClassFile.FieldType.boolean), Jvm.Cond.code ({ cls := "DemandGate", name := "anyPending", desc := "()Z" } : Jvm.MethodName) prog_1_method_40_code (2 : Nat) (Option.some Jvm.ClassFile.FieldType.boolean), Jvm.Cond.code ({ cls := "DemandGate", name := "recordRun", desc := "(III)V" } : Jvm.MethodName) prog_1_method_36_code (4 : Nat) (Option.none : Option Jvm.ClassFile.FieldType), Jvm.Cond.code ({ cls := "DemandGate", name := "missDeadline", desc := "()I" } : Jvm.MethodName) prog_1_method_15_code (1 : Nat) (Option.some Jvm.ClassFile.FieldType.int), Jvm.Cond.code ({ cls := "DemandGate", name := "missTask", desc := "()I" } : Jvm.MethodName) prog_1_method_16_code (1 : Nat) (Option.some Jvm.ClassFile.FieldType.int), Jvm.Cond.code ({ cls := "DemandGate", name := "idleUnits", desc := "()I" } : Jvm.MethodName) prog_1_method_17_code (1 : Nat) (Option.some Jvm.ClassFile.FieldType.int), Jvm.Cond.code ({ cls := "DemandGate", name := "nextReleaseAfter", desc := "(II)I" } : Jvm.MethodName) prog_1_method_41_code (6 : Nat) (Option.some Jvm.ClassFile.FieldType.int)]
set_option maxRecDepth 65536 in
theorem codes_eq : words1.filter isCode = codes1 := rfl
theorem w_codes : ∀ c ∈ words1.filter isCode, c.before args0 about1 = true := by
  rw [codes_eq]
  intro c hc
  simp only [codes1, List.mem_cons, List.not_mem_nil, or_false] at hc
  rcases hc with rfl | rfl | rfl | rfl | rfl | rfl | rfl | rfl | rfl | rfl | rfl | rfl | rfl | rfl | rfl | rfl | rfl | rfl | rfl | rfl | rfl | rfl | rfl | rfl | rfl | rfl | rfl | rfl | rfl | rfl | rfl | rfl | rfl | rfl
  · exact w_c0
  · exact w_c1
  · exact w_c2
  · exact w_c3
  · exact w_c4
  · exact w_c5
  · exact w_c6
  · exact w_c7
  · exact w_c8
  · exact w_c9
  · exact w_c10
  · exact w_c11
  · exact w_c12
  · exact w_c13
  · exact w_c14
  · exact w_c15
  · exact w_c16
  · exact w_c17
  · exact w_c18
  · exact w_c19
  · exact w_c20
  · exact w_c21
  · exact w_c22
  · exact w_c23
  · exact w_c24
  · exact w_c25
  · exact w_c26
  · exact w_c27
  · exact w_c28
  · exact w_c29
  · exact w_c30
  · exact w_c31
  · exact w_c32
  · exact w_c33
set_option maxRecDepth 65536 in
theorem w_t1 : (words1.take 24).all (fun c => isCode c || c.before args0 about1) = true := by decide +kernel
set_option maxRecDepth 65536 in
theorem w_t2 : ((words1.drop 24).take 24).all (fun c => isCode c || c.before args0 about1) = true := by decide +kernel
set_option maxRecDepth 65536 in
theorem w_t3 : (((words1.drop 24).drop 24).take 24).all (fun c => isCode c || c.before args0 about1) = true := by decide +kernel
set_option maxRecDepth 65536 in
theorem w_t4 : ((((words1.drop 24).drop 24).drop 24).take 24).all (fun c => isCode c || c.before args0 about1) = true := by decide +kernel
set_option maxRecDepth 65536 in
theorem w_t5 : (((((words1.drop 24).drop 24).drop 24).drop 24).take 24).all (fun c => isCode c || c.before args0 about1) = true := by decide +kernel
set_option maxRecDepth 65536 in
theorem w_t6 : ((((((words1.drop 24).drop 24).drop 24).drop 24).drop 24).take 24).all (fun c => isCode c || c.before args0 about1) = true := by decide +kernel
set_option maxRecDepth 65536 in
theorem w_t7 : (((((((words1.drop 24).drop 24).drop 24).drop 24).drop 24).drop 24).take 24).all (fun c => isCode c || c.before args0 about1) = true := by decide +kernel
set_option maxRecDepth 65536 in
theorem w_t8 : (((((((words1.drop 24).drop 24).drop 24).drop 24).drop 24).drop 24).drop 24).all (fun c => isCode c || c.before args0 about1) = true := by decide +kernel
theorem w_tables : (allAtoms (Jvm.Cond.code x code maxLocals ret :: tables_1)).before args0 about1 = true := by
  rw [allAtoms_all]
  show words1.all (fun c => c.before args0 about1) = true
  refine all_split ?_ w_codes
  rw [← List.take_append_drop 24 words1, List.all_append, w_t1, ← List.take_append_drop 24 (words1.drop 24), List.all_append, w_t2, ← List.take_append_drop 24 ((words1.drop 24).drop 24), List.all_append, w_t3, ← List.take_append_drop 24 (((words1.drop 24).drop 24).drop 24), List.all_append, w_t4, ← List.take_append_drop 24 ((((words1.drop 24).drop 24).drop 24).drop 24), List.all_append, w_t5, ← List.take_append_drop 24 (((((words1.drop 24).drop 24).drop 24).drop 24).drop 24), List.all_append, w_t6, ← List.take_append_drop 24 ((((((words1.drop 24).drop 24).drop 24).drop 24).drop 24).drop 24), List.all_append, w_t7, w_t8]
  rfl
set_option maxRecDepth 65536 in
theorem w_case : (Jvm.Cond.and given_1 narrow_1).before args0 about1 = true := by decide +kernel
theorem w_applies : (headSpec (Jvm.Cond.code x code maxLocals ret :: tables_1) room_1).applies x e0.platform about1 = true :=
  (Spec.applies_iff w_frames).mpr ⟨w_running, w_runnable, w_alone, w_named, w_hears, w_ripe, w_room, w_tables⟩
theorem atStart : AtStart classFile x code maxLocals ret World_1 tables_1 room_1 Calls_1 rest_1 Pre_1 launch0 p0 e0 about1 theMethod args0 below0 :=
  ⟨lists_1, trivial, launch0.admits_env _ _ _, launch0.least_env, fairChoices_fair.cas, fairChoices_fair.clock, w_frames, w_args, w_heap, w_applies, trivial, trivial, w_case⟩
end start1
theorem witness_1 : WitnessClaimed_1 := ⟨start1.p0, start1.e0, start1.about1, start1.theMethod, start1.args0, start1.below0, start1.atStart⟩
end Jvm.Pilot.@@N@@
