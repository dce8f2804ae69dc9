import JvmDerived
import JvmDerived.Pilot.@@N@@Statement
import JvmDerived.Pilot.@@N@@Code
set_option linter.unusedVariables false
set_option linter.unusedSimpArgs false
namespace Jvm.Own
open Jvm Jvm.ClassFile Sem Op Lib Jvm.Free Jvm.Stand Jvm.LawKit Jvm.RoadKit Bundle
/-! ## values, cells, heaps of the small view -/
theorem leb {a b : Nat} (h : Nat.ble a b = true) : a ≤ b := Nat.le_of_ble_eq_true h
abbrev dc (b : ByteArray) (pc : Nat) (i : Instr) (n : Nat) : Prop := decode b pc = .ok (i, n)
abbrev OwnC : Type := Sum (List Value) (Sum (List Int32) (Sum (List Int64) (List Int32)))
abbrev cO (vs : List Value) : OwnC := .inl vs
abbrev cI (xs : List Int32) : OwnC := .inr (.inl xs)
abbrev cJ (xs : List Int64) : OwnC := .inr (.inr (.inl xs))
abbrev cZ (xs : List Int32) : OwnC := .inr (.inr (.inr xs))
def rf (ad : Nat → Addr) : Value → Value
  | .ref i => .ref (ad i)
  | .int x => .int x
  | .long x => .long x
  | .float x => .float x
  | .double x => .double x
  | .null => .null
  | .retAddr x => .retAddr x
theorem rf_cat (ad : Nat → Addr) (v : Value) : (rf ad v).category = v.category := by cases v <;> rfl
theorem rf_isRef (ad : Nat → Addr) (v : Value) : (rf ad v).isRef = v.isRef := by cases v <;> rfl
theorem rf_cats (ad : Nat → Addr) (S : List Value) : ((S.map (rf ad)).map fun v => v.category) = S.map fun v => v.category := by
  simp [List.map_map, Function.comp_def, rf_cat]
def CelOk (Z : State) (C : String) (lay : List (String × String)) (ad : Nat → Addr) (h : Heap) (a : Addr) : OwnC → Prop
  | .inl vs => Exa Z h a C ∧ ∀ (i : Nat) (f : String × String) (v : Value), lay[i]? = some f → vs[i]? = some v → Fld Z h a C f.1 f.2 (rf ad v)
  | .inr (.inl xs) => ∃ cl : Cell, Arr Z h a cl .int ∧ cl.slots.toList = xs.map Value.int
  | .inr (.inr (.inl xs)) => ∃ cl : Cell, Arr Z h a cl .long ∧ cl.slots.toList = xs.map Value.long
  | .inr (.inr (.inr xs)) => ∃ cl : Cell, Arr Z h a cl .boolean ∧ cl.slots.toList = xs.map Value.int
def HR (Z : State) (C : String) (lay : List (String × String)) (n0 ro : Nat) (ad : Nat → Addr) (H : List OwnC) (h : Heap) : Prop :=
  (∀ i c, H[i]? = some c → CelOk Z C lay ad h (ad i) c) ∧ (∀ i j, i < H.length → j < H.length → ad i = ad j → i = j) ∧ (∀ t, ad (H.length + t) = h.size + t) ∧ (∀ i, i < H.length → ro ≤ i → n0 ≤ ad i) ∧ n0 ≤ h.size
def Kp (ad : Nat → Addr) (N : Nat) (h h' : Heap) : Prop := h.size ≤ h'.size ∧ ∀ (a : Addr) (c : Cell), h[a]? = some c → (∀ i, i < N → ad i ≠ a) → h'[a]? = some c
theorem CelOk.keep {Z : State} {C : String} {lay : List (String × String)} {ad : Nat → Addr} {h h' : Heap} {a : Addr} {c : OwnC} (q : ∀ cz : Cell, h[a]? = some cz → h'[a]? = some cz) (F : CelOk Z C lay ad h a c) : CelOk Z C lay ad h' a c := by
  rcases c with vs | xs | xs | xs
  · obtain ⟨⟨cell, k, h1, r⟩, F2⟩ := F
    refine ⟨⟨cell, k, q _ h1, r⟩, fun i f v hf hv => ?_⟩
    obtain ⟨cell, cf, k, i, f, h1, r⟩ := F2 i f v hf hv
    exact ⟨cell, cf, k, i, f, q _ h1, r⟩
  all_goals
    obtain ⟨cl, ⟨h1, r⟩, h2⟩ := F
    exact ⟨cl, ⟨q _ h1, r⟩, h2⟩
theorem CelOk.lt {Z : State} {C : String} {lay : List (String × String)} {ad : Nat → Addr} {h : Heap} {a : Addr} {c : OwnC} (F : CelOk Z C lay ad h a c) : a < h.size := by
  rcases c with vs | xs | xs | xs
  · exact F.1.lt
  all_goals
    obtain ⟨cl, A, h2⟩ := F
    exact A.lt
theorem Kp.refl (ad : Nat → Addr) (N : Nat) (h : Heap) : Kp ad N h h := ⟨Nat.le_refl _, fun _ _ q _ => q⟩
theorem get_lt {α : Type} {L : List α} {i : Nat} {c : α} (h : L[i]? = some c) : i < L.length := (List.getElem?_eq_some_iff.mp h).1
section HRs
variable {Z : State} {C : String} {lay : List (String × String)} {n0 ro : Nat} {ad : Nat → Addr} {H H' : List OwnC} {h h' h'' : Heap}
/-- the addresses at or above H.length lie at or above the heap's size -/
theorem HR.new (R : HR Z C lay n0 ro ad H h) {i : Nat} (hi : H.length ≤ i) : h.size ≤ ad i := by
  obtain ⟨t, rfl⟩ := Nat.exists_eq_add_of_le hi
  rw [R.2.2.1 t]; exact Nat.le_add_right _ _
theorem Kp.trans (R : HR Z C lay n0 ro ad H h) (K : Kp ad H.length h h') {N : Nat} (K' : Kp ad N h' h'') : Kp ad H.length h h'' := by
  refine ⟨Nat.le_trans K.1 K'.1, fun a c hc hn => K'.2 a c (K.2 a c hc hn) fun i hi q => ?_⟩
  by_cases hl : i < H.length
  · exact hn i hl q
  · have h1 := R.new (Nat.le_of_not_lt hl)
    rw [q] at h1
    exact absurd (Array.getElem?_eq_some_iff.mp hc).1 (Nat.not_lt.mpr h1)
/-- one cell of the small heap is written anew, at its own address -/
theorem HR.put (R : HR Z C lay n0 ro ad H h) {i : Nat} {c : OwnC} (hi : i < H.length) (hs : h'.size = h.size) (ho : ∀ a cz, a ≠ ad i → h[a]? = some cz → h'[a]? = some cz) (hc : CelOk Z C lay ad h' (ad i) c) :
    HR Z C lay n0 ro ad (H.set i c) h' ∧ Kp ad H.length h h' := by
  refine ⟨⟨fun j c' hj => ?_, fun i' j' hi' hj' => ?_, fun t => ?_, fun i' hi' => ?_, by rw [hs]; exact R.2.2.2.2⟩, by rw [hs]; exact Nat.le_refl _, fun a cz hz hn => ho a cz (fun q => hn i hi q.symm) hz⟩
  · rw [List.getElem?_set] at hj
    by_cases e : i = j
    · subst e
      simp [hi] at hj
      subst hj; exact hc
    · rw [if_neg e] at hj
      exact (R.1 j c' hj).keep fun cz q => ho _ cz (fun q' => e (R.2.1 _ _ hi (get_lt hj) q'.symm)) q
  · simp only [List.length_set] at hi' hj'; exact R.2.1 _ _ hi' hj'
  · rw [List.length_set, hs]; exact R.2.2.1 t
  · simp only [List.length_set] at hi'; exact R.2.2.2.1 _ hi'
/-- a new cell behind all others -/
theorem HR.push (R : HR Z C lay n0 ro ad H h) {c : OwnC} (hs : h'.size = h.size + 1) (hE : Ext h h') (hc : CelOk Z C lay ad h' h.size c) :
    HR Z C lay n0 ro ad (H ++ [c]) h' ∧ Kp ad H.length h h' ∧ ad H.length = h.size := by
  have e0 : ad H.length = h.size := R.2.2.1 0
  refine ⟨⟨fun j c' hj => ?_, fun i j hi hj q => ?_, fun t => ?_, fun i hi hr => ?_, by rw [hs]; exact Nat.le_succ_of_le R.2.2.2.2⟩, ⟨hE.1, fun a cz hz _ => hE.2 _ _ hz⟩, e0⟩
  · by_cases hl : j < H.length
    · rw [List.getElem?_append_left hl] at hj
      exact (R.1 j c' hj).keep fun cz q => hE.2 _ _ q
    · have hl' := get_lt hj
      simp only [List.length_append, List.length_singleton] at hl'
      obtain rfl : j = H.length := by omega
      simp at hj
      subst hj; rw [e0]; exact hc
  · simp only [List.length_append, List.length_singleton] at hi hj
    by_cases h1 : i < H.length
    · by_cases h2 : j < H.length
      · exact R.2.1 _ _ h1 h2 q
      · have a1 := (R.1 i _ (List.getElem?_eq_getElem h1)).lt
        have a2 := R.new (Nat.le_of_not_lt h2)
        rw [q] at a1
        exact absurd a1 (Nat.not_lt.mpr a2)
    · by_cases h2 : j < H.length
      · have a1 := (R.1 j _ (List.getElem?_eq_getElem h2)).lt
        have a2 := R.new (Nat.le_of_not_lt h1)
        rw [q] at a2
        exact absurd a1 (Nat.not_lt.mpr a2)
      · omega
  · rw [hs]
    have := R.2.2.1 (1 + t)
    simp only [List.length_append, List.length_singleton]
    rw [Nat.add_assoc, this]; exact (Nat.add_assoc _ _ _).symm
  · simp only [List.length_append, List.length_singleton] at hi
    by_cases h1 : i < H.length
    · exact R.2.2.2.1 _ h1 hr
    · exact Nat.le_trans R.2.2.2.2 (R.new (Nat.le_of_not_lt h1))
end HRs
/-! ## local variables: 'unset' in the small view says nothing -/
def WFs (f : Nat → Option Slot) : Prop := (∀ i, f i = some .second → ∃ j v, i = j + 1 ∧ f j = some (.val v) ∧ v.category = 2) ∧ ∀ i v, f i = some (.val v) → v.category = 2 → f (i + 1) = some .second
def LR (ad : Nat → Addr) (L : List Slot) (Ls : Array Slot) : Prop :=
  L.length = Ls.size ∧ (∀ (i : Nat) (v : Value), L[i]? = some (.val v) → Ls[i]? = some (.val (rf ad v))) ∧ (∀ i : Nat, L[i]? = some .second → Ls[i]? = some .second) ∧ WFs fun i => Ls[i]?
def kill2 : Slot → Slot
  | .val (.long _) => .unset
  | .val (.double _) => .unset
  | s => s
def killS : Slot → Slot
  | .second => .unset
  | s => s
def hd1 (f : Slot → Slot) : List Slot → List Slot
  | [] => []
  | y :: t => f y :: t
def st1 : List Slot → Nat → Value → List Slot
  | [], _, _ => []
  | _ :: t, 0, v => .val v :: hd1 killS t
  | y :: t, n + 1, v => match n with
    | 0 => kill2 y :: st1 t 0 v
    | k + 1 => y :: st1 t (k + 1) v
def st2 : List Slot → Nat → Value → List Slot
  | [], _, _ => []
  | _ :: t, 0, v => .val v :: (match t with | [] => [] | _ :: t' => .second :: hd1 killS t')
  | y :: t, n + 1, v => match n with
    | 0 => kill2 y :: st2 t 0 v
    | k + 1 => y :: st2 t (k + 1) v
theorem st1_len (v : Value) : ∀ (L : List Slot) (i : Nat), (st1 L i v).length = L.length
  | [], _ => rfl
  | y :: [], 0 => rfl
  | y :: z :: t, 0 => rfl
  | y :: t, 1 => congrArg Nat.succ (st1_len v t 0)
  | y :: t, k + 2 => congrArg Nat.succ (st1_len v t (k + 1))
theorem st2_len (v : Value) : ∀ (L : List Slot) (i : Nat), (st2 L i v).length = L.length
  | [], _ => rfl
  | y :: [], 0 => rfl
  | y :: z :: [], 0 => rfl
  | y :: z :: w :: t, 0 => rfl
  | y :: t, 1 => congrArg Nat.succ (st2_len v t 0)
  | y :: t, k + 2 => congrArg Nat.succ (st2_len v t (k + 1))
theorem kill2_e {y s : Slot} (h : kill2 y = s) (hs : s ≠ .unset) : y = s ∧ ∀ w, s = .val w → w.category = 1 := by
  subst h
  rcases y with _ | _ | w
  · exact absurd rfl hs
  · exact ⟨rfl, fun w h => by cases h⟩
  · cases w <;> first | exact absurd rfl hs | exact ⟨rfl, fun w h => by cases h; rfl⟩
theorem killS_e {y s : Slot} (h : killS y = s) (hs : s ≠ .unset) : y = s ∧ s ≠ .second := by
  subst h
  rcases y with _ | _ | w
  · exact absurd rfl hs
  · exact absurd rfl hs
  · exact ⟨rfl, fun h => by cases h⟩
theorem hd1_e {t : List Slot} {j : Nat} {s : Slot} (h : (hd1 killS t)[j]? = some s) (hs : s ≠ .unset) : t[j]? = some s ∧ (j = 0 → s ≠ .second) := by
  cases t with
  | nil => simp [hd1] at h
  | cons y t =>
    cases j with
    | zero =>
      have h' : killS y = s := by simpa [hd1] using h
      obtain ⟨e1, e2⟩ := killS_e h' hs
      exact ⟨by simp [e1], fun _ => e2⟩
    | succ j => exact ⟨by simpa [hd1] using h, fun q => by cases q⟩
theorem st1_at (v : Value) : ∀ (L : List Slot) (i : Nat), i < L.length → (st1 L i v)[i]? = some (.val v)
  | [], _, h => absurd h (by simp)
  | y :: t, 0, _ => rfl
  | y :: t, 1, h => by simpa [st1] using st1_at v t 0 (by simp at h; omega)
  | y :: t, k + 2, h => by simpa [st1] using st1_at v t (k + 1) (by simp at h; omega)
theorem st1_else (v : Value) : ∀ (L : List Slot) (i j : Nat) (s : Slot), j ≠ i → (st1 L i v)[j]? = some s → s ≠ .unset → L[j]? = some s ∧ (j + 1 = i → ∀ w, s = .val w → w.category = 1) ∧ (j = i + 1 → s ≠ .second)
  | [], _, j, s, _, h, _ => by simp [st1] at h
  | y :: t, 0, 0, s, hj, _, _ => absurd rfl hj
  | y :: t, 0, j + 1, s, hj, h, hs => by
    obtain ⟨e1, e2⟩ := hd1_e (t := t) (j := j) (by simpa [st1] using h) hs
    exact ⟨by simpa using e1, fun q => by omega, fun q => e2 (by omega)⟩
  | y :: t, 1, 0, s, hj, h, hs => by
    obtain ⟨e1, e2⟩ := kill2_e (y := y) (by simpa [st1] using h) hs
    exact ⟨by simp [e1], fun _ => e2, fun q => by omega⟩
  | y :: t, 1, j + 1, s, hj, h, hs => by
    obtain ⟨e1, e2, e3⟩ := st1_else v t 0 j s (by omega) (by simpa [st1] using h) hs
    exact ⟨by simpa using e1, fun q => by omega, fun q => e3 (by omega)⟩
  | y :: t, k + 2, 0, s, hj, h, hs => ⟨by simpa [st1] using h, fun q => by omega, fun q => by omega⟩
  | y :: t, k + 2, j + 1, s, hj, h, hs => by
    obtain ⟨e1, e2, e3⟩ := st1_else v t (k + 1) j s (by omega) (by simpa [st1] using h) hs
    exact ⟨by simpa using e1, fun q => e2 (by omega), fun q => e3 (by omega)⟩
theorem st2_at (v : Value) : ∀ (L : List Slot) (i : Nat), i + 1 < L.length → (st2 L i v)[i]? = some (.val v) ∧ (st2 L i v)[i + 1]? = some .second
  | [], _, h => absurd h (by simp)
  | y :: [], 0, h => absurd h (by simp)
  | y :: z :: t, 0, _ => ⟨rfl, rfl⟩
  | y :: t, 1, h => by simpa [st2] using st2_at v t 0 (by simp at h; omega)
  | y :: t, k + 2, h => by simpa [st2] using st2_at v t (k + 1) (by simp at h; omega)
theorem st2_else (v : Value) : ∀ (L : List Slot) (i j : Nat) (s : Slot), j ≠ i → j ≠ i + 1 → (st2 L i v)[j]? = some s → s ≠ .unset → L[j]? = some s ∧ (j + 1 = i → ∀ w, s = .val w → w.category = 1) ∧ (j = i + 2 → s ≠ .second)
  | [], _, j, s, _, _, h, _ => by simp [st2] at h
  | y :: t, 0, 0, s, hj, _, _, _ => absurd rfl hj
  | y :: t, 0, 1, s, _, hj, _, _ => absurd rfl hj
  | y :: [], 0, j + 2, s, _, _, h, _ => by simp [st2] at h
  | y :: z :: t, 0, j + 2, s, hj, _, h, hs => by
    obtain ⟨e1, e2⟩ := hd1_e (t := t) (j := j) (by simpa [st2] using h) hs
    exact ⟨by simpa using e1, fun q => by omega, fun q => e2 (by omega)⟩
  | y :: t, 1, 0, s, hj, _, h, hs => by
    obtain ⟨e1, e2⟩ := kill2_e (y := y) (by simpa [st2] using h) hs
    exact ⟨by simp [e1], fun _ => e2, fun q => by omega⟩
  | y :: t, 1, j + 1, s, hj, hj', h, hs => by
    obtain ⟨e1, e2, e3⟩ := st2_else v t 0 j s (by omega) (by omega) (by simpa [st2] using h) hs
    exact ⟨by simpa using e1, fun q => by omega, fun q => e3 (by omega)⟩
  | y :: t, k + 2, 0, s, hj, _, h, hs => ⟨by simpa [st2] using h, fun q => by omega, fun q => by omega⟩
  | y :: t, k + 2, j + 1, s, hj, hj', h, hs => by
    obtain ⟨e1, e2, e3⟩ := st2_else v t (k + 1) j s (by omega) (by omega) (by simpa [st2] using h) hs
    exact ⟨by simpa using e1, fun q => e2 (by omega), fun q => e3 (by omega)⟩
theorem setAt_ok {l : Array Slot} {i : Nat} (h : i < l.size) (x : Slot) : setAt l i x = some (l.setIfInBounds i x) := if_pos h
/-- which neighbours a store at i wipes -/
def Bad (Ls : Array Slot) (i j : Nat) : Prop := (j + 1 = i ∧ Ls[i]? = some .second) ∨ (j = i + 1 ∧ ∃ o, Ls[i]? = some (.val o) ∧ o.category = 2)
def Pre1 (Ls Ls1 : Array Slot) (i : Nat) : Prop := Ls1.size = Ls.size ∧ ∀ j, j ≠ i → (¬ Bad Ls i j ∧ Ls1[j]? = Ls[j]?) ∨ (Bad Ls i j ∧ Ls1[j]? = some .unset)
theorem storeLocals_pre {Ls : Array Slot} (wf : WFs fun i => Ls[i]?) {i : Nat} (hi : i < Ls.size) (w : Value) : ∃ Ls1, Pre1 Ls Ls1 i ∧ storeLocals Ls i w = storeSelf Ls1 i w := by
  have hg : Ls[i]? = some Ls[i] := Array.getElem?_eq_getElem hi
  rcases hs : Ls[i] with _ | _ | old
  · rw [hs] at hg
    refine ⟨Ls, ⟨rfl, fun j hj => Or.inl ⟨?_, rfl⟩⟩, ?_⟩
    · rintro (⟨-, q⟩ | ⟨-, o, q, -⟩) <;> (rw [hg] at q; cases q)
    · show (Ls[i]?).bind _ = _; rw [hg]; rfl
  · rw [hs] at hg
    obtain ⟨j0, v, rfl, hv, hc⟩ := wf.1 i hg
    have h0 : j0 < Ls.size := by omega
    refine ⟨Ls.setIfInBounds j0 .unset, ⟨by simp, fun j hj => ?_⟩, ?_⟩
    · by_cases e : j = j0
      · subst e; right; exact ⟨Or.inl ⟨rfl, hg⟩, by simp [h0]⟩
      · left
        refine ⟨?_, by rw [Array.getElem?_setIfInBounds_ne (Ne.symm e)]⟩
        rintro (⟨q', q⟩ | ⟨-, o, q, -⟩)
        · exact e (by omega)
        · rw [hg] at q; cases q
    · show (Ls[j0 + 1]?).bind _ = _; rw [hg]
      show (setAt Ls (j0 + 1 - 1) .unset).bind _ = _
      rw [Nat.add_sub_cancel, setAt_ok h0]; rfl
  · rw [hs] at hg
    by_cases hc : old.category = 2
    · have h1 := wf.2 i old hg hc
      have h1' : i + 1 < Ls.size := (Array.getElem?_eq_some_iff.mp h1).1
      refine ⟨Ls.setIfInBounds (i + 1) .unset, ⟨by simp, fun j hj => ?_⟩, ?_⟩
      · by_cases e : j = i + 1
        · subst e; right; exact ⟨Or.inr ⟨rfl, old, hg, hc⟩, by simp [h1']⟩
        · left
          refine ⟨?_, by rw [Array.getElem?_setIfInBounds_ne (Ne.symm e)]⟩
          rintro (⟨-, q⟩ | ⟨q, -⟩)
          · rw [hg] at q; cases q
          · exact e q
      · show (Ls[i]?).bind _ = _; rw [hg]
        show (if old.category = 2 then _ else _) = _
        rw [if_pos hc]
        show (setAt Ls (i + 1) .unset).bind _ = _
        rw [setAt_ok h1']; rfl
    · refine ⟨Ls, ⟨rfl, fun j hj => Or.inl ⟨?_, rfl⟩⟩, ?_⟩
      · rintro (⟨-, q⟩ | ⟨-, o, q, q'⟩) <;> (rw [hg] at q; cases q)
        exact hc q'
      · show (Ls[i]?).bind _ = _; rw [hg]
        show (if old.category = 2 then _ else _) = _
        rw [if_neg hc]
section St
variable {Ls : Array Slot} {i j : Nat}
/-- a value of one word is not wiped -/
theorem not_bad_val (wf : WFs fun i => Ls[i]?) {w : Value} (hj : Ls[j]? = some (.val w)) (hw : j + 1 = i → w.category = 1) : ¬ Bad Ls i j := by
  rintro (⟨rfl, q⟩ | ⟨rfl, o, q, q'⟩)
  · obtain ⟨j0, v, e, h1, h2⟩ := wf.1 _ q
    obtain rfl : j0 = j := by omega
    cases h1.symm.trans hj
    rw [hw rfl] at h2; cases h2
  · have := wf.2 _ _ q q'
    cases this.symm.trans hj
theorem not_bad_second (wf : WFs fun i => Ls[i]?) (hj : Ls[j]? = some .second) (hne : j ≠ i + 1) : ¬ Bad Ls i j := by
  rintro (⟨rfl, q⟩ | ⟨q, -⟩)
  · obtain ⟨j0, v, e, h1, h2⟩ := wf.1 _ q
    obtain rfl : j0 = j := by omega
    cases h1.symm.trans hj
  · exact hne q
end St
theorem LR.store1 {ad : Nat → Addr} {L : List Slot} {Ls : Array Slot} (hL : LR ad L Ls) {i : Nat} (hi : i < L.length) {v : Value} (hv : v.category = 1) : ∃ Ls', storeLocals Ls i (rf ad v) = some Ls' ∧ LR ad (st1 L i v) Ls' ∧ Ls'.size = Ls.size := by
  obtain ⟨l1, l2, l3, wf⟩ := hL
  have hi' : i < Ls.size := l1 ▸ hi
  have hv' : (rf ad v).category = 1 := by rw [rf_cat]; exact hv
  obtain ⟨Ls1, ⟨p1, p2⟩, e⟩ := storeLocals_pre wf hi' (rf ad v)
  have hi1 : i < Ls1.size := by rw [p1]; exact hi'
  have e2 : storeSelf Ls1 i (rf ad v) = some (Ls1.setIfInBounds i (.val (rf ad v))) := by
    show (setAt Ls1 i _).bind _ = _
    rw [setAt_ok hi1]
    show (if (rf ad v).category = 2 then _ else _) = _
    rw [if_neg (by rw [hv']; decide)]
  have at_i : (Ls1.setIfInBounds i (.val (rf ad v)))[i]? = some (.val (rf ad v)) := by simp [hi1]
  have at_j : ∀ j, j ≠ i → (Ls1.setIfInBounds i (.val (rf ad v)))[j]? = Ls1[j]? := fun j hj => Array.getElem?_setIfInBounds_ne (Ne.symm hj)
  have good : ∀ j, j ≠ i → ¬ Bad Ls i j → (Ls1.setIfInBounds i (.val (rf ad v)))[j]? = Ls[j]? := fun j hj hb => by
    rw [at_j j hj]
    rcases p2 j hj with ⟨-, q⟩ | ⟨q, -⟩
    · exact q
    · exact absurd q hb
  have back : ∀ j s, j ≠ i → s ≠ .unset → (Ls1.setIfInBounds i (.val (rf ad v)))[j]? = some s → ¬ Bad Ls i j ∧ Ls[j]? = some s := fun j s hj hs h => by
    rw [at_j j hj] at h
    rcases p2 j hj with ⟨q, q'⟩ | ⟨-, q⟩
    · exact ⟨q, by rw [← q']; exact h⟩
    · rw [q] at h; cases h; exact absurd rfl hs
  refine ⟨_, e.trans e2, ⟨by rw [st1_len, l1]; simp [p1], fun j w hj => ?_, fun j hj => ?_, fun j hj => ?_, fun j w hj hc => ?_⟩, by simp [p1]⟩
  · by_cases q : j = i
    · subst q
      rw [st1_at v L j hi] at hj
      cases hj; exact at_i
    · obtain ⟨a1, a2, -⟩ := st1_else v L i j _ q hj (by simp)
      have b1 := l2 j w a1
      rw [good j q (not_bad_val wf b1 fun z => by rw [rf_cat]; exact a2 z w rfl)]; exact b1
  · by_cases q : j = i
    · subst q
      rw [st1_at v L j hi] at hj
      cases hj
    · obtain ⟨a1, -, a3⟩ := st1_else v L i j _ q hj (by simp)
      have b1 := l3 j a1
      rw [good j q (not_bad_second wf b1 fun z => a3 z rfl)]; exact b1
  · dsimp only at hj ⊢
    have q : j ≠ i := fun q => by subst q; rw [at_i] at hj; cases hj
    obtain ⟨b1, b2⟩ := back j _ q (by simp) hj
    obtain ⟨j0, v', rfl, h1, h2⟩ := wf.1 j b2
    refine ⟨j0, v', rfl, ?_, h2⟩
    have q0 : j0 ≠ i := fun z => b1 (Or.inr ⟨by omega, v', z ▸ h1, h2⟩)
    rw [good j0 q0 ?_]; exact h1
    rintro (⟨z, -⟩ | ⟨z, o, z1, z2⟩)
    · exact q z
    · have := wf.2 _ _ z1 z2
      rw [← z] at this
      cases this.symm.trans h1
  · dsimp only at hj ⊢
    have q : j ≠ i := fun q => by subst q; rw [at_i] at hj; cases hj; rw [hv'] at hc; cases hc
    obtain ⟨b1, b2⟩ := back j _ q (by simp) hj
    have h1 := wf.2 j w b2 hc
    dsimp only at h1
    have q0 : j + 1 ≠ i := fun z => b1 (Or.inl ⟨z, z ▸ h1⟩)
    rw [good (j + 1) q0 ?_]; exact h1
    rintro (⟨z, z1⟩ | ⟨z, -⟩)
    · obtain ⟨j1, v1, e1, e2, -⟩ := wf.1 _ z1
      obtain rfl : j1 = j + 1 := by omega
      cases h1.symm.trans e2
    · omega
theorem LR.store2 {ad : Nat → Addr} {L : List Slot} {Ls : Array Slot} (hL : LR ad L Ls) {i : Nat} (hi : i + 1 < L.length) {v : Value} (hv : v.category = 2) : ∃ Ls', storeLocals Ls i (rf ad v) = some Ls' ∧ LR ad (st2 L i v) Ls' ∧ Ls'.size = Ls.size := by
  obtain ⟨l1, l2, l3, wf⟩ := hL
  have hi' : i + 1 < Ls.size := l1 ▸ hi
  have hv' : (rf ad v).category = 2 := by rw [rf_cat]; exact hv
  obtain ⟨Ls1, ⟨p1, p2⟩, e⟩ := storeLocals_pre wf (by omega : i < Ls.size) (rf ad v)
  have hi1 : i < Ls1.size := by rw [p1]; omega
  have hi2 : i + 1 < Ls1.size := by rw [p1]; omega
  -- what the second half leaves: two slots, and the one behind wiped where a long began at i + 1
  have key : ∃ Ls', storeSelf Ls1 i (rf ad v) = some Ls' ∧ Ls'.size = Ls1.size ∧ Ls'[i]? = some (.val (rf ad v)) ∧ Ls'[i + 1]? = some .second ∧ ∀ j, j ≠ i → j ≠ i + 1 → (Ls'[j]? = Ls1[j]? ∧ ¬ (j = i + 2 ∧ ∃ o, Ls1[i + 1]? = some (.val o) ∧ o.category = 2)) ∨ (Ls'[j]? = some .unset ∧ j = i + 2 ∧ ∃ o, Ls1[i + 1]? = some (.val o) ∧ o.category = 2) := by
    have n1 : (Ls1.setIfInBounds i (.val (rf ad v)))[i + 1]? = Ls1[i + 1]? := Array.getElem?_setIfInBounds_ne (by omega)
    have g1 : Ls1[i + 1]? = some Ls1[i + 1] := Array.getElem?_eq_getElem hi2
    have open1 : storeSelf Ls1 i (rf ad v) = ((Ls1.setIfInBounds i (.val (rf ad v)))[i + 1]?).bind fun x => match x with
      | .val old => if old.category = 2 then (setAt (Ls1.setIfInBounds i (.val (rf ad v))) (i + 2) .unset).bind fun z => setAt z (i + 1) .second else setAt (Ls1.setIfInBounds i (.val (rf ad v))) (i + 1) .second
      | _ => setAt (Ls1.setIfInBounds i (.val (rf ad v))) (i + 1) .second := by
      show (setAt Ls1 i _).bind _ = _
      rw [setAt_ok hi1]
      show (if (rf ad v).category = 2 then _ else _) = _
      rw [if_pos hv']; rfl
    have plain : (∀ o, Ls1[i + 1]? = some (.val o) → o.category ≠ 2) → storeSelf Ls1 i (rf ad v) = setAt (Ls1.setIfInBounds i (.val (rf ad v))) (i + 1) .second := fun hno => by
      rw [open1, n1, g1]
      rcases hs : Ls1[i + 1] with _ | _ | old
      · rfl
      · rfl
      · show (if old.category = 2 then _ else _) = _
        rw [if_neg (hno old (by rw [g1, hs]))]
    have szz : i + 1 < (Ls1.setIfInBounds i (.val (rf ad v))).size := by simpa using hi2
    by_cases hb : ∃ o, Ls1[i + 1]? = some (.val o) ∧ o.category = 2
    · obtain ⟨o, ho, ho2⟩ := hb
      have b1 : Ls[i + 1]? = some (.val o) := by
        rcases p2 (i + 1) (by omega) with ⟨-, q⟩ | ⟨-, q⟩
        · rw [← q]; exact ho
        · rw [q] at ho; cases ho
      have h3 : i + 2 < Ls1.size := by rw [p1]; exact (Array.getElem?_eq_some_iff.mp (wf.2 _ _ b1 ho2)).1
      refine ⟨((Ls1.setIfInBounds i (.val (rf ad v))).setIfInBounds (i + 2) .unset).setIfInBounds (i + 1) .second, ?_, by simp, ?_, ?_, fun j hj hj' => ?_⟩
      · rw [open1, n1, ho]
        show (if o.category = 2 then _ else _) = _
        rw [if_pos ho2, setAt_ok (by simpa using h3)]
        show setAt _ (i + 1) .second = _
        rw [setAt_ok (by simpa using hi2)]
      · rw [Array.getElem?_setIfInBounds_ne (by omega), Array.getElem?_setIfInBounds_ne (by omega)]; simp [hi1]
      · simp [hi2]
      · rw [Array.getElem?_setIfInBounds_ne (by omega)]
        by_cases z : j = i + 2
        · subst z; right; exact ⟨by simp [h3], rfl, o, ho, ho2⟩
        · left; exact ⟨by rw [Array.getElem?_setIfInBounds_ne (by omega), Array.getElem?_setIfInBounds_ne (by omega)], fun q => z q.1⟩
    · refine ⟨(Ls1.setIfInBounds i (.val (rf ad v))).setIfInBounds (i + 1) .second, ?_, by simp, ?_, ?_, fun j hj hj' => Or.inl ⟨?_, fun q => hb q.2⟩⟩
      · rw [plain fun o ho q => hb ⟨o, ho, q⟩, setAt_ok szz]
      · rw [Array.getElem?_setIfInBounds_ne (by omega)]; simp [hi1]
      · simp [hi2]
      · rw [Array.getElem?_setIfInBounds_ne (by omega), Array.getElem?_setIfInBounds_ne (by omega)]
  obtain ⟨Ls', e2, sz, at_i, at_i1, at_j⟩ := key
  -- i + 1 seen from Ls
  have up : ∀ o, Ls1[i + 1]? = some (.val o) → Ls[i + 1]? = some (.val o) := fun o ho => by
    rcases p2 (i + 1) (by omega) with ⟨-, q⟩ | ⟨-, q⟩
    · rw [← q]; exact ho
    · rw [q] at ho; cases ho
  have good : ∀ j, j ≠ i → j ≠ i + 1 → ¬ Bad Ls i j → ¬ (j = i + 2 ∧ ∃ o, Ls[i + 1]? = some (.val o) ∧ o.category = 2) → Ls'[j]? = Ls[j]? := fun j hj hj' hb hb' => by
    rcases at_j j hj hj' with ⟨q, -⟩ | ⟨-, q1, o, q2, q3⟩
    · rw [q]
      rcases p2 j hj with ⟨-, q⟩ | ⟨q, -⟩
      · exact q
      · exact absurd q hb
    · exact absurd ⟨q1, o, up o q2, q3⟩ hb'
  have back : ∀ j s, j ≠ i → j ≠ i + 1 → s ≠ .unset → Ls'[j]? = some s → ¬ Bad Ls i j ∧ Ls[j]? = some s ∧ ¬ (j = i + 2 ∧ ∃ o, Ls1[i + 1]? = some (.val o) ∧ o.category = 2) := fun j s hj hj' hs h => by
    rcases at_j j hj hj' with ⟨q, q0⟩ | ⟨q, -⟩
    · rw [q] at h
      rcases p2 j hj with ⟨q1, q'⟩ | ⟨-, q'⟩
      · exact ⟨q1, by rw [← q']; exact h, q0⟩
      · rw [q'] at h; cases h; exact absurd rfl hs
    · rw [q] at h; cases h; exact absurd rfl hs
  have s2 := st2_at v L i hi
  refine ⟨_, e.trans e2, ⟨by rw [st2_len, l1, sz, p1], fun j w hj => ?_, fun j hj => ?_, fun j hj => ?_, fun j w hj hc => ?_⟩, by rw [sz, p1]⟩
  · by_cases q : j = i
    · subst q
      rw [s2.1] at hj
      cases hj; exact at_i
    · by_cases q1 : j = i + 1
      · subst q1; rw [s2.2] at hj; cases hj
      · obtain ⟨a1, a2, -⟩ := st2_else v L i j _ q q1 hj (by simp)
        have b1 := l2 j w a1
        rw [good j q q1 (not_bad_val wf b1 fun z => by rw [rf_cat]; exact a2 z w rfl) ?_]; exact b1
        rintro ⟨rfl, o, z1, z2⟩
        have := wf.2 _ _ z1 z2
        cases this.symm.trans b1
  · by_cases q : j = i
    · subst q
      rw [s2.1] at hj
      cases hj
    · by_cases q1 : j = i + 1
      · subst q1; exact at_i1
      · obtain ⟨a1, -, a3⟩ := st2_else v L i j _ q q1 hj (by simp)
        have b1 := l3 j a1
        rw [good j q q1 (not_bad_second wf b1 q1) fun z => a3 z.1 rfl]; exact b1
  · dsimp only at hj ⊢
    by_cases q1 : j = i + 1
    · subst q1; exact ⟨i, _, rfl, at_i, hv'⟩
    have q : j ≠ i := fun q => by subst q; rw [at_i] at hj; cases hj
    obtain ⟨b1, b2, b3⟩ := back j _ q q1 (by simp) hj
    obtain ⟨j0, v', rfl, h1, h2⟩ := wf.1 j b2
    dsimp only at h1
    have q0 : j0 ≠ i := fun z => b1 (Or.inr ⟨by omega, v', z ▸ h1, h2⟩)
    -- j0 = i + 1: then j = i + 2 was wiped
    have q0' : j0 ≠ i + 1 := fun z => by
      subst z
      rcases p2 (i + 1) (by omega) with ⟨-, w1⟩ | ⟨w1, -⟩
      · exact b3 ⟨rfl, v', by rw [w1]; exact h1, h2⟩
      · rcases w1 with ⟨w1, -⟩ | ⟨-, o, w1, w2⟩
        · omega
        · have := wf.2 _ _ w1 w2
          cases this.symm.trans h1
    refine ⟨j0, v', rfl, ?_, h2⟩
    rw [good j0 q0 q0' ?_ ?_]; exact h1
    · rintro (⟨z, -⟩ | ⟨z, -⟩)
      · exact q z
      · exact q0' z
    · rintro ⟨rfl, o, z1, z2⟩
      have := wf.2 _ _ z1 z2
      cases this.symm.trans h1
  · dsimp only at hj ⊢
    by_cases q1 : j = i
    · subst q1; exact at_i1
    have q : j ≠ i + 1 := fun q => by subst q; rw [at_i1] at hj; cases hj
    obtain ⟨b1, b2, -⟩ := back j _ q1 q (by simp) hj
    have h1 := wf.2 j w b2 hc
    dsimp only at h1
    have q0 : j + 1 ≠ i := fun z => b1 (Or.inl ⟨z, z ▸ h1⟩)
    rw [good (j + 1) q0 (by omega) ?_ ?_]; exact h1
    · rintro (⟨z, z1⟩ | ⟨z, -⟩)
      · obtain ⟨j1, v1, e1, e2, -⟩ := wf.1 _ z1
        obtain rfl : j1 = j + 1 := by omega
        cases h1.symm.trans e2
      · omega
    · rintro ⟨z, -⟩; omega
/-! what is known less of -/
def leL : List Slot → List Slot → Prop
  | [], [] => True
  | .unset :: a, _ :: b => leL a b
  | x :: a, y :: b => x = y ∧ leL a b
  | _, _ => False
theorem leL_len : ∀ {A B : List Slot}, leL A B → A.length = B.length
  | [], [], _ => rfl
  | .unset :: a, _ :: b, h => congrArg Nat.succ (leL_len (A := a) (B := b) h)
  | .second :: a, _ :: b, h => congrArg Nat.succ (leL_len (A := a) (B := b) h.2)
  | .val _ :: a, _ :: b, h => congrArg Nat.succ (leL_len (A := a) (B := b) h.2)
theorem leL_get : ∀ {A B : List Slot}, leL A B → ∀ {i : Nat} {s : Slot}, A[i]? = some s → s ≠ .unset → B[i]? = some s
  | [], [], _, i, s, h, _ => by simp at h
  | .unset :: a, _ :: b, _, 0, s, h, hs => by simp at h; exact absurd h.symm hs
  | .unset :: a, _ :: b, hl, i + 1, s, h, hs => by simpa using leL_get (A := a) (B := b) hl (by simpa using h) hs
  | .second :: a, _ :: b, hl, 0, s, h, hs => by simp at h; subst h; simp [← hl.1]
  | .second :: a, _ :: b, hl, i + 1, s, h, hs => by simpa using leL_get (A := a) (B := b) hl.2 (by simpa using h) hs
  | .val _ :: a, _ :: b, hl, 0, s, h, hs => by simp at h; subst h; simp [← hl.1]
  | .val _ :: a, _ :: b, hl, i + 1, s, h, hs => by simpa using leL_get (A := a) (B := b) hl.2 (by simpa using h) hs
theorem LR.weak {ad : Nat → Addr} {A B : List Slot} {Ls : Array Slot} (h : leL A B) (hL : LR ad B Ls) : LR ad A Ls :=
  ⟨(leL_len h).trans hL.1, fun i v q => hL.2.1 i v (leL_get h q (by simp)), fun i q => hL.2.2.1 i (leL_get h q (by simp)), hL.2.2.2⟩
theorem wf_cons {x : Slot} {M : List Slot} (hx : x = .unset ∨ ∃ v, x = .val v ∧ v.category = 1) (h : WFs fun i => M[i]?) : WFs fun i => (x :: M)[i]? := by
  refine ⟨fun i hi => ?_, fun i v hi hc => ?_⟩
  · cases i with
    | zero => rcases hx with rfl | ⟨v, rfl, -⟩ <;> (simp at hi)
    | succ i =>
      obtain ⟨j, v, rfl, h1, h2⟩ := h.1 i (by simpa using hi)
      exact ⟨j + 1, v, rfl, by simpa using h1, h2⟩
  · cases i with
    | zero =>
      rcases hx with rfl | ⟨w, rfl, hw⟩
      · simp at hi
      · simp at hi; subst hi; rw [hw] at hc; cases hc
    | succ i => simpa using h.2 i v (by simpa using hi) hc
theorem wf_cons2 {w : Value} {M : List Slot} (hw : w.category = 2) (h : WFs fun i => M[i]?) : WFs fun i => (.val w :: .second :: M)[i]? := by
  refine ⟨fun i hi => ?_, fun i v hi hc => ?_⟩
  · match i, hi with
    | 0, hi => simp at hi
    | 1, _ => exact ⟨0, w, rfl, rfl, hw⟩
    | i + 2, hi =>
      obtain ⟨j, v, rfl, h1, h2⟩ := h.1 i (by simpa using hi)
      exact ⟨j + 2, v, rfl, by simpa using h1, h2⟩
  · match i, hi with
    | 0, _ => rfl
    | 1, hi => simp at hi
    | i + 2, hi => simpa using h.2 i v (by simpa using hi) hc
/-- the local variables at the entry -/
def laid : List Value → List Slot
  | [] => []
  | v :: vs => if v.category = 2 then .val v :: .second :: laid vs else .val v :: laid vs
def entL (as : List Value) (n : Nat) : List Slot := laid as ++ List.replicate (n - (laid as).length) Slot.unset
theorem laid_rel (ad : Nat → Addr) (k : Nat) : ∀ as : List Value, (laid as ++ List.replicate k Slot.unset).length = (laid (as.map (rf ad)) ++ List.replicate k Slot.unset).length ∧ (∀ (i : Nat) (v : Value), (laid as ++ List.replicate k Slot.unset)[i]? = some (.val v) → (laid (as.map (rf ad)) ++ List.replicate k Slot.unset)[i]? = some (.val (rf ad v))) ∧
    (∀ i : Nat, (laid as ++ List.replicate k Slot.unset)[i]? = some .second → (laid (as.map (rf ad)) ++ List.replicate k Slot.unset)[i]? = some .second) ∧ WFs fun i => (laid (as.map (rf ad)) ++ List.replicate k Slot.unset)[i]?
  | [] => by
    refine ⟨rfl, fun i v h => ?_, fun i h => h, fun i h => ?_, fun i v h => ?_⟩
    · simp [laid, List.getElem?_replicate] at h
    · simp [laid, List.getElem?_replicate] at h
    · simp [laid, List.getElem?_replicate] at h
  | v :: vs => by
    obtain ⟨a1, a2, a3, a4⟩ := laid_rel ad k vs
    have hc : (rf ad v).category = v.category := rf_cat ad v
    by_cases h : v.category = 2
    · have e1 : laid (v :: vs) = .val v :: .second :: laid vs := if_pos h
      have e2 : laid ((v :: vs).map (rf ad)) = .val (rf ad v) :: .second :: laid (vs.map (rf ad)) := if_pos (hc.trans h)
      rw [e1, e2]
      refine ⟨by simpa using a1, fun i w hi => ?_, fun i hi => ?_, wf_cons2 (hc.trans h) a4⟩
      · match i, hi with
        | 0, hi => simp at hi; subst hi; rfl
        | 1, hi => simp at hi
        | i + 2, hi => simpa using a2 i w (by simpa using hi)
      · match i, hi with
        | 0, hi => simp at hi
        | 1, hi => rfl
        | i + 2, hi => simpa using a3 i (by simpa using hi)
    · have e1 : laid (v :: vs) = .val v :: laid vs := if_neg h
      have e2 : laid ((v :: vs).map (rf ad)) = .val (rf ad v) :: laid (vs.map (rf ad)) := if_neg (by rw [hc]; exact h)
      have h1 : (rf ad v).category = 1 := by
        rw [hc]; cases v <;> first | rfl | exact absurd rfl h
      rw [e1, e2]
      refine ⟨by simpa using a1, fun i w hi => ?_, fun i hi => ?_, wf_cons (Or.inr ⟨_, rfl, h1⟩) a4⟩
      · match i, hi with
        | 0, hi => simp at hi; subst hi; rfl
        | i + 1, hi => simpa using a2 i w (by simpa using hi)
      · match i, hi with
        | 0, hi => simp at hi
        | i + 1, hi => simpa using a3 i (by simpa using hi)
theorem laid_foldl : ∀ (as : List Value) (acc : Array Slot), (as.foldl (fun acc v => if v.category = 2 then (acc.push (.val v)).push .second else acc.push (.val v)) acc).toList = acc.toList ++ laid as
  | [], acc => by simp [laid]
  | v :: vs, acc => by
    show (List.foldl _ (if v.category = 2 then (acc.push (.val v)).push .second else acc.push (.val v)) vs : Array Slot).toList = _
    rw [laid_foldl vs]
    by_cases h : v.category = 2
    · rw [if_pos h, show laid (v :: vs) = .val v :: .second :: laid vs from if_pos h]; simp
    · rw [if_neg h, show laid (v :: vs) = .val v :: laid vs from if_neg h]; simp
theorem laid_map_len (ad : Nat → Addr) (as : List Value) : (laid (as.map (rf ad))).length = (laid as).length := by
  have := (laid_rel ad 0 as).1
  simpa using this.symm
theorem entry_LR (ad : Nat → Addr) (as : List Value) (n : Nat) (hn : (laid as).length ≤ n) : LR ad (entL as n) (argsToLocals (as.map (rf ad)).toArray n) ∧ (argsToLocals (as.map (rf ad)).toArray n).size = n := by
  have e : (argsToLocals (as.map (rf ad)).toArray n).toList = laid (as.map (rf ad)) ++ List.replicate (n - (laid as).length) Slot.unset := by
    have e1 := laid_foldl (as.map (rf ad)) #[]
    have e2 : ((as.map (rf ad)).toArray.foldl (fun acc v => if v.category = 2 then (acc.push (.val v)).push .second else acc.push (.val v)) #[] : Array Slot).toList = laid (as.map (rf ad)) := by
      rw [List.foldl_toArray']
      · rw [e1]; rfl
      · rfl
    have e3 : ((as.map (rf ad)).toArray.foldl (fun acc v => if v.category = 2 then (acc.push (.val v)).push .second else acc.push (.val v)) #[] : Array Slot).size = (laid as).length := by
      rw [← Array.length_toList, e2, laid_map_len]
    show (_ ++ Array.replicate (n - _) Slot.unset).toList = _
    rw [Array.toList_append, e2, Array.toList_replicate, e3]
  obtain ⟨a1, a2, a3, a4⟩ := laid_rel ad (n - (laid as).length) as
  have g : ∀ i : Nat, (argsToLocals (as.map (rf ad)).toArray n)[i]? = (laid (as.map (rf ad)) ++ List.replicate (n - (laid as).length) Slot.unset)[i]? := fun i => by rw [← e, Array.getElem?_toList]
  have sz : (argsToLocals (as.map (rf ad)).toArray n).size = (laid (as.map (rf ad)) ++ List.replicate (n - (laid as).length) Slot.unset).length := by rw [← e, Array.length_toList]
  refine ⟨⟨by rw [sz]; exact a1, fun i v h => by rw [g]; exact a2 i v h, fun i h => by rw [g]; exact a3 i h, ?_⟩, by rw [sz, ← a1]; simp; omega⟩
  have : (fun i => (argsToLocals (as.map (rf ad)).toArray n)[i]?) = fun i => (laid (as.map (rf ad)) ++ List.replicate (n - (laid as).length) Slot.unset)[i]? := funext g
  rw [this]; exact a4
/-! ## reading and writing a list as Java does an array -/
def rd {α : Type} (xs : List α) (i : Int32) : Option α := if i < 0 then none else xs[i.toNatClampNeg]?
def wr {α : Type} (xs : List α) (i : Int32) (x : α) : Option (List α) := if i < 0 then none else if i.toNatClampNeg < xs.length then some (xs.set i.toNatClampNeg x) else none
theorem rd_slots {α : Type} {f : α → Value} {sl : Array Value} {xs : List α} (h : sl.toList = xs.map f) {j : Int32} {x : α} (hx : rd xs j = some x) : ¬ (j < 0 ∨ sl.size ≤ j.toNatClampNeg) ∧ sl[j.toNatClampNeg]? = some (f x) := by
  unfold rd at hx
  by_cases hj : j < 0
  · rw [if_pos hj] at hx; cases hx
  · rw [if_neg hj] at hx
    have h1 : sl[j.toNatClampNeg]? = some (f x) := by rw [← Array.getElem?_toList, h, List.getElem?_map, hx]; rfl
    exact ⟨fun q => q.elim hj fun q => absurd (Array.getElem?_eq_some_iff.mp h1).1 (Nat.not_lt.mpr q), h1⟩
theorem wr_slots {α : Type} {f : α → Value} {cl : Cell} {xs xs' : List α} (h : cl.slots.toList = xs.map f) {j : Int32} {x : α} (hx : wr xs j x = some xs') : ¬ (j < 0 ∨ cl.slots.size ≤ j.toNatClampNeg) ∧ (cl.setSlot j.toNatClampNeg (f x)).slots.toList = xs'.map f := by
  unfold wr at hx
  by_cases hj : j < 0
  · rw [if_pos hj] at hx; cases hx
  · rw [if_neg hj] at hx
    by_cases hl : j.toNatClampNeg < xs.length
    · rw [if_pos hl] at hx; cases hx
      have sz : cl.slots.size = xs.length := by rw [← Array.length_toList, h, List.length_map]
      refine ⟨fun q => q.elim hj fun q => by omega, ?_⟩
      show (cl.slots.setIfInBounds _ _).toList = _
      rw [Array.toList_setIfInBounds, h, List.map_set]
    · rw [if_neg hl] at hx; cases hx
/-! ## the walk's promise, said of the small view -/
def Am (Z : State) (own mn : String) (bytes : ByteArray) (maxL : Nat) (ret : Option FieldType) (p : Program) (s : State) (m : MethodId) (meth : Method) (c : Code) : Prop :=
  p.tables.exec = Jvm.exec ∧ Z.Warmed39 s.vm ∧ c.code = bytes ∧ c.maxLocals = maxL ∧ meth.sig.returnType = ret ∧ meth.locks = false ∧ s.vm.findClass own = some m.cls ∧ meth.name = mn
def WP (l : Launch) (Z : State) (C : String) (lay : List (String × String)) (own mn : String) (bytes : ByteArray) (maxL : Nat) (ret : Option FieldType) (R : Room) (n0 ro : Nat) (Q : Option Value → List OwnC → Prop) (k n pc : Nat) (L : List Slot) (S : List Value) (H : List OwnC) : Prop :=
  ∀ (p : Program) (e : Env) (s : State) (m : MethodId) (args : Array Value) (below : List Frame) (meth : Method) (c : Code) (T : State) (locs : List Loc) (ad : Nat → Addr) (Ls : Array Slot),
    Stand p l e R s m args below meth c T locs k n → Am Z own mn bytes maxL ret p s m meth c → HR Z C lay n0 ro ad H T.heap → Fr n0 locs → LR ad L Ls → Ls.size = maxL →
    ∃ (s₂ : State) (v : Option Value) (H' : List OwnC) (locs' : List Loc),
      Steps p.tables e below (T.setTop (mkF m pc Ls (S.map (rf ad)))) s₂ ∧ s₂.status = .running ∧ Ended s₂ below (.returned (v.map (rf ad))) ∧ Q v H' ∧ HR Z C lay n0 ro ad H' s₂.heap ∧ Kp ad H.length T.heap s₂.heap ∧ Fr n0 locs' ∧ FrameEnd s (.returned (v.map (rf ad))) s₂ locs' R.cells R.slots
section Rules
variable {l : Launch} {Z : State} {a0 : Array Value} {C : String} {lay : List (String × String)} {own mn : String} {bytes : ByteArray} {maxL : Nat} {ret : Option FieldType} {R : Room} {n0 ro : Nat} {Q : Option Value → List OwnC → Prop} {k n pc pc' : Nat} {L L' : List Slot} {S S' : List Value} {H H' : List OwnC}
theorem WP.weak (h : leL L' L) (nx : WP l Z C lay own mn bytes maxL ret R n0 ro Q k n pc L' S H) : WP l Z C lay own mn bytes maxL ret R n0 ro Q k n pc L S H :=
  fun p e s m args below meth c T locs ad Ls X A hr N hL hz => nx p e s m args below meth c T locs ad Ls X A hr N (LR.weak h hL) hz
theorem WP.of (hs : ∀ (p : Program) (e : Env) (s : State) (m : MethodId) (args : Array Value) (below : List Frame) (meth : Method) (c : Code) (T : State) (locs : List Loc) (ad : Nat → Addr) (Ls : Array Slot), Stand p l e R s m args below meth c T locs k n → Am Z own mn bytes maxL ret p s m meth c → LR ad L Ls → Ls.size = maxL →
      ∃ Ls', LR ad L' Ls' ∧ Ls'.size = maxL ∧ ∀ t, Steps p.tables e below (T.setTop (mkF m pc' Ls' (S'.map (rf ad)))) t → Steps p.tables e below (T.setTop (mkF m pc Ls (S.map (rf ad)))) t)
    (nx : WP l Z C lay own mn bytes maxL ret R n0 ro Q k n pc' L' S' H) : WP l Z C lay own mn bytes maxL ret R n0 ro Q k n pc L S H := by
  intro p e s m args below meth c T locs ad Ls X A hr N hL hz
  obtain ⟨Ls', hL', hz', st⟩ := hs p e s m args below meth c T locs ad Ls X A hL hz
  obtain ⟨s₂, v, H', locs', h1, h2⟩ := nx p e s m args below meth c T locs ad Ls' X A hr N hL' hz'
  exact ⟨s₂, v, H', locs', st _ h1, h2⟩
theorem WP.iload {j : Nat} {x : Int32} (hd : decode bytes pc = .ok (.iload j, 2)) (hl : L[j]? = some (.val (.int x))) (nx : WP l Z C lay own mn bytes maxL ret R n0 ro Q k n (pc + 2) L (.int x :: S) H) : WP l Z C lay own mn bytes maxL ret R n0 ro Q k n pc L (S) H :=
  WP.of (fun p e s m args below meth c T locs ad Ls X A hL hz => ⟨Ls, hL, hz, fun t ht => XS.iload X.here A.1 rfl (hb A.2.2.1 hd) (hL.2.1 _ _ hl) ht⟩) nx
theorem WP.iloadN {j : Fin 4} {x : Int32} (hd : decode bytes pc = .ok (.iload_n j, 1)) (hl : L[j.val]? = some (.val (.int x))) (nx : WP l Z C lay own mn bytes maxL ret R n0 ro Q k n (pc + 1) L (.int x :: S) H) : WP l Z C lay own mn bytes maxL ret R n0 ro Q k n pc L (S) H :=
  WP.of (fun p e s m args below meth c T locs ad Ls X A hL hz => ⟨Ls, hL, hz, fun t ht => XS.iloadN X.here A.1 rfl (hb A.2.2.1 hd) (hL.2.1 _ _ hl) ht⟩) nx
theorem WP.lload {j : Nat} {x : Int64} (hd : decode bytes pc = .ok (.lload j, 2)) (hl : L[j]? = some (.val (.long x))) (nx : WP l Z C lay own mn bytes maxL ret R n0 ro Q k n (pc + 2) L (.long x :: S) H) : WP l Z C lay own mn bytes maxL ret R n0 ro Q k n pc L (S) H :=
  WP.of (fun p e s m args below meth c T locs ad Ls X A hL hz => ⟨Ls, hL, hz, fun t ht => XT.lload X.here A.1 rfl (hb A.2.2.1 hd) (hL.2.1 _ _ hl) ht⟩) nx
theorem WP.lloadN {j : Fin 4} {x : Int64} (hd : decode bytes pc = .ok (.lload_n j, 1)) (hl : L[j.val]? = some (.val (.long x))) (nx : WP l Z C lay own mn bytes maxL ret R n0 ro Q k n (pc + 1) L (.long x :: S) H) : WP l Z C lay own mn bytes maxL ret R n0 ro Q k n pc L (S) H :=
  WP.of (fun p e s m args below meth c T locs ad Ls X A hL hz => ⟨Ls, hL, hz, fun t ht => XT.lloadN X.here A.1 rfl (hb A.2.2.1 hd) (hL.2.1 _ _ hl) ht⟩) nx
theorem WP.aload {j : Nat} {i : Nat} (hd : decode bytes pc = .ok (.aload j, 2)) (hl : L[j]? = some (.val (.ref i))) (nx : WP l Z C lay own mn bytes maxL ret R n0 ro Q k n (pc + 2) L (.ref i :: S) H) : WP l Z C lay own mn bytes maxL ret R n0 ro Q k n pc L (S) H :=
  WP.of (fun p e s m args below meth c T locs ad Ls X A hL hz => ⟨Ls, hL, hz, fun t ht => XS.aload X.here A.1 rfl (hb A.2.2.1 hd) (hL.2.1 _ _ hl) rfl ht⟩) nx
theorem WP.aloadN {j : Fin 4} {i : Nat} (hd : decode bytes pc = .ok (.aload_n j, 1)) (hl : L[j.val]? = some (.val (.ref i))) (nx : WP l Z C lay own mn bytes maxL ret R n0 ro Q k n (pc + 1) L (.ref i :: S) H) : WP l Z C lay own mn bytes maxL ret R n0 ro Q k n pc L (S) H :=
  WP.of (fun p e s m args below meth c T locs ad Ls X A hL hz => ⟨Ls, hL, hz, fun t ht => XS.aloadN X.here A.1 rfl (hb A.2.2.1 hd) (hL.2.1 _ _ hl) rfl ht⟩) nx
theorem WP.iconst {i : Int} (v : Int32) (hd : decode bytes pc = .ok (.iconst i, 1)) (hv : Int32.ofInt i = v) (nx : WP l Z C lay own mn bytes maxL ret R n0 ro Q k n (pc + 1) L (.int v :: S) H) : WP l Z C lay own mn bytes maxL ret R n0 ro Q k n pc L (S) H :=
  WP.of (fun p e s m args below meth c T locs ad Ls X A hL hz => ⟨Ls, hL, hz, fun t ht => XS.iconst X.here A.1 rfl (hb A.2.2.1 hd) (by rw [hv]; exact ht)⟩) nx
theorem WP.bipush {i : Int} (v : Int32) (hd : decode bytes pc = .ok (.bipush i, 2)) (hv : (Int8.ofInt i).toInt32 = v) (nx : WP l Z C lay own mn bytes maxL ret R n0 ro Q k n (pc + 2) L (.int v :: S) H) : WP l Z C lay own mn bytes maxL ret R n0 ro Q k n pc L (S) H :=
  WP.of (fun p e s m args below meth c T locs ad Ls X A hL hz => ⟨Ls, hL, hz, fun t ht => XS.bipush X.here A.1 rfl (hb A.2.2.1 hd) (by rw [hv]; exact ht)⟩) nx
theorem WP.sipush {i : Int} (v : Int32) (hd : decode bytes pc = .ok (.sipush i, 3)) (hv : (Int16.ofInt i).toInt32 = v) (nx : WP l Z C lay own mn bytes maxL ret R n0 ro Q k n (pc + 3) L (.int v :: S) H) : WP l Z C lay own mn bytes maxL ret R n0 ro Q k n pc L (S) H :=
  WP.of (fun p e s m args below meth c T locs ad Ls X A hL hz => ⟨Ls, hL, hz, fun t ht => XS.sipush X.here A.1 rfl (hb A.2.2.1 hd) (by rw [hv]; exact ht)⟩) nx
theorem WP.lconst {j : Fin 2} (v : Int64) (hd : decode bytes pc = .ok (.lconst j, 1)) (hv : Int64.ofNat j = v) (nx : WP l Z C lay own mn bytes maxL ret R n0 ro Q k n (pc + 1) L (.long v :: S) H) : WP l Z C lay own mn bytes maxL ret R n0 ro Q k n pc L (S) H :=
  WP.of (fun p e s m args below meth c T locs ad Ls X A hL hz => ⟨Ls, hL, hz, fun t ht => XT.lconst X.here A.1 rfl (hb A.2.2.1 hd) (by rw [hv]; exact ht)⟩) nx
theorem WP.ldc {idx : Nat} {v : Int32} (hd : decode bytes pc = .ok (.ldc idx, 2)) (hw : (Cond.constant own idx v).before a0 Z = true) (nx : WP l Z C lay own mn bytes maxL ret R n0 ro Q k n (pc + 2) L (.int v :: S) H) : WP l Z C lay own mn bytes maxL ret R n0 ro Q k n pc L (S) H :=
  WP.of (fun p e s m args below meth c T locs ad Ls X A hL hz => ⟨Ls, hL, hz, fun t ht => X.ldcInt A.1 A.2.2.2.2.2.2.1 (mvT A.2.1 hw) (g := mkF m pc Ls (S.map (rf ad))) rfl (hb A.2.2.1 hd) t ht⟩) nx
theorem WP.ldcw {idx : Nat} {v : Int32} (hd : decode bytes pc = .ok (.ldc_w idx, 3)) (hw : (Cond.constant own idx v).before a0 Z = true) (nx : WP l Z C lay own mn bytes maxL ret R n0 ro Q k n (pc + 3) L (.int v :: S) H) : WP l Z C lay own mn bytes maxL ret R n0 ro Q k n pc L (S) H :=
  WP.of (fun p e s m args below meth c T locs ad Ls X A hL hz => ⟨Ls, hL, hz, fun t ht => X.ldcwInt A.1 A.2.2.2.2.2.2.1 (mvT A.2.1 hw) (g := mkF m pc Ls (S.map (rf ad))) rfl (hb A.2.2.1 hd) t ht⟩) nx
theorem WP.ldc2 {idx : Nat} {v : Int64} (hd : decode bytes pc = .ok (.ldc2_w idx, 3)) (hw : (Cond.constantLong own idx v).before a0 Z = true) (nx : WP l Z C lay own mn bytes maxL ret R n0 ro Q k n (pc + 3) L (.long v :: S) H) : WP l Z C lay own mn bytes maxL ret R n0 ro Q k n pc L (S) H :=
  WP.of (fun p e s m args below meth c T locs ad Ls X A hL hz => ⟨Ls, hL, hz, fun t ht => X.ldc2Long A.1 A.2.2.2.2.2.2.1 (mvT A.2.1 hw) (g := mkF m pc Ls (S.map (rf ad))) rfl (hb A.2.2.1 hd) t ht⟩) nx
theorem WP.iadd {x y : Int32} (hd : decode bytes pc = .ok (.iadd, 1)) (nx : WP l Z C lay own mn bytes maxL ret R n0 ro Q k n (pc + 1) L (.int (x + y) :: S) H) : WP l Z C lay own mn bytes maxL ret R n0 ro Q k n pc L (.int y :: .int x :: S) H :=
  WP.of (fun p e s m args below meth c T locs ad Ls X A hL hz => ⟨Ls, hL, hz, fun t ht => XS.iadd X.here A.1 rfl (hb A.2.2.1 hd) rfl ht⟩) nx
theorem WP.ladd {x y : Int64} (hd : decode bytes pc = .ok (.ladd, 1)) (nx : WP l Z C lay own mn bytes maxL ret R n0 ro Q k n (pc + 1) L (.long (x + y) :: S) H) : WP l Z C lay own mn bytes maxL ret R n0 ro Q k n pc L (.long y :: .long x :: S) H :=
  WP.of (fun p e s m args below meth c T locs ad Ls X A hL hz => ⟨Ls, hL, hz, fun t ht => XT.ladd X.here A.1 rfl (hb A.2.2.1 hd) rfl ht⟩) nx
theorem WP.isub {x y : Int32} (hd : decode bytes pc = .ok (.isub, 1)) (nx : WP l Z C lay own mn bytes maxL ret R n0 ro Q k n (pc + 1) L (.int (x - y) :: S) H) : WP l Z C lay own mn bytes maxL ret R n0 ro Q k n pc L (.int y :: .int x :: S) H :=
  WP.of (fun p e s m args below meth c T locs ad Ls X A hL hz => ⟨Ls, hL, hz, fun t ht => XS.isub X.here A.1 rfl (hb A.2.2.1 hd) rfl ht⟩) nx
theorem WP.lsub {x y : Int64} (hd : decode bytes pc = .ok (.lsub, 1)) (nx : WP l Z C lay own mn bytes maxL ret R n0 ro Q k n (pc + 1) L (.long (x - y) :: S) H) : WP l Z C lay own mn bytes maxL ret R n0 ro Q k n pc L (.long y :: .long x :: S) H :=
  WP.of (fun p e s m args below meth c T locs ad Ls X A hL hz => ⟨Ls, hL, hz, fun t ht => XT.lsub X.here A.1 rfl (hb A.2.2.1 hd) rfl ht⟩) nx
theorem WP.imul {x y : Int32} (hd : decode bytes pc = .ok (.imul, 1)) (nx : WP l Z C lay own mn bytes maxL ret R n0 ro Q k n (pc + 1) L (.int (x * y) :: S) H) : WP l Z C lay own mn bytes maxL ret R n0 ro Q k n pc L (.int y :: .int x :: S) H :=
  WP.of (fun p e s m args below meth c T locs ad Ls X A hL hz => ⟨Ls, hL, hz, fun t ht => XS.imul X.here A.1 rfl (hb A.2.2.1 hd) rfl ht⟩) nx
theorem WP.lmul {x y : Int64} (hd : decode bytes pc = .ok (.lmul, 1)) (nx : WP l Z C lay own mn bytes maxL ret R n0 ro Q k n (pc + 1) L (.long (x * y) :: S) H) : WP l Z C lay own mn bytes maxL ret R n0 ro Q k n pc L (.long y :: .long x :: S) H :=
  WP.of (fun p e s m args below meth c T locs ad Ls X A hL hz => ⟨Ls, hL, hz, fun t ht => XT.lmul X.here A.1 rfl (hb A.2.2.1 hd) rfl ht⟩) nx
theorem WP.iand {x y : Int32} (hd : decode bytes pc = .ok (.iand, 1)) (nx : WP l Z C lay own mn bytes maxL ret R n0 ro Q k n (pc + 1) L (.int (x &&& y) :: S) H) : WP l Z C lay own mn bytes maxL ret R n0 ro Q k n pc L (.int y :: .int x :: S) H :=
  WP.of (fun p e s m args below meth c T locs ad Ls X A hL hz => ⟨Ls, hL, hz, fun t ht => XS.iand X.here A.1 rfl (hb A.2.2.1 hd) rfl ht⟩) nx
theorem WP.land {x y : Int64} (hd : decode bytes pc = .ok (.land, 1)) (nx : WP l Z C lay own mn bytes maxL ret R n0 ro Q k n (pc + 1) L (.long (x &&& y) :: S) H) : WP l Z C lay own mn bytes maxL ret R n0 ro Q k n pc L (.long y :: .long x :: S) H :=
  WP.of (fun p e s m args below meth c T locs ad Ls X A hL hz => ⟨Ls, hL, hz, fun t ht => XT.land X.here A.1 rfl (hb A.2.2.1 hd) rfl ht⟩) nx
theorem WP.ior {x y : Int32} (hd : decode bytes pc = .ok (.ior, 1)) (nx : WP l Z C lay own mn bytes maxL ret R n0 ro Q k n (pc + 1) L (.int (x ||| y) :: S) H) : WP l Z C lay own mn bytes maxL ret R n0 ro Q k n pc L (.int y :: .int x :: S) H :=
  WP.of (fun p e s m args below meth c T locs ad Ls X A hL hz => ⟨Ls, hL, hz, fun t ht => XT.ior X.here A.1 rfl (hb A.2.2.1 hd) rfl ht⟩) nx
theorem WP.lor {x y : Int64} (hd : decode bytes pc = .ok (.lor, 1)) (nx : WP l Z C lay own mn bytes maxL ret R n0 ro Q k n (pc + 1) L (.long (x ||| y) :: S) H) : WP l Z C lay own mn bytes maxL ret R n0 ro Q k n pc L (.long y :: .long x :: S) H :=
  WP.of (fun p e s m args below meth c T locs ad Ls X A hL hz => ⟨Ls, hL, hz, fun t ht => XT.lor X.here A.1 rfl (hb A.2.2.1 hd) rfl ht⟩) nx
theorem WP.ixor {x y : Int32} (hd : decode bytes pc = .ok (.ixor, 1)) (nx : WP l Z C lay own mn bytes maxL ret R n0 ro Q k n (pc + 1) L (.int (x ^^^ y) :: S) H) : WP l Z C lay own mn bytes maxL ret R n0 ro Q k n pc L (.int y :: .int x :: S) H :=
  WP.of (fun p e s m args below meth c T locs ad Ls X A hL hz => ⟨Ls, hL, hz, fun t ht => XT.ixor X.here A.1 rfl (hb A.2.2.1 hd) rfl ht⟩) nx
theorem WP.lxor {x y : Int64} (hd : decode bytes pc = .ok (.lxor, 1)) (nx : WP l Z C lay own mn bytes maxL ret R n0 ro Q k n (pc + 1) L (.long (x ^^^ y) :: S) H) : WP l Z C lay own mn bytes maxL ret R n0 ro Q k n pc L (.long y :: .long x :: S) H :=
  WP.of (fun p e s m args below meth c T locs ad Ls X A hL hz => ⟨Ls, hL, hz, fun t ht => XT.lxor X.here A.1 rfl (hb A.2.2.1 hd) rfl ht⟩) nx
theorem WP.idiv {x y : Int32} (hd : decode bytes pc = .ok (.idiv, 1)) (hy : ¬ y = 0) (nx : WP l Z C lay own mn bytes maxL ret R n0 ro Q k n (pc + 1) L (.int (x / y) :: S) H) : WP l Z C lay own mn bytes maxL ret R n0 ro Q k n pc L (.int y :: .int x :: S) H :=
  WP.of (fun p e s m args below meth c T locs ad Ls X A hL hz => ⟨Ls, hL, hz, fun t ht => XS.idiv X.here A.1 rfl (hb A.2.2.1 hd) rfl hy ht⟩) nx
theorem WP.irem {x y : Int32} (hd : decode bytes pc = .ok (.irem, 1)) (hy : ¬ y = 0) (nx : WP l Z C lay own mn bytes maxL ret R n0 ro Q k n (pc + 1) L (.int (x % y) :: S) H) : WP l Z C lay own mn bytes maxL ret R n0 ro Q k n pc L (.int y :: .int x :: S) H :=
  WP.of (fun p e s m args below meth c T locs ad Ls X A hL hz => ⟨Ls, hL, hz, fun t ht => iremM X A.1 rfl (hb A.2.2.1 hd) rfl hy ht⟩) nx
theorem WP.ldiv {x y : Int64} (hd : decode bytes pc = .ok (.ldiv, 1)) (hy : ¬ y = 0) (nx : WP l Z C lay own mn bytes maxL ret R n0 ro Q k n (pc + 1) L (.long (x / y) :: S) H) : WP l Z C lay own mn bytes maxL ret R n0 ro Q k n pc L (.long y :: .long x :: S) H :=
  WP.of (fun p e s m args below meth c T locs ad Ls X A hL hz => ⟨Ls, hL, hz, fun t ht => XT.ldiv X.here A.1 rfl (hb A.2.2.1 hd) rfl hy ht⟩) nx
theorem lrem_mod (x y : Int64) : x - (x / y) * y = x % y := by
  apply Int64.toInt_inj.mp
  have h1 := Int64.le_toInt (x % y)
  have h2 := Int64.toInt_lt (x % y)
  rw [Int64.toInt_sub, Int64.toInt_mul, Int64.toInt_div, Int.bmod_mul_bmod, Int.sub_bmod_bmod, Int.mul_comm (x.toInt.tdiv y.toInt), ← Int.tmod_def, ← Int64.toInt_mod]
  exact Int.bmod_eq_of_le_mul_two (by omega) (by omega)
theorem WP.lrem {x y : Int64} (hd : decode bytes pc = .ok (.lrem, 1)) (hy : ¬ y = 0) (nx : WP l Z C lay own mn bytes maxL ret R n0 ro Q k n (pc + 1) L (.long (x % y) :: S) H) : WP l Z C lay own mn bytes maxL ret R n0 ro Q k n pc L (.long y :: .long x :: S) H :=
  WP.of (fun p e s m args below meth c T locs ad Ls X A hL hz => ⟨Ls, hL, hz, fun t ht => XT.lrem X.here A.1 rfl (hb A.2.2.1 hd) rfl hy (by rw [lrem_mod]; exact ht)⟩) nx
theorem WP.ishl {x y : Int32} (hd : decode bytes pc = .ok (.ishl, 1)) (nx : WP l Z C lay own mn bytes maxL ret R n0 ro Q k n (pc + 1) L (.int (x <<< (y &&& 31)) :: S) H) : WP l Z C lay own mn bytes maxL ret R n0 ro Q k n pc L (.int y :: .int x :: S) H :=
  WP.of (fun p e s m args below meth c T locs ad Ls X A hL hz => ⟨Ls, hL, hz, fun t ht => XT.ishl X.here A.1 rfl (hb A.2.2.1 hd) rfl ht⟩) nx
theorem WP.ishr {x y : Int32} (hd : decode bytes pc = .ok (.ishr, 1)) (nx : WP l Z C lay own mn bytes maxL ret R n0 ro Q k n (pc + 1) L (.int (x >>> (y &&& 31)) :: S) H) : WP l Z C lay own mn bytes maxL ret R n0 ro Q k n pc L (.int y :: .int x :: S) H :=
  WP.of (fun p e s m args below meth c T locs ad Ls X A hL hz => ⟨Ls, hL, hz, fun t ht => XT.ishr X.here A.1 rfl (hb A.2.2.1 hd) rfl ht⟩) nx
theorem WP.iushr {x y : Int32} (hd : decode bytes pc = .ok (.iushr, 1)) (nx : WP l Z C lay own mn bytes maxL ret R n0 ro Q k n (pc + 1) L (.int (XT.ushr x y) :: S) H) : WP l Z C lay own mn bytes maxL ret R n0 ro Q k n pc L (.int y :: .int x :: S) H :=
  WP.of (fun p e s m args below meth c T locs ad Ls X A hL hz => ⟨Ls, hL, hz, fun t ht => XT.iushr X.here A.1 rfl (hb A.2.2.1 hd) rfl ht⟩) nx
theorem WP.lshl {x : Int64} {y : Int32} (hd : decode bytes pc = .ok (.lshl, 1)) (nx : WP l Z C lay own mn bytes maxL ret R n0 ro Q k n (pc + 1) L (.long (x <<< (y.toInt64 &&& 63)) :: S) H) : WP l Z C lay own mn bytes maxL ret R n0 ro Q k n pc L (.int y :: .long x :: S) H :=
  WP.of (fun p e s m args below meth c T locs ad Ls X A hL hz => ⟨Ls, hL, hz, fun t ht => XT.lshl X.here A.1 rfl (hb A.2.2.1 hd) rfl ht⟩) nx
theorem WP.lshr {x : Int64} {y : Int32} (hd : decode bytes pc = .ok (.lshr, 1)) (nx : WP l Z C lay own mn bytes maxL ret R n0 ro Q k n (pc + 1) L (.long (x >>> (y.toInt64 &&& 63)) :: S) H) : WP l Z C lay own mn bytes maxL ret R n0 ro Q k n pc L (.int y :: .long x :: S) H :=
  WP.of (fun p e s m args below meth c T locs ad Ls X A hL hz => ⟨Ls, hL, hz, fun t ht => XT.lshr X.here A.1 rfl (hb A.2.2.1 hd) rfl ht⟩) nx
theorem WP.lushr {x : Int64} {y : Int32} (hd : decode bytes pc = .ok (.lushr, 1)) (nx : WP l Z C lay own mn bytes maxL ret R n0 ro Q k n (pc + 1) L (.long (XT.ushrL x y) :: S) H) : WP l Z C lay own mn bytes maxL ret R n0 ro Q k n pc L (.int y :: .long x :: S) H :=
  WP.of (fun p e s m args below meth c T locs ad Ls X A hL hz => ⟨Ls, hL, hz, fun t ht => XT.lushr X.here A.1 rfl (hb A.2.2.1 hd) rfl ht⟩) nx
theorem WP.ineg {x : Int32} (hd : decode bytes pc = .ok (.ineg, 1)) (nx : WP l Z C lay own mn bytes maxL ret R n0 ro Q k n (pc + 1) L (.int (-x) :: S) H) : WP l Z C lay own mn bytes maxL ret R n0 ro Q k n pc L (.int x :: S) H :=
  WP.of (fun p e s m args below meth c T locs ad Ls X A hL hz => ⟨Ls, hL, hz, fun t ht => XS.ineg X.here A.1 rfl (hb A.2.2.1 hd) rfl ht⟩) nx
theorem WP.lneg {x : Int64} (hd : decode bytes pc = .ok (.lneg, 1)) (nx : WP l Z C lay own mn bytes maxL ret R n0 ro Q k n (pc + 1) L (.long (-x) :: S) H) : WP l Z C lay own mn bytes maxL ret R n0 ro Q k n pc L (.long x :: S) H :=
  WP.of (fun p e s m args below meth c T locs ad Ls X A hL hz => ⟨Ls, hL, hz, fun t ht => XT.lneg X.here A.1 rfl (hb A.2.2.1 hd) rfl ht⟩) nx
theorem WP.i2l {x : Int32} (hd : decode bytes pc = .ok (.i2l, 1)) (nx : WP l Z C lay own mn bytes maxL ret R n0 ro Q k n (pc + 1) L (.long x.toInt64 :: S) H) : WP l Z C lay own mn bytes maxL ret R n0 ro Q k n pc L (.int x :: S) H :=
  WP.of (fun p e s m args below meth c T locs ad Ls X A hL hz => ⟨Ls, hL, hz, fun t ht => XT.i2l X.here A.1 rfl (hb A.2.2.1 hd) rfl ht⟩) nx
theorem WP.l2i {x : Int64} (hd : decode bytes pc = .ok (.l2i, 1)) (nx : WP l Z C lay own mn bytes maxL ret R n0 ro Q k n (pc + 1) L (.int x.toInt32 :: S) H) : WP l Z C lay own mn bytes maxL ret R n0 ro Q k n pc L (.long x :: S) H :=
  WP.of (fun p e s m args below meth c T locs ad Ls X A hL hz => ⟨Ls, hL, hz, fun t ht => XT.l2i X.here A.1 rfl (hb A.2.2.1 hd) rfl ht⟩) nx
theorem WP.lcmp {x y : Int64} (hd : decode bytes pc = .ok (.lcmp, 1)) (nx : WP l Z C lay own mn bytes maxL ret R n0 ro Q k n (pc + 1) L (.int (XT.cmpL x y) :: S) H) : WP l Z C lay own mn bytes maxL ret R n0 ro Q k n pc L (.long y :: .long x :: S) H :=
  WP.of (fun p e s m args below meth c T locs ad Ls X A hL hz => ⟨Ls, hL, hz, fun t ht => XT.lcmp X.here A.1 rfl (hb A.2.2.1 hd) rfl ht⟩) nx
theorem WP.dup {v : Value} (hd : decode bytes pc = .ok (.dup, 1)) (hc : v.category = 1) (nx : WP l Z C lay own mn bytes maxL ret R n0 ro Q k n (pc + 1) L (v :: v :: S) H) : WP l Z C lay own mn bytes maxL ret R n0 ro Q k n pc L (v :: S) H :=
  WP.of (fun p e s m args below meth c T locs ad Ls X A hL hz => ⟨Ls, hL, hz, fun t ht => XS.dup X.here A.1 rfl (hb A.2.2.1 hd) rfl (by rw [rf_cat]; exact hc) ht⟩) nx
theorem WP.dup2 {v w : Value} (hd : decode bytes pc = .ok (.dup2, 1)) (hc : v.category = 1) (hc' : w.category = 1) (nx : WP l Z C lay own mn bytes maxL ret R n0 ro Q k n (pc + 1) L (v :: w :: v :: w :: S) H) : WP l Z C lay own mn bytes maxL ret R n0 ro Q k n pc L (v :: w :: S) H :=
  WP.of (fun p e s m args below meth c T locs ad Ls X A hL hz => ⟨Ls, hL, hz, fun t ht => XT.dup2 X.here A.1 rfl (hb A.2.2.1 hd) rfl (by rw [rf_cat]; exact hc) (by rw [rf_cat]; exact hc') ht⟩) nx
theorem WP.dup2L {x : Int64} (hd : decode bytes pc = .ok (.dup2, 1)) (nx : WP l Z C lay own mn bytes maxL ret R n0 ro Q k n (pc + 1) L (.long x :: .long x :: S) H) : WP l Z C lay own mn bytes maxL ret R n0 ro Q k n pc L (.long x :: S) H :=
  WP.of (fun p e s m args below meth c T locs ad Ls X A hL hz => ⟨Ls, hL, hz, fun t ht => XT.dup2L X.here A.1 rfl (hb A.2.2.1 hd) rfl ht⟩) nx
theorem WP.pop {v : Value} (hd : decode bytes pc = .ok (.pop, 1)) (hc : v.category = 1) (nx : WP l Z C lay own mn bytes maxL ret R n0 ro Q k n (pc + 1) L (S) H) : WP l Z C lay own mn bytes maxL ret R n0 ro Q k n pc L (v :: S) H :=
  WP.of (fun p e s m args below meth c T locs ad Ls X A hL hz => ⟨Ls, hL, hz, fun t ht => XT.pop X.here A.1 rfl (hb A.2.2.1 hd) rfl (by rw [rf_cat]; exact hc) ht⟩) nx
theorem WP.istore {j : Nat} {x : Int32} (hd : decode bytes pc = .ok (.istore j, 2)) (hi : j < L.length) (hL' : st1 L j (.int x) = L') (nx : WP l Z C lay own mn bytes maxL ret R n0 ro Q k n (pc + 2) L' S H) : WP l Z C lay own mn bytes maxL ret R n0 ro Q k n pc L (.int x :: S) H :=
  WP.of (fun p e s m args below meth c T locs ad Ls X A hL hz => by
    obtain ⟨Ls', e1, e2, e3⟩ := hL.store1 hi (v := .int x) rfl
    exact ⟨Ls', hL' ▸ e2, e3.trans hz, fun t ht => XS.istore X.here A.1 rfl (hb A.2.2.1 hd) rfl e1 ht⟩) nx
theorem WP.istoreN {j : Fin 4} {x : Int32} (hd : decode bytes pc = .ok (.istore_n j, 1)) (hi : j.val < L.length) (hL' : st1 L j.val (.int x) = L') (nx : WP l Z C lay own mn bytes maxL ret R n0 ro Q k n (pc + 1) L' S H) : WP l Z C lay own mn bytes maxL ret R n0 ro Q k n pc L (.int x :: S) H :=
  WP.of (fun p e s m args below meth c T locs ad Ls X A hL hz => by
    obtain ⟨Ls', e1, e2, e3⟩ := hL.store1 hi (v := .int x) rfl
    exact ⟨Ls', hL' ▸ e2, e3.trans hz, fun t ht => XS.istoreN X.here A.1 rfl (hb A.2.2.1 hd) rfl e1 ht⟩) nx
theorem WP.astore {j : Nat} {i : Nat} (hd : decode bytes pc = .ok (.astore j, 2)) (hi : j < L.length) (hL' : st1 L j (.ref i) = L') (nx : WP l Z C lay own mn bytes maxL ret R n0 ro Q k n (pc + 2) L' S H) : WP l Z C lay own mn bytes maxL ret R n0 ro Q k n pc L (.ref i :: S) H :=
  WP.of (fun p e s m args below meth c T locs ad Ls X A hL hz => by
    obtain ⟨Ls', e1, e2, e3⟩ := hL.store1 hi (v := .ref i) rfl
    exact ⟨Ls', hL' ▸ e2, e3.trans hz, fun t ht => XS.astore X.here A.1 rfl (hb A.2.2.1 hd) rfl rfl e1 ht⟩) nx
theorem WP.astoreN {j : Fin 4} {i : Nat} (hd : decode bytes pc = .ok (.astore_n j, 1)) (hi : j.val < L.length) (hL' : st1 L j.val (.ref i) = L') (nx : WP l Z C lay own mn bytes maxL ret R n0 ro Q k n (pc + 1) L' S H) : WP l Z C lay own mn bytes maxL ret R n0 ro Q k n pc L (.ref i :: S) H :=
  WP.of (fun p e s m args below meth c T locs ad Ls X A hL hz => by
    obtain ⟨Ls', e1, e2, e3⟩ := hL.store1 hi (v := .ref i) rfl
    exact ⟨Ls', hL' ▸ e2, e3.trans hz, fun t ht => XS.astoreN X.here A.1 rfl (hb A.2.2.1 hd) rfl rfl e1 ht⟩) nx
theorem WP.lstore {j : Nat} {x : Int64} (hd : decode bytes pc = .ok (.lstore j, 2)) (hi : j + 1 < L.length) (hL' : st2 L j (.long x) = L') (nx : WP l Z C lay own mn bytes maxL ret R n0 ro Q k n (pc + 2) L' S H) : WP l Z C lay own mn bytes maxL ret R n0 ro Q k n pc L (.long x :: S) H :=
  WP.of (fun p e s m args below meth c T locs ad Ls X A hL hz => by
    obtain ⟨Ls', e1, e2, e3⟩ := hL.store2 hi (v := .long x) rfl
    exact ⟨Ls', hL' ▸ e2, e3.trans hz, fun t ht => XT.lstore X.here A.1 rfl (hb A.2.2.1 hd) rfl e1 ht⟩) nx
theorem WP.lstoreN {j : Fin 4} {x : Int64} (hd : decode bytes pc = .ok (.lstore_n j, 1)) (hi : j.val + 1 < L.length) (hL' : st2 L j.val (.long x) = L') (nx : WP l Z C lay own mn bytes maxL ret R n0 ro Q k n (pc + 1) L' S H) : WP l Z C lay own mn bytes maxL ret R n0 ro Q k n pc L (.long x :: S) H :=
  WP.of (fun p e s m args below meth c T locs ad Ls X A hL hz => by
    obtain ⟨Ls', e1, e2, e3⟩ := hL.store2 hi (v := .long x) rfl
    exact ⟨Ls', hL' ▸ e2, e3.trans hz, fun t ht => XT.lstoreN X.here A.1 rfl (hb A.2.2.1 hd) rfl e1 ht⟩) nx
theorem WP.iinc {j : Nat} {cst : Int} {x : Int32} (v : Int32) (hd : decode bytes pc = .ok (.iinc j cst, 3)) (hv : Int32.ofInt cst = v) (hl : L[j]? = some (.val (.int x))) (hL' : st1 L j (.int (x + v)) = L') (nx : WP l Z C lay own mn bytes maxL ret R n0 ro Q k n (pc + 3) L' S H) : WP l Z C lay own mn bytes maxL ret R n0 ro Q k n pc L S H :=
  WP.of (fun p e s m args below meth c T locs ad Ls X A hL hz => by
    subst hv
    obtain ⟨Ls', e1, e2, e3⟩ := hL.store1 (get_lt hl) (v := .int (x + Int32.ofInt cst)) rfl
    exact ⟨Ls', hL' ▸ e2, e3.trans hz, fun t ht => XS.iinc X.here A.1 rfl (hb A.2.2.1 hd) (hL.2.1 _ _ hl) e1 ht⟩) nx
theorem iincW {tb : Tables} [Ours tb] {e : Env} {below : List Frame} {T target : State} {m : MethodId} {c : Code} {g : JFrame} (h : At T m c below) (hx : tb.exec = Jvm.exec) (hg : g.method = m) {k : Nat} {cst : Int} {x : Int32} {l' : Array Slot} (hd : decode c.code g.pc = .ok (.iinc k cst, 6)) (hl : g.locals[k]? = some (.val (.int x))) (hl' : storeLocals g.locals k (.int (x + Int32.ofInt cst)) = some l')
    (hr : Steps tb e below (T.setTop { g with pc := g.pc + 6, locals := l' }) target) : Steps tb e below (T.setTop g) target := by
  subst hg
  jvm_step h [h.top, hx, hd, hl, hl']
  exact hr
theorem WP.iincW {j : Nat} {cst : Int} {x : Int32} (v : Int32) (hd : decode bytes pc = .ok (.iinc j cst, 6)) (hv : Int32.ofInt cst = v) (hl : L[j]? = some (.val (.int x))) (hL' : st1 L j (.int (x + v)) = L') (nx : WP l Z C lay own mn bytes maxL ret R n0 ro Q k n (pc + 6) L' S H) : WP l Z C lay own mn bytes maxL ret R n0 ro Q k n pc L S H :=
  WP.of (fun p e s m args below meth c T locs ad Ls X A hL hz => by
    subst hv
    obtain ⟨Ls', e1, e2, e3⟩ := hL.store1 (get_lt hl) (v := .int (x + Int32.ofInt cst)) rfl
    exact ⟨Ls', hL' ▸ e2, e3.trans hz, fun t ht => Own.iincW X.here A.1 rfl (hb A.2.2.1 hd) (hL.2.1 _ _ hl) e1 ht⟩) nx
theorem WP.goto {o : Int} (hd : decode bytes pc = .ok (.goto o, 3)) (ho : 0 ≤ (pc : Int) + o) (hp : ((pc : Int) + o).toNat = pc') (nx : WP l Z C lay own mn bytes maxL ret R n0 ro Q k n pc' L S H) : WP l Z C lay own mn bytes maxL ret R n0 ro Q k n pc L S H :=
  WP.of (fun p e s m args below meth c T locs ad Ls X A hL hz => ⟨Ls, hL, hz, fun t ht => XS.goto X.here A.1 rfl rfl (hb A.2.2.1 hd) ho hp ht⟩) nx
theorem WP.ifY {cd : ClassFile.Cond} {x : Int32} {o : Int} (hd : decode bytes pc = .ok (.ifCond cd o, 3)) (hc : ifCond.holds cd x = true) (ho : 0 ≤ (pc : Int) + o) (hp : ((pc : Int) + o).toNat = pc') (nx : WP l Z C lay own mn bytes maxL ret R n0 ro Q k n pc' L S H) : WP l Z C lay own mn bytes maxL ret R n0 ro Q k n pc L (.int x :: S) H :=
  WP.of (fun p e s m args below meth c T locs ad Ls X A hL hz => ⟨Ls, hL, hz, fun t ht => XS.ifYes X.here A.1 rfl rfl (hb A.2.2.1 hd) rfl hc ho hp ht⟩) nx
theorem WP.ifN {cd : ClassFile.Cond} {x : Int32} {o : Int} (hd : decode bytes pc = .ok (.ifCond cd o, 3)) (hc : ifCond.holds cd x = false) (nx : WP l Z C lay own mn bytes maxL ret R n0 ro Q k n (pc + 3) L S H) : WP l Z C lay own mn bytes maxL ret R n0 ro Q k n pc L (.int x :: S) H :=
  WP.of (fun p e s m args below meth c T locs ad Ls X A hL hz => ⟨Ls, hL, hz, fun t ht => XS.ifNo X.here A.1 rfl (hb A.2.2.1 hd) rfl hc ht⟩) nx
theorem WP.icmpY {cd : ClassFile.Cond} {x y : Int32} {o : Int} (hd : decode bytes pc = .ok (.if_icmp cd o, 3)) (hc : if_icmp.holds cd x y = true) (ho : 0 ≤ (pc : Int) + o) (hp : ((pc : Int) + o).toNat = pc') (nx : WP l Z C lay own mn bytes maxL ret R n0 ro Q k n pc' L S H) : WP l Z C lay own mn bytes maxL ret R n0 ro Q k n pc L (.int y :: .int x :: S) H :=
  WP.of (fun p e s m args below meth c T locs ad Ls X A hL hz => ⟨Ls, hL, hz, fun t ht => XS.icmpYes X.here A.1 rfl rfl (hb A.2.2.1 hd) rfl hc ho hp ht⟩) nx
theorem WP.icmpN {cd : ClassFile.Cond} {x y : Int32} {o : Int} (hd : decode bytes pc = .ok (.if_icmp cd o, 3)) (hc : if_icmp.holds cd x y = false) (nx : WP l Z C lay own mn bytes maxL ret R n0 ro Q k n (pc + 3) L S H) : WP l Z C lay own mn bytes maxL ret R n0 ro Q k n pc L (.int y :: .int x :: S) H :=
  WP.of (fun p e s m args below meth c T locs ad Ls X A hL hz => ⟨Ls, hL, hz, fun t ht => XS.icmpNo X.here A.1 rfl (hb A.2.2.1 hd) rfl hc ht⟩) nx
theorem WP.nonnull {i : Nat} {o : Int} (hd : decode bytes pc = .ok (.ifnonnull o, 3)) (ho : 0 ≤ (pc : Int) + o) (hp : ((pc : Int) + o).toNat = pc') (nx : WP l Z C lay own mn bytes maxL ret R n0 ro Q k n pc' L S H) : WP l Z C lay own mn bytes maxL ret R n0 ro Q k n pc L (.ref i :: S) H :=
  WP.of (fun p e s m args below meth c T locs ad Ls X A hL hz => ⟨Ls, hL, hz, fun t ht => XT.ifnonnullYes X.here A.1 rfl rfl (hb A.2.2.1 hd) rfl ho hp ht⟩) nx
theorem WP.tswIn {dflt low high o : Int} {offs : Array Int} {len : Nat} {i : Int32} (hd : decode bytes pc = .ok (.tableswitch dflt low high offs, len)) (hin : ¬ (i.toInt < low ∨ i.toInt > high)) (hoff : offs[(i.toInt - low).toNat]? = some o) (ho : 0 ≤ (pc : Int) + o) (hp : ((pc : Int) + o).toNat = pc') (nx : WP l Z C lay own mn bytes maxL ret R n0 ro Q k n pc' L S H) : WP l Z C lay own mn bytes maxL ret R n0 ro Q k n pc L (.int i :: S) H :=
  WP.of (fun p e s m args below meth c T locs ad Ls X A hL hz => ⟨Ls, hL, hz, fun t ht => XS.tswIn X.here A.1 rfl rfl (hb A.2.2.1 hd) rfl hin hoff ho hp ht⟩) nx
theorem WP.tswOut {dflt low high : Int} {offs : Array Int} {len : Nat} {i : Int32} (hd : decode bytes pc = .ok (.tableswitch dflt low high offs, len)) (hout : i.toInt < low ∨ i.toInt > high) (ho : 0 ≤ (pc : Int) + dflt) (hp : ((pc : Int) + dflt).toNat = pc') (nx : WP l Z C lay own mn bytes maxL ret R n0 ro Q k n pc' L S H) : WP l Z C lay own mn bytes maxL ret R n0 ro Q k n pc L (.int i :: S) H :=
  WP.of (fun p e s m args below meth c T locs ad Ls X A hL hz => ⟨Ls, hL, hz, fun t ht => XS.tswOut X.here A.1 rfl rfl (hb A.2.2.1 hd) rfl hout ho hp ht⟩) nx
theorem tsw_miss {i : Int32} {low high : Int} (h : ∀ z : Int, low ≤ z → z ≤ high → ¬ i = Int32.ofInt z) : i.toInt < low ∨ i.toInt > high := by
  by_cases a : i.toInt < low
  · exact Or.inl a
  · by_cases b : i.toInt > high
    · exact Or.inr b
    · exact absurd (by rw [Int32.ofInt_toInt]) (h i.toInt (by omega) (by omega))
theorem WP.moved (hs : ∀ (p : Program) (e : Env) (s : State) (m : MethodId) (args : Array Value) (below : List Frame) (meth : Method) (c : Code) (T : State) (locs : List Loc) (ad : Nat → Addr) (Ls : Array Slot), Stand p l e R s m args below meth c T locs k n → Am Z own mn bytes maxL ret p s m meth c → HR Z C lay n0 ro ad H T.heap → Fr n0 locs → LR ad L Ls → Ls.size = maxL →
      ∃ T' locs', Stand p l e R s m args below meth c T' locs' k' n' ∧ HR Z C lay n0 ro ad H' T'.heap ∧ Kp ad H.length T.heap T'.heap ∧ Fr n0 locs' ∧ ∀ t, Steps p.tables e below (T'.setTop (mkF m pc' Ls (S'.map (rf ad)))) t → Steps p.tables e below (T.setTop (mkF m pc Ls (S.map (rf ad)))) t)
    (nx : WP l Z C lay own mn bytes maxL ret R n0 ro Q k' n' pc' L S' H') : WP l Z C lay own mn bytes maxL ret R n0 ro Q k n pc L S H := by
  intro p e s m args below meth c T locs ad Ls X A hr N hL hz
  obtain ⟨T', locs', X', hr', K, N', st⟩ := hs p e s m args below meth c T locs ad Ls X A hr N hL hz
  obtain ⟨s₂, v, H2, locs2, h1, h2, h3, h4, h5, h6, h7⟩ := nx p e s m args below meth c T' locs' ad Ls X' A hr' N' hL hz
  exact ⟨s₂, v, H2, locs2, st _ h1, h2, h3, h4, h5, Kp.trans hr K h6, h7⟩
theorem WP.getfield {idx i j : Nat} {f d : String} {vs : List Value} {v : Value} (hd : decode bytes pc = .ok (.getfield idx, 3)) (hw : (Cond.fieldLink own idx C f d).before a0 Z = true) (hj : lay[j]? = some (f, d)) (hH : H[i]? = some (.inl vs)) (hv : vs[j]? = some v) (nx : WP l Z C lay own mn bytes maxL ret R n0 ro Q k n (pc + 3) L (v :: S) H) : WP l Z C lay own mn bytes maxL ret R n0 ro Q k n pc L (.ref i :: S) H :=
  WP.moved (fun p e s m args below meth c T locs ad Ls X A hr N hL hz => by
    have F := (hr.1 i _ hH).2 j _ v hj hv
    obtain ⟨T', X', e', st⟩ := getF X A.1 A.2.1 A.2.2.2.2.2.2.1 (host := "") (Or.inl hw) Via.refl rfl F (g := mkF m pc Ls (.ref (ad i) :: S.map (rf ad))) rfl rfl (hb A.2.2.1 hd)
    exact ⟨T', locs, X', by rw [e']; exact hr, by rw [e']; exact Kp.refl _ _ _, N, fun t ht => st t ht⟩) nx
theorem WP.iaload {i : Nat} {xs : List Int32} {j x : Int32} (hd : decode bytes pc = .ok (.iaload, 1)) (hH : H[i]? = some (cI xs)) (hx : rd xs j = some x) (nx : WP l Z C lay own mn bytes maxL ret R n0 ro Q k n (pc + 1) L (.int x :: S) H) : WP l Z C lay own mn bytes maxL ret R n0 ro Q k n pc L (.int j :: .ref i :: S) H :=
  WP.moved (fun p e s m args below meth c T locs ad Ls X A hr N hL hz => by
    obtain ⟨cl, Ar, hsl⟩ := hr.1 i _ hH
    obtain ⟨q1, q2⟩ := rd_slots hsl hx
    exact ⟨T, locs, X, hr, Kp.refl _ _ _, N, fun t ht => X.iaload A.1 (j := j) Ar.1 (State.isArrayOf_alike A.2.1.alike Ar.2.1) Ar.2.2 q1 q2 (g := mkF m pc Ls (.int j :: .ref (ad i) :: S.map (rf ad))) rfl rfl (hb A.2.2.1 hd) _ ht⟩) nx
theorem WP.laload {i : Nat} {xs : List Int64} {j : Int32} {x : Int64} (hd : decode bytes pc = .ok (.laload, 1)) (hH : H[i]? = some (cJ xs)) (hx : rd xs j = some x) (nx : WP l Z C lay own mn bytes maxL ret R n0 ro Q k n (pc + 1) L (.long x :: S) H) : WP l Z C lay own mn bytes maxL ret R n0 ro Q k n pc L (.int j :: .ref i :: S) H :=
  WP.moved (fun p e s m args below meth c T locs ad Ls X A hr N hL hz => by
    obtain ⟨cl, Ar, hsl⟩ := hr.1 i _ hH
    obtain ⟨q1, q2⟩ := rd_slots hsl hx
    exact ⟨T, locs, X, hr, Kp.refl _ _ _, N, fun t ht => X.laload A.1 (j := j) Ar.1 (State.isArrayOf_alike A.2.1.alike Ar.2.1) Ar.2.2 q1 q2 (g := mkF m pc Ls (.int j :: .ref (ad i) :: S.map (rf ad))) rfl rfl (hb A.2.2.1 hd) _ ht⟩) nx
theorem baloadZ {p : Program} {e : Env} {s : State} {m : MethodId} {args : Array Value} {below : List Frame} {meth : Method} {c : Code} {T : State} {locs : List Loc} {cells slots : Nat} (X : Stand p l e R s m args below meth c T locs cells slots) (hexec : p.tables.exec = Jvm.exec) {a : Addr} {cell : Cell} {j : Int32} {v : Value} (hcell : T.heap[a]? = some cell) (harr : s.isArrayOf cell .boolean) (hknown : cell.vm ≠ .unknown)
    (hin : ¬ (j < 0 ∨ cell.slots.size ≤ j.toNatClampNeg)) (hv : cell.slots[j.toNatClampNeg]? = some v) {g : JFrame} (hg : g.method = m) {rest : List Value} (hstack : g.stack = .int j :: .ref a :: rest) (hdg : decode c.code g.pc = .ok (.baload, 1)) (target : State)
    (hrest : Steps p.tables e below (T.setTop { g with pc := g.pc + 1, stack := v :: rest }) target) : Steps p.tables e below (T.setTop g) target := by
  have hT := State.isArrayOf_alike X.warmed.alike harr
  subst hg
  jvm_step X.here [hexec, hdg, baload.wp_booleans (e := e) (s := T) (f := g) X.here.top hstack hcell hT hin hknown hv]
  exact hrest
theorem WP.baload {i : Nat} {xs : List Int32} {j x : Int32} (hd : decode bytes pc = .ok (.baload, 1)) (hH : H[i]? = some (cZ xs)) (hx : rd xs j = some x) (nx : WP l Z C lay own mn bytes maxL ret R n0 ro Q k n (pc + 1) L (.int x :: S) H) : WP l Z C lay own mn bytes maxL ret R n0 ro Q k n pc L (.int j :: .ref i :: S) H :=
  WP.moved (fun p e s m args below meth c T locs ad Ls X A hr N hL hz => by
    obtain ⟨cl, Ar, hsl⟩ := hr.1 i _ hH
    obtain ⟨q1, q2⟩ := rd_slots hsl hx
    exact ⟨T, locs, X, hr, Kp.refl _ _ _, N, fun t ht => baloadZ X A.1 (j := j) Ar.1 (State.isArrayOf_alike A.2.1.alike Ar.2.1) Ar.2.2 q1 q2 (g := mkF m pc Ls (.int j :: .ref (ad i) :: S.map (rf ad))) rfl rfl (hb A.2.2.1 hd) _ ht⟩) nx
theorem WP.arraylength {i : Nat} {xs : List Int32} (hd : decode bytes pc = .ok (.arraylength, 1)) (hH : H[i]? = some (cI xs)) (nx : WP l Z C lay own mn bytes maxL ret R n0 ro Q k n (pc + 1) L (.int xs.length.toInt32 :: S) H) : WP l Z C lay own mn bytes maxL ret R n0 ro Q k n pc L (.ref i :: S) H :=
  WP.moved (fun p e s m args below meth c T locs ad Ls X A hr N hL hz => by
    obtain ⟨cl, Ar, hsl⟩ := hr.1 i _ hH
    have e1 : cl.slots.size = xs.length := by rw [← Array.length_toList, hsl, List.length_map]
    refine ⟨T, locs, X, hr, Kp.refl _ _ _, N, fun t ht => X.arraylength A.1 Ar.1 (State.isArrayOf_alike A.2.1.alike Ar.2.1) (g := mkF m pc Ls (.ref (ad i) :: S.map (rf ad))) rfl rfl (hb A.2.2.1 hd) _ ?_⟩
    rw [e1]; exact ht) nx
theorem WP.iastore {i : Nat} {xs xs' : List Int32} {j : Int32} {x : Int32} (hd : decode bytes pc = .ok (.iastore, 1)) (hH : H[i]? = some (cI xs)) (hi : ro ≤ i) (hx : wr xs j x = some xs') (hH' : H.set i (cI xs') = H') (nx : WP l Z C lay own mn bytes maxL ret R n0 ro Q k n (pc + 1) L S H') : WP l Z C lay own mn bytes maxL ret R n0 ro Q k n pc L (.int x :: .int j :: .ref i :: S) H :=
  WP.moved (fun p e s m args below meth c T locs ad Ls X A hr N hL hz => by
    obtain ⟨cl, Ar, hsl⟩ := hr.1 i _ hH
    obtain ⟨q1, q2⟩ := wr_slots hsl hx
    obtain ⟨T', h', X', e', w, st⟩ := stI X A.1 A.2.1 rfl Ar (j := j) (x := x) q1 (g := mkF m pc Ls (.int x :: .int j :: .ref (ad i) :: S.map (rf ad))) rfl rfl (hb A.2.2.1 hd)
    subst e'
    have hi' := get_lt hH
    have P := hr.put (h' := T'.heap) (c := cI xs') hi' w.size (fun a cz hne q => by
      obtain ⟨c', g1, -, -, -, g5, -⟩ := wr_at w q
      rw [g5 hne] at g1; exact g1) ⟨_, Ar.same w, q2⟩
    exact ⟨T', _, X', hH' ▸ P.1, P.2, Fr.snoc X' N (hr.2.2.2.1 i hi' hi), fun t ht => st t ht⟩) nx
theorem WP.lastore {i : Nat} {xs xs' : List Int64} {j : Int32} {x : Int64} (hd : decode bytes pc = .ok (.lastore, 1)) (hH : H[i]? = some (cJ xs)) (hi : ro ≤ i) (hx : wr xs j x = some xs') (hH' : H.set i (cJ xs') = H') (nx : WP l Z C lay own mn bytes maxL ret R n0 ro Q k n (pc + 1) L S H') : WP l Z C lay own mn bytes maxL ret R n0 ro Q k n pc L (.long x :: .int j :: .ref i :: S) H :=
  WP.moved (fun p e s m args below meth c T locs ad Ls X A hr N hL hz => by
    obtain ⟨cl, Ar, hsl⟩ := hr.1 i _ hH
    obtain ⟨q1, q2⟩ := wr_slots hsl hx
    obtain ⟨T', h', X', e', w, st⟩ := stJ X A.1 A.2.1 rfl Ar (j := j) (x := x) q1 (g := mkF m pc Ls (.long x :: .int j :: .ref (ad i) :: S.map (rf ad))) rfl rfl (hb A.2.2.1 hd)
    subst e'
    have hi' := get_lt hH
    have P := hr.put (h' := T'.heap) (c := cJ xs') hi' w.size (fun a cz hne q => by
      obtain ⟨c', g1, -, -, -, g5, -⟩ := wr_at w q
      rw [g5 hne] at g1; exact g1) ⟨_, Ar.same w, q2⟩
    exact ⟨T', _, X', hH' ▸ P.1, P.2, Fr.snoc X' N (hr.2.2.2.1 i hi' hi), fun t ht => st t ht⟩) nx
theorem WP.bastore {i : Nat} {xs xs' : List Int32} {j : Int32} {x : Int32} (hd : decode bytes pc = .ok (.bastore, 1)) (hH : H[i]? = some (cZ xs)) (hi : ro ≤ i) (hx : wr xs j (x &&& 1) = some xs') (hH' : H.set i (cZ xs') = H') (nx : WP l Z C lay own mn bytes maxL ret R n0 ro Q k n (pc + 1) L S H') : WP l Z C lay own mn bytes maxL ret R n0 ro Q k n pc L (.int x :: .int j :: .ref i :: S) H :=
  WP.moved (fun p e s m args below meth c T locs ad Ls X A hr N hL hz => by
    obtain ⟨cl, Ar, hsl⟩ := hr.1 i _ hH
    obtain ⟨q1, q2⟩ := wr_slots hsl hx
    obtain ⟨T', h', X', e', w, st⟩ := stZ X A.1 A.2.1 rfl Ar (j := j) (x := x) q1 (g := mkF m pc Ls (.int x :: .int j :: .ref (ad i) :: S.map (rf ad))) rfl rfl (hb A.2.2.1 hd)
    subst e'
    have hi' := get_lt hH
    have P := hr.put (h' := T'.heap) (c := cZ xs') hi' w.size (fun a cz hne q => by
      obtain ⟨c', g1, -, -, -, g5, -⟩ := wr_at w q
      rw [g5 hne] at g1; exact g1) ⟨_, Ar.same w, q2⟩
    exact ⟨T', _, X', hH' ▸ P.1, P.2, Fr.snoc X' N (hr.2.2.2.1 i hi' hi), fun t ht => st t ht⟩) nx
/-- a field of the one class is written -/
theorem WP.put {idx i j kk : Nat} {f d : String} {vs : List Value} {v v' old : Value} {ty : FieldType} (hd : decode bytes pc = .ok (.putfield idx, 3)) (hw : (Cond.fieldLink own idx C f d).before a0 Z = true) (hl : (Cond.lays C C f d).before a0 Z = true ∨ ((Cond.laysFinal C C f d).before a0 Z = true ∧ own = C ∧ mn = "<init>")) (wi : (Cond.instantiable C kk).before a0 Z = true)
    (hlay : ∀ (a b : Nat) (f g : String × String), lay[a]? = some f → lay[b]? = some g → a ≠ b → RoadKit.slotOf Z C f.1 f.2 ≠ RoadKit.slotOf Z C g.1 g.2) (hty : parseFieldDescriptor d = some ty) (hn : ∀ ad, narrow ty (rf ad v) = rf ad v') (hf : ∀ ad, fits ty (rf ad v') = true)
    (hj : lay[j]? = some (f, d)) (hH : H[i]? = some (.inl vs)) (hv : vs[j]? = some old) (hi : ro ≤ i) (hH' : H.set i (.inl (vs.set j v')) = H') (nx : WP l Z C lay own mn bytes maxL ret R n0 ro Q k n (pc + 3) L S H') : WP l Z C lay own mn bytes maxL ret R n0 ro Q k n pc L (v :: .ref i :: S) H :=
  WP.moved (fun p e s m args below meth c T locs ad Ls X A hr N hL hz => by
    obtain ⟨E, F⟩ := hr.1 i _ hH
    obtain ⟨T', h', X', e', w, st⟩ := putFN X A.1 A.2.1 A.2.2.2.2.2.2.1 hw Via.refl rfl (F j _ old hj hv) E (hl.imp id fun q => ⟨q.1, q.2.1, A.2.2.2.2.2.2.2.trans q.2.2⟩) wi hty (hn ad) (hf ad) (g := mkF m pc Ls (rf ad v :: .ref (ad i) :: S.map (rf ad))) rfl rfl (hb A.2.2.1 hd)
    subst e'
    have hi' := get_lt hH
    have P := hr.put (h' := T'.heap) (c := .inl (vs.set j v')) hi' w.size (fun a cz hne q => by
      obtain ⟨c', g1, -, -, -, g5, -⟩ := wr_at w q
      rw [g5 hne] at g1; exact g1) ⟨E.wr w, fun a g u hg hu => by
        rw [List.getElem?_set] at hu
        by_cases e : j = a
        · subst e
          cases hj.symm.trans hg
          rw [if_pos rfl, if_pos (get_lt hv)] at hu
          cases hu
          exact (F j _ old hj hv).same w
        · rw [if_neg e] at hu
          exact (F a g u hg hu).other w (Or.inr (hlay a j g (f, d) hg hj (Ne.symm e)))⟩
    exact ⟨T', _, X', hH' ▸ P.1, P.2, Fr.snoc X' N (hr.2.2.2.1 i hi' hi), fun t ht => st t ht⟩) nx
/-- newarray -/
theorem WP.newarray {aty : ArrayType} {c0 : OwnC} {cnt : Int32} (hd : decode bytes pc = .ok (.newarray aty, 2)) (hw : (Cond.arrayClass (newarray.typeOf aty)).before a0 Z = true) (hn : ¬ cnt < 0) (hb8 : cnt.toNatClampNeg * 8 ≤ 536870912) (hc : k + 1 ≤ R.cells) (hl : n + cnt.toNatClampNeg ≤ R.slots)
    (h0 : (aty = .int ∧ c0 = cI (List.replicate cnt.toNatClampNeg 0)) ∨ (aty = .long ∧ c0 = cJ (List.replicate cnt.toNatClampNeg 0)) ∨ (aty = .boolean ∧ c0 = cZ (List.replicate cnt.toNatClampNeg 0)))
    (nx : WP l Z C lay own mn bytes maxL ret R n0 ro Q (k + 1) (n + cnt.toNatClampNeg) (pc + 2) L (.ref H.length :: S) (H ++ [c0])) : WP l Z C lay own mn bytes maxL ret R n0 ro Q k n pc L (.int cnt :: S) H :=
  WP.moved (fun p e s m args below meth c T locs ad Ls X A hr N hL hz => by
    have hcb : componentBytes (newarray.typeOf aty) ≤ 8 := by cases aty <;> decide
    obtain ⟨cA, kA, comp, h1, h2, h3, X', st⟩ := X.newarrayPrim A.1 (mvA A.2.1 hw) (g := mkF m pc Ls (.int cnt :: S.map (rf ad))) rfl (hb A.2.2.1 hd) rfl hn (Nat.le_trans (Nat.mul_le_mul (Nat.le_refl _) hcb) hb8) hc hl
    rw [A.2.1.alike.findClass] at h1
    obtain ⟨kZ, z1, -⟩ := Vm.findClass_spec h1
    obtain ⟨k', z2, z3⟩ := A.2.1.alike.2.2 _ _ z1
    cases h2.symm.trans z2
    have hE : Ext T.heap (T.heap.push { cls := cA, slots := Array.replicate cnt.toNatClampNeg (defaultValue (newarray.typeOf aty)), vm := .none }) := ⟨by simp, fun a c h => by
      rw [Array.getElem?_push_lt (Array.getElem?_eq_some_iff.mp h).1]; exact (Array.getElem?_eq_getElem _).symm.trans h⟩
    have Ar : Arr Z (T.heap.push { cls := cA, slots := Array.replicate cnt.toNatClampNeg (defaultValue (newarray.typeOf aty)), vm := .none }) T.heap.size { cls := cA, slots := Array.replicate cnt.toNatClampNeg (defaultValue (newarray.typeOf aty)), vm := .none } (newarray.typeOf aty) :=
      ⟨by simp, ⟨by simp, kZ, z1, comp, by rw [← h3, z3]⟩, by simp⟩
    have hc0 : CelOk Z C lay ad (T.heap.push { cls := cA, slots := Array.replicate cnt.toNatClampNeg (defaultValue (newarray.typeOf aty)), vm := .none }) T.heap.size c0 := by
      rcases h0 with ⟨rfl, rfl⟩ | ⟨rfl, rfl⟩ | ⟨rfl, rfl⟩
      all_goals exact ⟨_, Ar, by simp [defaultValue, newarray.typeOf]⟩
    have P := hr.push (h' := T.heap.push _) (by simp) hE hc0
    refine ⟨_, locs, X', P.1, P.2.1, N, fun t ht => st t ?_⟩
    have e0 : (List.map (rf ad) (.ref H.length :: S)) = .ref T.heap.size :: S.map (rf ad) := by show (Value.ref (ad H.length) :: _) = _; rw [P.2.2]
    rw [e0] at ht; exact ht) nx
theorem rf_default (ad : Nat → Addr) (ty : FieldType) : rf ad (defaultValue ty) = defaultValue ty := by cases ty <;> rfl
/-- new -/
theorem WP.new {idx kk : Nat} {vs : List Value} (hd : decode bytes pc = .ok (.new idx, 3)) (hw : (Cond.classLink own idx C).before a0 Z = true) (wi : (Cond.instantiable C kk).before a0 Z = true) (wz : (Cond.initialized C).before a0 Z = true) (hc : k + 1 ≤ R.cells) (hl : n + kk ≤ R.slots)
    (h0 : ∀ (i : Nat) (f : String × String) (v : Value), lay[i]? = some f → vs[i]? = some v → Laid Z a0 C C f.1 f.2 ∧ ∃ ty, parseFieldDescriptor f.2 = some ty ∧ v = defaultValue ty)
    (nx : WP l Z C lay own mn bytes maxL ret R n0 ro Q (k + 1) (n + kk) (pc + 3) L (.ref H.length :: S) (H ++ [.inl vs])) : WP l Z C lay own mn bytes maxL ret R n0 ro Q k n pc L S H :=
  WP.moved (fun p e s m args below meth c T locs ad Ls X A hr N hL hz => by
    obtain ⟨vm', cC, kC, h1, h2, h3, h4, X', st⟩ := X.newCold A.1 A.2.2.2.2.2.2.1 (mv A.2.1 hw) (mv A.2.1 wi) (mv A.2.1 wz) (g := mkF m pc Ls (S.map (rf ad))) rfl (hb A.2.2.1 hd) hc hl
    rw [A.2.1.alike.findClass] at h1
    obtain ⟨kZ, z1, -⟩ := Vm.findClass_spec h1
    obtain ⟨k', z2, z3⟩ := A.2.1.alike.2.2 _ _ z1
    cases h2.symm.trans z2
    have ei : kC.instanceTypes = kZ.instanceTypes := by rw [z3]
    have hN : (T.heap.push { cls := cC, slots := kC.instanceTypes.map defaultValue, vm := .none })[T.heap.size]? = some { cls := cC, slots := kC.instanceTypes.map defaultValue, vm := .none } := by simp
    have hE : Ext T.heap (T.heap.push { cls := cC, slots := kC.instanceTypes.map defaultValue, vm := .none }) := ⟨by simp, fun a c h => by
      rw [Array.getElem?_push_lt (Array.getElem?_eq_some_iff.mp h).1]; exact (Array.getElem?_eq_getElem _).symm.trans h⟩
    have hc0 : CelOk Z C lay ad (T.heap.push { cls := cC, slots := kC.instanceTypes.map defaultValue, vm := .none }) T.heap.size (.inl vs) := by
      refine ⟨⟨_, kZ, hN, h1, z1, rfl, fun _ => by simp [ei]⟩, fun i f v hf hv => ?_⟩
      obtain ⟨La, ty, ht, rfl⟩ := h0 i f v hf hv
      obtain ⟨c1, k1, cf, kf, i1, f1, a1, a2, a3, a4, a5, a6, -⟩ := La.spec
      cases h1.symm.trans a1
      cases z1.symm.trans a2
      rw [rf_default]
      exact ⟨_, cf, kf, i1, f1, hN, a3, a4, by simp, rfl, a5, by simp [ei, a6, (State.fieldFound?_type a3 ht).2]⟩
    have P := hr.push (h' := T.heap.push _) (by simp) hE hc0
    refine ⟨_, locs, X', P.1, P.2.1, N, fun t ht => st t ?_⟩
    have e0 : (List.map (rf ad) (.ref H.length :: S)) = .ref T.heap.size :: S.map (rf ad) := by show (Value.ref (ad H.length) :: _) = _; rw [P.2.2]
    rw [e0] at ht; exact ht) nx
/-- Object.<init> -/
theorem WP.initO {idx i : Nat} (hd : decode bytes pc = .ok (.invokespecial idx, 3)) (w1 : (Cond.methodLink own idx Lib.objectInit).before a0 Z = true) (w2 : (Cond.instanceMethod Lib.objectInit).before a0 Z = true) (w3 : (Cond.code Lib.objectInit ⟨#[0xb1]⟩ 1 none).before a0 Z = true) (hf : 1 ≤ R.frames) (hl : (S.map fun v => v.category).sum + 12 ≤ R.locals)
    (nx : WP l Z C lay own mn bytes maxL ret R n0 ro Q k n (pc + 3) L S H) : WP l Z C lay own mn bytes maxL ret R n0 ro Q k n pc L (.ref i :: S) H :=
  WP.moved (fun p e s m args below meth c T locs ad Ls X A hr N hL hz => by
    obtain ⟨T', X', e', st⟩ := RoadKit.initO X A.1 A.2.1 A.2.2.2.2.2.2.1 w1 w2 w3 rfl (g := mkF m pc Ls (.ref (ad i) :: S.map (rf ad))) rfl (hz.trans A.2.2.2.1.symm) rfl (hb A.2.2.1 hd) hf (W := (S.map fun v => v.category).sum) (by show 2 * 0 + _ ≤ _; rw [rf_cats]; omega) hl
    exact ⟨T', locs, X', by rw [e']; exact hr, by rw [e']; exact Kp.refl _ _ _, N, fun t ht => st t ht⟩) nx
theorem WP.leave {v : Option Value} (hk : k ≤ R.cells) (hn : n ≤ R.slots) (hv : ret = none → v = none) (hq : Q v H)
    (hs : ∀ (p : Program) (e : Env) (s : State) (m : MethodId) (args : Array Value) (below : List Frame) (meth : Method) (c : Code) (T : State) (locs : List Loc) (ad : Nat → Addr) (Ls : Array Slot) (fs : List Frame), Stand p l e R s m args below meth c T locs k n → Am Z own mn bytes maxL ret p s m meth c →
      (∀ (f : JFrame) (acts : List Action), f.method = m → f.locked = none → f.entered = [] → (doReturn e (T.setTop f) acts (v.map (rf ad))).1 = T.setFrames fs) → Steps p.tables e below (T.setTop (mkF m pc Ls (S.map (rf ad)))) (T.setFrames fs)) : WP l Z C lay own mn bytes maxL ret R n0 ro Q k n pc L S H := by
  intro p e s m args below meth c T locs ad Ls X A hr N hL hz
  obtain ⟨fs, hr', hrun, hended, hW, hsame⟩ := X.leave (v := v.map (rf ad)) (fun q => by rw [hv (A.2.2.2.2.1.symm.trans q)]; rfl) A.2.2.2.2.2.1
  exact ⟨_, v, H, locs, hs p e s m args below meth c T locs ad Ls fs X A hr', hrun, hended, hq, hr, Kp.refl _ _ _, N, ⟨_, rfl⟩, hW, hsame.mono hk hn⟩
theorem retI' {p : Program} {e : Env} {s : State} {m : MethodId} {args : Array Value} {below : List Frame} {meth : Method} {c : Code} {T : State} {locs : List Loc} {cells slots : Nat} (X : Stand p l e R s m args below meth c T locs cells slots) (hx : p.tables.exec = Jvm.exec) {pc : Nat} {Ls : Array Slot} {z : Int32} {rest : List Value} (hret : meth.sig.returnType = some .int) (hd : decode c.code pc = .ok (.ireturn, 1)) {fs : List Frame}
    (hl : ∀ (f : JFrame) (acts : List Action), f.method = m → f.locked = none → f.entered = [] → (doReturn e (T.setTop f) acts (some (.int z))).1 = T.setFrames fs) : Steps p.tables e below (T.setTop (mkF m pc Ls (.int z :: rest))) (T.setFrames fs) := by
  have hm' : T.vm.method? m = some meth := X.method'
  have hn : narrow .int (.int z) = .int z := rfl
  show Steps p.tables e below (T.setTop { method := m, pc := pc, locals := Ls, stack := _ :: rest, locked := none }) _
  jvm_step X.here [X.here.top, hx, hd, hm', hret, hn]
  first | (intro acts; rw [hl _ acts rfl rfl rfl]) | rw [hl _ _ rfl rfl rfl]
  exact Steps.refl _
theorem WP.ireturn {x : Int32} (hd : decode bytes pc = .ok (.ireturn, 1)) (hret : ret = some .int) (hk : k ≤ R.cells) (hn : n ≤ R.slots) (hq : Q (some (.int x)) H) : WP l Z C lay own mn bytes maxL ret R n0 ro Q k n pc L (.int x :: S) H :=
  WP.leave (v := some (.int x)) hk hn (fun q => by rw [hret] at q; cases q) hq fun p e s m args below meth c T locs ad Ls fs X A hr' => retI' X A.1 (A.2.2.2.2.1.trans hret) (hb A.2.2.1 hd) hr'
theorem WP.zreturn {x : Int32} (hd : decode bytes pc = .ok (.ireturn, 1)) (hret : ret = some .boolean) (hk : k ≤ R.cells) (hn : n ≤ R.slots) (hq : Q (some (.int (x &&& 1))) H) : WP l Z C lay own mn bytes maxL ret R n0 ro Q k n pc L (.int x :: S) H :=
  WP.leave (v := some (.int (x &&& 1))) hk hn (fun q => by rw [hret] at q; cases q) hq fun p e s m args below meth c T locs ad Ls fs X A hr' => retN X A.1 (t := .boolean) (A.2.2.2.2.1.trans hret) (Or.inl rfl) (hb A.2.2.1 hd) hr'
theorem WP.lreturn {x : Int64} (hd : decode bytes pc = .ok (.lreturn, 1)) (hret : ret = some .long) (hk : k ≤ R.cells) (hn : n ≤ R.slots) (hq : Q (some (.long x)) H) : WP l Z C lay own mn bytes maxL ret R n0 ro Q k n pc L [.long x] H :=
  WP.leave (v := some (.long x)) hk hn (fun q => by rw [hret] at q; cases q) hq fun p e s m args below meth c T locs ad Ls fs X A hr' => X.lreturnOut A.1 (A.2.2.2.2.1.trans hret) (hb A.2.2.1 hd) hr'
theorem WP.vreturn (hd : decode bytes pc = .ok (.return_, 1)) (hret : ret = none) (hk : k ≤ R.cells) (hn : n ≤ R.slots) (hq : Q none H) : WP l Z C lay own mn bytes maxL ret R n0 ro Q k n pc L [] H :=
  WP.leave (v := none) hk hn (fun _ => rfl) hq fun p e s m args below meth c T locs ad Ls fs X A hr' => X.returnOut A.1 (A.2.2.2.2.1.trans hret) (hb A.2.2.1 hd) hr'
end Rules
/-! ## a callee's promise, said of the small view -/
def QQ (Z : State) (C : String) (lay : List (String × String)) (n0 ro : Nat) (ad : Nat → Addr) (N : Nat) (h : Heap) (Q : Option Value → List OwnC → Prop) (v : Option Value) (h' : Heap) (L : List Loc) : Prop :=
  ∃ w H', v = w.map (rf ad) ∧ Q w H' ∧ HR Z C lay n0 ro ad H' h' ∧ Kp ad N h h' ∧ Fr n0 L
def CS (l : Launch) (Z : State) (C : String) (lay : List (String × String)) (y : MethodName) (bytes : ByteArray) (maxL : Nat) (ret : Option FieldType) (R : Room) (ro : Nat) (as : List Value) (H : List OwnC) (Q : Option Value → List OwnC → Prop) : Prop :=
  ∀ (ws : List Cond) (n0 : Nat) (ad : Nat → Addr) (h : Heap), HR Z C lay n0 ro ad H h →
    MetFree l y (head1 (Cond.code y bytes maxL ret :: ws) R) (fun a U => a = (as.map (rf ad)).toArray ∧ Z.Warmed39 U.vm ∧ U.heap = h) (fun _ _ _ _ _ => True)
      (fun _ U o U' => ∃ v L, o = .returned v ∧ QQ Z C lay n0 ro ad H.length h Q v U'.heap L ∧ FrameEnd U o U' L R.cells R.slots)
section Calls
variable {l : Launch} {Z : State} {a0 : Array Value} {C : String} {lay : List (String × String)} {own mn : String} {bytes cb : ByteArray} {maxL cm : Nat} {ret cr : Option FieldType} {R Rc : Room} {n0 ro : Nat} {Q Qc : Option Value → List OwnC → Prop} {k n pc pc' : Nat} {L L' : List Slot} {S S0 as : List Value} {H H' : List OwnC} {y : MethodName}
theorem CS.of_wp (hx : plainName y.cls = true) (hn : (laid as).length ≤ maxL) (w : ∀ n0, WP l Z C lay y.cls y.name bytes maxL ret R n0 ro Q 0 0 0 (entL as maxL) [] H) : CS l Z C lay y bytes maxL ret R ro as H Q := by
  intro ws n0 ad h hr
  refine MetFree.of_bodySF (plainFor_of_name hx) hisR ?_
  intro p e s m args below meth c s₁ Bd hml0 hP hK
  obtain ⟨rfl, hZ, hh⟩ := hP
  have e0 : s₁.heap = h := by rw [← hh, Bd.state]; rfl
  obtain ⟨E1, E2⟩ := entry_LR ad as maxL hn
  obtain ⟨s₂, v, H', locs', h1, h2, h3, h4, h5, h6, h7, h8⟩ := w n0 p e s m _ below meth c s₁ [] ad _ (Stand.of_body Bd) ⟨Bd.exec, hZ, Bd.bytes, hml0, Bd.returns, Bd.notSynchronized, findClass_of_methodNamed Bd.named, (name_of_methodNamed Bd.named Bd.method).1⟩ (by rw [e0]; exact hr) (Fr.nil n0) E1 E2
  rw [e0] at h6
  exact ⟨s₂, _, h1, h2, h3, _, locs', rfl, ⟨v, H', rfl, h4, h5, h6, h7⟩, h8⟩
theorem CS.mono (cs : CS l Z C lay y bytes maxL ret R ro as H Q) (h : ∀ v H', Q v H' → Qc v H') : CS l Z C lay y bytes maxL ret R ro as H Qc := by
  intro ws n0 ad hh hr p e ha hc hk s m args below hf happ hP hK
  obtain ⟨N, o, h1, h2, h3, v, L, h4, ⟨w, H', g1, g2, g3⟩, h5⟩ := cs ws n0 ad hh hr p e ha hc hk s m args below hf happ hP hK
  exact ⟨N, o, h1, h2, h3, v, L, h4, ⟨w, H', g1, h _ _ g2, g3⟩, h5⟩
/-- what every call leaves: the walk goes on behind it -/
theorem go_on {p : Program} {e : Env} {s : State} {m : MethodId} {args : Array Value} {below : List Frame} {meth : Method} {c : Code} {T : State} {locs : List Loc} {ad : Nat → Addr} {Ls : Array Slot} {B : Pt} {v : Option Value} {Lc : List Loc} {s₀ : State}
    (nx : ∀ v H', Qc v H' → WP l Z C lay own mn bytes maxL ret R n0 ro Q (k + Rc.cells) (n + Rc.slots) (pc + 3) L (v.toList ++ S) H') (X : Stand p l e R s m args below meth c B.U B.locs B.cells B.slots) (A : Am Z own mn bytes maxL ret p s m meth c) (hr : HR Z C lay n0 ro ad H T.heap) (N : Fr n0 locs) (hL : LR ad L Ls) (hz : Ls.size = maxL)
    (hQ : QQ Z C lay n0 ro ad H.length T.heap Qc v B.U.heap Lc) (e1 : B.locs = locs ++ Lc) (e2 : B.cells = k + Rc.cells) (e3 : B.slots = n + Rc.slots) (st : Steps p.tables e below s₀ (B.U.setTop (mkF m (pc + 3) Ls (v.toList ++ S.map (rf ad))))) :
    ∃ (s₂ : State) (v : Option Value) (H' : List OwnC) (locs' : List Loc), Steps p.tables e below s₀ s₂ ∧ s₂.status = .running ∧ Ended s₂ below (.returned (v.map (rf ad))) ∧ Q v H' ∧ HR Z C lay n0 ro ad H' s₂.heap ∧ Kp ad H.length T.heap s₂.heap ∧ Fr n0 locs' ∧ FrameEnd s (.returned (v.map (rf ad))) s₂ locs' R.cells R.slots := by
  obtain ⟨w, H1, rfl, g2, g3, g4, g5⟩ := hQ
  rw [e1, e2, e3] at X
  obtain ⟨s₂, v, H2, locs2, h1, h2, h3, h4, h5, h6, h7⟩ := nx w H1 g2 p e s m args below meth c B.U _ ad Ls X A g3 (N.app g5) hL hz
  refine ⟨s₂, v, H2, locs2, st.trans ?_, h2, h3, h4, h5, Kp.trans hr g4 h6, h7⟩
  have e0 : (w.toList ++ S).map (rf ad) = (w.map (rf ad)).toList ++ S.map (rf ad) := by cases w <;> rfl
  rw [← e0]; exact h1
theorem stack_of (ad : Nat → Addr) (h : S0 = as.reverse ++ S) : S0.map (rf ad) = (as.map (rf ad)).reverse ++ S.map (rf ad) := by rw [h, List.map_append, List.map_reverse]
theorem stack_of1 {i : Nat} (ad : Nat → Addr) (h : S0 = as.reverse ++ .ref i :: S) : S0.map (rf ad) = (as.map (rf ad)).reverse ++ .ref (ad i) :: S.map (rf ad) := by rw [h, List.map_append, List.map_reverse]; rfl
theorem WP.callS {idx : Nat} (hd : decode bytes pc = .ok (.invokestatic idx, 3)) (w1 : (Cond.methodLink own idx y).before a0 Z = true) (w2 : (Cond.static y).before a0 Z = true) (w3 : (Cond.initialized y.cls).before a0 Z = true) (w4 : (Cond.code y cb cm cr).before a0 Z = true) (hy : y.cls ≠ "java/lang/invoke/MethodHandle" ∧ y.cls ≠ "java/lang/invoke/VarHandle")
    (cs : CS l Z C lay y cb cm cr Rc ro as H Qc) (hS : S0 = as.reverse ++ S) (hlen : ∀ sig, parseMethodDescriptor y.desc = some sig → as.length = sig.parameters.length) (hf : Rc.frames + 1 ≤ R.frames) (hl : (S.map fun v => v.category).sum + (cm + 11) + Rc.locals ≤ R.locals) (hc : k + Rc.cells ≤ R.cells) (hs : n + Rc.slots ≤ R.slots)
    (nx : ∀ v H', Qc v H' → WP l Z C lay own mn bytes maxL ret R n0 ro Q (k + Rc.cells) (n + Rc.slots) (pc + 3) L (v.toList ++ S) H') : WP l Z C lay own mn bytes maxL ret R n0 ro Q k n pc L S0 H := by
  intro p e s m args below meth c T locs ad Ls X A hr N hL hz
  obtain ⟨v, vm₁, B, hW₁, X', ⟨Lc, hQ, e1, e2, e3⟩, st⟩ := Jvm.LawKit.callS X A.1 (y := y) A.2.2.2.2.2.2.1 (mvT A.2.1 w1) (mvT A.2.1 w2) (mvT A.2.1 w3) (mvT A.2.1 w4) hy
    (backOf (W := (S.map fun v => v.category).sum) (cs [] n0 ad T.heap hr) A.2.1 w4 w3 hf hl) (g := mkF m pc Ls (S0.map (rf ad))) rfl (hz.trans A.2.2.2.1.symm) (argsL := as.map (rf ad)) (rest := S.map (rf ad)) (fun sig q => by rw [List.length_map]; exact hlen sig q) (stack_of ad hS) (by show 2 * 0 + _ ≤ _; rw [rf_cats]; omega) (hb A.2.2.1 hd) (fun _ _ => ⟨rfl, rfl, hc, hs⟩)
  exact go_on (T := T) nx X' A hr N hL hz hQ e1 e2 e3 (st _ (Steps.refl _))
theorem WP.callV {idx i : Nat} {vs : List Value} (hd : decode bytes pc = .ok (.invokevirtual idx, 3)) (w1 : (Cond.methodLink own idx y).before a0 Z = true) (w2 : (Cond.declares y).before a0 Z = true) (w3 : (Cond.selects C y y).before a0 Z = true) (w4 : (Cond.instanceMethod y).before a0 Z = true) (w5 : (Cond.code y cb cm cr).before a0 Z = true) (w6 : (Cond.initialized y.cls).before a0 Z = true) (hy : y.cls ≠ "java/lang/invoke/MethodHandle" ∧ y.cls ≠ "java/lang/invoke/VarHandle")
    (hH : H[i]? = some (.inl vs)) (cs : CS l Z C lay y cb cm cr Rc ro (.ref i :: as) H Qc) (hS : S0 = as.reverse ++ .ref i :: S) (hlen : ∀ sig, parseMethodDescriptor y.desc = some sig → as.length = sig.parameters.length) (hf : Rc.frames + 1 ≤ R.frames) (hl : (S.map fun v => v.category).sum + (cm + 11) + Rc.locals ≤ R.locals) (hc : k + Rc.cells ≤ R.cells) (hs : n + Rc.slots ≤ R.slots)
    (nx : ∀ v H', Qc v H' → WP l Z C lay own mn bytes maxL ret R n0 ro Q (k + Rc.cells) (n + Rc.slots) (pc + 3) L (v.toList ++ S) H') : WP l Z C lay own mn bytes maxL ret R n0 ro Q k n pc L S0 H := by
  intro p e s m args below meth c T locs ad Ls X A hr N hL hz
  obtain ⟨cq, kq, qa, qb, qc⟩ := isOf A.2.1 rfl (hr.1 i _ hH).1
  obtain ⟨v, vm₁, B, hW₁, X', ⟨Lc, hQ, e1, e2, e3⟩, st⟩ := X.virtualBack A.1 (y := y) (z := y) A.2.2.2.2.2.2.1 (mvT A.2.1 w1) (mvT A.2.1 w2) (notFace_of_selects (args := #[]) (mvT A.2.1 w3)) (mvT A.2.1 w3) (mvT A.2.1 w4) hy
    (backOf (W := (S.map fun v => v.category).sum) (cs [] n0 ad T.heap hr) A.2.1 w5 w6 hf hl) qa qc (g := mkF m pc Ls (S0.map (rf ad))) rfl (hz.trans A.2.2.2.1.symm) (Steps.refl _) (argsL := as.map (rf ad)) (rest := S.map (rf ad)) (fun sig q => by rw [List.length_map]; exact hlen sig q) (stack_of1 ad hS) (by show 2 * 0 + _ ≤ _; rw [rf_cats]; omega) (hb A.2.2.1 hd) (fun _ _ => ⟨rfl, rfl, hc, hs⟩)
  exact go_on (T := T) nx X' A hr N hL hz hQ e1 e2 e3 st
theorem WP.callP {idx i kk : Nat} {vs : List Value} (hd : decode bytes pc = .ok (.invokevirtual idx, 3)) (w1 : (Cond.methodLink own idx y).before a0 Z = true) (w2 : (Cond.privateMethod y).before a0 Z = true) (wi : (Cond.instantiable y.cls kk).before a0 Z = true) (w4 : (Cond.instanceMethod y).before a0 Z = true) (w5 : (Cond.code y cb cm cr).before a0 Z = true) (w6 : (Cond.initialized y.cls).before a0 Z = true) (hy : y.cls ≠ "java/lang/invoke/MethodHandle" ∧ y.cls ≠ "java/lang/invoke/VarHandle")
    (hH : H[i]? = some (.inl vs)) (cs : CS l Z C lay y cb cm cr Rc ro (.ref i :: as) H Qc) (hS : S0 = as.reverse ++ .ref i :: S) (hlen : ∀ sig, parseMethodDescriptor y.desc = some sig → as.length = sig.parameters.length) (hf : Rc.frames + 1 ≤ R.frames) (hl : (S.map fun v => v.category).sum + (cm + 11) + Rc.locals ≤ R.locals) (hc : k + Rc.cells ≤ R.cells) (hs : n + Rc.slots ≤ R.slots)
    (nx : ∀ v H', Qc v H' → WP l Z C lay own mn bytes maxL ret R n0 ro Q (k + Rc.cells) (n + Rc.slots) (pc + 3) L (v.toList ++ S) H') : WP l Z C lay own mn bytes maxL ret R n0 ro Q k n pc L S0 H := by
  intro p e s m args below meth c T locs ad Ls X A hr N hL hz
  obtain ⟨cq, q, q'⟩ := (hr.1 i _ hH).1.cell
  have hpr : s.PrivateAt y := Cond.privateMethod_at (mvP A.2.1 w2 (args := #[]))
  have hin : (Cond.instanceMethod y).before args s = true := mvT A.2.1 w4
  have hsel : (Cond.selects y.cls y y).before args s = true := by
    have wi' : (Cond.instantiable y.cls kk).before args s = true := mvT A.2.1 wi
    obtain ⟨c1, k1, g1, g2, g3, g4, -⟩ := Cond.instantiable_spec wi'
    have g5 : k1.isInterface = false := by
      cases hq : k1.isInterface
      · rfl
      · rw [hq] at g4; cases g4
    exact selects_self_of_private g1 g2 g5 hpr hin hy
  obtain ⟨v, vm₁, B, hW₁, X', ⟨Lc, hQ, e1, e2, e3⟩, st⟩ := X.privateBack A.1 (y := y) A.2.2.2.2.2.2.1 (mvT A.2.1 w1) hin hsel hpr (mvT A.2.1 w5) hy
    (backOf (W := (S.map fun v => v.category).sum) (cs [] n0 ad T.heap hr) A.2.1 w5 w6 hf hl) (g := mkF m pc Ls (S0.map (rf ad))) rfl (hz.trans A.2.2.2.1.symm) (Steps.refl _) q q' (argsL := as.map (rf ad)) (rest := S.map (rf ad)) (fun sig q => by rw [List.length_map]; exact hlen sig q) (stack_of1 ad hS) (by show 2 * 0 + _ ≤ _; rw [rf_cats]; omega) (hb A.2.2.1 hd) (fun _ _ => ⟨rfl, rfl, hc, hs⟩)
  exact go_on (T := T) nx X' A hr N hL hz hQ e1 e2 e3 st
theorem WP.callI {idx i : Nat} (hd : decode bytes pc = .ok (.invokespecial idx, 3)) (hn1 : y.name = "<init>") (w1 : (Cond.methodLink own idx y).before a0 Z = true) (w4 : (Cond.instanceMethod y).before a0 Z = true) (w5 : (Cond.code y cb cm none).before a0 Z = true) (w6 : (Cond.initialized y.cls).before a0 Z = true) (hy : y.cls ≠ "java/lang/invoke/MethodHandle" ∧ y.cls ≠ "java/lang/invoke/VarHandle")
    (cs : CS l Z C lay y cb cm none Rc ro (.ref i :: as) H Qc) (hS : S0 = as.reverse ++ .ref i :: S) (hlen : ∀ sig, parseMethodDescriptor y.desc = some sig → as.length = sig.parameters.length) (hf : Rc.frames + 1 ≤ R.frames) (hl : (S.map fun v => v.category).sum + (cm + 11) + Rc.locals ≤ R.locals) (hc : k + Rc.cells ≤ R.cells) (hs : n + Rc.slots ≤ R.slots)
    (nx : ∀ v H', Qc v H' → WP l Z C lay own mn bytes maxL ret R n0 ro Q (k + Rc.cells) (n + Rc.slots) (pc + 3) L (v.toList ++ S) H') : WP l Z C lay own mn bytes maxL ret R n0 ro Q k n pc L S0 H := by
  intro p e s m args below meth c T locs ad Ls X A hr N hL hz
  obtain ⟨v, vm₁, B, hW₁, X', ⟨Lc, hQ, e1, e2, e3⟩, st⟩ := X.specialBack A.1 (y := y) hn1 A.2.2.2.2.2.2.1 (mvT A.2.1 w1) (mvT A.2.1 w4) (mvT A.2.1 w5) hy
    (backOf (W := (S.map fun v => v.category).sum) (cs [] n0 ad T.heap hr) A.2.1 w5 w6 hf hl) (g := mkF m pc Ls (S0.map (rf ad))) rfl (hz.trans A.2.2.2.1.symm) (Steps.refl _) (a := ad i) (argsL := as.map (rf ad)) (rest := S.map (rf ad)) (fun sig q => by rw [List.length_map]; exact hlen sig q) (stack_of1 ad hS) (by show 2 * 0 + _ ≤ _; rw [rf_cats]; omega) (hb A.2.2.1 hd) (fun _ _ => ⟨rfl, rfl, hc, hs⟩)
  exact go_on (T := T) nx X' A hr N hL hz hQ e1 e2 e3 st
end Calls
/-! ## a callee that sees a part of the heap -/
def rn (ρ : Nat → Nat) : Value → Value
  | .ref i => .ref (ρ i)
  | .int x => .int x
  | .long x => .long x
  | .float x => .float x
  | .double x => .double x
  | .null => .null
  | .retAddr x => .retAddr x
theorem rf_rn (ad : Nat → Addr) (ρ : Nat → Nat) (v : Value) : rf ad (rn ρ v) = rf (fun j => ad (ρ j)) v := by cases v <;> rfl
def rnC (ρ : Nat → Nat) : OwnC → OwnC
  | .inl vs => .inl (vs.map (rn ρ))
  | .inr x => .inr x
theorem CelOk_rn {Z : State} {C : String} {lay : List (String × String)} {ad : Nat → Addr} {ρ : Nat → Nat} {h : Heap} {a : Addr} {c : OwnC} : CelOk Z C lay ad h a (rnC ρ c) ↔ CelOk Z C lay (fun j => ad (ρ j)) h a c := by
  rcases c with vs | xs | xs | xs
  · constructor
    · rintro ⟨E, F⟩
      refine ⟨E, fun i f v hf hv => ?_⟩
      have := F i f (rn ρ v) hf (by rw [List.getElem?_map, hv]; rfl)
      rwa [rf_rn] at this
    · rintro ⟨E, F⟩
      refine ⟨E, fun i f v hf hv => ?_⟩
      rw [List.getElem?_map] at hv
      obtain ⟨w, hw, rfl⟩ := Option.map_eq_some_iff.mp hv
      rw [rf_rn]; exact F i f w hf hw
  all_goals exact Iff.rfl
def patch (ρ : Nat → Nat) : List Nat → List OwnC → List OwnC → List OwnC
  | [], D, H => H ++ D.map (rnC ρ)
  | i :: is, c :: D, H => patch ρ is D (H.set i (rnC ρ c))
  | _ :: _, [], H => H
theorem patch_seg (ρ : Nat → Nat) : ∀ (D B A C : List OwnC), B.length = D.length → patch ρ (List.range' A.length D.length) D (A ++ (B ++ C)) = A ++ (D.map (rnC ρ) ++ C)
  | [], B, A, C, h => by
    obtain rfl : B = [] := List.eq_nil_of_length_eq_zero h
    simp [patch]
  | d :: D, [], A, C, h => by simp at h
  | d :: D, b :: B, A, C, h => by
    have h' : B.length = D.length := by simpa using h
    have ih := patch_seg ρ D B (A ++ [rnC ρ d]) C h'
    rw [List.length_append] at ih
    show patch ρ (List.range' (A.length + 1) D.length) D ((A ++ (b :: B ++ C)).set A.length (rnC ρ d)) = _
    rw [List.set_append_right _ _ (Nat.le_refl _), Nat.sub_self]
    simpa using ih
theorem patch_len (ρ : Nat → Nat) : ∀ (foot : List Nat) (D H : List OwnC), foot.length ≤ D.length → (patch ρ foot D H).length = H.length + (D.length - foot.length)
  | [], D, H, _ => by simp [patch]
  | i :: is, [], H, h => by simp at h
  | i :: is, c :: D, H, h => by
    show (patch ρ is D (H.set i (rnC ρ c))).length = _
    rw [patch_len ρ is D _ (by simpa using h)]; simp
theorem patch_out (ρ : Nat → Nat) : ∀ (foot : List Nat) (D H : List OwnC) (i : Nat), i < H.length → i ∉ foot → (patch ρ foot D H)[i]? = H[i]?
  | [], D, H, i, hi, _ => by simp [patch, List.getElem?_append_left hi]
  | j :: is, [], H, i, _, _ => rfl
  | j :: is, c :: D, H, i, hi, hn => by
    show (patch ρ is D (H.set j (rnC ρ c)))[i]? = _
    rw [patch_out ρ is D _ i (by simpa using hi) (fun q => hn (List.mem_cons_of_mem _ q)), List.getElem?_set_ne (fun q => hn (by rw [q]; exact List.mem_cons_self ..))]
theorem patch_new (ρ : Nat → Nat) : ∀ (foot : List Nat) (D H : List OwnC) (t : Nat), foot.length ≤ D.length → (patch ρ foot D H)[H.length + t]? = (D[foot.length + t]?).map (rnC ρ)
  | [], D, H, t, _ => by simp [patch, List.getElem?_append_right (Nat.le_add_right _ _)]
  | i :: is, [], H, _, h => by simp at h
  | i :: is, c :: D, H, t, h => by
    show (patch ρ is D (H.set i (rnC ρ c)))[H.length + t]? = _
    have := patch_new ρ is D (H.set i (rnC ρ c)) t (by simpa using h)
    rw [List.length_set] at this
    rw [this]; simp [Nat.add_right_comm _ 1 t]
theorem patch_in (ρ : Nat → Nat) : ∀ (foot : List Nat) (D H : List OwnC) (j i : Nat), foot.Nodup → (∀ x ∈ foot, x < H.length) → foot[j]? = some i → foot.length ≤ D.length → (patch ρ foot D H)[i]? = (D[j]?).map (rnC ρ)
  | [], D, H, j, i, _, _, h, _ => by simp at h
  | x :: is, [], H, j, i, _, _, _, h => by simp at h
  | x :: is, c :: D, H, 0, i, nd, hl, h, _ => by
    obtain rfl : x = i := by simpa using h
    show (patch ρ is D (H.set x (rnC ρ c)))[x]? = _
    rw [patch_out ρ is D _ x (by simpa using hl x (List.mem_cons_self ..)) (List.nodup_cons.mp nd).1]
    simp [hl x (List.mem_cons_self ..)]
  | x :: is, c :: D, H, j + 1, i, nd, hl, h, hd => by
    show (patch ρ is D (H.set x (rnC ρ c)))[i]? = _
    rw [patch_in ρ is D _ j i (List.nodup_cons.mp nd).2 (fun y hy => by simpa using hl y (List.mem_cons_of_mem _ hy)) (by simpa using h) (by simpa using hd)]
    simp
def ro1 (foot : List Nat) (N : Nat) (j : Nat) : Nat := if j < foot.length then foot.getD j 0 else N + (j - foot.length)
theorem ro1_in {foot : List Nat} {N j i : Nat} (h : foot[j]? = some i) : ro1 foot N j = i := by
  have hj := get_lt h
  unfold ro1
  rw [if_pos hj, List.getD_eq_getElem?_getD, h]; rfl
theorem ro1_new (foot : List Nat) (N t : Nat) : ro1 foot N (foot.length + t) = N + t := by
  unfold ro1
  rw [if_neg (by omega)]; omega
theorem CS.frame {l : Launch} {Z : State} {C : String} {lay : List (String × String)} {y : MethodName} {bytes : ByteArray} {maxL : Nat} {ret : Option FieldType} {R : Room} {ro roc : Nat} {as asc : List Value} {H Hc : List OwnC} {Qc : Option Value → List OwnC → Prop} (foot : List Nat)
    (cs : CS l Z C lay y bytes maxL ret R roc asc Hc Qc) (hlen : Hc.length = foot.length) (hnd : foot.Nodup) (hlt : ∀ x ∈ foot, x < H.length) (hcell : foot.map (fun i => H[i]?) = Hc.map (fun c => some (rnC (ro1 foot H.length) c))) (hro : ∀ x ∈ foot.drop roc, ro ≤ x) (has : asc.map (rn (ro1 foot H.length)) = as) :
    CS l Z C lay y bytes maxL ret R ro as H (fun v H' => ∃ vc D, Qc vc D ∧ v = vc.map (rn (ro1 foot H.length)) ∧ H' = patch (ro1 foot H.length) foot D H) := by
  intro ws n0 ad h hr
  obtain ⟨r1, r2, r3, r4, r5⟩ := hr
  have cellAt : ∀ (j i : Nat), foot[j]? = some i → ∃ c, Hc[j]? = some c ∧ H[i]? = some (rnC (ro1 foot H.length) c) := fun j i hj => by
    have h1 : (foot.map (fun i => H[i]?))[j]? = some H[i]? := by rw [List.getElem?_map, hj]; rfl
    rw [hcell, List.getElem?_map] at h1
    obtain ⟨c, e1, e2⟩ := Option.map_eq_some_iff.mp h1
    exact ⟨c, e1, e2.symm⟩
  have idx : ∀ j : Nat, j < foot.length → ∃ i, foot[j]? = some i ∧ i < H.length := fun j hj => ⟨_, List.getElem?_eq_getElem hj, hlt _ (List.getElem_mem hj)⟩
  have hrc : HR Z C lay n0 roc (fun j => ad (ro1 foot H.length j)) Hc h := by
    refine ⟨fun j c hj => ?_, fun i j hi hj q => ?_, fun t => ?_, fun j hj hr => ?_, r5⟩
    · obtain ⟨i, e1, e2⟩ := idx j (hlen ▸ get_lt hj)
      obtain ⟨c', g1, g2⟩ := cellAt j i e1
      cases g1.symm.trans hj
      show CelOk Z C lay (fun j => ad (ro1 foot H.length j)) h (ad (ro1 foot H.length j)) c
      rw [ro1_in e1]
      exact CelOk_rn.mp (r1 i _ g2)
    · rw [hlen] at hi hj
      obtain ⟨i', e1, e2⟩ := idx i hi
      obtain ⟨j', g1, g2⟩ := idx j hj
      dsimp only at q
      rw [ro1_in e1, ro1_in g1] at q
      have q' := r2 _ _ e2 g2 q
      subst q'
      exact (List.getElem?_inj hi hnd).mp (e1.trans g1.symm)
    · dsimp only
      rw [hlen, ro1_new]; exact r3 t
    · rw [hlen] at hj
      obtain ⟨i', e1, e2⟩ := idx j hj
      dsimp only
      rw [ro1_in e1]; refine r4 _ e2 (hro i' (List.mem_of_getElem? (i := j - roc) ?_)); rw [List.getElem?_drop, Nat.add_sub_cancel' hr]; exact e1
  intro p e ha hc hk s m args below hf happ hP hK
  have eas : (asc.map (rf fun j => ad (ro1 foot H.length j))) = as.map (rf ad) := by
    rw [← has, List.map_map]; congr 1; funext v; exact (rf_rn ad _ v).symm
  obtain ⟨N, o, h1, h2, h3, v, L, h4, ⟨w, D, rfl, g2, g3, g4, g5⟩, h5⟩ := cs ws n0 _ h hrc p e ha hc hk s m args below hf happ (by rw [eas]; exact hP) hK
  refine ⟨N, o, h1, h2, h3, _, L, h4, ⟨w.map (rn (ro1 foot H.length)), patch (ro1 foot H.length) foot D H, ?_, ⟨w, D, g2, rfl, rfl⟩, ?_, ?_, g5⟩, h5⟩
  · cases w with
    | none => rfl
    | some w => exact congrArg some (rf_rn ad _ w).symm
  · generalize hU : (stepsAlone p.tables e N s).heap = h' at g3 g4
    obtain ⟨d1, d2, d3, d4, d5⟩ := g3
    have hD : foot.length ≤ D.length := by
      by_cases q : foot.length ≤ D.length
      · exact q
      · exfalso
        obtain ⟨i, e1, e2⟩ := idx D.length (by omega)
        have z := d3 0
        simp only [Nat.add_zero] at z
        rw [ro1_in e1] at z
        obtain ⟨c', -, g2'⟩ := cellAt _ i e1
        have a1 := (r1 i _ g2').lt
        rw [z] at a1
        exact absurd a1 (Nat.not_lt.mpr g4.1)
    have hPl := patch_len (ro1 foot H.length) foot D H hD
    have old : ∀ i, i < H.length → ad i < h.size := fun i hi => (r1 i _ (List.getElem?_eq_getElem hi)).lt
    have new : ∀ i, H.length ≤ i → h.size ≤ ad i := fun i hi => by
      obtain ⟨t, rfl⟩ := Nat.exists_eq_add_of_le hi
      rw [r3 t]; exact Nat.le_add_right _ _
    refine ⟨fun i c hi => ?_, fun i j hi hj q => ?_, fun t => ?_, fun i hi hr => ?_, Nat.le_trans r5 g4.1⟩
    · by_cases hl : i < H.length
      · by_cases hm : i ∈ foot
        · obtain ⟨j, hj⟩ := List.getElem?_of_mem hm
          rw [patch_in _ foot D H j i hnd hlt hj hD] at hi
          obtain ⟨c', e1, rfl⟩ := Option.map_eq_some_iff.mp hi
          have := d1 j c' e1
          dsimp only at this
          rw [ro1_in hj] at this
          exact CelOk_rn.mpr this
        · rw [patch_out _ foot D H i hl hm] at hi
          refine (r1 i c hi).keep fun cz q => g4.2 _ cz q fun j hj q' => ?_
          rw [hlen] at hj
          obtain ⟨i', e1, e2⟩ := idx j hj
          dsimp only at q'
          rw [ro1_in e1] at q'
          have := r2 _ _ e2 hl q'
          subst this
          exact hm (List.mem_of_getElem? e1)
      · obtain ⟨t, rfl⟩ := Nat.exists_eq_add_of_le (Nat.le_of_not_lt hl)
        rw [patch_new _ foot D H t hD] at hi
        obtain ⟨c', e1, rfl⟩ := Option.map_eq_some_iff.mp hi
        have := d1 _ c' e1
        dsimp only at this
        rw [ro1_new] at this
        exact CelOk_rn.mpr this
    · by_cases a1 : i < H.length
      · by_cases a2 : j < H.length
        · exact r2 _ _ a1 a2 q
        · have b1 := old i a1
          rw [q] at b1
          exact absurd b1 (Nat.not_lt.mpr (new j (Nat.le_of_not_lt a2)))
      · by_cases a2 : j < H.length
        · have b1 := new i (Nat.le_of_not_lt a1)
          rw [q] at b1
          exact absurd (old j a2) (Nat.not_lt.mpr b1)
        · obtain ⟨t, rfl⟩ := Nat.exists_eq_add_of_le (Nat.le_of_not_lt a1)
          obtain ⟨t', rfl⟩ := Nat.exists_eq_add_of_le (Nat.le_of_not_lt a2)
          rw [r3, r3] at q; exact congrArg (H.length + ·) (Nat.add_left_cancel q)
    · have z := d3 t
      dsimp only at z
      have e1 : D.length + t = foot.length + (D.length - foot.length + t) := by omega
      rw [e1, ro1_new] at z
      rw [hPl, Nat.add_assoc]; exact z
    · by_cases a1 : i < H.length
      · exact r4 i a1 hr
      · exact Nat.le_trans r5 (new i (Nat.le_of_not_lt a1))
  · refine ⟨g4.1, fun a cz hz hn => g4.2 a cz hz fun j hj q => ?_⟩
    rw [hlen] at hj
    obtain ⟨i', e1, e2⟩ := idx j hj
    dsimp only at q
    rw [ro1_in e1] at q
    exact hn i' e2 q
/-! ## an object's state: ints (and booleans), longs, int[] (and boolean[]), long[], each by a number -/
abbrev St : Type := (Nat → Int32) × (Nat → Int64) × (Nat → List Int32) × (Nat → List Int64)
def upd {α : Type} (f : Nat → α) (i : Nat) (v : α) : Nat → α := fun j => if j = i then v else f j
def gI (s : St) (i : Nat) : Int32 := s.1 i
def gJ (s : St) (i : Nat) : Int64 := s.2.1 i
def gA (s : St) (i : Nat) : List Int32 := s.2.2.1 i
def gB (s : St) (i : Nat) : List Int64 := s.2.2.2 i
def sI (s : St) (i : Nat) (v : Int32) : St := (upd s.1 i v, s.2.1, s.2.2.1, s.2.2.2)
def sJ (s : St) (i : Nat) (v : Int64) : St := (s.1, upd s.2.1 i v, s.2.2.1, s.2.2.2)
def sA (s : St) (i : Nat) (v : List Int32) : St := (s.1, s.2.1, upd s.2.2.1 i v, s.2.2.2)
def sB (s : St) (i : Nat) (v : List Int64) : St := (s.1, s.2.1, s.2.2.1, upd s.2.2.2 i v)
theorem gI_sI (s : St) (i j : Nat) (v : Int32) : gI (sI s i v) j = if j = i then v else gI s j := rfl
theorem gI_sJ (s : St) (i j : Nat) (v : Int64) : gI (sJ s i v) j = gI s j := rfl
theorem gI_sA (s : St) (i j : Nat) (v : List Int32) : gI (sA s i v) j = gI s j := rfl
theorem gI_sB (s : St) (i j : Nat) (v : List Int64) : gI (sB s i v) j = gI s j := rfl
theorem gJ_sI (s : St) (i j : Nat) (v : Int32) : gJ (sI s i v) j = gJ s j := rfl
theorem gJ_sJ (s : St) (i j : Nat) (v : Int64) : gJ (sJ s i v) j = if j = i then v else gJ s j := rfl
theorem gJ_sA (s : St) (i j : Nat) (v : List Int32) : gJ (sA s i v) j = gJ s j := rfl
theorem gJ_sB (s : St) (i j : Nat) (v : List Int64) : gJ (sB s i v) j = gJ s j := rfl
theorem gA_sI (s : St) (i j : Nat) (v : Int32) : gA (sI s i v) j = gA s j := rfl
theorem gA_sJ (s : St) (i j : Nat) (v : Int64) : gA (sJ s i v) j = gA s j := rfl
theorem gA_sA (s : St) (i j : Nat) (v : List Int32) : gA (sA s i v) j = if j = i then v else gA s j := rfl
theorem gA_sB (s : St) (i j : Nat) (v : List Int64) : gA (sB s i v) j = gA s j := rfl
theorem gB_sI (s : St) (i j : Nat) (v : Int32) : gB (sI s i v) j = gB s j := rfl
theorem gB_sJ (s : St) (i j : Nat) (v : Int64) : gB (sJ s i v) j = gB s j := rfl
theorem gB_sA (s : St) (i j : Nat) (v : List Int32) : gB (sA s i v) j = gB s j := rfl
theorem gB_sB (s : St) (i j : Nat) (v : List Int64) : gB (sB s i v) j = if j = i then v else gB s j := rfl
def wrA (s : St) (i : Nat) (j x : Int32) : Option St := (wr (gA s i) j x).map (sA s i)
def wrB (s : St) (i : Nat) (j : Int32) (x : Int64) : Option St := (wr (gB s i) j x).map (sB s i)
theorem wrA_e {s s' : St} {i : Nat} {j x : Int32} (h : wrA s i j x = some s') : ∃ ys, wr (gA s i) j x = some ys ∧ s' = sA s i ys := by
  obtain ⟨ys, h1, h2⟩ := Option.map_eq_some_iff.mp h
  exact ⟨ys, h1, h2.symm⟩
theorem wrB_e {s s' : St} {i : Nat} {j : Int32} {x : Int64} (h : wrB s i j x = some s') : ∃ ys, wr (gB s i) j x = some ys ∧ s' = sB s i ys := by
  obtain ⟨ys, h1, h2⟩ := Option.map_eq_some_iff.mp h
  exact ⟨ys, h1, h2.symm⟩
def lt {α β : Type} (x : α) (f : α → β) : β := f x
theorem lt_e {α β : Type} {x : α} {f : α → β} {r : β} (h : lt x f = r) : ∃ y, y = x ∧ f y = r := ⟨x, rfl, h⟩
theorem ite_e {α : Type} {c : Prop} [Decidable c] {a b r : α} (h : (if c then a else b) = r) : (c ∧ a = r) ∨ (¬ c ∧ b = r) := by
  by_cases hc : c
  · rw [if_pos hc] at h; exact Or.inl ⟨hc, h⟩
  · rw [if_neg hc] at h; exact Or.inr ⟨hc, h⟩
theorem nz_e {α : Type} {c : Prop} [Decidable c] {b : Option α} {r : α} (h : (if c then none else b) = some r) : ¬ c ∧ b = some r := by
  by_cases hc : c
  · rw [if_pos hc] at h; cases h
  · rw [if_neg hc] at h; exact ⟨hc, h⟩
/-! the class's fields -/
def LaidAll (Z : State) (a0 : Array Value) (C : String) : List (String × String) → List Value → Prop
  | f :: fs, v :: vs => (Laid Z a0 C C f.1 f.2 ∧ ∃ ty, parseFieldDescriptor f.2 = some ty ∧ v = defaultValue ty) ∧ LaidAll Z a0 C fs vs
  | [], [] => True
  | _, _ => False
theorem LaidAll.new {Z : State} {a0 : Array Value} {C : String} : ∀ {lay : List (String × String)} {vs : List Value}, LaidAll Z a0 C lay vs → ∀ (i : Nat) (f : String × String) (v : Value), lay[i]? = some f → vs[i]? = some v → Laid Z a0 C C f.1 f.2 ∧ ∃ ty, parseFieldDescriptor f.2 = some ty ∧ v = defaultValue ty
  | [], [], _, i, f, v, h, _ => by simp at h
  | g :: fs, w :: vs, h, 0, f, v, h1, h2 => by
    obtain rfl : g = f := by simpa using h1
    obtain rfl : w = v := by simpa using h2
    exact h.1
  | g :: fs, w :: vs, h, i + 1, f, v, h1, h2 => LaidAll.new h.2 i f v (by simpa using h1) (by simpa using h2)
theorem LaidAll.len {Z : State} {a0 : Array Value} {C : String} : ∀ {lay : List (String × String)} {vs : List Value}, LaidAll Z a0 C lay vs → lay.length = vs.length
  | [], [], _ => rfl
  | g :: fs, w :: vs, h => congrArg Nat.succ (LaidAll.len h.2)
theorem LaidAll.ne {Z : State} {a0 : Array Value} {C : String} {lay : List (String × String)} {vs : List Value} (h : LaidAll Z a0 C lay vs) (nd : (lay.map Prod.fst).Nodup) : ∀ (a b : Nat) (f g : String × String), lay[a]? = some f → lay[b]? = some g → a ≠ b → RoadKit.slotOf Z C f.1 f.2 ≠ RoadKit.slotOf Z C g.1 g.2 := by
  intro a b f g ha hb' hne
  have la := get_lt ha
  have lb := get_lt hb'
  obtain ⟨L1, t1, e1, -⟩ := h.new a f _ ha (List.getElem?_eq_getElem (h.len ▸ la))
  obtain ⟨L2, t2, e2, -⟩ := h.new b g _ hb' (List.getElem?_eq_getElem (h.len ▸ lb))
  refine slot_ne L1 L2 (fun q => hne ?_) e1 e2
  have h1 : (lay.map Prod.fst)[a]? = some f.1 := by rw [List.getElem?_map, ha]; rfl
  have h2 : (lay.map Prod.fst)[b]? = some g.1 := by rw [List.getElem?_map, hb']; rfl
  exact (List.getElem?_inj (by simpa using la) nd).mp (h1.trans (by rw [q]; exact h2.symm))
section Puts
variable {l : Launch} {Z : State} {a0 : Array Value} {C : String} {lay : List (String × String)} {own mn : String} {bytes : ByteArray} {maxL : Nat} {ret : Option FieldType} {R : Room} {n0 ro : Nat} {Q : Option Value → List OwnC → Prop} {k n pc pc' : Nat} {L L' : List Slot} {S S' : List Value} {H H' : List OwnC}
theorem WP.putI {idx i j kk : Nat} {f : String} {vs : List Value} {x : Int32} {old : Value} (hd : decode bytes pc = .ok (.putfield idx, 3)) (hw : (Cond.fieldLink own idx C f "I").before a0 Z = true) (hl : (Cond.lays C C f "I").before a0 Z = true ∨ ((Cond.laysFinal C C f "I").before a0 Z = true ∧ own = C ∧ mn = "<init>")) (wi : (Cond.instantiable C kk).before a0 Z = true)
    (hlay : ∀ (a b : Nat) (f g : String × String), lay[a]? = some f → lay[b]? = some g → a ≠ b → RoadKit.slotOf Z C f.1 f.2 ≠ RoadKit.slotOf Z C g.1 g.2) (hj : lay[j]? = some (f, "I")) (hH : H[i]? = some (.inl vs)) (hv : vs[j]? = some old) (hi : ro ≤ i) (hH' : H.set i (.inl (vs.set j (.int x))) = H') (nx : WP l Z C lay own mn bytes maxL ret R n0 ro Q k n (pc + 3) L S H') : WP l Z C lay own mn bytes maxL ret R n0 ro Q k n pc L (.int x :: .ref i :: S) H :=
  WP.put hd hw hl wi hlay (ty := .int) (by decide) (fun _ => rfl) (fun _ => rfl) hj hH hv hi hH' nx
theorem WP.putJ {idx i j kk : Nat} {f : String} {vs : List Value} {x : Int64} {old : Value} (hd : decode bytes pc = .ok (.putfield idx, 3)) (hw : (Cond.fieldLink own idx C f "J").before a0 Z = true) (hl : (Cond.lays C C f "J").before a0 Z = true ∨ ((Cond.laysFinal C C f "J").before a0 Z = true ∧ own = C ∧ mn = "<init>")) (wi : (Cond.instantiable C kk).before a0 Z = true)
    (hlay : ∀ (a b : Nat) (f g : String × String), lay[a]? = some f → lay[b]? = some g → a ≠ b → RoadKit.slotOf Z C f.1 f.2 ≠ RoadKit.slotOf Z C g.1 g.2) (hj : lay[j]? = some (f, "J")) (hH : H[i]? = some (.inl vs)) (hv : vs[j]? = some old) (hi : ro ≤ i) (hH' : H.set i (.inl (vs.set j (.long x))) = H') (nx : WP l Z C lay own mn bytes maxL ret R n0 ro Q k n (pc + 3) L S H') : WP l Z C lay own mn bytes maxL ret R n0 ro Q k n pc L (.long x :: .ref i :: S) H :=
  WP.put hd hw hl wi hlay (ty := .long) (by decide) (fun _ => rfl) (fun _ => rfl) hj hH hv hi hH' nx
theorem WP.putZ {idx i j kk : Nat} {f : String} {vs : List Value} {x : Int32} {old : Value} (hd : decode bytes pc = .ok (.putfield idx, 3)) (hw : (Cond.fieldLink own idx C f "Z").before a0 Z = true) (hl : (Cond.lays C C f "Z").before a0 Z = true ∨ ((Cond.laysFinal C C f "Z").before a0 Z = true ∧ own = C ∧ mn = "<init>")) (wi : (Cond.instantiable C kk).before a0 Z = true)
    (hlay : ∀ (a b : Nat) (f g : String × String), lay[a]? = some f → lay[b]? = some g → a ≠ b → RoadKit.slotOf Z C f.1 f.2 ≠ RoadKit.slotOf Z C g.1 g.2) (hj : lay[j]? = some (f, "Z")) (hH : H[i]? = some (.inl vs)) (hv : vs[j]? = some old) (hi : ro ≤ i) (hH' : H.set i (.inl (vs.set j (.int (x &&& 1)))) = H') (nx : WP l Z C lay own mn bytes maxL ret R n0 ro Q k n (pc + 3) L S H') : WP l Z C lay own mn bytes maxL ret R n0 ro Q k n pc L (.int x :: .ref i :: S) H :=
  WP.put (v' := .int (x &&& 1)) hd hw hl wi hlay (ty := .boolean) (by decide) (fun _ => rfl) (fun _ => fits_nar_bool x) hj hH hv hi hH' nx
theorem WP.putR {idx i j kk i2 : Nat} {f d : String} {vs : List Value} {old : Value} {ty : FieldType} (hd : decode bytes pc = .ok (.putfield idx, 3)) (hw : (Cond.fieldLink own idx C f d).before a0 Z = true) (hl : (Cond.lays C C f d).before a0 Z = true ∨ ((Cond.laysFinal C C f d).before a0 Z = true ∧ own = C ∧ mn = "<init>")) (wi : (Cond.instantiable C kk).before a0 Z = true)
    (hlay : ∀ (a b : Nat) (f g : String × String), lay[a]? = some f → lay[b]? = some g → a ≠ b → RoadKit.slotOf Z C f.1 f.2 ≠ RoadKit.slotOf Z C g.1 g.2) (hty : parseFieldDescriptor d = some ty) (hn : ∀ a, narrow ty (.ref a) = .ref a) (hf : ∀ a, fits ty (.ref a) = true) (hj : lay[j]? = some (f, d)) (hH : H[i]? = some (.inl vs)) (hv : vs[j]? = some old) (hi : ro ≤ i) (hH' : H.set i (.inl (vs.set j (.ref i2))) = H') (nx : WP l Z C lay own mn bytes maxL ret R n0 ro Q k n (pc + 3) L S H') : WP l Z C lay own mn bytes maxL ret R n0 ro Q k n pc L (.ref i2 :: .ref i :: S) H :=
  WP.put (v' := .ref i2) hd hw hl wi hlay hty (fun ad => hn (ad i2)) (fun ad => hf (ad i2)) hj hH hv hi hH' nx
end Puts
/-! ## the start of a law -/
theorem HR.start0 (s : State) (C : String) (lay : List (String × String)) : HR s C lay s.heap.size 0 (fun t => s.heap.size + t) [] s.heap :=
  ⟨fun i c h => by simp at h, fun i j h => by simp at h, fun t => by simp, fun i h => by simp at h, Nat.le_refl _⟩
theorem script_ints {s : State} {a : Addr} {c : Cell} (hf : Fit s) (A : Arr s s.heap a c .int) : ∃ xs : List Int32, c.slots.toList = xs.map Value.int := by
  have h : ∀ v ∈ c.slots.toList, ∃ x : Int32, v = Value.int x := fun v hv => by
    obtain ⟨i, hi, e⟩ := List.mem_iff_getElem.mp hv
    have hi' : i < c.slots.size := by simpa using hi
    have q := hf A.1 hi'
    obtain ⟨hs, k, hk, comp, hkind⟩ := A.2.1
    have e2 : s.slotType? c.cls c.vm i = some .int := by
      cases hq : c.vm <;> first | exact absurd hq (hs _) | simp [State.slotType?, hk, hkind]
    have e3 : c.slots[i] = v := by rw [← e]; simp
    have q2 : fits .int v = true := by rw [← e3]; simpa [State.fitsSlot, e2] using q
    exact fit_I q2 (by simp)
  generalize c.slots.toList = L at h
  induction L with
  | nil => exact ⟨[], rfl⟩
  | cons v L ih =>
    obtain ⟨x, rfl⟩ := h v (List.mem_cons_self ..)
    obtain ⟨xs, rfl⟩ := ih fun w hw => h w (List.mem_cons_of_mem _ hw)
    exact ⟨x :: xs, rfl⟩
def ad1 (a N : Nat) : Nat → Addr
  | 0 => a
  | t + 1 => N + t
theorem HR.start1 {s : State} (C : String) (lay : List (String × String)) {a : Addr} {c : Cell} {xs : List Int32} (A : Arr s s.heap a c .int) (hx : c.slots.toList = xs.map Value.int) : HR s C lay s.heap.size 1 (ad1 a s.heap.size) [cI xs] s.heap := by
  refine ⟨fun i cc h => ?_, fun i j hi hj _ => ?_, fun t => ?_, fun i hi hr => ?_, Nat.le_refl _⟩
  · have hi := get_lt h
    simp at hi; subst hi
    simp at h; subst h
    exact ⟨c, A, hx⟩
  · simp at hi hj; omega
  · show ad1 a s.heap.size (1 + t) = _; rw [Nat.add_comm 1 t]; rfl
  · simp at hi; omega
theorem script_len {s : State} {a : Addr} {c : Cell} {n : Nat} {args : Array Value} {t : Term} (ev : t.eval args s none [] s = some (.ref a)) (A : Arr s s.heap a c .int) (e1 : c.slots.size = n) (h : (Cond.le (Term.length t) (Term.int (260 : Int32))).value args s none s [] = some true) : n ≤ 260 := by
  have hat := A.fin (Vm.Alike.refl _)
  have hl : (Term.length t).eval args s none [] s = if n < 2 ^ 31 then some (.int n.toInt32) else none := by
    simp only [Term.eval, ev, hat, Option.bind_eq_bind, Option.bind_some, e1]; rfl
  by_cases hn : n < 2 ^ 31
  · rw [if_pos hn] at hl
    have h1 := gotT (Cond.le_ints hl (Term.int_eval (260 : Int32))) h
    have h2 : n.toInt32.toInt = n := by
      show (Int32.ofNat n).toInt = n
      exact Int32.toInt_ofNat_of_lt hn
    have h3 := Int32.le_iff_toInt_le.mp h1
    rw [h2] at h3
    have : (260 : Int32).toInt = 260 := by decide
    omega
  · rw [if_neg hn] at hl
    simp [Cond.value, hl] at h
/-! ## plain laws -/
/-- with fuel enough it answers r -/
def Ev {α : Type} (f : Nat → Option α) (r : α) : Prop := ∃ N, ∀ n, N ≤ n → f n = some r
theorem Ev.const {α : Type} {x : Option α} {r : α} (h : x = some r) : Ev (fun _ => x) r := ⟨0, fun _ _ => h⟩
theorem Ev.get {α : Type} {f : Nat → Option α} {r : α} (h : Ev f r) : ∃ n, f n = some r := by obtain ⟨N, h⟩ := h; exact ⟨N, h N (Nat.le_refl _)⟩
theorem Ev.step {α : Type} {f g : Nat → Option α} {r : α} (e : ∀ n, f (n + 1) = g n) (h : Ev g r) : Ev f r := by
  obtain ⟨N, h⟩ := h
  refine ⟨N + 1, fun n hn => ?_⟩
  cases n with
  | zero => omega
  | succ n => rw [e n]; exact h n (by omega)
theorem Ev.congr {α : Type} {f g : Nat → Option α} {r : α} (e : ∀ n, f n = g n) (h : Ev g r) : Ev f r := by
  obtain ⟨N, h⟩ := h
  exact ⟨N, fun n hn => (e n).trans (h n hn)⟩
theorem Ev.bind {α β : Type} {f : Nat → Option β} {g : Nat → β → Option α} {c : β} {r : α} (h1 : Ev f c) (h2 : Ev (fun n => g n c) r) : Ev (fun n => (f n).bind (g n)) r := by
  obtain ⟨N, h1⟩ := h1
  obtain ⟨M, h2⟩ := h2
  refine ⟨N + M, fun n hn => ?_⟩
  show (f n).bind (g n) = some r
  rw [h1 n (by omega)]; exact h2 n (by omega)
theorem Ev.uniq {α : Type} {f : Nat → Option α} {r r' : α} (h : Ev f r) (h' : Ev f r') : r = r' := by
  obtain ⟨N, h⟩ := h
  obtain ⟨M, h'⟩ := h'
  exact Option.some.inj ((h (N + M) (by omega)).symm.trans (h' (N + M) (by omega)))
/-! Int32 as Int -/
theorem x32_lt {x y : Int32} : x < y ↔ x.toInt < y.toInt := Int32.lt_iff_toInt_lt
theorem x32_eq {x y : Int32} : x = y ↔ x.toInt = y.toInt := Int32.toInt_inj.symm
theorem x32_add {x y : Int32} (h1 : -2147483648 ≤ x.toInt + y.toInt) (h2 : x.toInt + y.toInt < 2147483648) : (x + y).toInt = x.toInt + y.toInt := by
  rw [Int32.toInt_add]; exact Int.bmod_eq_of_le (by omega) (by omega)
theorem x32_sub {x y : Int32} (h1 : -2147483648 ≤ x.toInt - y.toInt) (h2 : x.toInt - y.toInt < 2147483648) : (x - y).toInt = x.toInt - y.toInt := by
  rw [Int32.toInt_sub]; exact Int.bmod_eq_of_le (by omega) (by omega)
theorem x32_mul {x y : Int32} (h1 : -2147483648 ≤ x.toInt * y.toInt) (h2 : x.toInt * y.toInt < 2147483648) : (x * y).toInt = x.toInt * y.toInt := by
  rw [Int32.toInt_mul]; exact Int.bmod_eq_of_le (by omega) (by omega)
theorem clamp_nat (x : Int32) : x.toNatClampNeg = x.toInt.toNat := rfl
/-! reading and writing -/
theorem rd_of {α : Type} {xs : List α} {i : Int32} {k : Nat} {x : α} (hi : i.toInt = k) (h : xs[k]? = some x) : rd xs i = some x := by
  have h0 : ¬ i < 0 := by rw [x32_lt, hi]; show ¬ (k : Int) < 0; omega
  unfold rd
  rw [if_neg h0, clamp_nat, hi]; exact h
theorem wr_of {α : Type} {xs : List α} {i : Int32} {k : Nat} (x : α) (hi : i.toInt = k) (h : k < xs.length) : wr xs i x = some (xs.set k x) := by
  have h0 : ¬ i < 0 := by rw [x32_lt, hi]; show ¬ (k : Int) < 0; omega
  unfold wr
  rw [if_neg h0, clamp_nat, hi]; exact if_pos h
theorem wrA_of {s : St} {f : Nat} {i : Int32} {k : Nat} (x : Int32) (hi : i.toInt = k) (h : k < (gA s f).length) : wrA s f i x = some (sA s f ((gA s f).set k x)) := by
  unfold wrA; rw [wr_of x hi h]; rfl
theorem wrB_of {s : St} {f : Nat} {i : Int32} {k : Nat} (x : Int64) (hi : i.toInt = k) (h : k < (gB s f).length) : wrB s f i x = some (sB s f ((gB s f).set k x)) := by
  unfold wrB; rw [wr_of x hi h]; rfl
theorem nn_of {i : Int32} (h : ¬ i < 0) : ∃ k : Nat, i.toInt = k := ⟨i.toInt.toNat, by
  rw [x32_lt] at h
  have : (0 : Int32).toInt = 0 := by decide
  omega⟩
theorem Ev.all {α : Type} {f : Nat → Option α} {r : α} (h : ∀ n, f n = some r) : Ev f r := ⟨0, fun n _ => h n⟩
theorem ofN_int {k : Nat} (h : k < 2147483648) : (Int32.ofNat k).toInt = k := Int32.toInt_ofNat_of_lt (by omega)
theorem ofN_lt {i m : Nat} (hi : i < 2147483648) (hm : m < 2147483648) : Int32.ofNat i < Int32.ofNat m ↔ i < m := by
  rw [x32_lt, ofN_int hi, ofN_int hm]; omega
theorem ofN_succ (k : Nat) : Int32.ofNat k + 1 = Int32.ofNat (k + 1) := (Int32.ofNat_add k 1).symm
theorem ofN_eq {i m : Nat} (hi : i < 2147483648) (hm : m < 2147483648) : Int32.ofNat i = Int32.ofNat m ↔ i = m := by
  rw [x32_eq, ofN_int hi, ofN_int hm]; omega
theorem ofN_of {x : Int32} {k : Nat} (h : x.toInt = k) : x = Int32.ofNat k := by
  have h2 := Int32.toInt_lt x
  rw [x32_eq, ofN_int (by omega)]; exact h
/-- a loop that counts up to N -/
theorem loop_up {α σ : Type} {F : Nat → Int32 → σ → Option α} {E : Nat → σ → Option α} {N : Nat} (Inv : Nat → σ → Prop)
    (hstep : ∀ (i : Nat) (s : σ), i < N → Inv i s → ∃ s', Inv (i + 1) s' ∧ ∀ n, F (n + 1) (Int32.ofNat i) s = F n (Int32.ofNat (i + 1)) s')
    (hend : ∀ s, Inv N s → ∀ n, F (n + 1) (Int32.ofNat N) s = E n s) : ∀ (k i : Nat) (s : σ), i + k = N → Inv i s → ∃ s', Inv N s' ∧ ∀ r, Ev (fun n => E n s') r → Ev (fun n => F n (Int32.ofNat i) s) r := by
  intro k
  induction k with
  | zero =>
    intro i s hi h
    obtain rfl : i = N := by omega
    exact ⟨s, h, fun r hr => Ev.step (hend s h) hr⟩
  | succ k ih =>
    intro i s hi h
    obtain ⟨s', h1, h2⟩ := hstep i s (by omega) h
    obtain ⟨s2, h3, h4⟩ := ih (i + 1) s' (by omega) h1
    exact ⟨s2, h3, fun r hr => Ev.step h2 (h4 r hr)⟩
theorem set_len {α : Type} (xs : List α) (k : Nat) (x : α) : (xs.set k x).length = xs.length := List.length_set
theorem ofN_ltL {i m : Nat} (hi : i < 2147483648) (hm : m < 2147483648) : Int32.ofNat i < (OfNat.ofNat m : Int32) ↔ i < m := ofN_lt hi hm
theorem ofN_gtL {i m : Nat} (hi : i < 2147483648) (hm : m < 2147483648) : (OfNat.ofNat m : Int32) < Int32.ofNat i ↔ m < i := ofN_lt hm hi
theorem ofN_eqL {i m : Nat} (hi : i < 2147483648) (hm : m < 2147483648) : Int32.ofNat i = (OfNat.ofNat m : Int32) ↔ i = m := ofN_eq hi hm
theorem ofN_nn {i : Nat} (hi : i < 2147483648) : ¬ Int32.ofNat i < 0 := fun h => Nat.not_lt_zero _ ((ofN_ltL hi (by decide)).mp h)
theorem lit_int {m : Nat} (hm : m < 2147483648) : (OfNat.ofNat m : Int32).toInt = m := ofN_int hm
theorem upd_upd {α : Type} (f : Nat → α) (i : Nat) (x y : α) : upd (upd f i x) i y = upd f i y := by
  funext j; unfold upd; by_cases h : j = i <;> simp [h]
theorem upd_self {α : Type} (f : Nat → α) (i : Nat) : upd f i (f i) = f := by
  funext j; unfold upd; by_cases h : j = i <;> simp [h]
theorem sA_sA (s : St) (i : Nat) (x y : List Int32) : sA (sA s i x) i y = sA s i y := by unfold sA; dsimp only; rw [upd_upd]
theorem sB_sB (s : St) (i : Nat) (x y : List Int64) : sB (sB s i x) i y = sB s i y := by unfold sB; dsimp only; rw [upd_upd]
theorem sI_sI (s : St) (i : Nat) (x y : Int32) : sI (sI s i x) i y = sI s i y := by unfold sI; dsimp only; rw [upd_upd]
theorem sA_self {s : St} {i : Nat} {x : List Int32} (h : gA s i = x) : sA s i x = s := by
  subst h; unfold sA gA; rw [upd_self]
theorem sB_self {s : St} {i : Nat} {x : List Int64} (h : gB s i = x) : sB s i x = s := by
  subst h; unfold sB gB; rw [upd_self]
theorem sI_self {s : St} {i : Nat} {x : Int32} (h : gI s i = x) : sI s i x = s := by
  subst h; unfold sI gI; rw [upd_self]
theorem fill_set {α : Type} (a b : α) (n i : Nat) (h : i < n) : (List.replicate i a ++ List.replicate (n - i) b).set i a = List.replicate (i + 1) a ++ List.replicate (n - (i + 1)) b := by
  rw [List.set_append_right _ _ (by simp), List.length_replicate, Nat.sub_self]
  obtain ⟨m, hm⟩ : ∃ m, n - i = m + 1 := ⟨n - i - 1, by omega⟩
  have hm2 : n - (i + 1) = m := by omega
  rw [hm, hm2, List.replicate_succ, List.set_cons_zero, List.replicate_succ', List.append_assoc]; rfl
theorem and_nat (x : Int32) (m : Nat) (hm : m < 2147483648) : ∃ k, k ≤ m ∧ (x &&& Int32.ofNat m) = Int32.ofNat k := by
  refine ⟨(x.toBitVec &&& BitVec.ofNat 32 m).toNat, ?_, ?_⟩
  · rw [BitVec.toNat_and, BitVec.toNat_ofNat, Nat.mod_eq_of_lt (by omega)]
    exact Nat.and_le_right
  · apply Int32.toBitVec_inj.mp
    show x.toBitVec &&& BitVec.ofNat 32 m = BitVec.ofNat 32 _
    rw [BitVec.ofNat_toNat, BitVec.setWidth_eq]
theorem and_natL (x : Int32) (m : Nat) (hm : m < 2147483648) : ∃ k, k ≤ m ∧ (x &&& (OfNat.ofNat m : Int32)) = Int32.ofNat k := and_nat x m hm
theorem nat_lt {i : Int32} {m : Nat} (h : ¬ i < 0) (h2 : i < (OfNat.ofNat m : Int32)) (hm : m < 2147483648) : ∃ k : Nat, k < m ∧ i = Int32.ofNat k := by
  obtain ⟨k, hk⟩ := nn_of h
  rw [x32_lt, lit_int hm, hk] at h2
  exact ⟨k, by omega, ofN_of hk⟩
theorem nat_le {i : Int32} {m : Nat} (h : ¬ i < 0) (h2 : ¬ (OfNat.ofNat m : Int32) < i) (hm : m < 2147483648) : ∃ k : Nat, k ≤ m ∧ i = Int32.ofNat k := by
  obtain ⟨k, hk⟩ := nn_of h
  rw [x32_lt, lit_int hm, hk] at h2
  exact ⟨k, by omega, ofN_of hk⟩
theorem rd_at {α : Type} {xs : List α} {k : Nat} {x : α} (hk : k < 2147483648) (h : xs[k]? = some x) : rd xs (Int32.ofNat k) = some x := rd_of (ofN_int hk) h
theorem wr_at' {α : Type} {xs : List α} {k : Nat} (x : α) (hk : k < 2147483648) (h : k < xs.length) : wr xs (Int32.ofNat k) x = some (xs.set k x) := wr_of x (ofN_int hk) h
theorem rep_get {α : Type} {n k : Nat} (a : α) (h : k < n) : (List.replicate n a)[k]? = some a := by rw [List.getElem?_replicate, if_pos h]
theorem get_set_self {α : Type} {xs : List α} {k : Nat} (x : α) (h : k < xs.length) : (xs.set k x)[k]? = some x := by rw [List.getElem?_set_self h]
theorem get_set_ne {α : Type} {xs : List α} {k j : Nat} (x : α) (h : k ≠ j) : (xs.set k x)[j]? = xs[j]? := List.getElem?_set_ne h
theorem upd_comm {α : Type} (f : Nat → α) {i j : Nat} (h : i ≠ j) (x y : α) : upd (upd f i x) j y = upd (upd f j y) i x := by
  funext m; unfold upd
  by_cases h1 : m = j
  · subst h1; rw [if_pos rfl, if_neg (Ne.symm h), if_pos rfl]
  · rw [if_neg h1]; by_cases h2 : m = i
    · rw [if_pos h2, if_pos h2]
    · rw [if_neg h2, if_neg h2, if_neg h1]
theorem sA_comm {s : St} {i j : Nat} (h : i ≠ j) {x y : List Int32} : sA (sA s i x) j y = sA (sA s j y) i x := by unfold sA; dsimp only; rw [upd_comm _ h]
theorem sB_comm {s : St} {i j : Nat} (h : i ≠ j) {x y : List Int64} : sB (sB s i x) j y = sB (sB s j y) i x := by unfold sB; dsimp only; rw [upd_comm _ h]
theorem sI_comm {s : St} {i j : Nat} (h : i ≠ j) {x y : Int32} : sI (sI s i x) j y = sI (sI s j y) i x := by unfold sI; dsimp only; rw [upd_comm _ h]
theorem sJ_self {s : St} {i : Nat} {x : Int64} (h : gJ s i = x) : sJ s i x = s := by
  subst h; unfold sJ gJ; rw [upd_self]
theorem wrA_nop {s : St} {f N k : Nat} {v : Int32} (h : gA s f = List.replicate N v) (hk : k < N) (hN : N ≤ 2147483647) : wrA s f (Int32.ofNat k) v = some s := by
  rw [wrA_of (k := k) v (ofN_int (by omega)) (by rw [h, List.length_replicate]; exact hk), sA_self (by rw [h, List.set_replicate_self])]
theorem wrB_nop {s : St} {f N k : Nat} {v : Int64} (h : gB s f = List.replicate N v) (hk : k < N) (hN : N ≤ 2147483647) : wrB s f (Int32.ofNat k) v = some s := by
  rw [wrB_of (k := k) v (ofN_int (by omega)) (by rw [h, List.length_replicate]; exact hk), sB_self (by rw [h, List.set_replicate_self])]
/-- a loop that fills -/
theorem wrA_fill {s : St} {f N k : Nat} {u v : Int32} (hk : k < N) (hN : N ≤ 2147483647) : wrA (sA s f (List.replicate k v ++ List.replicate (N - k) u)) f (Int32.ofNat k) v = some (sA s f (List.replicate (k + 1) v ++ List.replicate (N - (k + 1)) u)) := by
  rw [wrA_of (k := k) v (ofN_int (by omega)) (by rw [gA_sA, if_pos rfl]; simp; omega), gA_sA, if_pos rfl, fill_set _ _ _ _ hk, sA_sA]
theorem fill_start {s : St} {f N : Nat} {u v : Int32} (h : gA s f = List.replicate N u) : s = sA s f (List.replicate 0 v ++ List.replicate (N - 0) u) := (sA_self (by rw [h]; rfl)).symm
theorem fill_end {s : St} {f N : Nat} {u v : Int32} : sA s f (List.replicate N v ++ List.replicate (N - N) u) = sA s f (List.replicate N v) := by rw [Nat.sub_self]; simp
theorem x32_neg {x : Int32} (h : -2147483648 < x.toInt) : (-x).toInt = -x.toInt := by
  have := Int32.toInt_lt x
  rw [Int32.toInt_neg]; exact Int.bmod_eq_of_le (by omega) (by omega)
theorem x64_neg {x : Int64} (h : -9223372036854775808 < x.toInt) : (-x).toInt = -x.toInt := by
  have := Int64.toInt_lt x
  rw [Int64.toInt_neg]; exact Int.bmod_eq_of_le (by omega) (by omega)
theorem x64_lt {x y : Int64} : x < y ↔ x.toInt < y.toInt := Int64.lt_iff_toInt_lt
theorem x64_eq {x y : Int64} : x = y ↔ x.toInt = y.toInt := Int64.toInt_inj.symm
theorem x64_add {x y : Int64} (h1 : -9223372036854775808 ≤ x.toInt + y.toInt) (h2 : x.toInt + y.toInt < 9223372036854775808) : (x + y).toInt = x.toInt + y.toInt := by
  rw [Int64.toInt_add]; exact Int.bmod_eq_of_le (by omega) (by omega)
theorem x64_sub {x y : Int64} (h1 : -9223372036854775808 ≤ x.toInt - y.toInt) (h2 : x.toInt - y.toInt < 9223372036854775808) : (x - y).toInt = x.toInt - y.toInt := by
  rw [Int64.toInt_sub]; exact Int.bmod_eq_of_le (by omega) (by omega)
theorem x64_mul {x y : Int64} (h1 : -9223372036854775808 ≤ x.toInt * y.toInt) (h2 : x.toInt * y.toInt < 9223372036854775808) : (x * y).toInt = x.toInt * y.toInt := by
  rw [Int64.toInt_mul]; exact Int.bmod_eq_of_le (by omega) (by omega)
end Jvm.Own
namespace Jvm.Pilot.@@N@@
open Jvm Jvm.ClassFile Sem Op Lib Jvm.Free Jvm.Stand Jvm.LawKit Jvm.RoadKit Bundle Jvm.Pilot.@@N@@.Jvm.D Jvm.Own
abbrev HW (a0 : Array Value) (Z : State) : Prop := ∀ d ∈ tables_1, d.before a0 Z = true
abbrev CN : String := "BillingRun"
def lay : List (String × String) := [("days", "I"), ("basis", "I"), ("todayDay", "I"), ("cycles", "I"), ("feeCents", "[I"), ("kind", "[I"), ("upTo", "[I"), ("price", "[I"), ("active", "[Z"), ("curPlan", "[I"), ("segCount", "[I"), ("credBal", "[J"), ("credIssued", "[J"), ("credApplied", "[J"), ("segStart", "[I"), ("segEnd", "[I"), ("segPlan", "[I"), ("segUsage", "[I"), ("invLines", "[I"), ("invSub", "[J"), ("invTax", "[J"), ("invCredit", "[J"), ("invTotal", "[J"), ("invCycle", "[I"), ("lineAmt", "[J"), ("lineTax", "[J"), ("rem", "[J"), ("picked", "[Z")]
abbrev vs0 : List Value := [.int 0, .int 0, .int 0, .int 0, .null, .null, .null, .null, .null, .null, .null, .null, .null, .null, .null, .null, .null, .null, .null, .null, .null, .null, .null, .null, .null, .null, .null, .null]
abbrev Hb (b : Nat) (s : St) : List OwnC := [cO [.int (gI s 0), .int (gI s 1), .int (gI s 2), .int (gI s 3), .ref (b + 1), .ref (b + 2), .ref (b + 3), .ref (b + 4), .ref (b + 5), .ref (b + 6), .ref (b + 7), .ref (b + 8), .ref (b + 9), .ref (b + 10), .ref (b + 11), .ref (b + 12), .ref (b + 13), .ref (b + 14), .ref (b + 15), .ref (b + 16), .ref (b + 17), .ref (b + 18), .ref (b + 19), .ref (b + 20), .ref (b + 21), .ref (b + 22), .ref (b + 23), .ref (b + 24)], cI (gA s 0), cI (gA s 1), cI (gA s 2), cI (gA s 3), cZ (gA s 4), cI (gA s 5), cI (gA s 6), cJ (gB s 0), cJ (gB s 1), cJ (gB s 2), cI (gA s 7), cI (gA s 8), cI (gA s 9), cI (gA s 10), cI (gA s 11), cJ (gB s 3), cJ (gB s 4), cJ (gB s 5), cJ (gB s 6), cI (gA s 12), cJ (gB s 7), cJ (gB s 8), cJ (gB s 9), cZ (gA s 13)]
def st0 : St := (fun _ => 0, fun _ => 0, fun i => ([List.replicate 8 0, List.replicate 8 0, List.replicate 32 0, List.replicate 32 0, List.replicate 16 0, List.replicate 16 0, List.replicate 16 0, List.replicate 64 0, List.replicate 64 0, List.replicate 64 0, List.replicate 64 0, List.replicate 16 0, List.replicate 16 0, List.replicate 8 0] : List (List Int32)).getD i [], fun i => ([List.replicate 16 0, List.replicate 16 0, List.replicate 16 0, List.replicate 16 0, List.replicate 16 0, List.replicate 16 0, List.replicate 16 0, List.replicate 128 0, List.replicate 128 0, List.replicate 8 0] : List (List Int64)).getD i [])
theorem m_0 : (Jvm.Cond.methodLink "BillingRunOwnLaw" (24 : Nat) ({ cls := "BillingRunOwnLaw", name := "cell", desc := "([II)I" } : Jvm.MethodName)) ∈ tables_1 := List.mem_of_getElem? (i := 0) rfl
theorem m_1 : (Jvm.Cond.static ({ cls := "BillingRunOwnLaw", name := "cell", desc := "([II)I" } : Jvm.MethodName)) ∈ tables_1 := List.mem_of_getElem? (i := 1) rfl
theorem m_2 : (Jvm.Cond.initialized "BillingRunOwnLaw") ∈ tables_1 := List.mem_of_getElem? (i := 2) rfl
theorem m_3 : (Jvm.Cond.code ({ cls := "BillingRunOwnLaw", name := "cell", desc := "([II)I" } : Jvm.MethodName) method_2_code (2 : Nat) (Option.some Jvm.ClassFile.FieldType.int)) ∈ tables_1 := List.mem_of_getElem? (i := 3) rfl
theorem m_4 : (Jvm.Cond.methodLink "BillingRunOwnLaw" (30 : Nat) ({ cls := "BillingRunOwnLaw", name := "m", desc := "(JI)I" } : Jvm.MethodName)) ∈ tables_1 := List.mem_of_getElem? (i := 4) rfl
theorem m_5 : (Jvm.Cond.static ({ cls := "BillingRunOwnLaw", name := "m", desc := "(JI)I" } : Jvm.MethodName)) ∈ tables_1 := List.mem_of_getElem? (i := 5) rfl
theorem m_6 : (Jvm.Cond.code ({ cls := "BillingRunOwnLaw", name := "m", desc := "(JI)I" } : Jvm.MethodName) method_3_code (5 : Nat) (Option.some Jvm.ClassFile.FieldType.int)) ∈ tables_1 := List.mem_of_getElem? (i := 6) rfl
theorem m_7 : (Jvm.Cond.classLink "BillingRunOwnLaw" (7 : Nat) "BillingRun") ∈ tables_1 := List.mem_of_getElem? (i := 7) rfl
theorem m_8 : (Jvm.Cond.instantiable "BillingRun" (28 : Nat)) ∈ tables_1 := List.mem_of_getElem? (i := 8) rfl
theorem m_9 : (Jvm.Cond.initialized "BillingRun") ∈ tables_1 := List.mem_of_getElem? (i := 9) rfl
theorem m_10 : (Jvm.Cond.methodLink "BillingRunOwnLaw" (34 : Nat) ({ cls := "BillingRun", name := "<init>", desc := "(II)V" } : Jvm.MethodName)) ∈ tables_1 := List.mem_of_getElem? (i := 10) rfl
theorem m_11 : (Jvm.Cond.instanceMethod ({ cls := "BillingRun", name := "<init>", desc := "(II)V" } : Jvm.MethodName)) ∈ tables_1 := List.mem_of_getElem? (i := 11) rfl
theorem m_12 : (Jvm.Cond.code ({ cls := "BillingRun", name := "<init>", desc := "(II)V" } : Jvm.MethodName) prog_1_method_1_code (4 : Nat) (Option.none : Option Jvm.ClassFile.FieldType)) ∈ tables_1 := List.mem_of_getElem? (i := 12) rfl
theorem m_13 : (Jvm.Cond.methodLink "BillingRun" (1 : Nat) ({ cls := "java/lang/Object", name := "<init>", desc := "()V" } : Jvm.MethodName)) ∈ tables_1 := List.mem_of_getElem? (i := 13) rfl
theorem m_14 : (Jvm.Cond.instanceMethod ({ cls := "java/lang/Object", name := "<init>", desc := "()V" } : Jvm.MethodName)) ∈ tables_1 := List.mem_of_getElem? (i := 14) rfl
theorem m_15 : (Jvm.Cond.code ({ cls := "java/lang/Object", name := "<init>", desc := "()V" } : Jvm.MethodName) object_method_1_code (1 : Nat) (Option.none : Option Jvm.ClassFile.FieldType)) ∈ tables_1 := List.mem_of_getElem? (i := 15) rfl
theorem m_16 : (Jvm.Cond.arrayClass Jvm.ClassFile.FieldType.int) ∈ tables_1 := List.mem_of_getElem? (i := 16) rfl
theorem m_17 : (Jvm.Cond.fieldLink "BillingRun" (7 : Nat) "BillingRun" "feeCents" "[I") ∈ tables_1 := List.mem_of_getElem? (i := 17) rfl
theorem m_18 : (Jvm.Cond.lays "BillingRun" "BillingRun" "feeCents" "[I") ∈ tables_1 := List.mem_of_getElem? (i := 18) rfl
theorem m_19 : (Jvm.Cond.fieldLink "BillingRun" (13 : Nat) "BillingRun" "kind" "[I") ∈ tables_1 := List.mem_of_getElem? (i := 19) rfl
theorem m_20 : (Jvm.Cond.lays "BillingRun" "BillingRun" "kind" "[I") ∈ tables_1 := List.mem_of_getElem? (i := 20) rfl
theorem m_21 : (Jvm.Cond.fieldLink "BillingRun" (16 : Nat) "BillingRun" "upTo" "[I") ∈ tables_1 := List.mem_of_getElem? (i := 21) rfl
theorem m_22 : (Jvm.Cond.lays "BillingRun" "BillingRun" "upTo" "[I") ∈ tables_1 := List.mem_of_getElem? (i := 22) rfl
theorem m_23 : (Jvm.Cond.fieldLink "BillingRun" (19 : Nat) "BillingRun" "price" "[I") ∈ tables_1 := List.mem_of_getElem? (i := 23) rfl
theorem m_24 : (Jvm.Cond.lays "BillingRun" "BillingRun" "price" "[I") ∈ tables_1 := List.mem_of_getElem? (i := 24) rfl
theorem m_25 : (Jvm.Cond.arrayClass Jvm.ClassFile.FieldType.boolean) ∈ tables_1 := List.mem_of_getElem? (i := 25) rfl
theorem m_26 : (Jvm.Cond.fieldLink "BillingRun" (22 : Nat) "BillingRun" "active" "[Z") ∈ tables_1 := List.mem_of_getElem? (i := 26) rfl
theorem m_27 : (Jvm.Cond.lays "BillingRun" "BillingRun" "active" "[Z") ∈ tables_1 := List.mem_of_getElem? (i := 27) rfl
theorem m_28 : (Jvm.Cond.fieldLink "BillingRun" (26 : Nat) "BillingRun" "curPlan" "[I") ∈ tables_1 := List.mem_of_getElem? (i := 28) rfl
theorem m_29 : (Jvm.Cond.lays "BillingRun" "BillingRun" "curPlan" "[I") ∈ tables_1 := List.mem_of_getElem? (i := 29) rfl
theorem m_30 : (Jvm.Cond.fieldLink "BillingRun" (29 : Nat) "BillingRun" "segCount" "[I") ∈ tables_1 := List.mem_of_getElem? (i := 30) rfl
theorem m_31 : (Jvm.Cond.lays "BillingRun" "BillingRun" "segCount" "[I") ∈ tables_1 := List.mem_of_getElem? (i := 31) rfl
theorem m_32 : (Jvm.Cond.arrayClass Jvm.ClassFile.FieldType.long) ∈ tables_1 := List.mem_of_getElem? (i := 32) rfl
theorem m_33 : (Jvm.Cond.fieldLink "BillingRun" (32 : Nat) "BillingRun" "credBal" "[J") ∈ tables_1 := List.mem_of_getElem? (i := 33) rfl
theorem m_34 : (Jvm.Cond.lays "BillingRun" "BillingRun" "credBal" "[J") ∈ tables_1 := List.mem_of_getElem? (i := 34) rfl
theorem m_35 : (Jvm.Cond.fieldLink "BillingRun" (36 : Nat) "BillingRun" "credIssued" "[J") ∈ tables_1 := List.mem_of_getElem? (i := 35) rfl
theorem m_36 : (Jvm.Cond.lays "BillingRun" "BillingRun" "credIssued" "[J") ∈ tables_1 := List.mem_of_getElem? (i := 36) rfl
theorem m_37 : (Jvm.Cond.fieldLink "BillingRun" (39 : Nat) "BillingRun" "credApplied" "[J") ∈ tables_1 := List.mem_of_getElem? (i := 37) rfl
theorem m_38 : (Jvm.Cond.lays "BillingRun" "BillingRun" "credApplied" "[J") ∈ tables_1 := List.mem_of_getElem? (i := 38) rfl
theorem m_39 : (Jvm.Cond.fieldLink "BillingRun" (42 : Nat) "BillingRun" "segStart" "[I") ∈ tables_1 := List.mem_of_getElem? (i := 39) rfl
theorem m_40 : (Jvm.Cond.lays "BillingRun" "BillingRun" "segStart" "[I") ∈ tables_1 := List.mem_of_getElem? (i := 40) rfl
theorem m_41 : (Jvm.Cond.fieldLink "BillingRun" (45 : Nat) "BillingRun" "segEnd" "[I") ∈ tables_1 := List.mem_of_getElem? (i := 41) rfl
theorem m_42 : (Jvm.Cond.lays "BillingRun" "BillingRun" "segEnd" "[I") ∈ tables_1 := List.mem_of_getElem? (i := 42) rfl
theorem m_43 : (Jvm.Cond.fieldLink "BillingRun" (48 : Nat) "BillingRun" "segPlan" "[I") ∈ tables_1 := List.mem_of_getElem? (i := 43) rfl
theorem m_44 : (Jvm.Cond.lays "BillingRun" "BillingRun" "segPlan" "[I") ∈ tables_1 := List.mem_of_getElem? (i := 44) rfl
theorem m_45 : (Jvm.Cond.fieldLink "BillingRun" (51 : Nat) "BillingRun" "segUsage" "[I") ∈ tables_1 := List.mem_of_getElem? (i := 45) rfl
theorem m_46 : (Jvm.Cond.lays "BillingRun" "BillingRun" "segUsage" "[I") ∈ tables_1 := List.mem_of_getElem? (i := 46) rfl
theorem m_47 : (Jvm.Cond.fieldLink "BillingRun" (54 : Nat) "BillingRun" "invLines" "[I") ∈ tables_1 := List.mem_of_getElem? (i := 47) rfl
theorem m_48 : (Jvm.Cond.lays "BillingRun" "BillingRun" "invLines" "[I") ∈ tables_1 := List.mem_of_getElem? (i := 48) rfl
theorem m_49 : (Jvm.Cond.fieldLink "BillingRun" (57 : Nat) "BillingRun" "invSub" "[J") ∈ tables_1 := List.mem_of_getElem? (i := 49) rfl
theorem m_50 : (Jvm.Cond.lays "BillingRun" "BillingRun" "invSub" "[J") ∈ tables_1 := List.mem_of_getElem? (i := 50) rfl
theorem m_51 : (Jvm.Cond.fieldLink "BillingRun" (60 : Nat) "BillingRun" "invTax" "[J") ∈ tables_1 := List.mem_of_getElem? (i := 51) rfl
theorem m_52 : (Jvm.Cond.lays "BillingRun" "BillingRun" "invTax" "[J") ∈ tables_1 := List.mem_of_getElem? (i := 52) rfl
theorem m_53 : (Jvm.Cond.fieldLink "BillingRun" (63 : Nat) "BillingRun" "invCredit" "[J") ∈ tables_1 := List.mem_of_getElem? (i := 53) rfl
theorem m_54 : (Jvm.Cond.lays "BillingRun" "BillingRun" "invCredit" "[J") ∈ tables_1 := List.mem_of_getElem? (i := 54) rfl
theorem m_55 : (Jvm.Cond.fieldLink "BillingRun" (66 : Nat) "BillingRun" "invTotal" "[J") ∈ tables_1 := List.mem_of_getElem? (i := 55) rfl
theorem m_56 : (Jvm.Cond.lays "BillingRun" "BillingRun" "invTotal" "[J") ∈ tables_1 := List.mem_of_getElem? (i := 56) rfl
theorem m_57 : (Jvm.Cond.fieldLink "BillingRun" (69 : Nat) "BillingRun" "invCycle" "[I") ∈ tables_1 := List.mem_of_getElem? (i := 57) rfl
theorem m_58 : (Jvm.Cond.lays "BillingRun" "BillingRun" "invCycle" "[I") ∈ tables_1 := List.mem_of_getElem? (i := 58) rfl
theorem m_59 : (Jvm.Cond.fieldLink "BillingRun" (72 : Nat) "BillingRun" "lineAmt" "[J") ∈ tables_1 := List.mem_of_getElem? (i := 59) rfl
theorem m_60 : (Jvm.Cond.lays "BillingRun" "BillingRun" "lineAmt" "[J") ∈ tables_1 := List.mem_of_getElem? (i := 60) rfl
theorem m_61 : (Jvm.Cond.fieldLink "BillingRun" (75 : Nat) "BillingRun" "lineTax" "[J") ∈ tables_1 := List.mem_of_getElem? (i := 61) rfl
theorem m_62 : (Jvm.Cond.lays "BillingRun" "BillingRun" "lineTax" "[J") ∈ tables_1 := List.mem_of_getElem? (i := 62) rfl
theorem m_63 : (Jvm.Cond.fieldLink "BillingRun" (78 : Nat) "BillingRun" "rem" "[J") ∈ tables_1 := List.mem_of_getElem? (i := 63) rfl
theorem m_64 : (Jvm.Cond.lays "BillingRun" "BillingRun" "rem" "[J") ∈ tables_1 := List.mem_of_getElem? (i := 64) rfl
theorem m_65 : (Jvm.Cond.fieldLink "BillingRun" (81 : Nat) "BillingRun" "picked" "[Z") ∈ tables_1 := List.mem_of_getElem? (i := 65) rfl
theorem m_66 : (Jvm.Cond.lays "BillingRun" "BillingRun" "picked" "[Z") ∈ tables_1 := List.mem_of_getElem? (i := 66) rfl
theorem m_67 : (Jvm.Cond.methodLink "BillingRun" (84 : Nat) ({ cls := "BillingRun", name := "clamp", desc := "(III)I" } : Jvm.MethodName)) ∈ tables_1 := List.mem_of_getElem? (i := 67) rfl
theorem m_68 : (Jvm.Cond.static ({ cls := "BillingRun", name := "clamp", desc := "(III)I" } : Jvm.MethodName)) ∈ tables_1 := List.mem_of_getElem? (i := 68) rfl
theorem m_69 : (Jvm.Cond.code ({ cls := "BillingRun", name := "clamp", desc := "(III)I" } : Jvm.MethodName) prog_1_method_2_code (3 : Nat) (Option.some Jvm.ClassFile.FieldType.int)) ∈ tables_1 := List.mem_of_getElem? (i := 69) rfl
theorem m_70 : (Jvm.Cond.fieldLink "BillingRun" (88 : Nat) "BillingRun" "days" "I") ∈ tables_1 := List.mem_of_getElem? (i := 70) rfl
theorem m_71 : (Jvm.Cond.lays "BillingRun" "BillingRun" "days" "I") ∈ tables_1 := List.mem_of_getElem? (i := 71) rfl
theorem m_72 : (Jvm.Cond.fieldLink "BillingRun" (92 : Nat) "BillingRun" "basis" "I") ∈ tables_1 := List.mem_of_getElem? (i := 72) rfl
theorem m_73 : (Jvm.Cond.lays "BillingRun" "BillingRun" "basis" "I") ∈ tables_1 := List.mem_of_getElem? (i := 73) rfl
theorem m_74 : (Jvm.Cond.constant "BillingRun" (95 : Nat) (1000000 : Int32)) ∈ tables_1 := List.mem_of_getElem? (i := 74) rfl
theorem m_75 : (Jvm.Cond.constantLong "BillingRunOwnLaw" (42 : Nat) (31 : Int64)) ∈ tables_1 := List.mem_of_getElem? (i := 75) rfl
theorem m_76 : (Jvm.Cond.constant "BillingRunOwnLaw" (44 : Nat) (100000001 : Int32)) ∈ tables_1 := List.mem_of_getElem? (i := 76) rfl
theorem m_77 : (Jvm.Cond.methodLink "BillingRunOwnLaw" (45 : Nat) ({ cls := "BillingRun", name := "setTier", desc := "(IIII)Z" } : Jvm.MethodName)) ∈ tables_1 := List.mem_of_getElem? (i := 77) rfl
theorem m_78 : (Jvm.Cond.declares ({ cls := "BillingRun", name := "setTier", desc := "(IIII)Z" } : Jvm.MethodName)) ∈ tables_1 := List.mem_of_getElem? (i := 78) rfl
theorem m_79 : (Jvm.Cond.instanceMethod ({ cls := "BillingRun", name := "setTier", desc := "(IIII)Z" } : Jvm.MethodName)) ∈ tables_1 := List.mem_of_getElem? (i := 79) rfl
theorem m_80 : (Jvm.Cond.selects "BillingRun" ({ cls := "BillingRun", name := "setTier", desc := "(IIII)Z" } : Jvm.MethodName) ({ cls := "BillingRun", name := "setTier", desc := "(IIII)Z" } : Jvm.MethodName)) ∈ tables_1 := List.mem_of_getElem? (i := 80) rfl
theorem m_81 : (Jvm.Cond.code ({ cls := "BillingRun", name := "setTier", desc := "(IIII)Z" } : Jvm.MethodName) prog_1_method_7_code (5 : Nat) (Option.some Jvm.ClassFile.FieldType.boolean)) ∈ tables_1 := List.mem_of_getElem? (i := 81) rfl
theorem m_82 : (Jvm.Cond.methodLink "BillingRun" (99 : Nat) ({ cls := "BillingRun", name := "validPlan", desc := "(I)Z" } : Jvm.MethodName)) ∈ tables_1 := List.mem_of_getElem? (i := 82) rfl
theorem m_83 : (Jvm.Cond.instanceMethod ({ cls := "BillingRun", name := "validPlan", desc := "(I)Z" } : Jvm.MethodName)) ∈ tables_1 := List.mem_of_getElem? (i := 83) rfl
theorem m_84 : (Jvm.Cond.privateMethod ({ cls := "BillingRun", name := "validPlan", desc := "(I)Z" } : Jvm.MethodName)) ∈ tables_1 := List.mem_of_getElem? (i := 84) rfl
theorem m_85 : (Jvm.Cond.code ({ cls := "BillingRun", name := "validPlan", desc := "(I)Z" } : Jvm.MethodName) prog_1_method_4_code (2 : Nat) (Option.some Jvm.ClassFile.FieldType.boolean)) ∈ tables_1 := List.mem_of_getElem? (i := 85) rfl
theorem m_86 : (Jvm.Cond.constant "BillingRun" (103 : Nat) (100000000 : Int32)) ∈ tables_1 := List.mem_of_getElem? (i := 86) rfl
theorem m_87 : (Jvm.Cond.methodLink "BillingRunOwnLaw" (89 : Nat) ({ cls := "BillingRunOwnLaw", name := "invariants", desc := "(LBillingRun;)Z" } : Jvm.MethodName)) ∈ tables_1 := List.mem_of_getElem? (i := 87) rfl
theorem m_88 : (Jvm.Cond.static ({ cls := "BillingRunOwnLaw", name := "invariants", desc := "(LBillingRun;)Z" } : Jvm.MethodName)) ∈ tables_1 := List.mem_of_getElem? (i := 88) rfl
theorem m_89 : (Jvm.Cond.code ({ cls := "BillingRunOwnLaw", name := "invariants", desc := "(LBillingRun;)Z" } : Jvm.MethodName) method_5_code (22 : Nat) (Option.some Jvm.ClassFile.FieldType.boolean)) ∈ tables_1 := List.mem_of_getElem? (i := 89) rfl
theorem m_90 : (Jvm.Cond.methodLink "BillingRunOwnLaw" (9 : Nat) ({ cls := "BillingRun", name := "getInvoice", desc := "(II)J" } : Jvm.MethodName)) ∈ tables_1 := List.mem_of_getElem? (i := 90) rfl
theorem m_91 : (Jvm.Cond.declares ({ cls := "BillingRun", name := "getInvoice", desc := "(II)J" } : Jvm.MethodName)) ∈ tables_1 := List.mem_of_getElem? (i := 91) rfl
theorem m_92 : (Jvm.Cond.instanceMethod ({ cls := "BillingRun", name := "getInvoice", desc := "(II)J" } : Jvm.MethodName)) ∈ tables_1 := List.mem_of_getElem? (i := 92) rfl
theorem m_93 : (Jvm.Cond.selects "BillingRun" ({ cls := "BillingRun", name := "getInvoice", desc := "(II)J" } : Jvm.MethodName) ({ cls := "BillingRun", name := "getInvoice", desc := "(II)J" } : Jvm.MethodName)) ∈ tables_1 := List.mem_of_getElem? (i := 93) rfl
theorem m_94 : (Jvm.Cond.code ({ cls := "BillingRun", name := "getInvoice", desc := "(II)J" } : Jvm.MethodName) prog_1_method_26_code (3 : Nat) (Option.some Jvm.ClassFile.FieldType.long)) ∈ tables_1 := List.mem_of_getElem? (i := 94) rfl
theorem m_95 : (Jvm.Cond.methodLink "BillingRun" (122 : Nat) ({ cls := "BillingRun", name := "validCustomer", desc := "(I)Z" } : Jvm.MethodName)) ∈ tables_1 := List.mem_of_getElem? (i := 95) rfl
theorem m_96 : (Jvm.Cond.instanceMethod ({ cls := "BillingRun", name := "validCustomer", desc := "(I)Z" } : Jvm.MethodName)) ∈ tables_1 := List.mem_of_getElem? (i := 96) rfl
theorem m_97 : (Jvm.Cond.privateMethod ({ cls := "BillingRun", name := "validCustomer", desc := "(I)Z" } : Jvm.MethodName)) ∈ tables_1 := List.mem_of_getElem? (i := 97) rfl
theorem m_98 : (Jvm.Cond.code ({ cls := "BillingRun", name := "validCustomer", desc := "(I)Z" } : Jvm.MethodName) prog_1_method_3_code (2 : Nat) (Option.some Jvm.ClassFile.FieldType.boolean)) ∈ tables_1 := List.mem_of_getElem? (i := 98) rfl
theorem m_99 : (Jvm.Cond.constantLong "BillingRunOwnLaw" (13 : Nat) (8 : Int64)) ∈ tables_1 := List.mem_of_getElem? (i := 99) rfl
theorem m_100 : (Jvm.Cond.methodLink "BillingRunOwnLaw" (21 : Nat) ({ cls := "BillingRun", name := "getCustomer", desc := "(II)J" } : Jvm.MethodName)) ∈ tables_1 := List.mem_of_getElem? (i := 100) rfl
theorem m_101 : (Jvm.Cond.declares ({ cls := "BillingRun", name := "getCustomer", desc := "(II)J" } : Jvm.MethodName)) ∈ tables_1 := List.mem_of_getElem? (i := 101) rfl
theorem m_102 : (Jvm.Cond.instanceMethod ({ cls := "BillingRun", name := "getCustomer", desc := "(II)J" } : Jvm.MethodName)) ∈ tables_1 := List.mem_of_getElem? (i := 102) rfl
theorem m_103 : (Jvm.Cond.selects "BillingRun" ({ cls := "BillingRun", name := "getCustomer", desc := "(II)J" } : Jvm.MethodName) ({ cls := "BillingRun", name := "getCustomer", desc := "(II)J" } : Jvm.MethodName)) ∈ tables_1 := List.mem_of_getElem? (i := 103) rfl
theorem m_104 : (Jvm.Cond.code ({ cls := "BillingRun", name := "getCustomer", desc := "(II)J" } : Jvm.MethodName) prog_1_method_28_code (3 : Nat) (Option.some Jvm.ClassFile.FieldType.long)) ∈ tables_1 := List.mem_of_getElem? (i := 104) rfl
theorem m_105 : (Jvm.Cond.methodLink "BillingRunOwnLaw" (49 : Nat) ({ cls := "BillingRun", name := "today", desc := "()I" } : Jvm.MethodName)) ∈ tables_1 := List.mem_of_getElem? (i := 105) rfl
theorem m_106 : (Jvm.Cond.declares ({ cls := "BillingRun", name := "today", desc := "()I" } : Jvm.MethodName)) ∈ tables_1 := List.mem_of_getElem? (i := 106) rfl
theorem m_107 : (Jvm.Cond.instanceMethod ({ cls := "BillingRun", name := "today", desc := "()I" } : Jvm.MethodName)) ∈ tables_1 := List.mem_of_getElem? (i := 107) rfl
theorem m_108 : (Jvm.Cond.selects "BillingRun" ({ cls := "BillingRun", name := "today", desc := "()I" } : Jvm.MethodName) ({ cls := "BillingRun", name := "today", desc := "()I" } : Jvm.MethodName)) ∈ tables_1 := List.mem_of_getElem? (i := 108) rfl
theorem m_109 : (Jvm.Cond.code ({ cls := "BillingRun", name := "today", desc := "()I" } : Jvm.MethodName) prog_1_method_29_code (1 : Nat) (Option.some Jvm.ClassFile.FieldType.int)) ∈ tables_1 := List.mem_of_getElem? (i := 109) rfl
theorem m_110 : (Jvm.Cond.fieldLink "BillingRun" (96 : Nat) "BillingRun" "todayDay" "I") ∈ tables_1 := List.mem_of_getElem? (i := 110) rfl
theorem m_111 : (Jvm.Cond.lays "BillingRun" "BillingRun" "todayDay" "I") ∈ tables_1 := List.mem_of_getElem? (i := 111) rfl
theorem m_112 : (Jvm.Cond.methodLink "BillingRunOwnLaw" (53 : Nat) ({ cls := "BillingRun", name := "subscribe", desc := "(III)Z" } : Jvm.MethodName)) ∈ tables_1 := List.mem_of_getElem? (i := 112) rfl
theorem m_113 : (Jvm.Cond.declares ({ cls := "BillingRun", name := "subscribe", desc := "(III)Z" } : Jvm.MethodName)) ∈ tables_1 := List.mem_of_getElem? (i := 113) rfl
theorem m_114 : (Jvm.Cond.instanceMethod ({ cls := "BillingRun", name := "subscribe", desc := "(III)Z" } : Jvm.MethodName)) ∈ tables_1 := List.mem_of_getElem? (i := 114) rfl
theorem m_115 : (Jvm.Cond.selects "BillingRun" ({ cls := "BillingRun", name := "subscribe", desc := "(III)Z" } : Jvm.MethodName) ({ cls := "BillingRun", name := "subscribe", desc := "(III)Z" } : Jvm.MethodName)) ∈ tables_1 := List.mem_of_getElem? (i := 115) rfl
theorem m_116 : (Jvm.Cond.code ({ cls := "BillingRun", name := "subscribe", desc := "(III)Z" } : Jvm.MethodName) prog_1_method_15_code (4 : Nat) (Option.some Jvm.ClassFile.FieldType.boolean)) ∈ tables_1 := List.mem_of_getElem? (i := 116) rfl
theorem m_117 : (Jvm.Cond.methodLink "BillingRun" (125 : Nat) ({ cls := "BillingRun", name := "validDay", desc := "(I)Z" } : Jvm.MethodName)) ∈ tables_1 := List.mem_of_getElem? (i := 117) rfl
theorem m_118 : (Jvm.Cond.instanceMethod ({ cls := "BillingRun", name := "validDay", desc := "(I)Z" } : Jvm.MethodName)) ∈ tables_1 := List.mem_of_getElem? (i := 118) rfl
theorem m_119 : (Jvm.Cond.privateMethod ({ cls := "BillingRun", name := "validDay", desc := "(I)Z" } : Jvm.MethodName)) ∈ tables_1 := List.mem_of_getElem? (i := 119) rfl
theorem m_120 : (Jvm.Cond.code ({ cls := "BillingRun", name := "validDay", desc := "(I)Z" } : Jvm.MethodName) prog_1_method_5_code (2 : Nat) (Option.some Jvm.ClassFile.FieldType.boolean)) ∈ tables_1 := List.mem_of_getElem? (i := 120) rfl
theorem m_121 : (Jvm.Cond.methodLink "BillingRun" (128 : Nat) ({ cls := "BillingRun", name := "appendSegment", desc := "(III)V" } : Jvm.MethodName)) ∈ tables_1 := List.mem_of_getElem? (i := 121) rfl
theorem m_122 : (Jvm.Cond.instanceMethod ({ cls := "BillingRun", name := "appendSegment", desc := "(III)V" } : Jvm.MethodName)) ∈ tables_1 := List.mem_of_getElem? (i := 122) rfl
theorem m_123 : (Jvm.Cond.privateMethod ({ cls := "BillingRun", name := "appendSegment", desc := "(III)V" } : Jvm.MethodName)) ∈ tables_1 := List.mem_of_getElem? (i := 123) rfl
theorem m_124 : (Jvm.Cond.code ({ cls := "BillingRun", name := "appendSegment", desc := "(III)V" } : Jvm.MethodName) prog_1_method_13_code (6 : Nat) (Option.none : Option Jvm.ClassFile.FieldType)) ∈ tables_1 := List.mem_of_getElem? (i := 124) rfl
theorem m_125 : (Jvm.Cond.constant "BillingRunOwnLaw" (37 : Nat) (1000001 : Int32)) ∈ tables_1 := List.mem_of_getElem? (i := 125) rfl
theorem m_126 : (Jvm.Cond.methodLink "BillingRunOwnLaw" (38 : Nat) ({ cls := "BillingRun", name := "setPlan", desc := "(III)Z" } : Jvm.MethodName)) ∈ tables_1 := List.mem_of_getElem? (i := 126) rfl
theorem m_127 : (Jvm.Cond.declares ({ cls := "BillingRun", name := "setPlan", desc := "(III)Z" } : Jvm.MethodName)) ∈ tables_1 := List.mem_of_getElem? (i := 127) rfl
theorem m_128 : (Jvm.Cond.instanceMethod ({ cls := "BillingRun", name := "setPlan", desc := "(III)Z" } : Jvm.MethodName)) ∈ tables_1 := List.mem_of_getElem? (i := 128) rfl
theorem m_129 : (Jvm.Cond.selects "BillingRun" ({ cls := "BillingRun", name := "setPlan", desc := "(III)Z" } : Jvm.MethodName) ({ cls := "BillingRun", name := "setPlan", desc := "(III)Z" } : Jvm.MethodName)) ∈ tables_1 := List.mem_of_getElem? (i := 129) rfl
theorem m_130 : (Jvm.Cond.code ({ cls := "BillingRun", name := "setPlan", desc := "(III)Z" } : Jvm.MethodName) prog_1_method_6_code (4 : Nat) (Option.some Jvm.ClassFile.FieldType.boolean)) ∈ tables_1 := List.mem_of_getElem? (i := 130) rfl
theorem m_131 : (Jvm.Cond.constantLong "BillingRunOwnLaw" (70 : Nat) (4 : Int64)) ∈ tables_1 := List.mem_of_getElem? (i := 131) rfl
theorem m_132 : (Jvm.Cond.methodLink "BillingRunOwnLaw" (72 : Nat) ({ cls := "BillingRun", name := "getSegment", desc := "(III)J" } : Jvm.MethodName)) ∈ tables_1 := List.mem_of_getElem? (i := 132) rfl
theorem m_133 : (Jvm.Cond.declares ({ cls := "BillingRun", name := "getSegment", desc := "(III)J" } : Jvm.MethodName)) ∈ tables_1 := List.mem_of_getElem? (i := 133) rfl
theorem m_134 : (Jvm.Cond.instanceMethod ({ cls := "BillingRun", name := "getSegment", desc := "(III)J" } : Jvm.MethodName)) ∈ tables_1 := List.mem_of_getElem? (i := 134) rfl
theorem m_135 : (Jvm.Cond.selects "BillingRun" ({ cls := "BillingRun", name := "getSegment", desc := "(III)J" } : Jvm.MethodName) ({ cls := "BillingRun", name := "getSegment", desc := "(III)J" } : Jvm.MethodName)) ∈ tables_1 := List.mem_of_getElem? (i := 135) rfl
theorem m_136 : (Jvm.Cond.code ({ cls := "BillingRun", name := "getSegment", desc := "(III)J" } : Jvm.MethodName) prog_1_method_27_code (5 : Nat) (Option.some Jvm.ClassFile.FieldType.long)) ∈ tables_1 := List.mem_of_getElem? (i := 136) rfl
theorem m_137 : (Jvm.Cond.constantLong "BillingRunOwnLaw" (76 : Nat) (7 : Int64)) ∈ tables_1 := List.mem_of_getElem? (i := 137) rfl
theorem m_138 : (Jvm.Cond.constantLong "BillingRunOwnLaw" (78 : Nat) (-1 : Int64)) ∈ tables_1 := List.mem_of_getElem? (i := 138) rfl
theorem m_139 : (Jvm.Cond.methodLink "BillingRunOwnLaw" (80 : Nat) ({ cls := "BillingRun", name := "closeCycle", desc := "()I" } : Jvm.MethodName)) ∈ tables_1 := List.mem_of_getElem? (i := 139) rfl
theorem m_140 : (Jvm.Cond.declares ({ cls := "BillingRun", name := "closeCycle", desc := "()I" } : Jvm.MethodName)) ∈ tables_1 := List.mem_of_getElem? (i := 140) rfl
theorem m_141 : (Jvm.Cond.instanceMethod ({ cls := "BillingRun", name := "closeCycle", desc := "()I" } : Jvm.MethodName)) ∈ tables_1 := List.mem_of_getElem? (i := 141) rfl
theorem m_142 : (Jvm.Cond.selects "BillingRun" ({ cls := "BillingRun", name := "closeCycle", desc := "()I" } : Jvm.MethodName) ({ cls := "BillingRun", name := "closeCycle", desc := "()I" } : Jvm.MethodName)) ∈ tables_1 := List.mem_of_getElem? (i := 142) rfl
theorem m_143 : (Jvm.Cond.code ({ cls := "BillingRun", name := "closeCycle", desc := "()I" } : Jvm.MethodName) prog_1_method_20_code (4 : Nat) (Option.some Jvm.ClassFile.FieldType.int)) ∈ tables_1 := List.mem_of_getElem? (i := 143) rfl
theorem m_144 : (Jvm.Cond.fieldLink "BillingRun" (136 : Nat) "BillingRun" "cycles" "I") ∈ tables_1 := List.mem_of_getElem? (i := 144) rfl
theorem m_145 : (Jvm.Cond.lays "BillingRun" "BillingRun" "cycles" "I") ∈ tables_1 := List.mem_of_getElem? (i := 145) rfl
theorem m_146 : (Jvm.Cond.methodLink "BillingRun" (132 : Nat) ({ cls := "BillingRun", name := "openSlot", desc := "(I)I" } : Jvm.MethodName)) ∈ tables_1 := List.mem_of_getElem? (i := 146) rfl
theorem m_147 : (Jvm.Cond.instanceMethod ({ cls := "BillingRun", name := "openSlot", desc := "(I)I" } : Jvm.MethodName)) ∈ tables_1 := List.mem_of_getElem? (i := 147) rfl
theorem m_148 : (Jvm.Cond.privateMethod ({ cls := "BillingRun", name := "openSlot", desc := "(I)I" } : Jvm.MethodName)) ∈ tables_1 := List.mem_of_getElem? (i := 148) rfl
theorem m_149 : (Jvm.Cond.code ({ cls := "BillingRun", name := "openSlot", desc := "(I)I" } : Jvm.MethodName) prog_1_method_14_code (3 : Nat) (Option.some Jvm.ClassFile.FieldType.int)) ∈ tables_1 := List.mem_of_getElem? (i := 149) rfl
theorem m_150 : (Jvm.Cond.methodLink "BillingRun" (139 : Nat) ({ cls := "BillingRun", name := "buildInvoice", desc := "(I)V" } : Jvm.MethodName)) ∈ tables_1 := List.mem_of_getElem? (i := 150) rfl
theorem m_151 : (Jvm.Cond.instanceMethod ({ cls := "BillingRun", name := "buildInvoice", desc := "(I)V" } : Jvm.MethodName)) ∈ tables_1 := List.mem_of_getElem? (i := 151) rfl
theorem m_152 : (Jvm.Cond.privateMethod ({ cls := "BillingRun", name := "buildInvoice", desc := "(I)V" } : Jvm.MethodName)) ∈ tables_1 := List.mem_of_getElem? (i := 152) rfl
theorem m_153 : (Jvm.Cond.code ({ cls := "BillingRun", name := "buildInvoice", desc := "(I)V" } : Jvm.MethodName) prog_1_method_23_code (12 : Nat) (Option.none : Option Jvm.ClassFile.FieldType)) ∈ tables_1 := List.mem_of_getElem? (i := 153) rfl
theorem m_154 : (Jvm.Cond.methodLink "BillingRun" (145 : Nat) ({ cls := "BillingRun", name := "fillLines", desc := "(II)J" } : Jvm.MethodName)) ∈ tables_1 := List.mem_of_getElem? (i := 154) rfl
theorem m_155 : (Jvm.Cond.instanceMethod ({ cls := "BillingRun", name := "fillLines", desc := "(II)J" } : Jvm.MethodName)) ∈ tables_1 := List.mem_of_getElem? (i := 155) rfl
theorem m_156 : (Jvm.Cond.privateMethod ({ cls := "BillingRun", name := "fillLines", desc := "(II)J" } : Jvm.MethodName)) ∈ tables_1 := List.mem_of_getElem? (i := 156) rfl
theorem m_157 : (Jvm.Cond.code ({ cls := "BillingRun", name := "fillLines", desc := "(II)J" } : Jvm.MethodName) prog_1_method_21_code (17 : Nat) (Option.some Jvm.ClassFile.FieldType.long)) ∈ tables_1 := List.mem_of_getElem? (i := 157) rfl
theorem m_158 : (Jvm.Cond.constantLong "BillingRun" (104 : Nat) (1000000 : Int64)) ∈ tables_1 := List.mem_of_getElem? (i := 158) rfl
theorem m_159 : (Jvm.Cond.methodLink "BillingRun" (119 : Nat) ({ cls := "BillingRun", name := "charge", desc := "(IJ)J" } : Jvm.MethodName)) ∈ tables_1 := List.mem_of_getElem? (i := 159) rfl
theorem m_160 : (Jvm.Cond.instanceMethod ({ cls := "BillingRun", name := "charge", desc := "(IJ)J" } : Jvm.MethodName)) ∈ tables_1 := List.mem_of_getElem? (i := 160) rfl
theorem m_161 : (Jvm.Cond.privateMethod ({ cls := "BillingRun", name := "charge", desc := "(IJ)J" } : Jvm.MethodName)) ∈ tables_1 := List.mem_of_getElem? (i := 161) rfl
theorem m_162 : (Jvm.Cond.code ({ cls := "BillingRun", name := "charge", desc := "(IJ)J" } : Jvm.MethodName) prog_1_method_11_code (4 : Nat) (Option.some Jvm.ClassFile.FieldType.long)) ∈ tables_1 := List.mem_of_getElem? (i := 162) rfl
theorem m_163 : (Jvm.Cond.methodLink "BillingRun" (114 : Nat) ({ cls := "BillingRun", name := "chargeGraduated", desc := "(IJ)J" } : Jvm.MethodName)) ∈ tables_1 := List.mem_of_getElem? (i := 163) rfl
theorem m_164 : (Jvm.Cond.instanceMethod ({ cls := "BillingRun", name := "chargeGraduated", desc := "(IJ)J" } : Jvm.MethodName)) ∈ tables_1 := List.mem_of_getElem? (i := 164) rfl
theorem m_165 : (Jvm.Cond.privateMethod ({ cls := "BillingRun", name := "chargeGraduated", desc := "(IJ)J" } : Jvm.MethodName)) ∈ tables_1 := List.mem_of_getElem? (i := 165) rfl
theorem m_166 : (Jvm.Cond.code ({ cls := "BillingRun", name := "chargeGraduated", desc := "(IJ)J" } : Jvm.MethodName) prog_1_method_9_code (13 : Nat) (Option.some Jvm.ClassFile.FieldType.long)) ∈ tables_1 := List.mem_of_getElem? (i := 166) rfl
theorem m_167 : (Jvm.Cond.methodLink "BillingRun" (106 : Nat) ({ cls := "BillingRun", name := "effBound", desc := "(II)J" } : Jvm.MethodName)) ∈ tables_1 := List.mem_of_getElem? (i := 167) rfl
theorem m_168 : (Jvm.Cond.instanceMethod ({ cls := "BillingRun", name := "effBound", desc := "(II)J" } : Jvm.MethodName)) ∈ tables_1 := List.mem_of_getElem? (i := 168) rfl
theorem m_169 : (Jvm.Cond.privateMethod ({ cls := "BillingRun", name := "effBound", desc := "(II)J" } : Jvm.MethodName)) ∈ tables_1 := List.mem_of_getElem? (i := 169) rfl
theorem m_170 : (Jvm.Cond.code ({ cls := "BillingRun", name := "effBound", desc := "(II)J" } : Jvm.MethodName) prog_1_method_8_code (8 : Nat) (Option.some Jvm.ClassFile.FieldType.long)) ∈ tables_1 := List.mem_of_getElem? (i := 170) rfl
theorem m_171 : (Jvm.Cond.constantLong "BillingRun" (143 : Nat) (10000 : Int64)) ∈ tables_1 := List.mem_of_getElem? (i := 171) rfl
theorem m_172 : (Jvm.Cond.methodLink "BillingRun" (148 : Nat) ({ cls := "BillingRun", name := "spreadTax", desc := "(IIJ)V" } : Jvm.MethodName)) ∈ tables_1 := List.mem_of_getElem? (i := 172) rfl
theorem m_173 : (Jvm.Cond.instanceMethod ({ cls := "BillingRun", name := "spreadTax", desc := "(IIJ)V" } : Jvm.MethodName)) ∈ tables_1 := List.mem_of_getElem? (i := 173) rfl
theorem m_174 : (Jvm.Cond.privateMethod ({ cls := "BillingRun", name := "spreadTax", desc := "(IIJ)V" } : Jvm.MethodName)) ∈ tables_1 := List.mem_of_getElem? (i := 174) rfl
theorem m_175 : (Jvm.Cond.code ({ cls := "BillingRun", name := "spreadTax", desc := "(IIJ)V" } : Jvm.MethodName) prog_1_method_22_code (13 : Nat) (Option.none : Option Jvm.ClassFile.FieldType)) ∈ tables_1 := List.mem_of_getElem? (i := 175) rfl
theorem m_176 : (Jvm.Cond.methodLink "BillingRun" (110 : Nat) ({ cls := "BillingRun", name := "chargeVolume", desc := "(IJ)J" } : Jvm.MethodName)) ∈ tables_1 := List.mem_of_getElem? (i := 176) rfl
theorem m_177 : (Jvm.Cond.instanceMethod ({ cls := "BillingRun", name := "chargeVolume", desc := "(IJ)J" } : Jvm.MethodName)) ∈ tables_1 := List.mem_of_getElem? (i := 177) rfl
theorem m_178 : (Jvm.Cond.privateMethod ({ cls := "BillingRun", name := "chargeVolume", desc := "(IJ)J" } : Jvm.MethodName)) ∈ tables_1 := List.mem_of_getElem? (i := 178) rfl
theorem m_179 : (Jvm.Cond.code ({ cls := "BillingRun", name := "chargeVolume", desc := "(IJ)J" } : Jvm.MethodName) prog_1_method_10_code (5 : Nat) (Option.some Jvm.ClassFile.FieldType.long)) ∈ tables_1 := List.mem_of_getElem? (i := 179) rfl
theorem m_180 : (Jvm.Cond.methodLink "BillingRunOwnLaw" (18 : Nat) ({ cls := "BillingRun", name := "getLine", desc := "(II)J" } : Jvm.MethodName)) ∈ tables_1 := List.mem_of_getElem? (i := 180) rfl
theorem m_181 : (Jvm.Cond.declares ({ cls := "BillingRun", name := "getLine", desc := "(II)J" } : Jvm.MethodName)) ∈ tables_1 := List.mem_of_getElem? (i := 181) rfl
theorem m_182 : (Jvm.Cond.instanceMethod ({ cls := "BillingRun", name := "getLine", desc := "(II)J" } : Jvm.MethodName)) ∈ tables_1 := List.mem_of_getElem? (i := 182) rfl
theorem m_183 : (Jvm.Cond.selects "BillingRun" ({ cls := "BillingRun", name := "getLine", desc := "(II)J" } : Jvm.MethodName) ({ cls := "BillingRun", name := "getLine", desc := "(II)J" } : Jvm.MethodName)) ∈ tables_1 := List.mem_of_getElem? (i := 183) rfl
theorem m_184 : (Jvm.Cond.code ({ cls := "BillingRun", name := "getLine", desc := "(II)J" } : Jvm.MethodName) prog_1_method_24_code (3 : Nat) (Option.some Jvm.ClassFile.FieldType.long)) ∈ tables_1 := List.mem_of_getElem? (i := 184) rfl
theorem m_185 : (Jvm.Cond.methodLink "BillingRunOwnLaw" (83 : Nat) ({ cls := "BillingRunOwnLaw", name := "pick", desc := "(IJJJ)J" } : Jvm.MethodName)) ∈ tables_1 := List.mem_of_getElem? (i := 185) rfl
theorem m_186 : (Jvm.Cond.static ({ cls := "BillingRunOwnLaw", name := "pick", desc := "(IJJJ)J" } : Jvm.MethodName)) ∈ tables_1 := List.mem_of_getElem? (i := 186) rfl
theorem m_187 : (Jvm.Cond.code ({ cls := "BillingRunOwnLaw", name := "pick", desc := "(IJJJ)J" } : Jvm.MethodName) method_4_code (7 : Nat) (Option.some Jvm.ClassFile.FieldType.long)) ∈ tables_1 := List.mem_of_getElem? (i := 187) rfl
theorem m_188 : (Jvm.Cond.constantLong "BillingRunOwnLaw" (87 : Nat) (1000000 : Int64)) ∈ tables_1 := List.mem_of_getElem? (i := 188) rfl
theorem m_189 : (Jvm.Cond.methodLink "BillingRunOwnLaw" (15 : Nat) ({ cls := "BillingRun", name := "getLineTax", desc := "(II)J" } : Jvm.MethodName)) ∈ tables_1 := List.mem_of_getElem? (i := 189) rfl
theorem m_190 : (Jvm.Cond.declares ({ cls := "BillingRun", name := "getLineTax", desc := "(II)J" } : Jvm.MethodName)) ∈ tables_1 := List.mem_of_getElem? (i := 190) rfl
theorem m_191 : (Jvm.Cond.instanceMethod ({ cls := "BillingRun", name := "getLineTax", desc := "(II)J" } : Jvm.MethodName)) ∈ tables_1 := List.mem_of_getElem? (i := 191) rfl
theorem m_192 : (Jvm.Cond.selects "BillingRun" ({ cls := "BillingRun", name := "getLineTax", desc := "(II)J" } : Jvm.MethodName) ({ cls := "BillingRun", name := "getLineTax", desc := "(II)J" } : Jvm.MethodName)) ∈ tables_1 := List.mem_of_getElem? (i := 192) rfl
theorem m_193 : (Jvm.Cond.code ({ cls := "BillingRun", name := "getLineTax", desc := "(II)J" } : Jvm.MethodName) prog_1_method_25_code (3 : Nat) (Option.some Jvm.ClassFile.FieldType.long)) ∈ tables_1 := List.mem_of_getElem? (i := 193) rfl
theorem m_194 : (Jvm.Cond.methodLink "BillingRunOwnLaw" (63 : Nat) ({ cls := "BillingRun", name := "recordUsage", desc := "(III)Z" } : Jvm.MethodName)) ∈ tables_1 := List.mem_of_getElem? (i := 194) rfl
theorem m_195 : (Jvm.Cond.declares ({ cls := "BillingRun", name := "recordUsage", desc := "(III)Z" } : Jvm.MethodName)) ∈ tables_1 := List.mem_of_getElem? (i := 195) rfl
theorem m_196 : (Jvm.Cond.instanceMethod ({ cls := "BillingRun", name := "recordUsage", desc := "(III)Z" } : Jvm.MethodName)) ∈ tables_1 := List.mem_of_getElem? (i := 196) rfl
theorem m_197 : (Jvm.Cond.selects "BillingRun" ({ cls := "BillingRun", name := "recordUsage", desc := "(III)Z" } : Jvm.MethodName) ({ cls := "BillingRun", name := "recordUsage", desc := "(III)Z" } : Jvm.MethodName)) ∈ tables_1 := List.mem_of_getElem? (i := 197) rfl
theorem m_198 : (Jvm.Cond.code ({ cls := "BillingRun", name := "recordUsage", desc := "(III)Z" } : Jvm.MethodName) prog_1_method_18_code (5 : Nat) (Option.some Jvm.ClassFile.FieldType.boolean)) ∈ tables_1 := List.mem_of_getElem? (i := 198) rfl
theorem m_199 : (Jvm.Cond.constant "BillingRunOwnLaw" (66 : Nat) (1000000 : Int32)) ∈ tables_1 := List.mem_of_getElem? (i := 199) rfl
theorem m_200 : (Jvm.Cond.methodLink "BillingRunOwnLaw" (67 : Nat) ({ cls := "BillingRun", name := "issueCredit", desc := "(II)Z" } : Jvm.MethodName)) ∈ tables_1 := List.mem_of_getElem? (i := 200) rfl
theorem m_201 : (Jvm.Cond.declares ({ cls := "BillingRun", name := "issueCredit", desc := "(II)Z" } : Jvm.MethodName)) ∈ tables_1 := List.mem_of_getElem? (i := 201) rfl
theorem m_202 : (Jvm.Cond.instanceMethod ({ cls := "BillingRun", name := "issueCredit", desc := "(II)Z" } : Jvm.MethodName)) ∈ tables_1 := List.mem_of_getElem? (i := 202) rfl
theorem m_203 : (Jvm.Cond.selects "BillingRun" ({ cls := "BillingRun", name := "issueCredit", desc := "(II)Z" } : Jvm.MethodName) ({ cls := "BillingRun", name := "issueCredit", desc := "(II)Z" } : Jvm.MethodName)) ∈ tables_1 := List.mem_of_getElem? (i := 203) rfl
theorem m_204 : (Jvm.Cond.code ({ cls := "BillingRun", name := "issueCredit", desc := "(II)Z" } : Jvm.MethodName) prog_1_method_19_code (5 : Nat) (Option.some Jvm.ClassFile.FieldType.boolean)) ∈ tables_1 := List.mem_of_getElem? (i := 204) rfl
theorem m_205 : (Jvm.Cond.methodLink "BillingRunOwnLaw" (56 : Nat) ({ cls := "BillingRun", name := "changePlan", desc := "(III)Z" } : Jvm.MethodName)) ∈ tables_1 := List.mem_of_getElem? (i := 205) rfl
theorem m_206 : (Jvm.Cond.declares ({ cls := "BillingRun", name := "changePlan", desc := "(III)Z" } : Jvm.MethodName)) ∈ tables_1 := List.mem_of_getElem? (i := 206) rfl
theorem m_207 : (Jvm.Cond.instanceMethod ({ cls := "BillingRun", name := "changePlan", desc := "(III)Z" } : Jvm.MethodName)) ∈ tables_1 := List.mem_of_getElem? (i := 207) rfl
theorem m_208 : (Jvm.Cond.selects "BillingRun" ({ cls := "BillingRun", name := "changePlan", desc := "(III)Z" } : Jvm.MethodName) ({ cls := "BillingRun", name := "changePlan", desc := "(III)Z" } : Jvm.MethodName)) ∈ tables_1 := List.mem_of_getElem? (i := 208) rfl
theorem m_209 : (Jvm.Cond.code ({ cls := "BillingRun", name := "changePlan", desc := "(III)Z" } : Jvm.MethodName) prog_1_method_16_code (5 : Nat) (Option.some Jvm.ClassFile.FieldType.boolean)) ∈ tables_1 := List.mem_of_getElem? (i := 209) rfl
theorem m_210 : (Jvm.Cond.methodLink "BillingRunOwnLaw" (59 : Nat) ({ cls := "BillingRun", name := "cancel", desc := "(II)Z" } : Jvm.MethodName)) ∈ tables_1 := List.mem_of_getElem? (i := 210) rfl
theorem m_211 : (Jvm.Cond.declares ({ cls := "BillingRun", name := "cancel", desc := "(II)Z" } : Jvm.MethodName)) ∈ tables_1 := List.mem_of_getElem? (i := 211) rfl
theorem m_212 : (Jvm.Cond.instanceMethod ({ cls := "BillingRun", name := "cancel", desc := "(II)Z" } : Jvm.MethodName)) ∈ tables_1 := List.mem_of_getElem? (i := 212) rfl
theorem m_213 : (Jvm.Cond.selects "BillingRun" ({ cls := "BillingRun", name := "cancel", desc := "(II)Z" } : Jvm.MethodName) ({ cls := "BillingRun", name := "cancel", desc := "(II)Z" } : Jvm.MethodName)) ∈ tables_1 := List.mem_of_getElem? (i := 213) rfl
theorem m_214 : (Jvm.Cond.code ({ cls := "BillingRun", name := "cancel", desc := "(II)Z" } : Jvm.MethodName) prog_1_method_17_code (4 : Nat) (Option.some Jvm.ClassFile.FieldType.boolean)) ∈ tables_1 := List.mem_of_getElem? (i := 214) rfl
theorem m_215 : (Jvm.Cond.constantLong "BillingRun" (117 : Nat) (-1 : Int64)) ∈ tables_1 := List.mem_of_getElem? (i := 215) rfl
theorem laid0 {Z : State} {a0 : Array Value} (hw : HW a0 Z) : LaidAll Z a0 CN lay vs0 :=
  ⟨⟨Or.inl (hw _ m_71), .int, by decide, rfl⟩, ⟨Or.inl (hw _ m_73), .int, by decide, rfl⟩, ⟨Or.inl (hw _ m_111), .int, by decide, rfl⟩, ⟨Or.inl (hw _ m_145), .int, by decide, rfl⟩, ⟨Or.inl (hw _ m_18), .array .int, by decide, rfl⟩, ⟨Or.inl (hw _ m_20), .array .int, by decide, rfl⟩, ⟨Or.inl (hw _ m_22), .array .int, by decide, rfl⟩, ⟨Or.inl (hw _ m_24), .array .int, by decide, rfl⟩, ⟨Or.inl (hw _ m_27), .array .boolean, by decide, rfl⟩, ⟨Or.inl (hw _ m_29), .array .int, by decide, rfl⟩, ⟨Or.inl (hw _ m_31), .array .int, by decide, rfl⟩, ⟨Or.inl (hw _ m_34), .array .long, by decide, rfl⟩, ⟨Or.inl (hw _ m_36), .array .long, by decide, rfl⟩, ⟨Or.inl (hw _ m_38), .array .long, by decide, rfl⟩, ⟨Or.inl (hw _ m_40), .array .int, by decide, rfl⟩, ⟨Or.inl (hw _ m_42), .array .int, by decide, rfl⟩, ⟨Or.inl (hw _ m_44), .array .int, by decide, rfl⟩, ⟨Or.inl (hw _ m_46), .array .int, by decide, rfl⟩, ⟨Or.inl (hw _ m_48), .array .int, by decide, rfl⟩, ⟨Or.inl (hw _ m_50), .array .long, by decide, rfl⟩, ⟨Or.inl (hw _ m_52), .array .long, by decide, rfl⟩, ⟨Or.inl (hw _ m_54), .array .long, by decide, rfl⟩, ⟨Or.inl (hw _ m_56), .array .long, by decide, rfl⟩, ⟨Or.inl (hw _ m_58), .array .int, by decide, rfl⟩, ⟨Or.inl (hw _ m_60), .array .long, by decide, rfl⟩, ⟨Or.inl (hw _ m_62), .array .long, by decide, rfl⟩, ⟨Or.inl (hw _ m_64), .array .long, by decide, rfl⟩, ⟨Or.inl (hw _ m_66), .array .boolean, by decide, rfl⟩, trivial⟩
theorem hlay {Z : State} {a0 : Array Value} (hw : HW a0 Z) : ∀ (a b : Nat) (f g : String × String), lay[a]? = some f → lay[b]? = some g → a ≠ b → RoadKit.slotOf Z CN f.1 f.2 ≠ RoadKit.slotOf Z CN g.1 g.2 := (laid0 hw).ne (by decide)
theorem vs0_ok {Z : State} {a0 : Array Value} (hw : HW a0 Z) : ∀ (i : Nat) (f : String × String) (v : Value), lay[i]? = some f → vs0[i]? = some v → Laid Z a0 CN CN f.1 f.2 ∧ ∃ ty, parseFieldDescriptor f.2 = some ty ∧ v = defaultValue ty := (laid0 hw).new
theorem pn_cls : plainName CN = true := by first | (simp [plainName, overriddenIn]; done) | decide +kernel
theorem pn_law : plainName "BillingRunOwnLaw" = true := by first | (simp [plainName, overriddenIn]; done) | decide +kernel
set_option maxRecDepth 65536
set_option maxHeartbeats 4000000
abbrev k0 := prog_1_method_1_code
abbrev k1 := prog_1_method_2_code
abbrev k2 := prog_1_method_3_code
abbrev k3 := prog_1_method_4_code
abbrev k4 := prog_1_method_5_code
abbrev k5 := prog_1_method_6_code
abbrev k6 := prog_1_method_7_code
abbrev k7 := prog_1_method_8_code
abbrev k8 := prog_1_method_9_code
abbrev k9 := prog_1_method_10_code
abbrev k10 := prog_1_method_11_code
abbrev k11 := prog_1_method_13_code
abbrev k12 := prog_1_method_14_code
abbrev k13 := prog_1_method_15_code
abbrev k14 := prog_1_method_16_code
abbrev k15 := prog_1_method_17_code
abbrev k16 := prog_1_method_18_code
abbrev k17 := prog_1_method_19_code
abbrev k18 := prog_1_method_20_code
abbrev k19 := prog_1_method_21_code
abbrev k20 := prog_1_method_22_code
abbrev k21 := prog_1_method_23_code
abbrev k22 := prog_1_method_24_code
abbrev k23 := prog_1_method_25_code
abbrev k24 := prog_1_method_26_code
abbrev k25 := prog_1_method_27_code
abbrev k26 := prog_1_method_28_code
abbrev k27 := prog_1_method_29_code
theorem bd {α β : Type} {o : Option α} {f : α → Option β} {r : β} (h : o.bind f = some r) : ∃ c, o = some c ∧ f c = some r := Option.bind_eq_some_iff.mp h
abbrev KT0 := Int32 → Int64 → Int64 → Int64 → Int32 → Int32 → List Int32 → St → Option (Int32)
abbrev KT1 := Int32 → Int64 → Int64 → Int64 → Int32 → Int32 → Int64 → Int64 → Int32 → List Int32 → St → Option (Int32)
abbrev KT2 := Int32 → Int32 → Int64 → Int32 → St → Option (St)
abbrev KT3 := Int32 → Int32 → St → Option (Int32 × St)
abbrev KT4 := Int32 → Int64 → Int64 → Int64 → Int32 → Int32 → Int64 → Int64 → Int32 → Int64 → Int32 → Int64 → Int64 → Int32 → List Int32 → St → Option (Int32)
abbrev KT5 := Int32 → Int64 → Int32 → Int64 → Int32 → St → Option (St)
abbrev KT6 := Int32 → Int32 → Int64 → Int32 → Int32 → Int32 → St → Option (St)
abbrev KT7 := Int32 → St → Option (Int32)
abbrev KT8 := Int32 → St → Option (St)
abbrev KT9 := Int32 → Int32 → Int64 → Int32 → St → Option (Int64)
abbrev KT10 := Int32 → Int64 → Int64 → Int64 → Int32 → St → Option (Int64)
abbrev KT11 := Int32 → Int32 → Int32 → Int64 → Int32 → St → Option (Int64 × St)
abbrev KT12 := Int32 → Int64 → Int32 → St → Option (Int64)
abbrev KT13 := Int32 → Int64 → Int32 → St → Option (Int64 × St)
abbrev KT14 := Int32 → Int64 → Int64 → Int64 → Int32 → St → Option (Int32)
abbrev KT15 := Int32 → Int64 → Int64 → Int64 → Int32 → Int32 → Int64 → Int64 → Int32 → Int32 → Int32 → Int64 → Int32 → List Int32 → St → Option (Int32)
abbrev vU : Slot := .unset
abbrev vS : Slot := .second
abbrev vI (x : Int32) : Slot := .val (.int x)
abbrev vJ (x : Int64) : Slot := .val (.long x)
abbrev vR (x : Nat) : Slot := .val (.ref x)
theorem d0_0 : dc method_2_code 0 (.iload_n 1) 1 := by decide +kernel
theorem d0_1 : dc method_2_code 1 (.aload_n 0) 1 := by decide +kernel
theorem d0_2 : dc method_2_code 2 (.arraylength) 1 := by decide +kernel
theorem d0_3 : dc method_2_code 3 (.if_icmp .ge 9) 3 := by decide +kernel
theorem d0_6 : dc method_2_code 6 (.aload_n 0) 1 := by decide +kernel
theorem d0_7 : dc method_2_code 7 (.iload_n 1) 1 := by decide +kernel
theorem d0_8 : dc method_2_code 8 (.iaload) 1 := by decide +kernel
theorem d0_9 : dc method_2_code 9 (.goto 4) 3 := by decide +kernel
theorem d0_12 : dc method_2_code 12 (.iconst 0) 1 := by decide +kernel
theorem d0_13 : dc method_2_code 13 (.ireturn) 1 := by decide +kernel
abbrev y0 : MethodName := ⟨"BillingRunOwnLaw", "cell", "([II)I"⟩
theorem hy0 : y0.cls ≠ "java/lang/invoke/MethodHandle" ∧ y0.cls ≠ "java/lang/invoke/VarHandle" := by decide
theorem pd0 : parseMethodDescriptor y0.desc = some ⟨[.array .int, .int], some .int⟩ := by decide +kernel
abbrev R0 : Room := { frames := 0, cells := 0, slots := 0, locals := 0 }
abbrev P0 (a : List Int32) (r : Int32) : Option Value → List OwnC → Prop := fun v H' => v = some (.int r) ∧ H' = ([cI a])
abbrev W0 (l : Launch) (Z : State) (n0 : Nat) (Q : Option Value → List OwnC → Prop) (k n pc : Nat) (L : List Slot) (S : List Value) (H : List OwnC) : Prop := WP l Z CN lay "BillingRunOwnLaw" "cell" method_2_code 2 (some FieldType.int) R0 n0 1 Q k n pc L S H
def f_L_cell_13 (t0 : Int32) (a : List Int32) : Option (Int32) :=
 some t0
theorem ok0_13 (l : Launch) (Z : State) (a0 : Array Value) (hw : HW a0 Z) (n0 : Nat) (t0 : Int32) (a : List Int32) (r : Int32) (h : f_L_cell_13 t0 a = some r) : W0 l Z n0 (P0 a r) 0 0 13 (vU :: vU :: []) [.int t0] ([cI a]) := by
 unfold f_L_cell_13 at h
 cases h
 exact WP.ireturn d0_13 rfl (leb rfl) (leb rfl) ⟨rfl, rfl⟩
def f_L_cell (p1 : Int32) (a : List Int32) : Option (Int32) :=
 if p1 < a.length.toInt32 then
  (rd a p1).bind fun x2 =>
  f_L_cell_13 x2 a
 else
  f_L_cell_13 (0 : Int32) a
theorem ok0 (l : Launch) (Z : State) (a0 : Array Value) (hw : HW a0 Z) (p1 : Int32) (a : List Int32) (r : Int32) (h : f_L_cell p1 a = some r) : CS l Z CN lay y0 method_2_code 2 (some FieldType.int) R0 1 [.ref 0, .int p1] ([cI a]) (P0 a r) := by
 refine CS.of_wp pn_law (leb rfl) fun n0 => ?_
 show W0 l Z n0 (P0 a r) 0 0 0 (vR 0 :: vI p1 :: []) [] ([cI a])
 unfold f_L_cell at h
 refine WP.iloadN d0_0 rfl ?_
 refine WP.aloadN d0_1 rfl ?_
 refine WP.arraylength (i := 0) (xs := a) d0_2 rfl ?_
 rcases ite_e h with ⟨hc1, h⟩ | ⟨hc1, h⟩
 ·
  refine WP.icmpN d0_3 (XT.ii_ge_f hc1) ?_
  refine WP.aloadN d0_6 rfl ?_
  refine WP.iloadN d0_7 rfl ?_
  obtain ⟨x2, hx2, h⟩ := bd h
  refine WP.iaload (i := 0) d0_8 rfl hx2 ?_
  refine WP.goto (pc' := 13) d0_9 (by decide) rfl ?_
  exact WP.weak (L' := (vU :: vU :: [])) trivial (ok0_13 l Z a0 hw n0 x2 a _ h)
 ·
  refine WP.icmpY (pc' := 12) d0_3 (XT.ii_ge_t hc1) (by decide) rfl ?_
  refine WP.iconst (0 : Int32) d0_12 rfl ?_
  exact WP.weak (L' := (vU :: vU :: [])) trivial (ok0_13 l Z a0 hw n0 (0 : Int32) a _ h)
theorem d1_0 : dc method_3_code 0 (.lload_n 0) 1 := by decide +kernel
theorem d1_1 : dc method_3_code 1 (.iload_n 2) 1 := by decide +kernel
theorem d1_2 : dc method_3_code 2 (.i2l) 1 := by decide +kernel
theorem d1_3 : dc method_3_code 3 (.lrem) 1 := by decide +kernel
theorem d1_4 : dc method_3_code 4 (.lstore_n 3) 1 := by decide +kernel
theorem d1_5 : dc method_3_code 5 (.lload_n 3) 1 := by decide +kernel
theorem d1_6 : dc method_3_code 6 (.lconst 0) 1 := by decide +kernel
theorem d1_7 : dc method_3_code 7 (.lcmp) 1 := by decide +kernel
theorem d1_8 : dc method_3_code 8 (.ifCond .ge 8) 3 := by decide +kernel
theorem d1_11 : dc method_3_code 11 (.lload_n 3) 1 := by decide +kernel
theorem d1_12 : dc method_3_code 12 (.iload_n 2) 1 := by decide +kernel
theorem d1_13 : dc method_3_code 13 (.i2l) 1 := by decide +kernel
theorem d1_14 : dc method_3_code 14 (.ladd) 1 := by decide +kernel
theorem d1_15 : dc method_3_code 15 (.lstore_n 3) 1 := by decide +kernel
theorem d1_16 : dc method_3_code 16 (.lload_n 3) 1 := by decide +kernel
theorem d1_17 : dc method_3_code 17 (.l2i) 1 := by decide +kernel
theorem d1_18 : dc method_3_code 18 (.ireturn) 1 := by decide +kernel
abbrev y1 : MethodName := ⟨"BillingRunOwnLaw", "m", "(JI)I"⟩
theorem hy1 : y1.cls ≠ "java/lang/invoke/MethodHandle" ∧ y1.cls ≠ "java/lang/invoke/VarHandle" := by decide
theorem pd1 : parseMethodDescriptor y1.desc = some ⟨[.long, .int], some .int⟩ := by decide +kernel
abbrev R1 : Room := { frames := 0, cells := 0, slots := 0, locals := 0 }
abbrev P1 (r : Int32) : Option Value → List OwnC → Prop := fun v H' => v = some (.int r) ∧ H' = ([] : List OwnC)
abbrev W1 (l : Launch) (Z : State) (n0 : Nat) (Q : Option Value → List OwnC → Prop) (k n pc : Nat) (L : List Slot) (S : List Value) (H : List OwnC) : Prop := WP l Z CN lay "BillingRunOwnLaw" "m" method_3_code 5 (some FieldType.int) R1 n0 0 Q k n pc L S H
def f_L_m_16 (v3 : Int64) : Option (Int32) :=
 some v3.toInt32
theorem ok1_16 (l : Launch) (Z : State) (a0 : Array Value) (hw : HW a0 Z) (n0 : Nat) (v3 : Int64) (r : Int32) (h : f_L_m_16 v3 = some r) : W1 l Z n0 (P1 r) 0 0 16 (vU :: vU :: vU :: vJ v3 :: vS :: []) [] ([] : List OwnC) := by
 unfold f_L_m_16 at h
 refine WP.lloadN d1_16 rfl ?_
 refine WP.l2i d1_17 ?_
 cases h
 exact WP.ireturn d1_18 rfl (leb rfl) (leb rfl) ⟨rfl, rfl⟩
def f_L_m (p0 : Int64) (p1 : Int32) : Option (Int32) :=
 if p1.toInt64 = 0 then none else
 lt (p0 % p1.toInt64) fun x2 =>
 if x2 < (0 : Int64) then
  lt (x2 + p1.toInt64) fun x4 =>
  f_L_m_16 x4
 else
  f_L_m_16 x2
theorem ok1 (l : Launch) (Z : State) (a0 : Array Value) (hw : HW a0 Z) (p0 : Int64) (p1 r : Int32) (h : f_L_m p0 p1 = some r) : CS l Z CN lay y1 method_3_code 5 (some FieldType.int) R1 0 [.long p0, .int p1] ([] : List OwnC) (P1 r) := by
 refine CS.of_wp pn_law (leb rfl) fun n0 => ?_
 show W1 l Z n0 (P1 r) 0 0 0 (vJ p0 :: vS :: vI p1 :: vU :: vU :: []) [] ([] : List OwnC)
 unfold f_L_m at h
 refine WP.lloadN d1_0 rfl ?_
 refine WP.iloadN d1_1 rfl ?_
 refine WP.i2l d1_2 ?_
 obtain ⟨hz1, h⟩ := nz_e h
 refine WP.lrem d1_3 hz1 ?_
 obtain ⟨x2, ex2, h⟩ := lt_e h
 refine WP.lstoreN (L' := (vJ p0 :: vS :: vI p1 :: vJ x2 :: vS :: [])) d1_4 (leb rfl) (by subst ex2; rfl) ?_
 refine WP.lloadN d1_5 rfl ?_
 refine WP.lconst (0 : Int64) d1_6 rfl ?_
 refine WP.lcmp d1_7 ?_
 rcases ite_e h with ⟨hc3, h⟩ | ⟨hc3, h⟩
 ·
  refine WP.ifN d1_8 (XT.ll_ge_f hc3) ?_
  refine WP.lloadN d1_11 rfl ?_
  refine WP.iloadN d1_12 rfl ?_
  refine WP.i2l d1_13 ?_
  refine WP.ladd d1_14 ?_
  obtain ⟨x4, ex4, h⟩ := lt_e h
  refine WP.lstoreN (L' := (vJ p0 :: vS :: vI p1 :: vJ x4 :: vS :: [])) d1_15 (leb rfl) (by subst ex4; rfl) ?_
  exact WP.weak (L' := (vU :: vU :: vU :: vJ x4 :: vS :: [])) ⟨rfl, rfl, trivial⟩ (ok1_16 l Z a0 hw n0 x4 _ h)
 ·
  refine WP.ifY (pc' := 16) d1_8 (XT.ll_ge_t hc3) (by decide) rfl ?_
  exact WP.weak (L' := (vU :: vU :: vU :: vJ x2 :: vS :: [])) ⟨rfl, rfl, trivial⟩ (ok1_16 l Z a0 hw n0 x2 _ h)
theorem d3_0 : dc k1 0 (.iload_n 0) 1 := by decide +kernel
theorem d3_1 : dc k1 1 (.iload_n 1) 1 := by decide +kernel
theorem d3_2 : dc k1 2 (.if_icmp .ge 5) 3 := by decide +kernel
theorem d3_5 : dc k1 5 (.iload_n 1) 1 := by decide +kernel
theorem d3_6 : dc k1 6 (.ireturn) 1 := by decide +kernel
theorem d3_7 : dc k1 7 (.iload_n 0) 1 := by decide +kernel
theorem d3_8 : dc k1 8 (.iload_n 2) 1 := by decide +kernel
theorem d3_9 : dc k1 9 (.if_icmp .le 5) 3 := by decide +kernel
theorem d3_12 : dc k1 12 (.iload_n 2) 1 := by decide +kernel
theorem d3_13 : dc k1 13 (.ireturn) 1 := by decide +kernel
theorem d3_14 : dc k1 14 (.iload_n 0) 1 := by decide +kernel
theorem d3_15 : dc k1 15 (.ireturn) 1 := by decide +kernel
abbrev y3 : MethodName := ⟨"BillingRun", "clamp", "(III)I"⟩
theorem hy3 : y3.cls ≠ "java/lang/invoke/MethodHandle" ∧ y3.cls ≠ "java/lang/invoke/VarHandle" := by decide
theorem pd3 : parseMethodDescriptor y3.desc = some ⟨[.int, .int, .int], some .int⟩ := by decide +kernel
abbrev R3 : Room := { frames := 0, cells := 0, slots := 0, locals := 0 }
abbrev P3 (r : Int32) : Option Value → List OwnC → Prop := fun v H' => v = some (.int r) ∧ H' = ([] : List OwnC)
abbrev W3 (l : Launch) (Z : State) (n0 : Nat) (Q : Option Value → List OwnC → Prop) (k n pc : Nat) (L : List Slot) (S : List Value) (H : List OwnC) : Prop := WP l Z CN lay "BillingRun" "clamp" prog_1_method_2_code 3 (some FieldType.int) R3 n0 0 Q k n pc L S H
def f_clamp (p0 p1 p2 : Int32) : Option (Int32) :=
 if p0 < p1 then
  some p1
 else
  if p2 < p0 then
   some p2
  else
   some p0
theorem ok3 (l : Launch) (Z : State) (a0 : Array Value) (hw : HW a0 Z) (p0 p1 p2 r : Int32) (h : f_clamp p0 p1 p2 = some r) : CS l Z CN lay y3 prog_1_method_2_code 3 (some FieldType.int) R3 0 [.int p0, .int p1, .int p2] ([] : List OwnC) (P3 r) := by
 refine CS.of_wp pn_cls (leb rfl) fun n0 => ?_
 show W3 l Z n0 (P3 r) 0 0 0 (vI p0 :: vI p1 :: vI p2 :: []) [] ([] : List OwnC)
 unfold f_clamp at h
 refine WP.iloadN d3_0 rfl ?_
 refine WP.iloadN d3_1 rfl ?_
 rcases ite_e h with ⟨hc1, h⟩ | ⟨hc1, h⟩
 ·
  refine WP.icmpN d3_2 (XT.ii_ge_f hc1) ?_
  refine WP.iloadN d3_5 rfl ?_
  cases h
  exact WP.ireturn d3_6 rfl (leb rfl) (leb rfl) ⟨rfl, rfl⟩
 ·
  refine WP.icmpY (pc' := 7) d3_2 (XT.ii_ge_t hc1) (by decide) rfl ?_
  refine WP.iloadN d3_7 rfl ?_
  refine WP.iloadN d3_8 rfl ?_
  rcases ite_e h with ⟨hc2, h⟩ | ⟨hc2, h⟩
  ·
   refine WP.icmpN d3_9 (XT.ii_le_f hc2) ?_
   refine WP.iloadN d3_12 rfl ?_
   cases h
   exact WP.ireturn d3_13 rfl (leb rfl) (leb rfl) ⟨rfl, rfl⟩
  ·
   refine WP.icmpY (pc' := 14) d3_9 (XT.ii_le_t hc2) (by decide) rfl ?_
   refine WP.iloadN d3_14 rfl ?_
   cases h
   exact WP.ireturn d3_15 rfl (leb rfl) (leb rfl) ⟨rfl, rfl⟩
def fr0_f : List Nat := []
theorem fr0_c (x0 : St) : fr0_f.map (fun i => (Hb 0 x0)[i]?) = ([] : List OwnC).map (fun c => some (rnC (ro1 fr0_f (Hb 0 x0).length) c)) := rfl
theorem fr0_l (x0 : St) : ∀ x ∈ fr0_f, x < (Hb 0 x0).length := by show ∀ x ∈ fr0_f, x < 25; decide
theorem fr0_p (x0 : St) : patch (ro1 fr0_f (Hb 0 x0).length) fr0_f ([] : List OwnC) (Hb 0 x0) = (Hb 0 x0) := rfl
theorem d2_0 : dc k0 0 (.aload_n 0) 1 := by decide +kernel
theorem d2_1 : dc k0 1 (.invokespecial 1) 3 := by decide +kernel
theorem d2_4 : dc k0 4 (.aload_n 0) 1 := by decide +kernel
theorem d2_5 : dc k0 5 (.bipush 8) 2 := by decide +kernel
theorem d2_7 : dc k0 7 (.newarray .int) 2 := by decide +kernel
theorem d2_9 : dc k0 9 (.putfield 7) 3 := by decide +kernel
theorem d2_12 : dc k0 12 (.aload_n 0) 1 := by decide +kernel
theorem d2_13 : dc k0 13 (.bipush 8) 2 := by decide +kernel
theorem d2_15 : dc k0 15 (.newarray .int) 2 := by decide +kernel
theorem d2_17 : dc k0 17 (.putfield 13) 3 := by decide +kernel
theorem d2_20 : dc k0 20 (.aload_n 0) 1 := by decide +kernel
theorem d2_21 : dc k0 21 (.bipush 32) 2 := by decide +kernel
theorem d2_23 : dc k0 23 (.newarray .int) 2 := by decide +kernel
theorem d2_25 : dc k0 25 (.putfield 16) 3 := by decide +kernel
theorem d2_28 : dc k0 28 (.aload_n 0) 1 := by decide +kernel
theorem d2_29 : dc k0 29 (.bipush 32) 2 := by decide +kernel
theorem d2_31 : dc k0 31 (.newarray .int) 2 := by decide +kernel
theorem d2_33 : dc k0 33 (.putfield 19) 3 := by decide +kernel
theorem d2_36 : dc k0 36 (.aload_n 0) 1 := by decide +kernel
theorem d2_37 : dc k0 37 (.bipush 16) 2 := by decide +kernel
theorem d2_39 : dc k0 39 (.newarray .boolean) 2 := by decide +kernel
theorem d2_41 : dc k0 41 (.putfield 22) 3 := by decide +kernel
theorem d2_44 : dc k0 44 (.aload_n 0) 1 := by decide +kernel
theorem d2_45 : dc k0 45 (.bipush 16) 2 := by decide +kernel
theorem d2_47 : dc k0 47 (.newarray .int) 2 := by decide +kernel
theorem d2_49 : dc k0 49 (.putfield 26) 3 := by decide +kernel
theorem d2_52 : dc k0 52 (.aload_n 0) 1 := by decide +kernel
theorem d2_53 : dc k0 53 (.bipush 16) 2 := by decide +kernel
theorem d2_55 : dc k0 55 (.newarray .int) 2 := by decide +kernel
theorem d2_57 : dc k0 57 (.putfield 29) 3 := by decide +kernel
theorem d2_60 : dc k0 60 (.aload_n 0) 1 := by decide +kernel
theorem d2_61 : dc k0 61 (.bipush 16) 2 := by decide +kernel
theorem d2_63 : dc k0 63 (.newarray .long) 2 := by decide +kernel
theorem d2_65 : dc k0 65 (.putfield 32) 3 := by decide +kernel
theorem d2_68 : dc k0 68 (.aload_n 0) 1 := by decide +kernel
theorem d2_69 : dc k0 69 (.bipush 16) 2 := by decide +kernel
theorem d2_71 : dc k0 71 (.newarray .long) 2 := by decide +kernel
theorem d2_73 : dc k0 73 (.putfield 36) 3 := by decide +kernel
theorem d2_76 : dc k0 76 (.aload_n 0) 1 := by decide +kernel
theorem d2_77 : dc k0 77 (.bipush 16) 2 := by decide +kernel
theorem d2_79 : dc k0 79 (.newarray .long) 2 := by decide +kernel
theorem d2_81 : dc k0 81 (.putfield 39) 3 := by decide +kernel
theorem d2_84 : dc k0 84 (.aload_n 0) 1 := by decide +kernel
theorem d2_85 : dc k0 85 (.bipush 64) 2 := by decide +kernel
theorem d2_87 : dc k0 87 (.newarray .int) 2 := by decide +kernel
theorem d2_89 : dc k0 89 (.putfield 42) 3 := by decide +kernel
theorem d2_92 : dc k0 92 (.aload_n 0) 1 := by decide +kernel
theorem d2_93 : dc k0 93 (.bipush 64) 2 := by decide +kernel
theorem d2_95 : dc k0 95 (.newarray .int) 2 := by decide +kernel
theorem d2_97 : dc k0 97 (.putfield 45) 3 := by decide +kernel
theorem d2_100 : dc k0 100 (.aload_n 0) 1 := by decide +kernel
theorem d2_101 : dc k0 101 (.bipush 64) 2 := by decide +kernel
theorem d2_103 : dc k0 103 (.newarray .int) 2 := by decide +kernel
theorem d2_105 : dc k0 105 (.putfield 48) 3 := by decide +kernel
theorem d2_108 : dc k0 108 (.aload_n 0) 1 := by decide +kernel
theorem d2_109 : dc k0 109 (.bipush 64) 2 := by decide +kernel
theorem d2_111 : dc k0 111 (.newarray .int) 2 := by decide +kernel
theorem d2_113 : dc k0 113 (.putfield 51) 3 := by decide +kernel
theorem d2_116 : dc k0 116 (.aload_n 0) 1 := by decide +kernel
theorem d2_117 : dc k0 117 (.bipush 16) 2 := by decide +kernel
theorem d2_119 : dc k0 119 (.newarray .int) 2 := by decide +kernel
theorem d2_121 : dc k0 121 (.putfield 54) 3 := by decide +kernel
theorem d2_124 : dc k0 124 (.aload_n 0) 1 := by decide +kernel
theorem d2_125 : dc k0 125 (.bipush 16) 2 := by decide +kernel
theorem d2_127 : dc k0 127 (.newarray .long) 2 := by decide +kernel
theorem d2_129 : dc k0 129 (.putfield 57) 3 := by decide +kernel
theorem d2_132 : dc k0 132 (.aload_n 0) 1 := by decide +kernel
theorem d2_133 : dc k0 133 (.bipush 16) 2 := by decide +kernel
theorem d2_135 : dc k0 135 (.newarray .long) 2 := by decide +kernel
theorem d2_137 : dc k0 137 (.putfield 60) 3 := by decide +kernel
theorem d2_140 : dc k0 140 (.aload_n 0) 1 := by decide +kernel
theorem d2_141 : dc k0 141 (.bipush 16) 2 := by decide +kernel
theorem d2_143 : dc k0 143 (.newarray .long) 2 := by decide +kernel
theorem d2_145 : dc k0 145 (.putfield 63) 3 := by decide +kernel
theorem d2_148 : dc k0 148 (.aload_n 0) 1 := by decide +kernel
theorem d2_149 : dc k0 149 (.bipush 16) 2 := by decide +kernel
theorem d2_151 : dc k0 151 (.newarray .long) 2 := by decide +kernel
theorem d2_153 : dc k0 153 (.putfield 66) 3 := by decide +kernel
theorem d2_156 : dc k0 156 (.aload_n 0) 1 := by decide +kernel
theorem d2_157 : dc k0 157 (.bipush 16) 2 := by decide +kernel
theorem d2_159 : dc k0 159 (.newarray .int) 2 := by decide +kernel
theorem d2_161 : dc k0 161 (.putfield 69) 3 := by decide +kernel
theorem d2_164 : dc k0 164 (.aload_n 0) 1 := by decide +kernel
theorem d2_165 : dc k0 165 (.sipush 128) 3 := by decide +kernel
theorem d2_168 : dc k0 168 (.newarray .long) 2 := by decide +kernel
theorem d2_170 : dc k0 170 (.putfield 72) 3 := by decide +kernel
theorem d2_173 : dc k0 173 (.aload_n 0) 1 := by decide +kernel
theorem d2_174 : dc k0 174 (.sipush 128) 3 := by decide +kernel
theorem d2_177 : dc k0 177 (.newarray .long) 2 := by decide +kernel
theorem d2_179 : dc k0 179 (.putfield 75) 3 := by decide +kernel
theorem d2_182 : dc k0 182 (.aload_n 0) 1 := by decide +kernel
theorem d2_183 : dc k0 183 (.bipush 8) 2 := by decide +kernel
theorem d2_185 : dc k0 185 (.newarray .long) 2 := by decide +kernel
theorem d2_187 : dc k0 187 (.putfield 78) 3 := by decide +kernel
theorem d2_190 : dc k0 190 (.aload_n 0) 1 := by decide +kernel
theorem d2_191 : dc k0 191 (.bipush 8) 2 := by decide +kernel
theorem d2_193 : dc k0 193 (.newarray .boolean) 2 := by decide +kernel
theorem d2_195 : dc k0 195 (.putfield 81) 3 := by decide +kernel
theorem d2_198 : dc k0 198 (.aload_n 0) 1 := by decide +kernel
theorem d2_199 : dc k0 199 (.iload_n 1) 1 := by decide +kernel
theorem d2_200 : dc k0 200 (.bipush 7) 2 := by decide +kernel
theorem d2_202 : dc k0 202 (.bipush 31) 2 := by decide +kernel
theorem d2_204 : dc k0 204 (.invokestatic 84) 3 := by decide +kernel
theorem d2_207 : dc k0 207 (.putfield 88) 3 := by decide +kernel
theorem d2_210 : dc k0 210 (.aload_n 0) 1 := by decide +kernel
theorem d2_211 : dc k0 211 (.iload_n 2) 1 := by decide +kernel
theorem d2_212 : dc k0 212 (.iconst 0) 1 := by decide +kernel
theorem d2_213 : dc k0 213 (.sipush 3000) 3 := by decide +kernel
theorem d2_216 : dc k0 216 (.invokestatic 84) 3 := by decide +kernel
theorem d2_219 : dc k0 219 (.putfield 92) 3 := by decide +kernel
theorem d2_222 : dc k0 222 (.iconst 0) 1 := by decide +kernel
theorem d2_223 : dc k0 223 (.istore_n 3) 1 := by decide +kernel
theorem d2_224 : dc k0 224 (.iload_n 3) 1 := by decide +kernel
theorem d2_225 : dc k0 225 (.bipush 32) 2 := by decide +kernel
theorem d2_227 : dc k0 227 (.if_icmp .ge 24) 3 := by decide +kernel
theorem d2_230 : dc k0 230 (.aload_n 0) 1 := by decide +kernel
theorem d2_231 : dc k0 231 (.getfield 16) 3 := by decide +kernel
theorem d2_234 : dc k0 234 (.iload_n 3) 1 := by decide +kernel
theorem d2_235 : dc k0 235 (.ldc 95) 2 := by decide +kernel
theorem d2_237 : dc k0 237 (.iastore) 1 := by decide +kernel
theorem d2_238 : dc k0 238 (.aload_n 0) 1 := by decide +kernel
theorem d2_239 : dc k0 239 (.getfield 19) 3 := by decide +kernel
theorem d2_242 : dc k0 242 (.iload_n 3) 1 := by decide +kernel
theorem d2_243 : dc k0 243 (.iconst 0) 1 := by decide +kernel
theorem d2_244 : dc k0 244 (.iastore) 1 := by decide +kernel
theorem d2_245 : dc k0 245 (.iinc 3 1) 3 := by decide +kernel
theorem d2_248 : dc k0 248 (.goto (-24)) 3 := by decide +kernel
theorem d2_251 : dc k0 251 (.iconst 0) 1 := by decide +kernel
theorem d2_252 : dc k0 252 (.istore_n 3) 1 := by decide +kernel
theorem d2_253 : dc k0 253 (.iload_n 3) 1 := by decide +kernel
theorem d2_254 : dc k0 254 (.bipush 16) 2 := by decide +kernel
theorem d2_256 : dc k0 256 (.if_icmp .ge 16) 3 := by decide +kernel
theorem d2_259 : dc k0 259 (.aload_n 0) 1 := by decide +kernel
theorem d2_260 : dc k0 260 (.getfield 26) 3 := by decide +kernel
theorem d2_263 : dc k0 263 (.iload_n 3) 1 := by decide +kernel
theorem d2_264 : dc k0 264 (.iconst 0) 1 := by decide +kernel
theorem d2_265 : dc k0 265 (.iastore) 1 := by decide +kernel
theorem d2_266 : dc k0 266 (.iinc 3 1) 3 := by decide +kernel
theorem d2_269 : dc k0 269 (.goto (-16)) 3 := by decide +kernel
theorem d2_272 : dc k0 272 (.return_) 1 := by decide +kernel
abbrev y2 : MethodName := ⟨"BillingRun", "<init>", "(II)V"⟩
theorem hy2 : y2.cls ≠ "java/lang/invoke/MethodHandle" ∧ y2.cls ≠ "java/lang/invoke/VarHandle" := by decide
theorem pd2 : parseMethodDescriptor y2.desc = some ⟨[.int, .int], none⟩ := by decide +kernel
abbrev R2 : Room := { frames := 1, cells := 24, slots := 800, locals := 15 }
abbrev P2 (r : St) : Option Value → List OwnC → Prop := fun v H' => v = none ∧ H' = (Hb 0 r)
abbrev W2 (l : Launch) (Z : State) (n0 : Nat) (Q : Option Value → List OwnC → Prop) (k n pc : Nat) (L : List Slot) (S : List Value) (H : List OwnC) : Prop := WP l Z CN lay "BillingRun" "<init>" prog_1_method_1_code 4 (none) R2 n0 0 Q k n pc L S H
def g_init_253 (k253 : KT8) (n : Nat) (v3 : Int32) (s : St) : Option (St) :=
 if v3 < (16 : Int32) then
  (wrA s 5 v3 (0 : Int32)).bind fun s2 =>
  lt (v3 + (1 : Int32)) fun x3 =>
  k253 x3 s2
 else
  some s
abbrev HK2_253 (l : Launch) (Z : State) (n0 : Nat) (k253 : KT8) : Prop := ∀ (v3 : Int32) (s r : St), k253 v3 s = some r → W2 l Z n0 (P2 r) 24 800 253 (vR 0 :: vU :: vU :: vI v3 :: []) [] (Hb 0 s)
theorem okg2_253 (l : Launch) (Z : State) (a0 : Array Value) (hw : HW a0 Z) (n0 : Nat) (k253 : KT8) (hk253 : HK2_253 l Z n0 k253) (n : Nat) (v3 : Int32) (s r : St) (h : g_init_253 k253 n v3 s = some r) : W2 l Z n0 (P2 r) 24 800 253 (vR 0 :: vU :: vU :: vI v3 :: []) [] (Hb 0 s) := by
 unfold g_init_253 at h
 refine WP.iloadN d2_253 rfl ?_
 refine WP.bipush (16 : Int32) d2_254 rfl ?_
 rcases ite_e h with ⟨hc1, h⟩ | ⟨hc1, h⟩
 ·
  refine WP.icmpN d2_256 (XT.ii_ge_f hc1) ?_
  refine WP.aloadN d2_259 rfl ?_
  refine WP.getfield (i := 0) (j := 9) d2_260 (hw _ m_28) rfl rfl rfl ?_
  refine WP.iloadN d2_263 rfl ?_
  refine WP.iconst (0 : Int32) d2_264 rfl ?_
  obtain ⟨s2, hs2, h⟩ := bd h
  obtain ⟨ys2, gs2, es2⟩ := wrA_e hs2
  refine WP.iastore (i := 6) (xs := gA s 5) (H' := (Hb 0 s2)) d2_265 rfl (leb rfl) gs2 (by subst es2; rfl) ?_
  obtain ⟨x3, ex3, h⟩ := lt_e h
  refine WP.iinc (L' := (vR 0 :: vU :: vU :: vI x3 :: [])) (1 : Int32) d2_266 rfl rfl (by subst ex3; rfl) ?_
  refine WP.goto (pc' := 253) d2_269 (by decide) rfl ?_
  exact WP.weak (L' := (vR 0 :: vU :: vU :: vI x3 :: [])) ⟨rfl, rfl, trivial⟩ (hk253 x3 s2 _ h)
 ·
  refine WP.icmpY (pc' := 272) d2_256 (XT.ii_ge_t hc1) (by decide) rfl ?_
  cases h
  exact WP.vreturn d2_272 rfl (leb rfl) (leb rfl) ⟨rfl, rfl⟩
def f_init_253 : Nat → Int32 → St → Option (St)
 | 0 => fun _ _ => none
 | n + 1 => g_init_253 (f_init_253 n) n
theorem ok2_253 (l : Launch) (Z : State) (a0 : Array Value) (hw : HW a0 Z) (n0 : Nat) : ∀ (n : Nat) (v3 : Int32) (s r : St), f_init_253 n v3 s = some r → W2 l Z n0 (P2 r) 24 800 253 (vR 0 :: vU :: vU :: vI v3 :: []) [] (Hb 0 s)
 | 0, v3, s, r, h => nomatch (show none = some r from h)
 | n + 1, v3, s, r, h => okg2_253 l Z a0 hw n0 _ (ok2_253 l Z a0 hw n0 n) n v3 s r h
def g_init_224 (k224 : KT8) (n : Nat) (v3 : Int32) (s : St) : Option (St) :=
 if v3 < (32 : Int32) then
  (wrA s 2 v3 (1000000 : Int32)).bind fun s2 =>
  (wrA s2 3 v3 (0 : Int32)).bind fun s3 =>
  lt (v3 + (1 : Int32)) fun x4 =>
  k224 x4 s3
 else
  f_init_253 n (0 : Int32) s
abbrev HK2_224 (l : Launch) (Z : State) (n0 : Nat) (k224 : KT8) : Prop := ∀ (v3 : Int32) (s r : St), k224 v3 s = some r → W2 l Z n0 (P2 r) 24 800 224 (vR 0 :: vU :: vU :: vI v3 :: []) [] (Hb 0 s)
theorem okg2_224 (l : Launch) (Z : State) (a0 : Array Value) (hw : HW a0 Z) (n0 : Nat) (k224 : KT8) (hk224 : HK2_224 l Z n0 k224) (n : Nat) (v3 : Int32) (s r : St) (h : g_init_224 k224 n v3 s = some r) : W2 l Z n0 (P2 r) 24 800 224 (vR 0 :: vU :: vU :: vI v3 :: []) [] (Hb 0 s) := by
 unfold g_init_224 at h
 refine WP.iloadN d2_224 rfl ?_
 refine WP.bipush (32 : Int32) d2_225 rfl ?_
 rcases ite_e h with ⟨hc1, h⟩ | ⟨hc1, h⟩
 ·
  refine WP.icmpN d2_227 (XT.ii_ge_f hc1) ?_
  refine WP.aloadN d2_230 rfl ?_
  refine WP.getfield (i := 0) (j := 6) d2_231 (hw _ m_21) rfl rfl rfl ?_
  refine WP.iloadN d2_234 rfl ?_
  refine WP.ldc d2_235 (hw _ m_74) ?_
  obtain ⟨s2, hs2, h⟩ := bd h
  obtain ⟨ys2, gs2, es2⟩ := wrA_e hs2
  refine WP.iastore (i := 3) (xs := gA s 2) (H' := (Hb 0 s2)) d2_237 rfl (leb rfl) gs2 (by subst es2; rfl) ?_
  refine WP.aloadN d2_238 rfl ?_
  refine WP.getfield (i := 0) (j := 7) d2_239 (hw _ m_23) rfl rfl rfl ?_
  refine WP.iloadN d2_242 rfl ?_
  refine WP.iconst (0 : Int32) d2_243 rfl ?_
  obtain ⟨s3, hs3, h⟩ := bd h
  obtain ⟨ys3, gs3, es3⟩ := wrA_e hs3
  refine WP.iastore (i := 4) (xs := gA s2 3) (H' := (Hb 0 s3)) d2_244 rfl (leb rfl) gs3 (by subst es3; rfl) ?_
  obtain ⟨x4, ex4, h⟩ := lt_e h
  refine WP.iinc (L' := (vR 0 :: vU :: vU :: vI x4 :: [])) (1 : Int32) d2_245 rfl rfl (by subst ex4; rfl) ?_
  refine WP.goto (pc' := 224) d2_248 (by decide) rfl ?_
  exact WP.weak (L' := (vR 0 :: vU :: vU :: vI x4 :: [])) ⟨rfl, rfl, trivial⟩ (hk224 x4 s3 _ h)
 ·
  refine WP.icmpY (pc' := 251) d2_227 (XT.ii_ge_t hc1) (by decide) rfl ?_
  refine WP.iconst (0 : Int32) d2_251 rfl ?_
  refine WP.istoreN (L' := (vR 0 :: vU :: vU :: vI (0 : Int32) :: [])) d2_252 (leb rfl) rfl ?_
  exact WP.weak (L' := (vR 0 :: vU :: vU :: vI (0 : Int32) :: [])) ⟨rfl, rfl, trivial⟩ (ok2_253 l Z a0 hw n0 n (0 : Int32) s _ h)
def f_init_224 : Nat → Int32 → St → Option (St)
 | 0 => fun _ _ => none
 | n + 1 => g_init_224 (f_init_224 n) n
theorem ok2_224 (l : Launch) (Z : State) (a0 : Array Value) (hw : HW a0 Z) (n0 : Nat) : ∀ (n : Nat) (v3 : Int32) (s r : St), f_init_224 n v3 s = some r → W2 l Z n0 (P2 r) 24 800 224 (vR 0 :: vU :: vU :: vI v3 :: []) [] (Hb 0 s)
 | 0, v3, s, r, h => nomatch (show none = some r from h)
 | n + 1, v3, s, r, h => okg2_224 l Z a0 hw n0 _ (ok2_224 l Z a0 hw n0 n) n v3 s r h
def f_init (n : Nat) (p1 p2 : Int32) : Option (St) :=
 lt (st0) fun s1 =>
 (f_clamp p1 (7 : Int32) (31 : Int32)).bind fun c2 =>
 lt (sI s1 0 c2) fun s3 =>
 (f_clamp p2 (0 : Int32) (3000 : Int32)).bind fun c4 =>
 lt (sI s3 1 c4) fun s5 =>
 f_init_224 n (0 : Int32) s5
theorem ok2 (l : Launch) (Z : State) (a0 : Array Value) (hw : HW a0 Z) (n : Nat) (p1 p2 : Int32) (r : St) (h : f_init n p1 p2 = some r) : CS l Z CN lay y2 prog_1_method_1_code 4 (none) R2 0 [.ref 0, .int p1, .int p2] [cO vs0] (P2 r) := by
 refine CS.of_wp pn_cls (leb rfl) fun n0 => ?_
 show W2 l Z n0 (P2 r) 0 0 0 (vR 0 :: vI p1 :: vI p2 :: vU :: []) [] [cO vs0]
 unfold f_init at h
 refine WP.aloadN d2_0 rfl ?_
 refine WP.initO d2_1 (hw _ m_13) (hw _ m_14) (hw _ m_15) (leb rfl) (leb rfl) ?_
 refine WP.aloadN d2_4 rfl ?_
 refine WP.bipush (8 : Int32) d2_5 rfl ?_
 refine WP.newarray d2_7 (hw _ m_16) (by decide) (leb rfl) (leb rfl) (leb rfl) (Or.inl ⟨rfl, rfl⟩) ?_
 show W2 l Z n0 (P2 r) 1 8 9 (vR 0 :: vI p1 :: vI p2 :: vU :: []) [.ref 1, .ref 0] ([cO [.int (0 : Int32), .int (0 : Int32), .int (0 : Int32), .int (0 : Int32), .null, .null, .null, .null, .null, .null, .null, .null, .null, .null, .null, .null, .null, .null, .null, .null, .null, .null, .null, .null, .null, .null, .null, .null], cI (List.replicate 8 0)] : List OwnC)
 refine WP.putR (ty := .array .int) (i := 0) (j := 4) (H' := ([cO [.int (0 : Int32), .int (0 : Int32), .int (0 : Int32), .int (0 : Int32), .ref 1, .null, .null, .null, .null, .null, .null, .null, .null, .null, .null, .null, .null, .null, .null, .null, .null, .null, .null, .null, .null, .null, .null, .null], cI (List.replicate 8 0)] : List OwnC)) d2_9 (hw _ m_17) (Or.inl (hw _ m_18)) (hw _ m_8) (hlay hw) (by decide) (fun _ => rfl) (fun _ => rfl) rfl rfl rfl (leb rfl) rfl ?_
 refine WP.aloadN d2_12 rfl ?_
 refine WP.bipush (8 : Int32) d2_13 rfl ?_
 refine WP.newarray d2_15 (hw _ m_16) (by decide) (leb rfl) (leb rfl) (leb rfl) (Or.inl ⟨rfl, rfl⟩) ?_
 show W2 l Z n0 (P2 r) 2 16 17 (vR 0 :: vI p1 :: vI p2 :: vU :: []) [.ref 2, .ref 0] ([cO [.int (0 : Int32), .int (0 : Int32), .int (0 : Int32), .int (0 : Int32), .ref 1, .null, .null, .null, .null, .null, .null, .null, .null, .null, .null, .null, .null, .null, .null, .null, .null, .null, .null, .null, .null, .null, .null, .null], cI (List.replicate 8 0), cI (List.replicate 8 0)] : List OwnC)
 refine WP.putR (ty := .array .int) (i := 0) (j := 5) (H' := ([cO [.int (0 : Int32), .int (0 : Int32), .int (0 : Int32), .int (0 : Int32), .ref 1, .ref 2, .null, .null, .null, .null, .null, .null, .null, .null, .null, .null, .null, .null, .null, .null, .null, .null, .null, .null, .null, .null, .null, .null], cI (List.replicate 8 0), cI (List.replicate 8 0)] : List OwnC)) d2_17 (hw _ m_19) (Or.inl (hw _ m_20)) (hw _ m_8) (hlay hw) (by decide) (fun _ => rfl) (fun _ => rfl) rfl rfl rfl (leb rfl) rfl ?_
 refine WP.aloadN d2_20 rfl ?_
 refine WP.bipush (32 : Int32) d2_21 rfl ?_
 refine WP.newarray d2_23 (hw _ m_16) (by decide) (leb rfl) (leb rfl) (leb rfl) (Or.inl ⟨rfl, rfl⟩) ?_
 show W2 l Z n0 (P2 r) 3 48 25 (vR 0 :: vI p1 :: vI p2 :: vU :: []) [.ref 3, .ref 0] ([cO [.int (0 : Int32), .int (0 : Int32), .int (0 : Int32), .int (0 : Int32), .ref 1, .ref 2, .null, .null, .null, .null, .null, .null, .null, .null, .null, .null, .null, .null, .null, .null, .null, .null, .null, .null, .null, .null, .null, .null], cI (List.replicate 8 0), cI (List.replicate 8 0), cI (List.replicate 32 0)] : List OwnC)
 refine WP.putR (ty := .array .int) (i := 0) (j := 6) (H' := ([cO [.int (0 : Int32), .int (0 : Int32), .int (0 : Int32), .int (0 : Int32), .ref 1, .ref 2, .ref 3, .null, .null, .null, .null, .null, .null, .null, .null, .null, .null, .null, .null, .null, .null, .null, .null, .null, .null, .null, .null, .null], cI (List.replicate 8 0), cI (List.replicate 8 0), cI (List.replicate 32 0)] : List OwnC)) d2_25 (hw _ m_21) (Or.inl (hw _ m_22)) (hw _ m_8) (hlay hw) (by decide) (fun _ => rfl) (fun _ => rfl) rfl rfl rfl (leb rfl) rfl ?_
 refine WP.aloadN d2_28 rfl ?_
 refine WP.bipush (32 : Int32) d2_29 rfl ?_
 refine WP.newarray d2_31 (hw _ m_16) (by decide) (leb rfl) (leb rfl) (leb rfl) (Or.inl ⟨rfl, rfl⟩) ?_
 show W2 l Z n0 (P2 r) 4 80 33 (vR 0 :: vI p1 :: vI p2 :: vU :: []) [.ref 4, .ref 0] ([cO [.int (0 : Int32), .int (0 : Int32), .int (0 : Int32), .int (0 : Int32), .ref 1, .ref 2, .ref 3, .null, .null, .null, .null, .null, .null, .null, .null, .null, .null, .null, .null, .null, .null, .null, .null, .null, .null, .null, .null, .null], cI (List.replicate 8 0), cI (List.replicate 8 0), cI (List.replicate 32 0), cI (List.replicate 32 0)] : List OwnC)
 refine WP.putR (ty := .array .int) (i := 0) (j := 7) (H' := ([cO [.int (0 : Int32), .int (0 : Int32), .int (0 : Int32), .int (0 : Int32), .ref 1, .ref 2, .ref 3, .ref 4, .null, .null, .null, .null, .null, .null, .null, .null, .null, .null, .null, .null, .null, .null, .null, .null, .null, .null, .null, .null], cI (List.replicate 8 0), cI (List.replicate 8 0), cI (List.replicate 32 0), cI (List.replicate 32 0)] : List OwnC)) d2_33 (hw _ m_23) (Or.inl (hw _ m_24)) (hw _ m_8) (hlay hw) (by decide) (fun _ => rfl) (fun _ => rfl) rfl rfl rfl (leb rfl) rfl ?_
 refine WP.aloadN d2_36 rfl ?_
 refine WP.bipush (16 : Int32) d2_37 rfl ?_
 refine WP.newarray d2_39 (hw _ m_25) (by decide) (leb rfl) (leb rfl) (leb rfl) (Or.inr (Or.inr ⟨rfl, rfl⟩)) ?_
 show W2 l Z n0 (P2 r) 5 96 41 (vR 0 :: vI p1 :: vI p2 :: vU :: []) [.ref 5, .ref 0] ([cO [.int (0 : Int32), .int (0 : Int32), .int (0 : Int32), .int (0 : Int32), .ref 1, .ref 2, .ref 3, .ref 4, .null, .null, .null, .null, .null, .null, .null, .null, .null, .null, .null, .null, .null, .null, .null, .null, .null, .null, .null, .null], cI (List.replicate 8 0), cI (List.replicate 8 0), cI (List.replicate 32 0), cI (List.replicate 32 0), cZ (List.replicate 16 0)] : List OwnC)
 refine WP.putR (ty := .array .boolean) (i := 0) (j := 8) (H' := ([cO [.int (0 : Int32), .int (0 : Int32), .int (0 : Int32), .int (0 : Int32), .ref 1, .ref 2, .ref 3, .ref 4, .ref 5, .null, .null, .null, .null, .null, .null, .null, .null, .null, .null, .null, .null, .null, .null, .null, .null, .null, .null, .null], cI (List.replicate 8 0), cI (List.replicate 8 0), cI (List.replicate 32 0), cI (List.replicate 32 0), cZ (List.replicate 16 0)] : List OwnC)) d2_41 (hw _ m_26) (Or.inl (hw _ m_27)) (hw _ m_8) (hlay hw) (by decide) (fun _ => rfl) (fun _ => rfl) rfl rfl rfl (leb rfl) rfl ?_
 refine WP.aloadN d2_44 rfl ?_
 refine WP.bipush (16 : Int32) d2_45 rfl ?_
 refine WP.newarray d2_47 (hw _ m_16) (by decide) (leb rfl) (leb rfl) (leb rfl) (Or.inl ⟨rfl, rfl⟩) ?_
 show W2 l Z n0 (P2 r) 6 112 49 (vR 0 :: vI p1 :: vI p2 :: vU :: []) [.ref 6, .ref 0] ([cO [.int (0 : Int32), .int (0 : Int32), .int (0 : Int32), .int (0 : Int32), .ref 1, .ref 2, .ref 3, .ref 4, .ref 5, .null, .null, .null, .null, .null, .null, .null, .null, .null, .null, .null, .null, .null, .null, .null, .null, .null, .null, .null], cI (List.replicate 8 0), cI (List.replicate 8 0), cI (List.replicate 32 0), cI (List.replicate 32 0), cZ (List.replicate 16 0), cI (List.replicate 16 0)] : List OwnC)
 refine WP.putR (ty := .array .int) (i := 0) (j := 9) (H' := ([cO [.int (0 : Int32), .int (0 : Int32), .int (0 : Int32), .int (0 : Int32), .ref 1, .ref 2, .ref 3, .ref 4, .ref 5, .ref 6, .null, .null, .null, .null, .null, .null, .null, .null, .null, .null, .null, .null, .null, .null, .null, .null, .null, .null], cI (List.replicate 8 0), cI (List.replicate 8 0), cI (List.replicate 32 0), cI (List.replicate 32 0), cZ (List.replicate 16 0), cI (List.replicate 16 0)] : List OwnC)) d2_49 (hw _ m_28) (Or.inl (hw _ m_29)) (hw _ m_8) (hlay hw) (by decide) (fun _ => rfl) (fun _ => rfl) rfl rfl rfl (leb rfl) rfl ?_
 refine WP.aloadN d2_52 rfl ?_
 refine WP.bipush (16 : Int32) d2_53 rfl ?_
 refine WP.newarray d2_55 (hw _ m_16) (by decide) (leb rfl) (leb rfl) (leb rfl) (Or.inl ⟨rfl, rfl⟩) ?_
 show W2 l Z n0 (P2 r) 7 128 57 (vR 0 :: vI p1 :: vI p2 :: vU :: []) [.ref 7, .ref 0] ([cO [.int (0 : Int32), .int (0 : Int32), .int (0 : Int32), .int (0 : Int32), .ref 1, .ref 2, .ref 3, .ref 4, .ref 5, .ref 6, .null, .null, .null, .null, .null, .null, .null, .null, .null, .null, .null, .null, .null, .null, .null, .null, .null, .null], cI (List.replicate 8 0), cI (List.replicate 8 0), cI (List.replicate 32 0), cI (List.replicate 32 0), cZ (List.replicate 16 0), cI (List.replicate 16 0), cI (List.replicate 16 0)] : List OwnC)
 refine WP.putR (ty := .array .int) (i := 0) (j := 10) (H' := ([cO [.int (0 : Int32), .int (0 : Int32), .int (0 : Int32), .int (0 : Int32), .ref 1, .ref 2, .ref 3, .ref 4, .ref 5, .ref 6, .ref 7, .null, .null, .null, .null, .null, .null, .null, .null, .null, .null, .null, .null, .null, .null, .null, .null, .null], cI (List.replicate 8 0), cI (List.replicate 8 0), cI (List.replicate 32 0), cI (List.replicate 32 0), cZ (List.replicate 16 0), cI (List.replicate 16 0), cI (List.replicate 16 0)] : List OwnC)) d2_57 (hw _ m_30) (Or.inl (hw _ m_31)) (hw _ m_8) (hlay hw) (by decide) (fun _ => rfl) (fun _ => rfl) rfl rfl rfl (leb rfl) rfl ?_
 refine WP.aloadN d2_60 rfl ?_
 refine WP.bipush (16 : Int32) d2_61 rfl ?_
 refine WP.newarray d2_63 (hw _ m_32) (by decide) (leb rfl) (leb rfl) (leb rfl) (Or.inr (Or.inl ⟨rfl, rfl⟩)) ?_
 show W2 l Z n0 (P2 r) 8 144 65 (vR 0 :: vI p1 :: vI p2 :: vU :: []) [.ref 8, .ref 0] ([cO [.int (0 : Int32), .int (0 : Int32), .int (0 : Int32), .int (0 : Int32), .ref 1, .ref 2, .ref 3, .ref 4, .ref 5, .ref 6, .ref 7, .null, .null, .null, .null, .null, .null, .null, .null, .null, .null, .null, .null, .null, .null, .null, .null, .null], cI (List.replicate 8 0), cI (List.replicate 8 0), cI (List.replicate 32 0), cI (List.replicate 32 0), cZ (List.replicate 16 0), cI (List.replicate 16 0), cI (List.replicate 16 0), cJ (List.replicate 16 0)] : List OwnC)
 refine WP.putR (ty := .array .long) (i := 0) (j := 11) (H' := ([cO [.int (0 : Int32), .int (0 : Int32), .int (0 : Int32), .int (0 : Int32), .ref 1, .ref 2, .ref 3, .ref 4, .ref 5, .ref 6, .ref 7, .ref 8, .null, .null, .null, .null, .null, .null, .null, .null, .null, .null, .null, .null, .null, .null, .null, .null], cI (List.replicate 8 0), cI (List.replicate 8 0), cI (List.replicate 32 0), cI (List.replicate 32 0), cZ (List.replicate 16 0), cI (List.replicate 16 0), cI (List.replicate 16 0), cJ (List.replicate 16 0)] : List OwnC)) d2_65 (hw _ m_33) (Or.inl (hw _ m_34)) (hw _ m_8) (hlay hw) (by decide) (fun _ => rfl) (fun _ => rfl) rfl rfl rfl (leb rfl) rfl ?_
 refine WP.aloadN d2_68 rfl ?_
 refine WP.bipush (16 : Int32) d2_69 rfl ?_
 refine WP.newarray d2_71 (hw _ m_32) (by decide) (leb rfl) (leb rfl) (leb rfl) (Or.inr (Or.inl ⟨rfl, rfl⟩)) ?_
 show W2 l Z n0 (P2 r) 9 160 73 (vR 0 :: vI p1 :: vI p2 :: vU :: []) [.ref 9, .ref 0] ([cO [.int (0 : Int32), .int (0 : Int32), .int (0 : Int32), .int (0 : Int32), .ref 1, .ref 2, .ref 3, .ref 4, .ref 5, .ref 6, .ref 7, .ref 8, .null, .null, .null, .null, .null, .null, .null, .null, .null, .null, .null, .null, .null, .null, .null, .null], cI (List.replicate 8 0), cI (List.replicate 8 0), cI (List.replicate 32 0), cI (List.replicate 32 0), cZ (List.replicate 16 0), cI (List.replicate 16 0), cI (List.replicate 16 0), cJ (List.replicate 16 0), cJ (List.replicate 16 0)] : List OwnC)
 refine WP.putR (ty := .array .long) (i := 0) (j := 12) (H' := ([cO [.int (0 : Int32), .int (0 : Int32), .int (0 : Int32), .int (0 : Int32), .ref 1, .ref 2, .ref 3, .ref 4, .ref 5, .ref 6, .ref 7, .ref 8, .ref 9, .null, .null, .null, .null, .null, .null, .null, .null, .null, .null, .null, .null, .null, .null, .null], cI (List.replicate 8 0), cI (List.replicate 8 0), cI (List.replicate 32 0), cI (List.replicate 32 0), cZ (List.replicate 16 0), cI (List.replicate 16 0), cI (List.replicate 16 0), cJ (List.replicate 16 0), cJ (List.replicate 16 0)] : List OwnC)) d2_73 (hw _ m_35) (Or.inl (hw _ m_36)) (hw _ m_8) (hlay hw) (by decide) (fun _ => rfl) (fun _ => rfl) rfl rfl rfl (leb rfl) rfl ?_
 refine WP.aloadN d2_76 rfl ?_
 refine WP.bipush (16 : Int32) d2_77 rfl ?_
 refine WP.newarray d2_79 (hw _ m_32) (by decide) (leb rfl) (leb rfl) (leb rfl) (Or.inr (Or.inl ⟨rfl, rfl⟩)) ?_
 show W2 l Z n0 (P2 r) 10 176 81 (vR 0 :: vI p1 :: vI p2 :: vU :: []) [.ref 10, .ref 0] ([cO [.int (0 : Int32), .int (0 : Int32), .int (0 : Int32), .int (0 : Int32), .ref 1, .ref 2, .ref 3, .ref 4, .ref 5, .ref 6, .ref 7, .ref 8, .ref 9, .null, .null, .null, .null, .null, .null, .null, .null, .null, .null, .null, .null, .null, .null, .null], cI (List.replicate 8 0), cI (List.replicate 8 0), cI (List.replicate 32 0), cI (List.replicate 32 0), cZ (List.replicate 16 0), cI (List.replicate 16 0), cI (List.replicate 16 0), cJ (List.replicate 16 0), cJ (List.replicate 16 0), cJ (List.replicate 16 0)] : List OwnC)
 refine WP.putR (ty := .array .long) (i := 0) (j := 13) (H' := ([cO [.int (0 : Int32), .int (0 : Int32), .int (0 : Int32), .int (0 : Int32), .ref 1, .ref 2, .ref 3, .ref 4, .ref 5, .ref 6, .ref 7, .ref 8, .ref 9, .ref 10, .null, .null, .null, .null, .null, .null, .null, .null, .null, .null, .null, .null, .null, .null], cI (List.replicate 8 0), cI (List.replicate 8 0), cI (List.replicate 32 0), cI (List.replicate 32 0), cZ (List.replicate 16 0), cI (List.replicate 16 0), cI (List.replicate 16 0), cJ (List.replicate 16 0), cJ (List.replicate 16 0), cJ (List.replicate 16 0)] : List OwnC)) d2_81 (hw _ m_37) (Or.inl (hw _ m_38)) (hw _ m_8) (hlay hw) (by decide) (fun _ => rfl) (fun _ => rfl) rfl rfl rfl (leb rfl) rfl ?_
 refine WP.aloadN d2_84 rfl ?_
 refine WP.bipush (64 : Int32) d2_85 rfl ?_
 refine WP.newarray d2_87 (hw _ m_16) (by decide) (leb rfl) (leb rfl) (leb rfl) (Or.inl ⟨rfl, rfl⟩) ?_
 show W2 l Z n0 (P2 r) 11 240 89 (vR 0 :: vI p1 :: vI p2 :: vU :: []) [.ref 11, .ref 0] ([cO [.int (0 : Int32), .int (0 : Int32), .int (0 : Int32), .int (0 : Int32), .ref 1, .ref 2, .ref 3, .ref 4, .ref 5, .ref 6, .ref 7, .ref 8, .ref 9, .ref 10, .null, .null, .null, .null, .null, .null, .null, .null, .null, .null, .null, .null, .null, .null], cI (List.replicate 8 0), cI (List.replicate 8 0), cI (List.replicate 32 0), cI (List.replicate 32 0), cZ (List.replicate 16 0), cI (List.replicate 16 0), cI (List.replicate 16 0), cJ (List.replicate 16 0), cJ (List.replicate 16 0), cJ (List.replicate 16 0), cI (List.replicate 64 0)] : List OwnC)
 refine WP.putR (ty := .array .int) (i := 0) (j := 14) (H' := ([cO [.int (0 : Int32), .int (0 : Int32), .int (0 : Int32), .int (0 : Int32), .ref 1, .ref 2, .ref 3, .ref 4, .ref 5, .ref 6, .ref 7, .ref 8, .ref 9, .ref 10, .ref 11, .null, .null, .null, .null, .null, .null, .null, .null, .null, .null, .null, .null, .null], cI (List.replicate 8 0), cI (List.replicate 8 0), cI (List.replicate 32 0), cI (List.replicate 32 0), cZ (List.replicate 16 0), cI (List.replicate 16 0), cI (List.replicate 16 0), cJ (List.replicate 16 0), cJ (List.replicate 16 0), cJ (List.replicate 16 0), cI (List.replicate 64 0)] : List OwnC)) d2_89 (hw _ m_39) (Or.inl (hw _ m_40)) (hw _ m_8) (hlay hw) (by decide) (fun _ => rfl) (fun _ => rfl) rfl rfl rfl (leb rfl) rfl ?_
 refine WP.aloadN d2_92 rfl ?_
 refine WP.bipush (64 : Int32) d2_93 rfl ?_
 refine WP.newarray d2_95 (hw _ m_16) (by decide) (leb rfl) (leb rfl) (leb rfl) (Or.inl ⟨rfl, rfl⟩) ?_
 show W2 l Z n0 (P2 r) 12 304 97 (vR 0 :: vI p1 :: vI p2 :: vU :: []) [.ref 12, .ref 0] ([cO [.int (0 : Int32), .int (0 : Int32), .int (0 : Int32), .int (0 : Int32), .ref 1, .ref 2, .ref 3, .ref 4, .ref 5, .ref 6, .ref 7, .ref 8, .ref 9, .ref 10, .ref 11, .null, .null, .null, .null, .null, .null, .null, .null, .null, .null, .null, .null, .null], cI (List.replicate 8 0), cI (List.replicate 8 0), cI (List.replicate 32 0), cI (List.replicate 32 0), cZ (List.replicate 16 0), cI (List.replicate 16 0), cI (List.replicate 16 0), cJ (List.replicate 16 0), cJ (List.replicate 16 0), cJ (List.replicate 16 0), cI (List.replicate 64 0), cI (List.replicate 64 0)] : List OwnC)
 refine WP.putR (ty := .array .int) (i := 0) (j := 15) (H' := ([cO [.int (0 : Int32), .int (0 : Int32), .int (0 : Int32), .int (0 : Int32), .ref 1, .ref 2, .ref 3, .ref 4, .ref 5, .ref 6, .ref 7, .ref 8, .ref 9, .ref 10, .ref 11, .ref 12, .null, .null, .null, .null, .null, .null, .null, .null, .null, .null, .null, .null], cI (List.replicate 8 0), cI (List.replicate 8 0), cI (List.replicate 32 0), cI (List.replicate 32 0), cZ (List.replicate 16 0), cI (List.replicate 16 0), cI (List.replicate 16 0), cJ (List.replicate 16 0), cJ (List.replicate 16 0), cJ (List.replicate 16 0), cI (List.replicate 64 0), cI (List.replicate 64 0)] : List OwnC)) d2_97 (hw _ m_41) (Or.inl (hw _ m_42)) (hw _ m_8) (hlay hw) (by decide) (fun _ => rfl) (fun _ => rfl) rfl rfl rfl (leb rfl) rfl ?_
 refine WP.aloadN d2_100 rfl ?_
 refine WP.bipush (64 : Int32) d2_101 rfl ?_
 refine WP.newarray d2_103 (hw _ m_16) (by decide) (leb rfl) (leb rfl) (leb rfl) (Or.inl ⟨rfl, rfl⟩) ?_
 show W2 l Z n0 (P2 r) 13 368 105 (vR 0 :: vI p1 :: vI p2 :: vU :: []) [.ref 13, .ref 0] ([cO [.int (0 : Int32), .int (0 : Int32), .int (0 : Int32), .int (0 : Int32), .ref 1, .ref 2, .ref 3, .ref 4, .ref 5, .ref 6, .ref 7, .ref 8, .ref 9, .ref 10, .ref 11, .ref 12, .null, .null, .null, .null, .null, .null, .null, .null, .null, .null, .null, .null], cI (List.replicate 8 0), cI (List.replicate 8 0), cI (List.replicate 32 0), cI (List.replicate 32 0), cZ (List.replicate 16 0), cI (List.replicate 16 0), cI (List.replicate 16 0), cJ (List.replicate 16 0), cJ (List.replicate 16 0), cJ (List.replicate 16 0), cI (List.replicate 64 0), cI (List.replicate 64 0), cI (List.replicate 64 0)] : List OwnC)
 refine WP.putR (ty := .array .int) (i := 0) (j := 16) (H' := ([cO [.int (0 : Int32), .int (0 : Int32), .int (0 : Int32), .int (0 : Int32), .ref 1, .ref 2, .ref 3, .ref 4, .ref 5, .ref 6, .ref 7, .ref 8, .ref 9, .ref 10, .ref 11, .ref 12, .ref 13, .null, .null, .null, .null, .null, .null, .null, .null, .null, .null, .null], cI (List.replicate 8 0), cI (List.replicate 8 0), cI (List.replicate 32 0), cI (List.replicate 32 0), cZ (List.replicate 16 0), cI (List.replicate 16 0), cI (List.replicate 16 0), cJ (List.replicate 16 0), cJ (List.replicate 16 0), cJ (List.replicate 16 0), cI (List.replicate 64 0), cI (List.replicate 64 0), cI (List.replicate 64 0)] : List OwnC)) d2_105 (hw _ m_43) (Or.inl (hw _ m_44)) (hw _ m_8) (hlay hw) (by decide) (fun _ => rfl) (fun _ => rfl) rfl rfl rfl (leb rfl) rfl ?_
 refine WP.aloadN d2_108 rfl ?_
 refine WP.bipush (64 : Int32) d2_109 rfl ?_
 refine WP.newarray d2_111 (hw _ m_16) (by decide) (leb rfl) (leb rfl) (leb rfl) (Or.inl ⟨rfl, rfl⟩) ?_
 show W2 l Z n0 (P2 r) 14 432 113 (vR 0 :: vI p1 :: vI p2 :: vU :: []) [.ref 14, .ref 0] ([cO [.int (0 : Int32), .int (0 : Int32), .int (0 : Int32), .int (0 : Int32), .ref 1, .ref 2, .ref 3, .ref 4, .ref 5, .ref 6, .ref 7, .ref 8, .ref 9, .ref 10, .ref 11, .ref 12, .ref 13, .null, .null, .null, .null, .null, .null, .null, .null, .null, .null, .null], cI (List.replicate 8 0), cI (List.replicate 8 0), cI (List.replicate 32 0), cI (List.replicate 32 0), cZ (List.replicate 16 0), cI (List.replicate 16 0), cI (List.replicate 16 0), cJ (List.replicate 16 0), cJ (List.replicate 16 0), cJ (List.replicate 16 0), cI (List.replicate 64 0), cI (List.replicate 64 0), cI (List.replicate 64 0), cI (List.replicate 64 0)] : List OwnC)
 refine WP.putR (ty := .array .int) (i := 0) (j := 17) (H' := ([cO [.int (0 : Int32), .int (0 : Int32), .int (0 : Int32), .int (0 : Int32), .ref 1, .ref 2, .ref 3, .ref 4, .ref 5, .ref 6, .ref 7, .ref 8, .ref 9, .ref 10, .ref 11, .ref 12, .ref 13, .ref 14, .null, .null, .null, .null, .null, .null, .null, .null, .null, .null], cI (List.replicate 8 0), cI (List.replicate 8 0), cI (List.replicate 32 0), cI (List.replicate 32 0), cZ (List.replicate 16 0), cI (List.replicate 16 0), cI (List.replicate 16 0), cJ (List.replicate 16 0), cJ (List.replicate 16 0), cJ (List.replicate 16 0), cI (List.replicate 64 0), cI (List.replicate 64 0), cI (List.replicate 64 0), cI (List.replicate 64 0)] : List OwnC)) d2_113 (hw _ m_45) (Or.inl (hw _ m_46)) (hw _ m_8) (hlay hw) (by decide) (fun _ => rfl) (fun _ => rfl) rfl rfl rfl (leb rfl) rfl ?_
 refine WP.aloadN d2_116 rfl ?_
 refine WP.bipush (16 : Int32) d2_117 rfl ?_
 refine WP.newarray d2_119 (hw _ m_16) (by decide) (leb rfl) (leb rfl) (leb rfl) (Or.inl ⟨rfl, rfl⟩) ?_
 show W2 l Z n0 (P2 r) 15 448 121 (vR 0 :: vI p1 :: vI p2 :: vU :: []) [.ref 15, .ref 0] ([cO [.int (0 : Int32), .int (0 : Int32), .int (0 : Int32), .int (0 : Int32), .ref 1, .ref 2, .ref 3, .ref 4, .ref 5, .ref 6, .ref 7, .ref 8, .ref 9, .ref 10, .ref 11, .ref 12, .ref 13, .ref 14, .null, .null, .null, .null, .null, .null, .null, .null, .null, .null], cI (List.replicate 8 0), cI (List.replicate 8 0), cI (List.replicate 32 0), cI (List.replicate 32 0), cZ (List.replicate 16 0), cI (List.replicate 16 0), cI (List.replicate 16 0), cJ (List.replicate 16 0), cJ (List.replicate 16 0), cJ (List.replicate 16 0), cI (List.replicate 64 0), cI (List.replicate 64 0), cI (List.replicate 64 0), cI (List.replicate 64 0), cI (List.replicate 16 0)] : List OwnC)
 refine WP.putR (ty := .array .int) (i := 0) (j := 18) (H' := ([cO [.int (0 : Int32), .int (0 : Int32), .int (0 : Int32), .int (0 : Int32), .ref 1, .ref 2, .ref 3, .ref 4, .ref 5, .ref 6, .ref 7, .ref 8, .ref 9, .ref 10, .ref 11, .ref 12, .ref 13, .ref 14, .ref 15, .null, .null, .null, .null, .null, .null, .null, .null, .null], cI (List.replicate 8 0), cI (List.replicate 8 0), cI (List.replicate 32 0), cI (List.replicate 32 0), cZ (List.replicate 16 0), cI (List.replicate 16 0), cI (List.replicate 16 0), cJ (List.replicate 16 0), cJ (List.replicate 16 0), cJ (List.replicate 16 0), cI (List.replicate 64 0), cI (List.replicate 64 0), cI (List.replicate 64 0), cI (List.replicate 64 0), cI (List.replicate 16 0)] : List OwnC)) d2_121 (hw _ m_47) (Or.inl (hw _ m_48)) (hw _ m_8) (hlay hw) (by decide) (fun _ => rfl) (fun _ => rfl) rfl rfl rfl (leb rfl) rfl ?_
 refine WP.aloadN d2_124 rfl ?_
 refine WP.bipush (16 : Int32) d2_125 rfl ?_
 refine WP.newarray d2_127 (hw _ m_32) (by decide) (leb rfl) (leb rfl) (leb rfl) (Or.inr (Or.inl ⟨rfl, rfl⟩)) ?_
 show W2 l Z n0 (P2 r) 16 464 129 (vR 0 :: vI p1 :: vI p2 :: vU :: []) [.ref 16, .ref 0] ([cO [.int (0 : Int32), .int (0 : Int32), .int (0 : Int32), .int (0 : Int32), .ref 1, .ref 2, .ref 3, .ref 4, .ref 5, .ref 6, .ref 7, .ref 8, .ref 9, .ref 10, .ref 11, .ref 12, .ref 13, .ref 14, .ref 15, .null, .null, .null, .null, .null, .null, .null, .null, .null], cI (List.replicate 8 0), cI (List.replicate 8 0), cI (List.replicate 32 0), cI (List.replicate 32 0), cZ (List.replicate 16 0), cI (List.replicate 16 0), cI (List.replicate 16 0), cJ (List.replicate 16 0), cJ (List.replicate 16 0), cJ (List.replicate 16 0), cI (List.replicate 64 0), cI (List.replicate 64 0), cI (List.replicate 64 0), cI (List.replicate 64 0), cI (List.replicate 16 0), cJ (List.replicate 16 0)] : List OwnC)
 refine WP.putR (ty := .array .long) (i := 0) (j := 19) (H' := ([cO [.int (0 : Int32), .int (0 : Int32), .int (0 : Int32), .int (0 : Int32), .ref 1, .ref 2, .ref 3, .ref 4, .ref 5, .ref 6, .ref 7, .ref 8, .ref 9, .ref 10, .ref 11, .ref 12, .ref 13, .ref 14, .ref 15, .ref 16, .null, .null, .null, .null, .null, .null, .null, .null], cI (List.replicate 8 0), cI (List.replicate 8 0), cI (List.replicate 32 0), cI (List.replicate 32 0), cZ (List.replicate 16 0), cI (List.replicate 16 0), cI (List.replicate 16 0), cJ (List.replicate 16 0), cJ (List.replicate 16 0), cJ (List.replicate 16 0), cI (List.replicate 64 0), cI (List.replicate 64 0), cI (List.replicate 64 0), cI (List.replicate 64 0), cI (List.replicate 16 0), cJ (List.replicate 16 0)] : List OwnC)) d2_129 (hw _ m_49) (Or.inl (hw _ m_50)) (hw _ m_8) (hlay hw) (by decide) (fun _ => rfl) (fun _ => rfl) rfl rfl rfl (leb rfl) rfl ?_
 refine WP.aloadN d2_132 rfl ?_
 refine WP.bipush (16 : Int32) d2_133 rfl ?_
 refine WP.newarray d2_135 (hw _ m_32) (by decide) (leb rfl) (leb rfl) (leb rfl) (Or.inr (Or.inl ⟨rfl, rfl⟩)) ?_
 show W2 l Z n0 (P2 r) 17 480 137 (vR 0 :: vI p1 :: vI p2 :: vU :: []) [.ref 17, .ref 0] ([cO [.int (0 : Int32), .int (0 : Int32), .int (0 : Int32), .int (0 : Int32), .ref 1, .ref 2, .ref 3, .ref 4, .ref 5, .ref 6, .ref 7, .ref 8, .ref 9, .ref 10, .ref 11, .ref 12, .ref 13, .ref 14, .ref 15, .ref 16, .null, .null, .null, .null, .null, .null, .null, .null], cI (List.replicate 8 0), cI (List.replicate 8 0), cI (List.replicate 32 0), cI (List.replicate 32 0), cZ (List.replicate 16 0), cI (List.replicate 16 0), cI (List.replicate 16 0), cJ (List.replicate 16 0), cJ (List.replicate 16 0), cJ (List.replicate 16 0), cI (List.replicate 64 0), cI (List.replicate 64 0), cI (List.replicate 64 0), cI (List.replicate 64 0), cI (List.replicate 16 0), cJ (List.replicate 16 0), cJ (List.replicate 16 0)] : List OwnC)
 refine WP.putR (ty := .array .long) (i := 0) (j := 20) (H' := ([cO [.int (0 : Int32), .int (0 : Int32), .int (0 : Int32), .int (0 : Int32), .ref 1, .ref 2, .ref 3, .ref 4, .ref 5, .ref 6, .ref 7, .ref 8, .ref 9, .ref 10, .ref 11, .ref 12, .ref 13, .ref 14, .ref 15, .ref 16, .ref 17, .null, .null, .null, .null, .null, .null, .null], cI (List.replicate 8 0), cI (List.replicate 8 0), cI (List.replicate 32 0), cI (List.replicate 32 0), cZ (List.replicate 16 0), cI (List.replicate 16 0), cI (List.replicate 16 0), cJ (List.replicate 16 0), cJ (List.replicate 16 0), cJ (List.replicate 16 0), cI (List.replicate 64 0), cI (List.replicate 64 0), cI (List.replicate 64 0), cI (List.replicate 64 0), cI (List.replicate 16 0), cJ (List.replicate 16 0), cJ (List.replicate 16 0)] : List OwnC)) d2_137 (hw _ m_51) (Or.inl (hw _ m_52)) (hw _ m_8) (hlay hw) (by decide) (fun _ => rfl) (fun _ => rfl) rfl rfl rfl (leb rfl) rfl ?_
 refine WP.aloadN d2_140 rfl ?_
 refine WP.bipush (16 : Int32) d2_141 rfl ?_
 refine WP.newarray d2_143 (hw _ m_32) (by decide) (leb rfl) (leb rfl) (leb rfl) (Or.inr (Or.inl ⟨rfl, rfl⟩)) ?_
 show W2 l Z n0 (P2 r) 18 496 145 (vR 0 :: vI p1 :: vI p2 :: vU :: []) [.ref 18, .ref 0] ([cO [.int (0 : Int32), .int (0 : Int32), .int (0 : Int32), .int (0 : Int32), .ref 1, .ref 2, .ref 3, .ref 4, .ref 5, .ref 6, .ref 7, .ref 8, .ref 9, .ref 10, .ref 11, .ref 12, .ref 13, .ref 14, .ref 15, .ref 16, .ref 17, .null, .null, .null, .null, .null, .null, .null], cI (List.replicate 8 0), cI (List.replicate 8 0), cI (List.replicate 32 0), cI (List.replicate 32 0), cZ (List.replicate 16 0), cI (List.replicate 16 0), cI (List.replicate 16 0), cJ (List.replicate 16 0), cJ (List.replicate 16 0), cJ (List.replicate 16 0), cI (List.replicate 64 0), cI (List.replicate 64 0), cI (List.replicate 64 0), cI (List.replicate 64 0), cI (List.replicate 16 0), cJ (List.replicate 16 0), cJ (List.replicate 16 0), cJ (List.replicate 16 0)] : List OwnC)
 refine WP.putR (ty := .array .long) (i := 0) (j := 21) (H' := ([cO [.int (0 : Int32), .int (0 : Int32), .int (0 : Int32), .int (0 : Int32), .ref 1, .ref 2, .ref 3, .ref 4, .ref 5, .ref 6, .ref 7, .ref 8, .ref 9, .ref 10, .ref 11, .ref 12, .ref 13, .ref 14, .ref 15, .ref 16, .ref 17, .ref 18, .null, .null, .null, .null, .null, .null], cI (List.replicate 8 0), cI (List.replicate 8 0), cI (List.replicate 32 0), cI (List.replicate 32 0), cZ (List.replicate 16 0), cI (List.replicate 16 0), cI (List.replicate 16 0), cJ (List.replicate 16 0), cJ (List.replicate 16 0), cJ (List.replicate 16 0), cI (List.replicate 64 0), cI (List.replicate 64 0), cI (List.replicate 64 0), cI (List.replicate 64 0), cI (List.replicate 16 0), cJ (List.replicate 16 0), cJ (List.replicate 16 0), cJ (List.replicate 16 0)] : List OwnC)) d2_145 (hw _ m_53) (Or.inl (hw _ m_54)) (hw _ m_8) (hlay hw) (by decide) (fun _ => rfl) (fun _ => rfl) rfl rfl rfl (leb rfl) rfl ?_
 refine WP.aloadN d2_148 rfl ?_
 refine WP.bipush (16 : Int32) d2_149 rfl ?_
 refine WP.newarray d2_151 (hw _ m_32) (by decide) (leb rfl) (leb rfl) (leb rfl) (Or.inr (Or.inl ⟨rfl, rfl⟩)) ?_
 show W2 l Z n0 (P2 r) 19 512 153 (vR 0 :: vI p1 :: vI p2 :: vU :: []) [.ref 19, .ref 0] ([cO [.int (0 : Int32), .int (0 : Int32), .int (0 : Int32), .int (0 : Int32), .ref 1, .ref 2, .ref 3, .ref 4, .ref 5, .ref 6, .ref 7, .ref 8, .ref 9, .ref 10, .ref 11, .ref 12, .ref 13, .ref 14, .ref 15, .ref 16, .ref 17, .ref 18, .null, .null, .null, .null, .null, .null], cI (List.replicate 8 0), cI (List.replicate 8 0), cI (List.replicate 32 0), cI (List.replicate 32 0), cZ (List.replicate 16 0), cI (List.replicate 16 0), cI (List.replicate 16 0), cJ (List.replicate 16 0), cJ (List.replicate 16 0), cJ (List.replicate 16 0), cI (List.replicate 64 0), cI (List.replicate 64 0), cI (List.replicate 64 0), cI (List.replicate 64 0), cI (List.replicate 16 0), cJ (List.replicate 16 0), cJ (List.replicate 16 0), cJ (List.replicate 16 0), cJ (List.replicate 16 0)] : List OwnC)
 refine WP.putR (ty := .array .long) (i := 0) (j := 22) (H' := ([cO [.int (0 : Int32), .int (0 : Int32), .int (0 : Int32), .int (0 : Int32), .ref 1, .ref 2, .ref 3, .ref 4, .ref 5, .ref 6, .ref 7, .ref 8, .ref 9, .ref 10, .ref 11, .ref 12, .ref 13, .ref 14, .ref 15, .ref 16, .ref 17, .ref 18, .ref 19, .null, .null, .null, .null, .null], cI (List.replicate 8 0), cI (List.replicate 8 0), cI (List.replicate 32 0), cI (List.replicate 32 0), cZ (List.replicate 16 0), cI (List.replicate 16 0), cI (List.replicate 16 0), cJ (List.replicate 16 0), cJ (List.replicate 16 0), cJ (List.replicate 16 0), cI (List.replicate 64 0), cI (List.replicate 64 0), cI (List.replicate 64 0), cI (List.replicate 64 0), cI (List.replicate 16 0), cJ (List.replicate 16 0), cJ (List.replicate 16 0), cJ (List.replicate 16 0), cJ (List.replicate 16 0)] : List OwnC)) d2_153 (hw _ m_55) (Or.inl (hw _ m_56)) (hw _ m_8) (hlay hw) (by decide) (fun _ => rfl) (fun _ => rfl) rfl rfl rfl (leb rfl) rfl ?_
 refine WP.aloadN d2_156 rfl ?_
 refine WP.bipush (16 : Int32) d2_157 rfl ?_
 refine WP.newarray d2_159 (hw _ m_16) (by decide) (leb rfl) (leb rfl) (leb rfl) (Or.inl ⟨rfl, rfl⟩) ?_
 show W2 l Z n0 (P2 r) 20 528 161 (vR 0 :: vI p1 :: vI p2 :: vU :: []) [.ref 20, .ref 0] ([cO [.int (0 : Int32), .int (0 : Int32), .int (0 : Int32), .int (0 : Int32), .ref 1, .ref 2, .ref 3, .ref 4, .ref 5, .ref 6, .ref 7, .ref 8, .ref 9, .ref 10, .ref 11, .ref 12, .ref 13, .ref 14, .ref 15, .ref 16, .ref 17, .ref 18, .ref 19, .null, .null, .null, .null, .null], cI (List.replicate 8 0), cI (List.replicate 8 0), cI (List.replicate 32 0), cI (List.replicate 32 0), cZ (List.replicate 16 0), cI (List.replicate 16 0), cI (List.replicate 16 0), cJ (List.replicate 16 0), cJ (List.replicate 16 0), cJ (List.replicate 16 0), cI (List.replicate 64 0), cI (List.replicate 64 0), cI (List.replicate 64 0), cI (List.replicate 64 0), cI (List.replicate 16 0), cJ (List.replicate 16 0), cJ (List.replicate 16 0), cJ (List.replicate 16 0), cJ (List.replicate 16 0), cI (List.replicate 16 0)] : List OwnC)
 refine WP.putR (ty := .array .int) (i := 0) (j := 23) (H' := ([cO [.int (0 : Int32), .int (0 : Int32), .int (0 : Int32), .int (0 : Int32), .ref 1, .ref 2, .ref 3, .ref 4, .ref 5, .ref 6, .ref 7, .ref 8, .ref 9, .ref 10, .ref 11, .ref 12, .ref 13, .ref 14, .ref 15, .ref 16, .ref 17, .ref 18, .ref 19, .ref 20, .null, .null, .null, .null], cI (List.replicate 8 0), cI (List.replicate 8 0), cI (List.replicate 32 0), cI (List.replicate 32 0), cZ (List.replicate 16 0), cI (List.replicate 16 0), cI (List.replicate 16 0), cJ (List.replicate 16 0), cJ (List.replicate 16 0), cJ (List.replicate 16 0), cI (List.replicate 64 0), cI (List.replicate 64 0), cI (List.replicate 64 0), cI (List.replicate 64 0), cI (List.replicate 16 0), cJ (List.replicate 16 0), cJ (List.replicate 16 0), cJ (List.replicate 16 0), cJ (List.replicate 16 0), cI (List.replicate 16 0)] : List OwnC)) d2_161 (hw _ m_57) (Or.inl (hw _ m_58)) (hw _ m_8) (hlay hw) (by decide) (fun _ => rfl) (fun _ => rfl) rfl rfl rfl (leb rfl) rfl ?_
 refine WP.aloadN d2_164 rfl ?_
 refine WP.sipush (128 : Int32) d2_165 rfl ?_
 refine WP.newarray d2_168 (hw _ m_32) (by decide) (leb rfl) (leb rfl) (leb rfl) (Or.inr (Or.inl ⟨rfl, rfl⟩)) ?_
 show W2 l Z n0 (P2 r) 21 656 170 (vR 0 :: vI p1 :: vI p2 :: vU :: []) [.ref 21, .ref 0] ([cO [.int (0 : Int32), .int (0 : Int32), .int (0 : Int32), .int (0 : Int32), .ref 1, .ref 2, .ref 3, .ref 4, .ref 5, .ref 6, .ref 7, .ref 8, .ref 9, .ref 10, .ref 11, .ref 12, .ref 13, .ref 14, .ref 15, .ref 16, .ref 17, .ref 18, .ref 19, .ref 20, .null, .null, .null, .null], cI (List.replicate 8 0), cI (List.replicate 8 0), cI (List.replicate 32 0), cI (List.replicate 32 0), cZ (List.replicate 16 0), cI (List.replicate 16 0), cI (List.replicate 16 0), cJ (List.replicate 16 0), cJ (List.replicate 16 0), cJ (List.replicate 16 0), cI (List.replicate 64 0), cI (List.replicate 64 0), cI (List.replicate 64 0), cI (List.replicate 64 0), cI (List.replicate 16 0), cJ (List.replicate 16 0), cJ (List.replicate 16 0), cJ (List.replicate 16 0), cJ (List.replicate 16 0), cI (List.replicate 16 0), cJ (List.replicate 128 0)] : List OwnC)
 refine WP.putR (ty := .array .long) (i := 0) (j := 24) (H' := ([cO [.int (0 : Int32), .int (0 : Int32), .int (0 : Int32), .int (0 : Int32), .ref 1, .ref 2, .ref 3, .ref 4, .ref 5, .ref 6, .ref 7, .ref 8, .ref 9, .ref 10, .ref 11, .ref 12, .ref 13, .ref 14, .ref 15, .ref 16, .ref 17, .ref 18, .ref 19, .ref 20, .ref 21, .null, .null, .null], cI (List.replicate 8 0), cI (List.replicate 8 0), cI (List.replicate 32 0), cI (List.replicate 32 0), cZ (List.replicate 16 0), cI (List.replicate 16 0), cI (List.replicate 16 0), cJ (List.replicate 16 0), cJ (List.replicate 16 0), cJ (List.replicate 16 0), cI (List.replicate 64 0), cI (List.replicate 64 0), cI (List.replicate 64 0), cI (List.replicate 64 0), cI (List.replicate 16 0), cJ (List.replicate 16 0), cJ (List.replicate 16 0), cJ (List.replicate 16 0), cJ (List.replicate 16 0), cI (List.replicate 16 0), cJ (List.replicate 128 0)] : List OwnC)) d2_170 (hw _ m_59) (Or.inl (hw _ m_60)) (hw _ m_8) (hlay hw) (by decide) (fun _ => rfl) (fun _ => rfl) rfl rfl rfl (leb rfl) rfl ?_
 refine WP.aloadN d2_173 rfl ?_
 refine WP.sipush (128 : Int32) d2_174 rfl ?_
 refine WP.newarray d2_177 (hw _ m_32) (by decide) (leb rfl) (leb rfl) (leb rfl) (Or.inr (Or.inl ⟨rfl, rfl⟩)) ?_
 show W2 l Z n0 (P2 r) 22 784 179 (vR 0 :: vI p1 :: vI p2 :: vU :: []) [.ref 22, .ref 0] ([cO [.int (0 : Int32), .int (0 : Int32), .int (0 : Int32), .int (0 : Int32), .ref 1, .ref 2, .ref 3, .ref 4, .ref 5, .ref 6, .ref 7, .ref 8, .ref 9, .ref 10, .ref 11, .ref 12, .ref 13, .ref 14, .ref 15, .ref 16, .ref 17, .ref 18, .ref 19, .ref 20, .ref 21, .null, .null, .null], cI (List.replicate 8 0), cI (List.replicate 8 0), cI (List.replicate 32 0), cI (List.replicate 32 0), cZ (List.replicate 16 0), cI (List.replicate 16 0), cI (List.replicate 16 0), cJ (List.replicate 16 0), cJ (List.replicate 16 0), cJ (List.replicate 16 0), cI (List.replicate 64 0), cI (List.replicate 64 0), cI (List.replicate 64 0), cI (List.replicate 64 0), cI (List.replicate 16 0), cJ (List.replicate 16 0), cJ (List.replicate 16 0), cJ (List.replicate 16 0), cJ (List.replicate 16 0), cI (List.replicate 16 0), cJ (List.replicate 128 0), cJ (List.replicate 128 0)] : List OwnC)
 refine WP.putR (ty := .array .long) (i := 0) (j := 25) (H' := ([cO [.int (0 : Int32), .int (0 : Int32), .int (0 : Int32), .int (0 : Int32), .ref 1, .ref 2, .ref 3, .ref 4, .ref 5, .ref 6, .ref 7, .ref 8, .ref 9, .ref 10, .ref 11, .ref 12, .ref 13, .ref 14, .ref 15, .ref 16, .ref 17, .ref 18, .ref 19, .ref 20, .ref 21, .ref 22, .null, .null], cI (List.replicate 8 0), cI (List.replicate 8 0), cI (List.replicate 32 0), cI (List.replicate 32 0), cZ (List.replicate 16 0), cI (List.replicate 16 0), cI (List.replicate 16 0), cJ (List.replicate 16 0), cJ (List.replicate 16 0), cJ (List.replicate 16 0), cI (List.replicate 64 0), cI (List.replicate 64 0), cI (List.replicate 64 0), cI (List.replicate 64 0), cI (List.replicate 16 0), cJ (List.replicate 16 0), cJ (List.replicate 16 0), cJ (List.replicate 16 0), cJ (List.replicate 16 0), cI (List.replicate 16 0), cJ (List.replicate 128 0), cJ (List.replicate 128 0)] : List OwnC)) d2_179 (hw _ m_61) (Or.inl (hw _ m_62)) (hw _ m_8) (hlay hw) (by decide) (fun _ => rfl) (fun _ => rfl) rfl rfl rfl (leb rfl) rfl ?_
 refine WP.aloadN d2_182 rfl ?_
 refine WP.bipush (8 : Int32) d2_183 rfl ?_
 refine WP.newarray d2_185 (hw _ m_32) (by decide) (leb rfl) (leb rfl) (leb rfl) (Or.inr (Or.inl ⟨rfl, rfl⟩)) ?_
 show W2 l Z n0 (P2 r) 23 792 187 (vR 0 :: vI p1 :: vI p2 :: vU :: []) [.ref 23, .ref 0] ([cO [.int (0 : Int32), .int (0 : Int32), .int (0 : Int32), .int (0 : Int32), .ref 1, .ref 2, .ref 3, .ref 4, .ref 5, .ref 6, .ref 7, .ref 8, .ref 9, .ref 10, .ref 11, .ref 12, .ref 13, .ref 14, .ref 15, .ref 16, .ref 17, .ref 18, .ref 19, .ref 20, .ref 21, .ref 22, .null, .null], cI (List.replicate 8 0), cI (List.replicate 8 0), cI (List.replicate 32 0), cI (List.replicate 32 0), cZ (List.replicate 16 0), cI (List.replicate 16 0), cI (List.replicate 16 0), cJ (List.replicate 16 0), cJ (List.replicate 16 0), cJ (List.replicate 16 0), cI (List.replicate 64 0), cI (List.replicate 64 0), cI (List.replicate 64 0), cI (List.replicate 64 0), cI (List.replicate 16 0), cJ (List.replicate 16 0), cJ (List.replicate 16 0), cJ (List.replicate 16 0), cJ (List.replicate 16 0), cI (List.replicate 16 0), cJ (List.replicate 128 0), cJ (List.replicate 128 0), cJ (List.replicate 8 0)] : List OwnC)
 refine WP.putR (ty := .array .long) (i := 0) (j := 26) (H' := ([cO [.int (0 : Int32), .int (0 : Int32), .int (0 : Int32), .int (0 : Int32), .ref 1, .ref 2, .ref 3, .ref 4, .ref 5, .ref 6, .ref 7, .ref 8, .ref 9, .ref 10, .ref 11, .ref 12, .ref 13, .ref 14, .ref 15, .ref 16, .ref 17, .ref 18, .ref 19, .ref 20, .ref 21, .ref 22, .ref 23, .null], cI (List.replicate 8 0), cI (List.replicate 8 0), cI (List.replicate 32 0), cI (List.replicate 32 0), cZ (List.replicate 16 0), cI (List.replicate 16 0), cI (List.replicate 16 0), cJ (List.replicate 16 0), cJ (List.replicate 16 0), cJ (List.replicate 16 0), cI (List.replicate 64 0), cI (List.replicate 64 0), cI (List.replicate 64 0), cI (List.replicate 64 0), cI (List.replicate 16 0), cJ (List.replicate 16 0), cJ (List.replicate 16 0), cJ (List.replicate 16 0), cJ (List.replicate 16 0), cI (List.replicate 16 0), cJ (List.replicate 128 0), cJ (List.replicate 128 0), cJ (List.replicate 8 0)] : List OwnC)) d2_187 (hw _ m_63) (Or.inl (hw _ m_64)) (hw _ m_8) (hlay hw) (by decide) (fun _ => rfl) (fun _ => rfl) rfl rfl rfl (leb rfl) rfl ?_
 refine WP.aloadN d2_190 rfl ?_
 refine WP.bipush (8 : Int32) d2_191 rfl ?_
 refine WP.newarray d2_193 (hw _ m_25) (by decide) (leb rfl) (leb rfl) (leb rfl) (Or.inr (Or.inr ⟨rfl, rfl⟩)) ?_
 show W2 l Z n0 (P2 r) 24 800 195 (vR 0 :: vI p1 :: vI p2 :: vU :: []) [.ref 24, .ref 0] ([cO [.int (0 : Int32), .int (0 : Int32), .int (0 : Int32), .int (0 : Int32), .ref 1, .ref 2, .ref 3, .ref 4, .ref 5, .ref 6, .ref 7, .ref 8, .ref 9, .ref 10, .ref 11, .ref 12, .ref 13, .ref 14, .ref 15, .ref 16, .ref 17, .ref 18, .ref 19, .ref 20, .ref 21, .ref 22, .ref 23, .null], cI (List.replicate 8 0), cI (List.replicate 8 0), cI (List.replicate 32 0), cI (List.replicate 32 0), cZ (List.replicate 16 0), cI (List.replicate 16 0), cI (List.replicate 16 0), cJ (List.replicate 16 0), cJ (List.replicate 16 0), cJ (List.replicate 16 0), cI (List.replicate 64 0), cI (List.replicate 64 0), cI (List.replicate 64 0), cI (List.replicate 64 0), cI (List.replicate 16 0), cJ (List.replicate 16 0), cJ (List.replicate 16 0), cJ (List.replicate 16 0), cJ (List.replicate 16 0), cI (List.replicate 16 0), cJ (List.replicate 128 0), cJ (List.replicate 128 0), cJ (List.replicate 8 0), cZ (List.replicate 8 0)] : List OwnC)
 obtain ⟨s1, es1, h⟩ := lt_e h
 refine WP.putR (ty := .array .boolean) (i := 0) (j := 27) (H' := (Hb 0 s1)) d2_195 (hw _ m_65) (Or.inl (hw _ m_66)) (hw _ m_8) (hlay hw) (by decide) (fun _ => rfl) (fun _ => rfl) rfl rfl rfl (leb rfl) (by subst es1; rfl) ?_
 refine WP.aloadN d2_198 rfl ?_
 refine WP.iloadN d2_199 rfl ?_
 refine WP.bipush (7 : Int32) d2_200 rfl ?_
 refine WP.bipush (31 : Int32) d2_202 rfl ?_
 obtain ⟨c2, hc2, h⟩ := bd h
 refine WP.callS (y := y3) (as := [.int p1, .int (7 : Int32), .int (31 : Int32)]) (S := [.ref 0]) d2_204 (hw _ m_67) (hw _ m_68) (hw _ m_9) (hw _ m_69) hy3 (CS.frame (ro := 0) (H := (Hb 0 s1)) (as := [.int p1, .int (7 : Int32), .int (31 : Int32)]) fr0_f (ok3 l Z a0 hw p1 (7 : Int32) (31 : Int32) _ hc2) rfl (by decide) (fr0_l s1) (fr0_c s1) (by decide) rfl) rfl (lenOf pd3 rfl) (leb rfl) (leb rfl) (leb rfl) (leb rfl) ?_
 rintro _ _ ⟨_, _, ⟨rfl, rfl⟩, e1_, e2_⟩
 rw [fr0_p s1] at e2_
 subst e1_ e2_
 show W2 l Z n0 (P2 r) 24 800 207 (vR 0 :: vI p1 :: vI p2 :: vU :: []) [.int c2, .ref 0] (Hb 0 s1)
 obtain ⟨s3, es3, h⟩ := lt_e h
 refine WP.putI (i := 0) (j := 0) (H' := (Hb 0 s3)) d2_207 (hw _ m_70) (Or.inl (hw _ m_71)) (hw _ m_8) (hlay hw) rfl rfl rfl (leb rfl) (by subst es3; rfl) ?_
 refine WP.aloadN d2_210 rfl ?_
 refine WP.iloadN d2_211 rfl ?_
 refine WP.iconst (0 : Int32) d2_212 rfl ?_
 refine WP.sipush (3000 : Int32) d2_213 rfl ?_
 obtain ⟨c4, hc4, h⟩ := bd h
 refine WP.callS (y := y3) (as := [.int p2, .int (0 : Int32), .int (3000 : Int32)]) (S := [.ref 0]) d2_216 (hw _ m_67) (hw _ m_68) (hw _ m_9) (hw _ m_69) hy3 (CS.frame (ro := 0) (H := (Hb 0 s3)) (as := [.int p2, .int (0 : Int32), .int (3000 : Int32)]) fr0_f (ok3 l Z a0 hw p2 (0 : Int32) (3000 : Int32) _ hc4) rfl (by decide) (fr0_l s3) (fr0_c s3) (by decide) rfl) rfl (lenOf pd3 rfl) (leb rfl) (leb rfl) (leb rfl) (leb rfl) ?_
 rintro _ _ ⟨_, _, ⟨rfl, rfl⟩, e1_, e2_⟩
 rw [fr0_p s3] at e2_
 subst e1_ e2_
 show W2 l Z n0 (P2 r) 24 800 219 (vR 0 :: vI p1 :: vI p2 :: vU :: []) [.int c4, .ref 0] (Hb 0 s3)
 obtain ⟨s5, es5, h⟩ := lt_e h
 refine WP.putI (i := 0) (j := 1) (H' := (Hb 0 s5)) d2_219 (hw _ m_72) (Or.inl (hw _ m_73)) (hw _ m_8) (hlay hw) rfl rfl rfl (leb rfl) (by subst es5; rfl) ?_
 refine WP.iconst (0 : Int32) d2_222 rfl ?_
 refine WP.istoreN (L' := (vR 0 :: vI p1 :: vI p2 :: vI (0 : Int32) :: [])) d2_223 (leb rfl) rfl ?_
 exact WP.weak (L' := (vR 0 :: vU :: vU :: vI (0 : Int32) :: [])) ⟨rfl, rfl, trivial⟩ (ok2_224 l Z a0 hw n0 n (0 : Int32) s5 _ h)
theorem d5_0 : dc k3 0 (.iload_n 1) 1 := by decide +kernel
theorem d5_1 : dc k3 1 (.ifCond .lt 13) 3 := by decide +kernel
theorem d5_4 : dc k3 4 (.iload_n 1) 1 := by decide +kernel
theorem d5_5 : dc k3 5 (.bipush 8) 2 := by decide +kernel
theorem d5_7 : dc k3 7 (.if_icmp .ge 7) 3 := by decide +kernel
theorem d5_10 : dc k3 10 (.iconst 1) 1 := by decide +kernel
theorem d5_11 : dc k3 11 (.goto 4) 3 := by decide +kernel
theorem d5_14 : dc k3 14 (.iconst 0) 1 := by decide +kernel
theorem d5_15 : dc k3 15 (.ireturn) 1 := by decide +kernel
abbrev y5 : MethodName := ⟨"BillingRun", "validPlan", "(I)Z"⟩
theorem hy5 : y5.cls ≠ "java/lang/invoke/MethodHandle" ∧ y5.cls ≠ "java/lang/invoke/VarHandle" := by decide
theorem pd5 : parseMethodDescriptor y5.desc = some ⟨[.int], some .boolean⟩ := by decide +kernel
abbrev R5 : Room := { frames := 0, cells := 0, slots := 0, locals := 0 }
abbrev P5 (s : St) (r : Int32) : Option Value → List OwnC → Prop := fun v H' => v = some (.int r) ∧ H' = (Hb 0 s)
abbrev W5 (l : Launch) (Z : State) (n0 : Nat) (Q : Option Value → List OwnC → Prop) (k n pc : Nat) (L : List Slot) (S : List Value) (H : List OwnC) : Prop := WP l Z CN lay "BillingRun" "validPlan" prog_1_method_4_code 2 (some FieldType.boolean) R5 n0 0 Q k n pc L S H
def f_validPlan_15 (t0 : Int32) (s : St) : Option (Int32) :=
 some (t0 &&& 1)
theorem ok5_15 (l : Launch) (Z : State) (a0 : Array Value) (hw : HW a0 Z) (n0 : Nat) (t0 : Int32) (s : St) (r : Int32) (h : f_validPlan_15 t0 s = some r) : W5 l Z n0 (P5 s r) 0 0 15 (vU :: vU :: []) [.int t0] (Hb 0 s) := by
 unfold f_validPlan_15 at h
 cases h
 exact WP.zreturn d5_15 rfl (leb rfl) (leb rfl) ⟨rfl, rfl⟩
def f_validPlan_14 (s : St) : Option (Int32) :=
 f_validPlan_15 (0 : Int32) s
theorem ok5_14 (l : Launch) (Z : State) (a0 : Array Value) (hw : HW a0 Z) (n0 : Nat) (s : St) (r : Int32) (h : f_validPlan_14 s = some r) : W5 l Z n0 (P5 s r) 0 0 14 (vU :: vU :: []) [] (Hb 0 s) := by
 unfold f_validPlan_14 at h
 refine WP.iconst (0 : Int32) d5_14 rfl ?_
 exact WP.weak (L' := (vU :: vU :: [])) trivial (ok5_15 l Z a0 hw n0 (0 : Int32) s _ h)
def f_validPlan (p1 : Int32) (s : St) : Option (Int32) :=
 if p1 < 0 then
  f_validPlan_14 s
 else
  if p1 < (8 : Int32) then
   f_validPlan_15 (1 : Int32) s
  else
   f_validPlan_14 s
theorem ok5 (l : Launch) (Z : State) (a0 : Array Value) (hw : HW a0 Z) (p1 : Int32) (s : St) (r : Int32) (h : f_validPlan p1 s = some r) : CS l Z CN lay y5 prog_1_method_4_code 2 (some FieldType.boolean) R5 0 [.ref 0, .int p1] (Hb 0 s) (P5 s r) := by
 refine CS.of_wp pn_cls (leb rfl) fun n0 => ?_
 show W5 l Z n0 (P5 s r) 0 0 0 (vR 0 :: vI p1 :: []) [] (Hb 0 s)
 unfold f_validPlan at h
 refine WP.iloadN d5_0 rfl ?_
 rcases ite_e h with ⟨hc1, h⟩ | ⟨hc1, h⟩
 ·
  refine WP.ifY (pc' := 14) d5_1 (XT.i0_lt_t hc1) (by decide) rfl ?_
  exact WP.weak (L' := (vU :: vU :: [])) trivial (ok5_14 l Z a0 hw n0 s _ h)
 ·
  refine WP.ifN d5_1 (XT.i0_lt_f hc1) ?_
  refine WP.iloadN d5_4 rfl ?_
  refine WP.bipush (8 : Int32) d5_5 rfl ?_
  rcases ite_e h with ⟨hc2, h⟩ | ⟨hc2, h⟩
  ·
   refine WP.icmpN d5_7 (XT.ii_ge_f hc2) ?_
   refine WP.iconst (1 : Int32) d5_10 rfl ?_
   refine WP.goto (pc' := 15) d5_11 (by decide) rfl ?_
   exact WP.weak (L' := (vU :: vU :: [])) trivial (ok5_15 l Z a0 hw n0 (1 : Int32) s _ h)
  ·
   refine WP.icmpY (pc' := 14) d5_7 (XT.ii_ge_t hc2) (by decide) rfl ?_
   exact WP.weak (L' := (vU :: vU :: [])) trivial (ok5_14 l Z a0 hw n0 s _ h)
theorem d14_0 : dc k5 0 (.aload_n 0) 1 := by decide +kernel
theorem d14_1 : dc k5 1 (.iload_n 1) 1 := by decide +kernel
theorem d14_2 : dc k5 2 (.invokevirtual 99) 3 := by decide +kernel
theorem d14_5 : dc k5 5 (.ifCond .eq 13) 3 := by decide +kernel
theorem d14_8 : dc k5 8 (.iload_n 2) 1 := by decide +kernel
theorem d14_9 : dc k5 9 (.ifCond .lt 9) 3 := by decide +kernel
theorem d14_12 : dc k5 12 (.iload_n 2) 1 := by decide +kernel
theorem d14_13 : dc k5 13 (.ldc 95) 2 := by decide +kernel
theorem d14_15 : dc k5 15 (.if_icmp .le 5) 3 := by decide +kernel
theorem d14_18 : dc k5 18 (.iconst 0) 1 := by decide +kernel
theorem d14_19 : dc k5 19 (.ireturn) 1 := by decide +kernel
theorem d14_20 : dc k5 20 (.iload_n 3) 1 := by decide +kernel
theorem d14_21 : dc k5 21 (.ifCond .eq 10) 3 := by decide +kernel
theorem d14_24 : dc k5 24 (.iload_n 3) 1 := by decide +kernel
theorem d14_25 : dc k5 25 (.iconst 1) 1 := by decide +kernel
theorem d14_26 : dc k5 26 (.if_icmp .eq 5) 3 := by decide +kernel
theorem d14_29 : dc k5 29 (.iconst 0) 1 := by decide +kernel
theorem d14_30 : dc k5 30 (.ireturn) 1 := by decide +kernel
theorem d14_31 : dc k5 31 (.aload_n 0) 1 := by decide +kernel
theorem d14_32 : dc k5 32 (.getfield 7) 3 := by decide +kernel
theorem d14_35 : dc k5 35 (.iload_n 1) 1 := by decide +kernel
theorem d14_36 : dc k5 36 (.iload_n 2) 1 := by decide +kernel
theorem d14_37 : dc k5 37 (.iastore) 1 := by decide +kernel
theorem d14_38 : dc k5 38 (.aload_n 0) 1 := by decide +kernel
theorem d14_39 : dc k5 39 (.getfield 13) 3 := by decide +kernel
theorem d14_42 : dc k5 42 (.iload_n 1) 1 := by decide +kernel
theorem d14_43 : dc k5 43 (.iload_n 3) 1 := by decide +kernel
theorem d14_44 : dc k5 44 (.iastore) 1 := by decide +kernel
theorem d14_45 : dc k5 45 (.iconst 1) 1 := by decide +kernel
theorem d14_46 : dc k5 46 (.ireturn) 1 := by decide +kernel
abbrev y14 : MethodName := ⟨"BillingRun", "setPlan", "(III)Z"⟩
theorem hy14 : y14.cls ≠ "java/lang/invoke/MethodHandle" ∧ y14.cls ≠ "java/lang/invoke/VarHandle" := by decide
theorem pd14 : parseMethodDescriptor y14.desc = some ⟨[.int, .int, .int], some .boolean⟩ := by decide +kernel
abbrev R14 : Room := { frames := 1, cells := 0, slots := 0, locals := 13 }
abbrev P14 (r : Int32 × St) : Option Value → List OwnC → Prop := fun v H' => v = some (.int r.1) ∧ H' = (Hb 0 r.2)
abbrev W14 (l : Launch) (Z : State) (n0 : Nat) (Q : Option Value → List OwnC → Prop) (k n pc : Nat) (L : List Slot) (S : List Value) (H : List OwnC) : Prop := WP l Z CN lay "BillingRun" "setPlan" prog_1_method_6_code 4 (some FieldType.boolean) R14 n0 0 Q k n pc L S H
def f_setPlan_18 (s : St) : Option (Int32 × St) :=
 some ((0 : Int32), s)
theorem ok14_18 (l : Launch) (Z : State) (a0 : Array Value) (hw : HW a0 Z) (n0 : Nat) (s : St) (r : Int32 × St) (h : f_setPlan_18 s = some r) : W14 l Z n0 (P14 r) 0 0 18 (vU :: vU :: vU :: vU :: []) [] (Hb 0 s) := by
 unfold f_setPlan_18 at h
 refine WP.iconst (0 : Int32) d14_18 rfl ?_
 cases h
 exact WP.zreturn d14_19 rfl (leb rfl) (leb rfl) ⟨rfl, rfl⟩
def f_setPlan_31 (v1 v2 v3 : Int32) (s : St) : Option (Int32 × St) :=
 (wrA s 0 v1 v2).bind fun s1 =>
 (wrA s1 1 v1 v3).bind fun s2 =>
 some ((1 : Int32), s2)
theorem ok14_31 (l : Launch) (Z : State) (a0 : Array Value) (hw : HW a0 Z) (n0 : Nat) (v1 v2 v3 : Int32) (s : St) (r : Int32 × St) (h : f_setPlan_31 v1 v2 v3 s = some r) : W14 l Z n0 (P14 r) 0 0 31 (vR 0 :: vI v1 :: vI v2 :: vI v3 :: []) [] (Hb 0 s) := by
 unfold f_setPlan_31 at h
 refine WP.aloadN d14_31 rfl ?_
 refine WP.getfield (i := 0) (j := 4) d14_32 (hw _ m_17) rfl rfl rfl ?_
 refine WP.iloadN d14_35 rfl ?_
 refine WP.iloadN d14_36 rfl ?_
 obtain ⟨s1, hs1, h⟩ := bd h
 obtain ⟨ys1, gs1, es1⟩ := wrA_e hs1
 refine WP.iastore (i := 1) (xs := gA s 0) (H' := (Hb 0 s1)) d14_37 rfl (leb rfl) gs1 (by subst es1; rfl) ?_
 refine WP.aloadN d14_38 rfl ?_
 refine WP.getfield (i := 0) (j := 5) d14_39 (hw _ m_19) rfl rfl rfl ?_
 refine WP.iloadN d14_42 rfl ?_
 refine WP.iloadN d14_43 rfl ?_
 obtain ⟨s2, hs2, h⟩ := bd h
 obtain ⟨ys2, gs2, es2⟩ := wrA_e hs2
 refine WP.iastore (i := 2) (xs := gA s1 1) (H' := (Hb 0 s2)) d14_44 rfl (leb rfl) gs2 (by subst es2; rfl) ?_
 refine WP.iconst (1 : Int32) d14_45 rfl ?_
 cases h
 exact WP.zreturn d14_46 rfl (leb rfl) (leb rfl) ⟨rfl, rfl⟩
def f_setPlan (p1 p2 p3 : Int32) (s : St) : Option (Int32 × St) :=
 (f_validPlan p1 s).bind fun c1 =>
 if c1 = 0 then
  f_setPlan_18 s
 else
  if p2 < 0 then
   f_setPlan_18 s
  else
   if (1000000 : Int32) < p2 then
    f_setPlan_18 s
   else
    if p3 = 0 then
     f_setPlan_31 p1 p2 p3 s
    else
     if p3 = (1 : Int32) then
      f_setPlan_31 p1 p2 p3 s
     else
      some ((0 : Int32), s)
theorem ok14 (l : Launch) (Z : State) (a0 : Array Value) (hw : HW a0 Z) (p1 p2 p3 : Int32) (s : St) (r : Int32 × St) (h : f_setPlan p1 p2 p3 s = some r) : CS l Z CN lay y14 prog_1_method_6_code 4 (some FieldType.boolean) R14 0 [.ref 0, .int p1, .int p2, .int p3] (Hb 0 s) (P14 r) := by
 refine CS.of_wp pn_cls (leb rfl) fun n0 => ?_
 show W14 l Z n0 (P14 r) 0 0 0 (vR 0 :: vI p1 :: vI p2 :: vI p3 :: []) [] (Hb 0 s)
 unfold f_setPlan at h
 refine WP.aloadN d14_0 rfl ?_
 refine WP.iloadN d14_1 rfl ?_
 obtain ⟨c1, hc1, h⟩ := bd h
 refine WP.callP (i := 0) (y := y5) (as := [.int p1]) (S := []) d14_2 (hw _ m_82) (hw _ m_84) (hw _ m_8) (hw _ m_83) (hw _ m_85) (hw _ m_9) hy5 rfl (ok5 l Z a0 hw p1 s _ hc1) rfl (lenOf pd5 rfl) (leb rfl) (leb rfl) (leb rfl) (leb rfl) ?_
 rintro _ _ ⟨rfl, rfl⟩
 show W14 l Z n0 (P14 r) 0 0 5 (vR 0 :: vI p1 :: vI p2 :: vI p3 :: []) [.int c1] (Hb 0 s)
 rcases ite_e h with ⟨hc2, h⟩ | ⟨hc2, h⟩
 ·
  refine WP.ifY (pc' := 18) d14_5 (XT.i0_eq_t hc2) (by decide) rfl ?_
  exact WP.weak (L' := (vU :: vU :: vU :: vU :: [])) trivial (ok14_18 l Z a0 hw n0 s _ h)
 ·
  refine WP.ifN d14_5 (XT.i0_eq_f hc2) ?_
  refine WP.iloadN d14_8 rfl ?_
  rcases ite_e h with ⟨hc3, h⟩ | ⟨hc3, h⟩
  ·
   refine WP.ifY (pc' := 18) d14_9 (XT.i0_lt_t hc3) (by decide) rfl ?_
   exact WP.weak (L' := (vU :: vU :: vU :: vU :: [])) trivial (ok14_18 l Z a0 hw n0 s _ h)
  ·
   refine WP.ifN d14_9 (XT.i0_lt_f hc3) ?_
   refine WP.iloadN d14_12 rfl ?_
   refine WP.ldc d14_13 (hw _ m_74) ?_
   rcases ite_e h with ⟨hc4, h⟩ | ⟨hc4, h⟩
   ·
    refine WP.icmpN d14_15 (XT.ii_le_f hc4) ?_
    exact WP.weak (L' := (vU :: vU :: vU :: vU :: [])) trivial (ok14_18 l Z a0 hw n0 s _ h)
   ·
    refine WP.icmpY (pc' := 20) d14_15 (XT.ii_le_t hc4) (by decide) rfl ?_
    refine WP.iloadN d14_20 rfl ?_
    rcases ite_e h with ⟨hc5, h⟩ | ⟨hc5, h⟩
    ·
     refine WP.ifY (pc' := 31) d14_21 (XT.i0_eq_t hc5) (by decide) rfl ?_
     exact WP.weak (L' := (vR 0 :: vI p1 :: vI p2 :: vI p3 :: [])) ⟨rfl, rfl, rfl, rfl, trivial⟩ (ok14_31 l Z a0 hw n0 p1 p2 p3 s _ h)
    ·
     refine WP.ifN d14_21 (XT.i0_eq_f hc5) ?_
     refine WP.iloadN d14_24 rfl ?_
     refine WP.iconst (1 : Int32) d14_25 rfl ?_
     rcases ite_e h with ⟨hc6, h⟩ | ⟨hc6, h⟩
     ·
      refine WP.icmpY (pc' := 31) d14_26 (XT.ii_eq_t hc6) (by decide) rfl ?_
      exact WP.weak (L' := (vR 0 :: vI p1 :: vI p2 :: vI p3 :: [])) ⟨rfl, rfl, rfl, rfl, trivial⟩ (ok14_31 l Z a0 hw n0 p1 p2 p3 s _ h)
     ·
      refine WP.icmpN d14_26 (XT.ii_eq_f hc6) ?_
      refine WP.iconst (0 : Int32) d14_29 rfl ?_
      cases h
      exact WP.zreturn d14_30 rfl (leb rfl) (leb rfl) ⟨rfl, rfl⟩
theorem d4_0 : dc k6 0 (.aload_n 0) 1 := by decide +kernel
theorem d4_1 : dc k6 1 (.iload_n 1) 1 := by decide +kernel
theorem d4_2 : dc k6 2 (.invokevirtual 99) 3 := by decide +kernel
theorem d4_5 : dc k6 5 (.ifCond .eq 12) 3 := by decide +kernel
theorem d4_8 : dc k6 8 (.iload_n 2) 1 := by decide +kernel
theorem d4_9 : dc k6 9 (.ifCond .lt 8) 3 := by decide +kernel
theorem d4_12 : dc k6 12 (.iload_n 2) 1 := by decide +kernel
theorem d4_13 : dc k6 13 (.iconst 4) 1 := by decide +kernel
theorem d4_14 : dc k6 14 (.if_icmp .lt 5) 3 := by decide +kernel
theorem d4_17 : dc k6 17 (.iconst 0) 1 := by decide +kernel
theorem d4_18 : dc k6 18 (.ireturn) 1 := by decide +kernel
theorem d4_19 : dc k6 19 (.iload_n 3) 1 := by decide +kernel
theorem d4_20 : dc k6 20 (.ifCond .lt 21) 3 := by decide +kernel
theorem d4_23 : dc k6 23 (.iload_n 3) 1 := by decide +kernel
theorem d4_24 : dc k6 24 (.ldc 95) 2 := by decide +kernel
theorem d4_26 : dc k6 26 (.if_icmp .gt 15) 3 := by decide +kernel
theorem d4_29 : dc k6 29 (.iload 4) 2 := by decide +kernel
theorem d4_31 : dc k6 31 (.ifCond .lt 10) 3 := by decide +kernel
theorem d4_34 : dc k6 34 (.iload 4) 2 := by decide +kernel
theorem d4_36 : dc k6 36 (.ldc 103) 2 := by decide +kernel
theorem d4_38 : dc k6 38 (.if_icmp .le 5) 3 := by decide +kernel
theorem d4_41 : dc k6 41 (.iconst 0) 1 := by decide +kernel
theorem d4_42 : dc k6 42 (.ireturn) 1 := by decide +kernel
theorem d4_43 : dc k6 43 (.aload_n 0) 1 := by decide +kernel
theorem d4_44 : dc k6 44 (.getfield 16) 3 := by decide +kernel
theorem d4_47 : dc k6 47 (.iload_n 1) 1 := by decide +kernel
theorem d4_48 : dc k6 48 (.iconst 4) 1 := by decide +kernel
theorem d4_49 : dc k6 49 (.imul) 1 := by decide +kernel
theorem d4_50 : dc k6 50 (.iload_n 2) 1 := by decide +kernel
theorem d4_51 : dc k6 51 (.iadd) 1 := by decide +kernel
theorem d4_52 : dc k6 52 (.iload_n 3) 1 := by decide +kernel
theorem d4_53 : dc k6 53 (.iastore) 1 := by decide +kernel
theorem d4_54 : dc k6 54 (.aload_n 0) 1 := by decide +kernel
theorem d4_55 : dc k6 55 (.getfield 19) 3 := by decide +kernel
theorem d4_58 : dc k6 58 (.iload_n 1) 1 := by decide +kernel
theorem d4_59 : dc k6 59 (.iconst 4) 1 := by decide +kernel
theorem d4_60 : dc k6 60 (.imul) 1 := by decide +kernel
theorem d4_61 : dc k6 61 (.iload_n 2) 1 := by decide +kernel
theorem d4_62 : dc k6 62 (.iadd) 1 := by decide +kernel
theorem d4_63 : dc k6 63 (.iload 4) 2 := by decide +kernel
theorem d4_65 : dc k6 65 (.iastore) 1 := by decide +kernel
theorem d4_66 : dc k6 66 (.iconst 1) 1 := by decide +kernel
theorem d4_67 : dc k6 67 (.ireturn) 1 := by decide +kernel
abbrev y4 : MethodName := ⟨"BillingRun", "setTier", "(IIII)Z"⟩
theorem hy4 : y4.cls ≠ "java/lang/invoke/MethodHandle" ∧ y4.cls ≠ "java/lang/invoke/VarHandle" := by decide
theorem pd4 : parseMethodDescriptor y4.desc = some ⟨[.int, .int, .int, .int], some .boolean⟩ := by decide +kernel
abbrev R4 : Room := { frames := 1, cells := 0, slots := 0, locals := 13 }
abbrev P4 (r : Int32 × St) : Option Value → List OwnC → Prop := fun v H' => v = some (.int r.1) ∧ H' = (Hb 0 r.2)
abbrev W4 (l : Launch) (Z : State) (n0 : Nat) (Q : Option Value → List OwnC → Prop) (k n pc : Nat) (L : List Slot) (S : List Value) (H : List OwnC) : Prop := WP l Z CN lay "BillingRun" "setTier" prog_1_method_7_code 5 (some FieldType.boolean) R4 n0 0 Q k n pc L S H
def f_setTier_17 (s : St) : Option (Int32 × St) :=
 some ((0 : Int32), s)
theorem ok4_17 (l : Launch) (Z : State) (a0 : Array Value) (hw : HW a0 Z) (n0 : Nat) (s : St) (r : Int32 × St) (h : f_setTier_17 s = some r) : W4 l Z n0 (P4 r) 0 0 17 (vU :: vU :: vU :: vU :: vU :: []) [] (Hb 0 s) := by
 unfold f_setTier_17 at h
 refine WP.iconst (0 : Int32) d4_17 rfl ?_
 cases h
 exact WP.zreturn d4_18 rfl (leb rfl) (leb rfl) ⟨rfl, rfl⟩
def f_setTier_41 (s : St) : Option (Int32 × St) :=
 some ((0 : Int32), s)
theorem ok4_41 (l : Launch) (Z : State) (a0 : Array Value) (hw : HW a0 Z) (n0 : Nat) (s : St) (r : Int32 × St) (h : f_setTier_41 s = some r) : W4 l Z n0 (P4 r) 0 0 41 (vU :: vU :: vU :: vU :: vU :: []) [] (Hb 0 s) := by
 unfold f_setTier_41 at h
 refine WP.iconst (0 : Int32) d4_41 rfl ?_
 cases h
 exact WP.zreturn d4_42 rfl (leb rfl) (leb rfl) ⟨rfl, rfl⟩
def f_setTier (p1 p2 p3 p4 : Int32) (s : St) : Option (Int32 × St) :=
 (f_validPlan p1 s).bind fun c1 =>
 if c1 = 0 then
  f_setTier_17 s
 else
  if p2 < 0 then
   f_setTier_17 s
  else
   if p2 < (4 : Int32) then
    if p3 < 0 then
     f_setTier_41 s
    else
     if (1000000 : Int32) < p3 then
      f_setTier_41 s
     else
      if p4 < 0 then
       f_setTier_41 s
      else
       if (100000000 : Int32) < p4 then
        f_setTier_41 s
       else
        (wrA s 2 ((p1 * (4 : Int32)) + p2) p3).bind fun s9 =>
        (wrA s9 3 ((p1 * (4 : Int32)) + p2) p4).bind fun s10 =>
        some ((1 : Int32), s10)
   else
    f_setTier_17 s
theorem ok4 (l : Launch) (Z : State) (a0 : Array Value) (hw : HW a0 Z) (p1 p2 p3 p4 : Int32) (s : St) (r : Int32 × St) (h : f_setTier p1 p2 p3 p4 s = some r) : CS l Z CN lay y4 prog_1_method_7_code 5 (some FieldType.boolean) R4 0 [.ref 0, .int p1, .int p2, .int p3, .int p4] (Hb 0 s) (P4 r) := by
 refine CS.of_wp pn_cls (leb rfl) fun n0 => ?_
 show W4 l Z n0 (P4 r) 0 0 0 (vR 0 :: vI p1 :: vI p2 :: vI p3 :: vI p4 :: []) [] (Hb 0 s)
 unfold f_setTier at h
 refine WP.aloadN d4_0 rfl ?_
 refine WP.iloadN d4_1 rfl ?_
 obtain ⟨c1, hc1, h⟩ := bd h
 refine WP.callP (i := 0) (y := y5) (as := [.int p1]) (S := []) d4_2 (hw _ m_82) (hw _ m_84) (hw _ m_8) (hw _ m_83) (hw _ m_85) (hw _ m_9) hy5 rfl (ok5 l Z a0 hw p1 s _ hc1) rfl (lenOf pd5 rfl) (leb rfl) (leb rfl) (leb rfl) (leb rfl) ?_
 rintro _ _ ⟨rfl, rfl⟩
 show W4 l Z n0 (P4 r) 0 0 5 (vR 0 :: vI p1 :: vI p2 :: vI p3 :: vI p4 :: []) [.int c1] (Hb 0 s)
 rcases ite_e h with ⟨hc2, h⟩ | ⟨hc2, h⟩
 ·
  refine WP.ifY (pc' := 17) d4_5 (XT.i0_eq_t hc2) (by decide) rfl ?_
  exact WP.weak (L' := (vU :: vU :: vU :: vU :: vU :: [])) trivial (ok4_17 l Z a0 hw n0 s _ h)
 ·
  refine WP.ifN d4_5 (XT.i0_eq_f hc2) ?_
  refine WP.iloadN d4_8 rfl ?_
  rcases ite_e h with ⟨hc3, h⟩ | ⟨hc3, h⟩
  ·
   refine WP.ifY (pc' := 17) d4_9 (XT.i0_lt_t hc3) (by decide) rfl ?_
   exact WP.weak (L' := (vU :: vU :: vU :: vU :: vU :: [])) trivial (ok4_17 l Z a0 hw n0 s _ h)
  ·
   refine WP.ifN d4_9 (XT.i0_lt_f hc3) ?_
   refine WP.iloadN d4_12 rfl ?_
   refine WP.iconst (4 : Int32) d4_13 rfl ?_
   rcases ite_e h with ⟨hc4, h⟩ | ⟨hc4, h⟩
   ·
    refine WP.icmpY (pc' := 19) d4_14 (XT.ii_lt_t hc4) (by decide) rfl ?_
    refine WP.iloadN d4_19 rfl ?_
    rcases ite_e h with ⟨hc5, h⟩ | ⟨hc5, h⟩
    ·
     refine WP.ifY (pc' := 41) d4_20 (XT.i0_lt_t hc5) (by decide) rfl ?_
     exact WP.weak (L' := (vU :: vU :: vU :: vU :: vU :: [])) trivial (ok4_41 l Z a0 hw n0 s _ h)
    ·
     refine WP.ifN d4_20 (XT.i0_lt_f hc5) ?_
     refine WP.iloadN d4_23 rfl ?_
     refine WP.ldc d4_24 (hw _ m_74) ?_
     rcases ite_e h with ⟨hc6, h⟩ | ⟨hc6, h⟩
     ·
      refine WP.icmpY (pc' := 41) d4_26 (XT.ii_gt_t hc6) (by decide) rfl ?_
      exact WP.weak (L' := (vU :: vU :: vU :: vU :: vU :: [])) trivial (ok4_41 l Z a0 hw n0 s _ h)
     ·
      refine WP.icmpN d4_26 (XT.ii_gt_f hc6) ?_
      refine WP.iload d4_29 rfl ?_
      rcases ite_e h with ⟨hc7, h⟩ | ⟨hc7, h⟩
      ·
       refine WP.ifY (pc' := 41) d4_31 (XT.i0_lt_t hc7) (by decide) rfl ?_
       exact WP.weak (L' := (vU :: vU :: vU :: vU :: vU :: [])) trivial (ok4_41 l Z a0 hw n0 s _ h)
      ·
       refine WP.ifN d4_31 (XT.i0_lt_f hc7) ?_
       refine WP.iload d4_34 rfl ?_
       refine WP.ldc d4_36 (hw _ m_86) ?_
       rcases ite_e h with ⟨hc8, h⟩ | ⟨hc8, h⟩
       ·
        refine WP.icmpN d4_38 (XT.ii_le_f hc8) ?_
        exact WP.weak (L' := (vU :: vU :: vU :: vU :: vU :: [])) trivial (ok4_41 l Z a0 hw n0 s _ h)
       ·
        refine WP.icmpY (pc' := 43) d4_38 (XT.ii_le_t hc8) (by decide) rfl ?_
        refine WP.aloadN d4_43 rfl ?_
        refine WP.getfield (i := 0) (j := 6) d4_44 (hw _ m_21) rfl rfl rfl ?_
        refine WP.iloadN d4_47 rfl ?_
        refine WP.iconst (4 : Int32) d4_48 rfl ?_
        refine WP.imul d4_49 ?_
        refine WP.iloadN d4_50 rfl ?_
        refine WP.iadd d4_51 ?_
        refine WP.iloadN d4_52 rfl ?_
        obtain ⟨s9, hs9, h⟩ := bd h
        obtain ⟨ys9, gs9, es9⟩ := wrA_e hs9
        refine WP.iastore (i := 3) (xs := gA s 2) (H' := (Hb 0 s9)) d4_53 rfl (leb rfl) gs9 (by subst es9; rfl) ?_
        refine WP.aloadN d4_54 rfl ?_
        refine WP.getfield (i := 0) (j := 7) d4_55 (hw _ m_23) rfl rfl rfl ?_
        refine WP.iloadN d4_58 rfl ?_
        refine WP.iconst (4 : Int32) d4_59 rfl ?_
        refine WP.imul d4_60 ?_
        refine WP.iloadN d4_61 rfl ?_
        refine WP.iadd d4_62 ?_
        refine WP.iload d4_63 rfl ?_
        obtain ⟨s10, hs10, h⟩ := bd h
        obtain ⟨ys10, gs10, es10⟩ := wrA_e hs10
        refine WP.iastore (i := 4) (xs := gA s9 3) (H' := (Hb 0 s10)) d4_65 rfl (leb rfl) gs10 (by subst es10; rfl) ?_
        refine WP.iconst (1 : Int32) d4_66 rfl ?_
        cases h
        exact WP.zreturn d4_67 rfl (leb rfl) (leb rfl) ⟨rfl, rfl⟩
   ·
    refine WP.icmpN d4_14 (XT.ii_lt_f hc4) ?_
    exact WP.weak (L' := (vU :: vU :: vU :: vU :: vU :: [])) trivial (ok4_17 l Z a0 hw n0 s _ h)
theorem d10_0 : dc k27 0 (.aload_n 0) 1 := by decide +kernel
theorem d10_1 : dc k27 1 (.getfield 96) 3 := by decide +kernel
theorem d10_4 : dc k27 4 (.ireturn) 1 := by decide +kernel
abbrev y10 : MethodName := ⟨"BillingRun", "today", "()I"⟩
theorem hy10 : y10.cls ≠ "java/lang/invoke/MethodHandle" ∧ y10.cls ≠ "java/lang/invoke/VarHandle" := by decide
theorem pd10 : parseMethodDescriptor y10.desc = some ⟨[], some .int⟩ := by decide +kernel
abbrev R10 : Room := { frames := 0, cells := 0, slots := 0, locals := 0 }
abbrev P10 (s : St) (r : Int32) : Option Value → List OwnC → Prop := fun v H' => v = some (.int r) ∧ H' = (Hb 0 s)
abbrev W10 (l : Launch) (Z : State) (n0 : Nat) (Q : Option Value → List OwnC → Prop) (k n pc : Nat) (L : List Slot) (S : List Value) (H : List OwnC) : Prop := WP l Z CN lay "BillingRun" "today" prog_1_method_29_code 1 (some FieldType.int) R10 n0 0 Q k n pc L S H
def f_today (s : St) : Option (Int32) :=
 some (gI s 2)
theorem ok10 (l : Launch) (Z : State) (a0 : Array Value) (hw : HW a0 Z) (s : St) (r : Int32) (h : f_today s = some r) : CS l Z CN lay y10 prog_1_method_29_code 1 (some FieldType.int) R10 0 [.ref 0] (Hb 0 s) (P10 s r) := by
 refine CS.of_wp pn_cls (leb rfl) fun n0 => ?_
 show W10 l Z n0 (P10 s r) 0 0 0 (vR 0 :: []) [] (Hb 0 s)
 unfold f_today at h
 refine WP.aloadN d10_0 rfl ?_
 refine WP.getfield (i := 0) (j := 2) d10_1 (hw _ m_110) rfl rfl rfl ?_
 cases h
 exact WP.ireturn d10_4 rfl (leb rfl) (leb rfl) ⟨rfl, rfl⟩
theorem d8_0 : dc k2 0 (.iload_n 1) 1 := by decide +kernel
theorem d8_1 : dc k2 1 (.ifCond .lt 13) 3 := by decide +kernel
theorem d8_4 : dc k2 4 (.iload_n 1) 1 := by decide +kernel
theorem d8_5 : dc k2 5 (.bipush 16) 2 := by decide +kernel
theorem d8_7 : dc k2 7 (.if_icmp .ge 7) 3 := by decide +kernel
theorem d8_10 : dc k2 10 (.iconst 1) 1 := by decide +kernel
theorem d8_11 : dc k2 11 (.goto 4) 3 := by decide +kernel
theorem d8_14 : dc k2 14 (.iconst 0) 1 := by decide +kernel
theorem d8_15 : dc k2 15 (.ireturn) 1 := by decide +kernel
abbrev y8 : MethodName := ⟨"BillingRun", "validCustomer", "(I)Z"⟩
theorem hy8 : y8.cls ≠ "java/lang/invoke/MethodHandle" ∧ y8.cls ≠ "java/lang/invoke/VarHandle" := by decide
theorem pd8 : parseMethodDescriptor y8.desc = some ⟨[.int], some .boolean⟩ := by decide +kernel
abbrev R8 : Room := { frames := 0, cells := 0, slots := 0, locals := 0 }
abbrev P8 (s : St) (r : Int32) : Option Value → List OwnC → Prop := fun v H' => v = some (.int r) ∧ H' = (Hb 0 s)
abbrev W8 (l : Launch) (Z : State) (n0 : Nat) (Q : Option Value → List OwnC → Prop) (k n pc : Nat) (L : List Slot) (S : List Value) (H : List OwnC) : Prop := WP l Z CN lay "BillingRun" "validCustomer" prog_1_method_3_code 2 (some FieldType.boolean) R8 n0 0 Q k n pc L S H
def f_validCustomer_15 (t0 : Int32) (s : St) : Option (Int32) :=
 some (t0 &&& 1)
theorem ok8_15 (l : Launch) (Z : State) (a0 : Array Value) (hw : HW a0 Z) (n0 : Nat) (t0 : Int32) (s : St) (r : Int32) (h : f_validCustomer_15 t0 s = some r) : W8 l Z n0 (P8 s r) 0 0 15 (vU :: vU :: []) [.int t0] (Hb 0 s) := by
 unfold f_validCustomer_15 at h
 cases h
 exact WP.zreturn d8_15 rfl (leb rfl) (leb rfl) ⟨rfl, rfl⟩
def f_validCustomer_14 (s : St) : Option (Int32) :=
 f_validCustomer_15 (0 : Int32) s
theorem ok8_14 (l : Launch) (Z : State) (a0 : Array Value) (hw : HW a0 Z) (n0 : Nat) (s : St) (r : Int32) (h : f_validCustomer_14 s = some r) : W8 l Z n0 (P8 s r) 0 0 14 (vU :: vU :: []) [] (Hb 0 s) := by
 unfold f_validCustomer_14 at h
 refine WP.iconst (0 : Int32) d8_14 rfl ?_
 exact WP.weak (L' := (vU :: vU :: [])) trivial (ok8_15 l Z a0 hw n0 (0 : Int32) s _ h)
def f_validCustomer (p1 : Int32) (s : St) : Option (Int32) :=
 if p1 < 0 then
  f_validCustomer_14 s
 else
  if p1 < (16 : Int32) then
   f_validCustomer_15 (1 : Int32) s
  else
   f_validCustomer_14 s
theorem ok8 (l : Launch) (Z : State) (a0 : Array Value) (hw : HW a0 Z) (p1 : Int32) (s : St) (r : Int32) (h : f_validCustomer p1 s = some r) : CS l Z CN lay y8 prog_1_method_3_code 2 (some FieldType.boolean) R8 0 [.ref 0, .int p1] (Hb 0 s) (P8 s r) := by
 refine CS.of_wp pn_cls (leb rfl) fun n0 => ?_
 show W8 l Z n0 (P8 s r) 0 0 0 (vR 0 :: vI p1 :: []) [] (Hb 0 s)
 unfold f_validCustomer at h
 refine WP.iloadN d8_0 rfl ?_
 rcases ite_e h with ⟨hc1, h⟩ | ⟨hc1, h⟩
 ·
  refine WP.ifY (pc' := 14) d8_1 (XT.i0_lt_t hc1) (by decide) rfl ?_
  exact WP.weak (L' := (vU :: vU :: [])) trivial (ok8_14 l Z a0 hw n0 s _ h)
 ·
  refine WP.ifN d8_1 (XT.i0_lt_f hc1) ?_
  refine WP.iloadN d8_4 rfl ?_
  refine WP.bipush (16 : Int32) d8_5 rfl ?_
  rcases ite_e h with ⟨hc2, h⟩ | ⟨hc2, h⟩
  ·
   refine WP.icmpN d8_7 (XT.ii_ge_f hc2) ?_
   refine WP.iconst (1 : Int32) d8_10 rfl ?_
   refine WP.goto (pc' := 15) d8_11 (by decide) rfl ?_
   exact WP.weak (L' := (vU :: vU :: [])) trivial (ok8_15 l Z a0 hw n0 (1 : Int32) s _ h)
  ·
   refine WP.icmpY (pc' := 14) d8_7 (XT.ii_ge_t hc2) (by decide) rfl ?_
   exact WP.weak (L' := (vU :: vU :: [])) trivial (ok8_14 l Z a0 hw n0 s _ h)
theorem d12_0 : dc k4 0 (.iload_n 1) 1 := by decide +kernel
theorem d12_1 : dc k4 1 (.aload_n 0) 1 := by decide +kernel
theorem d12_2 : dc k4 2 (.getfield 96) 3 := by decide +kernel
theorem d12_5 : dc k4 5 (.if_icmp .lt 17) 3 := by decide +kernel
theorem d12_8 : dc k4 8 (.iload_n 1) 1 := by decide +kernel
theorem d12_9 : dc k4 9 (.aload_n 0) 1 := by decide +kernel
theorem d12_10 : dc k4 10 (.getfield 88) 3 := by decide +kernel
theorem d12_13 : dc k4 13 (.iconst 1) 1 := by decide +kernel
theorem d12_14 : dc k4 14 (.isub) 1 := by decide +kernel
theorem d12_15 : dc k4 15 (.if_icmp .gt 7) 3 := by decide +kernel
theorem d12_18 : dc k4 18 (.iconst 1) 1 := by decide +kernel
theorem d12_19 : dc k4 19 (.goto 4) 3 := by decide +kernel
theorem d12_22 : dc k4 22 (.iconst 0) 1 := by decide +kernel
theorem d12_23 : dc k4 23 (.ireturn) 1 := by decide +kernel
abbrev y12 : MethodName := ⟨"BillingRun", "validDay", "(I)Z"⟩
theorem hy12 : y12.cls ≠ "java/lang/invoke/MethodHandle" ∧ y12.cls ≠ "java/lang/invoke/VarHandle" := by decide
theorem pd12 : parseMethodDescriptor y12.desc = some ⟨[.int], some .boolean⟩ := by decide +kernel
abbrev R12 : Room := { frames := 0, cells := 0, slots := 0, locals := 0 }
abbrev P12 (s : St) (r : Int32) : Option Value → List OwnC → Prop := fun v H' => v = some (.int r) ∧ H' = (Hb 0 s)
abbrev W12 (l : Launch) (Z : State) (n0 : Nat) (Q : Option Value → List OwnC → Prop) (k n pc : Nat) (L : List Slot) (S : List Value) (H : List OwnC) : Prop := WP l Z CN lay "BillingRun" "validDay" prog_1_method_5_code 2 (some FieldType.boolean) R12 n0 0 Q k n pc L S H
def f_validDay_23 (t0 : Int32) (s : St) : Option (Int32) :=
 some (t0 &&& 1)
theorem ok12_23 (l : Launch) (Z : State) (a0 : Array Value) (hw : HW a0 Z) (n0 : Nat) (t0 : Int32) (s : St) (r : Int32) (h : f_validDay_23 t0 s = some r) : W12 l Z n0 (P12 s r) 0 0 23 (vU :: vU :: []) [.int t0] (Hb 0 s) := by
 unfold f_validDay_23 at h
 cases h
 exact WP.zreturn d12_23 rfl (leb rfl) (leb rfl) ⟨rfl, rfl⟩
def f_validDay_22 (s : St) : Option (Int32) :=
 f_validDay_23 (0 : Int32) s
theorem ok12_22 (l : Launch) (Z : State) (a0 : Array Value) (hw : HW a0 Z) (n0 : Nat) (s : St) (r : Int32) (h : f_validDay_22 s = some r) : W12 l Z n0 (P12 s r) 0 0 22 (vU :: vU :: []) [] (Hb 0 s) := by
 unfold f_validDay_22 at h
 refine WP.iconst (0 : Int32) d12_22 rfl ?_
 exact WP.weak (L' := (vU :: vU :: [])) trivial (ok12_23 l Z a0 hw n0 (0 : Int32) s _ h)
def f_validDay (p1 : Int32) (s : St) : Option (Int32) :=
 if p1 < (gI s 2) then
  f_validDay_22 s
 else
  if ((gI s 0) - (1 : Int32)) < p1 then
   f_validDay_22 s
  else
   f_validDay_23 (1 : Int32) s
theorem ok12 (l : Launch) (Z : State) (a0 : Array Value) (hw : HW a0 Z) (p1 : Int32) (s : St) (r : Int32) (h : f_validDay p1 s = some r) : CS l Z CN lay y12 prog_1_method_5_code 2 (some FieldType.boolean) R12 0 [.ref 0, .int p1] (Hb 0 s) (P12 s r) := by
 refine CS.of_wp pn_cls (leb rfl) fun n0 => ?_
 show W12 l Z n0 (P12 s r) 0 0 0 (vR 0 :: vI p1 :: []) [] (Hb 0 s)
 unfold f_validDay at h
 refine WP.iloadN d12_0 rfl ?_
 refine WP.aloadN d12_1 rfl ?_
 refine WP.getfield (i := 0) (j := 2) d12_2 (hw _ m_110) rfl rfl rfl ?_
 rcases ite_e h with ⟨hc1, h⟩ | ⟨hc1, h⟩
 ·
  refine WP.icmpY (pc' := 22) d12_5 (XT.ii_lt_t hc1) (by decide) rfl ?_
  exact WP.weak (L' := (vU :: vU :: [])) trivial (ok12_22 l Z a0 hw n0 s _ h)
 ·
  refine WP.icmpN d12_5 (XT.ii_lt_f hc1) ?_
  refine WP.iloadN d12_8 rfl ?_
  refine WP.aloadN d12_9 rfl ?_
  refine WP.getfield (i := 0) (j := 0) d12_10 (hw _ m_70) rfl rfl rfl ?_
  refine WP.iconst (1 : Int32) d12_13 rfl ?_
  refine WP.isub d12_14 ?_
  rcases ite_e h with ⟨hc2, h⟩ | ⟨hc2, h⟩
  ·
   refine WP.icmpY (pc' := 22) d12_15 (XT.ii_gt_t hc2) (by decide) rfl ?_
   exact WP.weak (L' := (vU :: vU :: [])) trivial (ok12_22 l Z a0 hw n0 s _ h)
  ·
   refine WP.icmpN d12_15 (XT.ii_gt_f hc2) ?_
   refine WP.iconst (1 : Int32) d12_18 rfl ?_
   refine WP.goto (pc' := 23) d12_19 (by decide) rfl ?_
   exact WP.weak (L' := (vU :: vU :: [])) trivial (ok12_23 l Z a0 hw n0 (1 : Int32) s _ h)
theorem d13_0 : dc k11 0 (.aload_n 0) 1 := by decide +kernel
theorem d13_1 : dc k11 1 (.getfield 29) 3 := by decide +kernel
theorem d13_4 : dc k11 4 (.iload_n 1) 1 := by decide +kernel
theorem d13_5 : dc k11 5 (.iaload) 1 := by decide +kernel
theorem d13_6 : dc k11 6 (.istore 4) 2 := by decide +kernel
theorem d13_8 : dc k11 8 (.iload 4) 2 := by decide +kernel
theorem d13_10 : dc k11 10 (.ifCond .lt 9) 3 := by decide +kernel
theorem d13_13 : dc k11 13 (.iload 4) 2 := by decide +kernel
theorem d13_15 : dc k11 15 (.iconst 4) 1 := by decide +kernel
theorem d13_16 : dc k11 16 (.if_icmp .lt 4) 3 := by decide +kernel
theorem d13_19 : dc k11 19 (.return_) 1 := by decide +kernel
theorem d13_20 : dc k11 20 (.iload_n 1) 1 := by decide +kernel
theorem d13_21 : dc k11 21 (.iconst 4) 1 := by decide +kernel
theorem d13_22 : dc k11 22 (.imul) 1 := by decide +kernel
theorem d13_23 : dc k11 23 (.iload 4) 2 := by decide +kernel
theorem d13_25 : dc k11 25 (.iadd) 1 := by decide +kernel
theorem d13_26 : dc k11 26 (.istore 5) 2 := by decide +kernel
theorem d13_28 : dc k11 28 (.aload_n 0) 1 := by decide +kernel
theorem d13_29 : dc k11 29 (.getfield 42) 3 := by decide +kernel
theorem d13_32 : dc k11 32 (.iload 5) 2 := by decide +kernel
theorem d13_34 : dc k11 34 (.iload_n 2) 1 := by decide +kernel
theorem d13_35 : dc k11 35 (.iastore) 1 := by decide +kernel
theorem d13_36 : dc k11 36 (.aload_n 0) 1 := by decide +kernel
theorem d13_37 : dc k11 37 (.getfield 45) 3 := by decide +kernel
theorem d13_40 : dc k11 40 (.iload 5) 2 := by decide +kernel
theorem d13_42 : dc k11 42 (.iconst (-1)) 1 := by decide +kernel
theorem d13_43 : dc k11 43 (.iastore) 1 := by decide +kernel
theorem d13_44 : dc k11 44 (.aload_n 0) 1 := by decide +kernel
theorem d13_45 : dc k11 45 (.getfield 48) 3 := by decide +kernel
theorem d13_48 : dc k11 48 (.iload 5) 2 := by decide +kernel
theorem d13_50 : dc k11 50 (.iload_n 3) 1 := by decide +kernel
theorem d13_51 : dc k11 51 (.iastore) 1 := by decide +kernel
theorem d13_52 : dc k11 52 (.aload_n 0) 1 := by decide +kernel
theorem d13_53 : dc k11 53 (.getfield 51) 3 := by decide +kernel
theorem d13_56 : dc k11 56 (.iload 5) 2 := by decide +kernel
theorem d13_58 : dc k11 58 (.iconst 0) 1 := by decide +kernel
theorem d13_59 : dc k11 59 (.iastore) 1 := by decide +kernel
theorem d13_60 : dc k11 60 (.aload_n 0) 1 := by decide +kernel
theorem d13_61 : dc k11 61 (.getfield 29) 3 := by decide +kernel
theorem d13_64 : dc k11 64 (.iload_n 1) 1 := by decide +kernel
theorem d13_65 : dc k11 65 (.iload 4) 2 := by decide +kernel
theorem d13_67 : dc k11 67 (.iconst 1) 1 := by decide +kernel
theorem d13_68 : dc k11 68 (.iadd) 1 := by decide +kernel
theorem d13_69 : dc k11 69 (.iastore) 1 := by decide +kernel
theorem d13_70 : dc k11 70 (.return_) 1 := by decide +kernel
abbrev y13 : MethodName := ⟨"BillingRun", "appendSegment", "(III)V"⟩
theorem hy13 : y13.cls ≠ "java/lang/invoke/MethodHandle" ∧ y13.cls ≠ "java/lang/invoke/VarHandle" := by decide
theorem pd13 : parseMethodDescriptor y13.desc = some ⟨[.int, .int, .int], none⟩ := by decide +kernel
abbrev R13 : Room := { frames := 0, cells := 0, slots := 0, locals := 0 }
abbrev P13 (r : St) : Option Value → List OwnC → Prop := fun v H' => v = none ∧ H' = (Hb 0 r)
abbrev W13 (l : Launch) (Z : State) (n0 : Nat) (Q : Option Value → List OwnC → Prop) (k n pc : Nat) (L : List Slot) (S : List Value) (H : List OwnC) : Prop := WP l Z CN lay "BillingRun" "appendSegment" prog_1_method_13_code 6 (none) R13 n0 0 Q k n pc L S H
def f_appendSegment_19 (s : St) : Option (St) :=
 some s
theorem ok13_19 (l : Launch) (Z : State) (a0 : Array Value) (hw : HW a0 Z) (n0 : Nat) (s r : St) (h : f_appendSegment_19 s = some r) : W13 l Z n0 (P13 r) 0 0 19 (vU :: vU :: vU :: vU :: vU :: vU :: []) [] (Hb 0 s) := by
 unfold f_appendSegment_19 at h
 cases h
 exact WP.vreturn d13_19 rfl (leb rfl) (leb rfl) ⟨rfl, rfl⟩
def f_appendSegment (p1 p2 p3 : Int32) (s : St) : Option (St) :=
 (rd (gA s 6) p1).bind fun x1 =>
 if x1 < 0 then
  f_appendSegment_19 s
 else
  if x1 < (4 : Int32) then
   lt ((p1 * (4 : Int32)) + x1) fun x4 =>
   (wrA s 7 x4 p2).bind fun s5 =>
   (wrA s5 8 x4 (-1 : Int32)).bind fun s6 =>
   (wrA s6 9 x4 p3).bind fun s7 =>
   (wrA s7 10 x4 (0 : Int32)).bind fun s8 =>
   (wrA s8 6 p1 (x1 + (1 : Int32))).bind fun s9 =>
   some s9
  else
   f_appendSegment_19 s
theorem ok13 (l : Launch) (Z : State) (a0 : Array Value) (hw : HW a0 Z) (p1 p2 p3 : Int32) (s r : St) (h : f_appendSegment p1 p2 p3 s = some r) : CS l Z CN lay y13 prog_1_method_13_code 6 (none) R13 0 [.ref 0, .int p1, .int p2, .int p3] (Hb 0 s) (P13 r) := by
 refine CS.of_wp pn_cls (leb rfl) fun n0 => ?_
 show W13 l Z n0 (P13 r) 0 0 0 (vR 0 :: vI p1 :: vI p2 :: vI p3 :: vU :: vU :: []) [] (Hb 0 s)
 unfold f_appendSegment at h
 refine WP.aloadN d13_0 rfl ?_
 refine WP.getfield (i := 0) (j := 10) d13_1 (hw _ m_30) rfl rfl rfl ?_
 refine WP.iloadN d13_4 rfl ?_
 obtain ⟨x1, hx1, h⟩ := bd h
 refine WP.iaload (i := 7) d13_5 rfl hx1 ?_
 refine WP.istore (L' := (vR 0 :: vI p1 :: vI p2 :: vI p3 :: vI x1 :: vU :: [])) d13_6 (leb rfl) rfl ?_
 refine WP.iload d13_8 rfl ?_
 rcases ite_e h with ⟨hc2, h⟩ | ⟨hc2, h⟩
 ·
  refine WP.ifY (pc' := 19) d13_10 (XT.i0_lt_t hc2) (by decide) rfl ?_
  exact WP.weak (L' := (vU :: vU :: vU :: vU :: vU :: vU :: [])) trivial (ok13_19 l Z a0 hw n0 s _ h)
 ·
  refine WP.ifN d13_10 (XT.i0_lt_f hc2) ?_
  refine WP.iload d13_13 rfl ?_
  refine WP.iconst (4 : Int32) d13_15 rfl ?_
  rcases ite_e h with ⟨hc3, h⟩ | ⟨hc3, h⟩
  ·
   refine WP.icmpY (pc' := 20) d13_16 (XT.ii_lt_t hc3) (by decide) rfl ?_
   refine WP.iloadN d13_20 rfl ?_
   refine WP.iconst (4 : Int32) d13_21 rfl ?_
   refine WP.imul d13_22 ?_
   refine WP.iload d13_23 rfl ?_
   refine WP.iadd d13_25 ?_
   obtain ⟨x4, ex4, h⟩ := lt_e h
   refine WP.istore (L' := (vR 0 :: vI p1 :: vI p2 :: vI p3 :: vI x1 :: vI x4 :: [])) d13_26 (leb rfl) (by subst ex4; rfl) ?_
   refine WP.aloadN d13_28 rfl ?_
   refine WP.getfield (i := 0) (j := 14) d13_29 (hw _ m_39) rfl rfl rfl ?_
   refine WP.iload d13_32 rfl ?_
   refine WP.iloadN d13_34 rfl ?_
   obtain ⟨s5, hs5, h⟩ := bd h
   obtain ⟨ys5, gs5, es5⟩ := wrA_e hs5
   refine WP.iastore (i := 11) (xs := gA s 7) (H' := (Hb 0 s5)) d13_35 rfl (leb rfl) gs5 (by subst es5; rfl) ?_
   refine WP.aloadN d13_36 rfl ?_
   refine WP.getfield (i := 0) (j := 15) d13_37 (hw _ m_41) rfl rfl rfl ?_
   refine WP.iload d13_40 rfl ?_
   refine WP.iconst (-1 : Int32) d13_42 rfl ?_
   obtain ⟨s6, hs6, h⟩ := bd h
   obtain ⟨ys6, gs6, es6⟩ := wrA_e hs6
   refine WP.iastore (i := 12) (xs := gA s5 8) (H' := (Hb 0 s6)) d13_43 rfl (leb rfl) gs6 (by subst es6; rfl) ?_
   refine WP.aloadN d13_44 rfl ?_
   refine WP.getfield (i := 0) (j := 16) d13_45 (hw _ m_43) rfl rfl rfl ?_
   refine WP.iload d13_48 rfl ?_
   refine WP.iloadN d13_50 rfl ?_
   obtain ⟨s7, hs7, h⟩ := bd h
   obtain ⟨ys7, gs7, es7⟩ := wrA_e hs7
   refine WP.iastore (i := 13) (xs := gA s6 9) (H' := (Hb 0 s7)) d13_51 rfl (leb rfl) gs7 (by subst es7; rfl) ?_
   refine WP.aloadN d13_52 rfl ?_
   refine WP.getfield (i := 0) (j := 17) d13_53 (hw _ m_45) rfl rfl rfl ?_
   refine WP.iload d13_56 rfl ?_
   refine WP.iconst (0 : Int32) d13_58 rfl ?_
   obtain ⟨s8, hs8, h⟩ := bd h
   obtain ⟨ys8, gs8, es8⟩ := wrA_e hs8
   refine WP.iastore (i := 14) (xs := gA s7 10) (H' := (Hb 0 s8)) d13_59 rfl (leb rfl) gs8 (by subst es8; rfl) ?_
   refine WP.aloadN d13_60 rfl ?_
   refine WP.getfield (i := 0) (j := 10) d13_61 (hw _ m_30) rfl rfl rfl ?_
   refine WP.iloadN d13_64 rfl ?_
   refine WP.iload d13_65 rfl ?_
   refine WP.iconst (1 : Int32) d13_67 rfl ?_
   refine WP.iadd d13_68 ?_
   obtain ⟨s9, hs9, h⟩ := bd h
   obtain ⟨ys9, gs9, es9⟩ := wrA_e hs9
   refine WP.iastore (i := 7) (xs := gA s8 6) (H' := (Hb 0 s9)) d13_69 rfl (leb rfl) gs9 (by subst es9; rfl) ?_
   cases h
   exact WP.vreturn d13_70 rfl (leb rfl) (leb rfl) ⟨rfl, rfl⟩
  ·
   refine WP.icmpN d13_16 (XT.ii_lt_f hc3) ?_
   exact WP.weak (L' := (vU :: vU :: vU :: vU :: vU :: vU :: [])) trivial (ok13_19 l Z a0 hw n0 s _ h)
theorem d11_0 : dc k13 0 (.aload_n 0) 1 := by decide +kernel
theorem d11_1 : dc k13 1 (.iload_n 1) 1 := by decide +kernel
theorem d11_2 : dc k13 2 (.invokevirtual 122) 3 := by decide +kernel
theorem d11_5 : dc k13 5 (.ifCond .eq 20) 3 := by decide +kernel
theorem d11_8 : dc k13 8 (.aload_n 0) 1 := by decide +kernel
theorem d11_9 : dc k13 9 (.getfield 22) 3 := by decide +kernel
theorem d11_12 : dc k13 12 (.iload_n 1) 1 := by decide +kernel
theorem d11_13 : dc k13 13 (.baload) 1 := by decide +kernel
theorem d11_14 : dc k13 14 (.ifCond .ne 11) 3 := by decide +kernel
theorem d11_17 : dc k13 17 (.aload_n 0) 1 := by decide +kernel
theorem d11_18 : dc k13 18 (.iload_n 2) 1 := by decide +kernel
theorem d11_19 : dc k13 19 (.invokevirtual 99) 3 := by decide +kernel
theorem d11_22 : dc k13 22 (.ifCond .ne 5) 3 := by decide +kernel
theorem d11_25 : dc k13 25 (.iconst 0) 1 := by decide +kernel
theorem d11_26 : dc k13 26 (.ireturn) 1 := by decide +kernel
theorem d11_27 : dc k13 27 (.aload_n 0) 1 := by decide +kernel
theorem d11_28 : dc k13 28 (.iload_n 3) 1 := by decide +kernel
theorem d11_29 : dc k13 29 (.invokevirtual 125) 3 := by decide +kernel
theorem d11_32 : dc k13 32 (.ifCond .eq 13) 3 := by decide +kernel
theorem d11_35 : dc k13 35 (.aload_n 0) 1 := by decide +kernel
theorem d11_36 : dc k13 36 (.getfield 29) 3 := by decide +kernel
theorem d11_39 : dc k13 39 (.iload_n 1) 1 := by decide +kernel
theorem d11_40 : dc k13 40 (.iaload) 1 := by decide +kernel
theorem d11_41 : dc k13 41 (.iconst 4) 1 := by decide +kernel
theorem d11_42 : dc k13 42 (.if_icmp .lt 5) 3 := by decide +kernel
theorem d11_45 : dc k13 45 (.iconst 0) 1 := by decide +kernel
theorem d11_46 : dc k13 46 (.ireturn) 1 := by decide +kernel
theorem d11_47 : dc k13 47 (.aload_n 0) 1 := by decide +kernel
theorem d11_48 : dc k13 48 (.iload_n 1) 1 := by decide +kernel
theorem d11_49 : dc k13 49 (.iload_n 3) 1 := by decide +kernel
theorem d11_50 : dc k13 50 (.iload_n 2) 1 := by decide +kernel
theorem d11_51 : dc k13 51 (.invokevirtual 128) 3 := by decide +kernel
theorem d11_54 : dc k13 54 (.aload_n 0) 1 := by decide +kernel
theorem d11_55 : dc k13 55 (.getfield 22) 3 := by decide +kernel
theorem d11_58 : dc k13 58 (.iload_n 1) 1 := by decide +kernel
theorem d11_59 : dc k13 59 (.iconst 1) 1 := by decide +kernel
theorem d11_60 : dc k13 60 (.bastore) 1 := by decide +kernel
theorem d11_61 : dc k13 61 (.aload_n 0) 1 := by decide +kernel
theorem d11_62 : dc k13 62 (.getfield 26) 3 := by decide +kernel
theorem d11_65 : dc k13 65 (.iload_n 1) 1 := by decide +kernel
theorem d11_66 : dc k13 66 (.iload_n 2) 1 := by decide +kernel
theorem d11_67 : dc k13 67 (.iastore) 1 := by decide +kernel
theorem d11_68 : dc k13 68 (.aload_n 0) 1 := by decide +kernel
theorem d11_69 : dc k13 69 (.iload_n 3) 1 := by decide +kernel
theorem d11_70 : dc k13 70 (.putfield 96) 3 := by decide +kernel
theorem d11_73 : dc k13 73 (.iconst 1) 1 := by decide +kernel
theorem d11_74 : dc k13 74 (.ireturn) 1 := by decide +kernel
abbrev y11 : MethodName := ⟨"BillingRun", "subscribe", "(III)Z"⟩
theorem hy11 : y11.cls ≠ "java/lang/invoke/MethodHandle" ∧ y11.cls ≠ "java/lang/invoke/VarHandle" := by decide
theorem pd11 : parseMethodDescriptor y11.desc = some ⟨[.int, .int, .int], some .boolean⟩ := by decide +kernel
abbrev R11 : Room := { frames := 1, cells := 0, slots := 0, locals := 17 }
abbrev P11 (r : Int32 × St) : Option Value → List OwnC → Prop := fun v H' => v = some (.int r.1) ∧ H' = (Hb 0 r.2)
abbrev W11 (l : Launch) (Z : State) (n0 : Nat) (Q : Option Value → List OwnC → Prop) (k n pc : Nat) (L : List Slot) (S : List Value) (H : List OwnC) : Prop := WP l Z CN lay "BillingRun" "subscribe" prog_1_method_15_code 4 (some FieldType.boolean) R11 n0 0 Q k n pc L S H
def f_subscribe_25 (s : St) : Option (Int32 × St) :=
 some ((0 : Int32), s)
theorem ok11_25 (l : Launch) (Z : State) (a0 : Array Value) (hw : HW a0 Z) (n0 : Nat) (s : St) (r : Int32 × St) (h : f_subscribe_25 s = some r) : W11 l Z n0 (P11 r) 0 0 25 (vU :: vU :: vU :: vU :: []) [] (Hb 0 s) := by
 unfold f_subscribe_25 at h
 refine WP.iconst (0 : Int32) d11_25 rfl ?_
 cases h
 exact WP.zreturn d11_26 rfl (leb rfl) (leb rfl) ⟨rfl, rfl⟩
def f_subscribe_45 (s : St) : Option (Int32 × St) :=
 some ((0 : Int32), s)
theorem ok11_45 (l : Launch) (Z : State) (a0 : Array Value) (hw : HW a0 Z) (n0 : Nat) (s : St) (r : Int32 × St) (h : f_subscribe_45 s = some r) : W11 l Z n0 (P11 r) 0 0 45 (vU :: vU :: vU :: vU :: []) [] (Hb 0 s) := by
 unfold f_subscribe_45 at h
 refine WP.iconst (0 : Int32) d11_45 rfl ?_
 cases h
 exact WP.zreturn d11_46 rfl (leb rfl) (leb rfl) ⟨rfl, rfl⟩
def f_subscribe (p1 p2 p3 : Int32) (s : St) : Option (Int32 × St) :=
 (f_validCustomer p1 s).bind fun c1 =>
 if c1 = 0 then
  f_subscribe_25 s
 else
  (rd (gA s 4) p1).bind fun x3 =>
  if x3 = 0 then
   (f_validPlan p2 s).bind fun c5 =>
   if c5 = 0 then
    f_subscribe_25 s
   else
    (f_validDay p3 s).bind fun c7 =>
    if c7 = 0 then
     f_subscribe_45 s
    else
     (rd (gA s 6) p1).bind fun x9 =>
     if x9 < (4 : Int32) then
      (f_appendSegment p1 p3 p2 s).bind fun c11 =>
      (wrA c11 4 p1 (1 : Int32)).bind fun s12 =>
      (wrA s12 5 p1 p2).bind fun s13 =>
      lt (sI s13 2 p3) fun s14 =>
      some ((1 : Int32), s14)
     else
      f_subscribe_45 s
  else
   f_subscribe_25 s
theorem ok11 (l : Launch) (Z : State) (a0 : Array Value) (hw : HW a0 Z) (p1 p2 p3 : Int32) (s : St) (r : Int32 × St) (h : f_subscribe p1 p2 p3 s = some r) : CS l Z CN lay y11 prog_1_method_15_code 4 (some FieldType.boolean) R11 0 [.ref 0, .int p1, .int p2, .int p3] (Hb 0 s) (P11 r) := by
 refine CS.of_wp pn_cls (leb rfl) fun n0 => ?_
 show W11 l Z n0 (P11 r) 0 0 0 (vR 0 :: vI p1 :: vI p2 :: vI p3 :: []) [] (Hb 0 s)
 unfold f_subscribe at h
 refine WP.aloadN d11_0 rfl ?_
 refine WP.iloadN d11_1 rfl ?_
 obtain ⟨c1, hc1, h⟩ := bd h
 refine WP.callP (i := 0) (y := y8) (as := [.int p1]) (S := []) d11_2 (hw _ m_95) (hw _ m_97) (hw _ m_8) (hw _ m_96) (hw _ m_98) (hw _ m_9) hy8 rfl (ok8 l Z a0 hw p1 s _ hc1) rfl (lenOf pd8 rfl) (leb rfl) (leb rfl) (leb rfl) (leb rfl) ?_
 rintro _ _ ⟨rfl, rfl⟩
 show W11 l Z n0 (P11 r) 0 0 5 (vR 0 :: vI p1 :: vI p2 :: vI p3 :: []) [.int c1] (Hb 0 s)
 rcases ite_e h with ⟨hc2, h⟩ | ⟨hc2, h⟩
 ·
  refine WP.ifY (pc' := 25) d11_5 (XT.i0_eq_t hc2) (by decide) rfl ?_
  exact WP.weak (L' := (vU :: vU :: vU :: vU :: [])) trivial (ok11_25 l Z a0 hw n0 s _ h)
 ·
  refine WP.ifN d11_5 (XT.i0_eq_f hc2) ?_
  refine WP.aloadN d11_8 rfl ?_
  refine WP.getfield (i := 0) (j := 8) d11_9 (hw _ m_26) rfl rfl rfl ?_
  refine WP.iloadN d11_12 rfl ?_
  obtain ⟨x3, hx3, h⟩ := bd h
  refine WP.baload (i := 5) d11_13 rfl hx3 ?_
  rcases ite_e h with ⟨hc4, h⟩ | ⟨hc4, h⟩
  ·
   refine WP.ifN d11_14 (XT.i0_ne_f hc4) ?_
   refine WP.aloadN d11_17 rfl ?_
   refine WP.iloadN d11_18 rfl ?_
   obtain ⟨c5, hc5, h⟩ := bd h
   refine WP.callP (i := 0) (y := y5) (as := [.int p2]) (S := []) d11_19 (hw _ m_82) (hw _ m_84) (hw _ m_8) (hw _ m_83) (hw _ m_85) (hw _ m_9) hy5 rfl (ok5 l Z a0 hw p2 s _ hc5) rfl (lenOf pd5 rfl) (leb rfl) (leb rfl) (leb rfl) (leb rfl) ?_
   rintro _ _ ⟨rfl, rfl⟩
   show W11 l Z n0 (P11 r) 0 0 22 (vR 0 :: vI p1 :: vI p2 :: vI p3 :: []) [.int c5] (Hb 0 s)
   rcases ite_e h with ⟨hc6, h⟩ | ⟨hc6, h⟩
   ·
    refine WP.ifN d11_22 (XT.i0_ne_f hc6) ?_
    exact WP.weak (L' := (vU :: vU :: vU :: vU :: [])) trivial (ok11_25 l Z a0 hw n0 s _ h)
   ·
    refine WP.ifY (pc' := 27) d11_22 (XT.i0_ne_t hc6) (by decide) rfl ?_
    refine WP.aloadN d11_27 rfl ?_
    refine WP.iloadN d11_28 rfl ?_
    obtain ⟨c7, hc7, h⟩ := bd h
    refine WP.callP (i := 0) (y := y12) (as := [.int p3]) (S := []) d11_29 (hw _ m_117) (hw _ m_119) (hw _ m_8) (hw _ m_118) (hw _ m_120) (hw _ m_9) hy12 rfl (ok12 l Z a0 hw p3 s _ hc7) rfl (lenOf pd12 rfl) (leb rfl) (leb rfl) (leb rfl) (leb rfl) ?_
    rintro _ _ ⟨rfl, rfl⟩
    show W11 l Z n0 (P11 r) 0 0 32 (vR 0 :: vI p1 :: vI p2 :: vI p3 :: []) [.int c7] (Hb 0 s)
    rcases ite_e h with ⟨hc8, h⟩ | ⟨hc8, h⟩
    ·
     refine WP.ifY (pc' := 45) d11_32 (XT.i0_eq_t hc8) (by decide) rfl ?_
     exact WP.weak (L' := (vU :: vU :: vU :: vU :: [])) trivial (ok11_45 l Z a0 hw n0 s _ h)
    ·
     refine WP.ifN d11_32 (XT.i0_eq_f hc8) ?_
     refine WP.aloadN d11_35 rfl ?_
     refine WP.getfield (i := 0) (j := 10) d11_36 (hw _ m_30) rfl rfl rfl ?_
     refine WP.iloadN d11_39 rfl ?_
     obtain ⟨x9, hx9, h⟩ := bd h
     refine WP.iaload (i := 7) d11_40 rfl hx9 ?_
     refine WP.iconst (4 : Int32) d11_41 rfl ?_
     rcases ite_e h with ⟨hc10, h⟩ | ⟨hc10, h⟩
     ·
      refine WP.icmpY (pc' := 47) d11_42 (XT.ii_lt_t hc10) (by decide) rfl ?_
      refine WP.aloadN d11_47 rfl ?_
      refine WP.iloadN d11_48 rfl ?_
      refine WP.iloadN d11_49 rfl ?_
      refine WP.iloadN d11_50 rfl ?_
      obtain ⟨c11, hc11, h⟩ := bd h
      refine WP.callP (i := 0) (y := y13) (as := [.int p1, .int p3, .int p2]) (S := []) d11_51 (hw _ m_121) (hw _ m_123) (hw _ m_8) (hw _ m_122) (hw _ m_124) (hw _ m_9) hy13 rfl (ok13 l Z a0 hw p1 p3 p2 s _ hc11) rfl (lenOf pd13 rfl) (leb rfl) (leb rfl) (leb rfl) (leb rfl) ?_
      rintro _ _ ⟨rfl, rfl⟩
      show W11 l Z n0 (P11 r) 0 0 54 (vR 0 :: vI p1 :: vI p2 :: vI p3 :: []) [] (Hb 0 c11)
      refine WP.aloadN d11_54 rfl ?_
      refine WP.getfield (i := 0) (j := 8) d11_55 (hw _ m_26) rfl rfl rfl ?_
      refine WP.iloadN d11_58 rfl ?_
      refine WP.iconst (1 : Int32) d11_59 rfl ?_
      obtain ⟨s12, hs12, h⟩ := bd h
      obtain ⟨ys12, gs12, es12⟩ := wrA_e hs12
      refine WP.bastore (i := 5) (xs := gA c11 4) (H' := (Hb 0 s12)) d11_60 rfl (leb rfl) gs12 (by subst es12; rfl) ?_
      refine WP.aloadN d11_61 rfl ?_
      refine WP.getfield (i := 0) (j := 9) d11_62 (hw _ m_28) rfl rfl rfl ?_
      refine WP.iloadN d11_65 rfl ?_
      refine WP.iloadN d11_66 rfl ?_
      obtain ⟨s13, hs13, h⟩ := bd h
      obtain ⟨ys13, gs13, es13⟩ := wrA_e hs13
      refine WP.iastore (i := 6) (xs := gA s12 5) (H' := (Hb 0 s13)) d11_67 rfl (leb rfl) gs13 (by subst es13; rfl) ?_
      refine WP.aloadN d11_68 rfl ?_
      refine WP.iloadN d11_69 rfl ?_
      obtain ⟨s14, es14, h⟩ := lt_e h
      refine WP.putI (i := 0) (j := 2) (H' := (Hb 0 s14)) d11_70 (hw _ m_110) (Or.inl (hw _ m_111)) (hw _ m_8) (hlay hw) rfl rfl rfl (leb rfl) (by subst es14; rfl) ?_
      refine WP.iconst (1 : Int32) d11_73 rfl ?_
      cases h
      exact WP.zreturn d11_74 rfl (leb rfl) (leb rfl) ⟨rfl, rfl⟩
     ·
      refine WP.icmpN d11_42 (XT.ii_lt_f hc10) ?_
      exact WP.weak (L' := (vU :: vU :: vU :: vU :: [])) trivial (ok11_45 l Z a0 hw n0 s _ h)
  ·
   refine WP.ifY (pc' := 25) d11_14 (XT.i0_ne_t hc4) (by decide) rfl ?_
   exact WP.weak (L' := (vU :: vU :: vU :: vU :: [])) trivial (ok11_25 l Z a0 hw n0 s _ h)
theorem d17_0 : dc k12 0 (.aload_n 0) 1 := by decide +kernel
theorem d17_1 : dc k12 1 (.getfield 22) 3 := by decide +kernel
theorem d17_4 : dc k12 4 (.iload_n 1) 1 := by decide +kernel
theorem d17_5 : dc k12 5 (.baload) 1 := by decide +kernel
theorem d17_6 : dc k12 6 (.ifCond .ne 5) 3 := by decide +kernel
theorem d17_9 : dc k12 9 (.iconst (-1)) 1 := by decide +kernel
theorem d17_10 : dc k12 10 (.ireturn) 1 := by decide +kernel
theorem d17_11 : dc k12 11 (.aload_n 0) 1 := by decide +kernel
theorem d17_12 : dc k12 12 (.getfield 29) 3 := by decide +kernel
theorem d17_15 : dc k12 15 (.iload_n 1) 1 := by decide +kernel
theorem d17_16 : dc k12 16 (.iaload) 1 := by decide +kernel
theorem d17_17 : dc k12 17 (.istore_n 2) 1 := by decide +kernel
theorem d17_18 : dc k12 18 (.iload_n 2) 1 := by decide +kernel
theorem d17_19 : dc k12 19 (.iconst 1) 1 := by decide +kernel
theorem d17_20 : dc k12 20 (.if_icmp .lt 8) 3 := by decide +kernel
theorem d17_23 : dc k12 23 (.iload_n 2) 1 := by decide +kernel
theorem d17_24 : dc k12 24 (.iconst 4) 1 := by decide +kernel
theorem d17_25 : dc k12 25 (.if_icmp .le 5) 3 := by decide +kernel
theorem d17_28 : dc k12 28 (.iconst (-1)) 1 := by decide +kernel
theorem d17_29 : dc k12 29 (.ireturn) 1 := by decide +kernel
theorem d17_30 : dc k12 30 (.iload_n 1) 1 := by decide +kernel
theorem d17_31 : dc k12 31 (.iconst 4) 1 := by decide +kernel
theorem d17_32 : dc k12 32 (.imul) 1 := by decide +kernel
theorem d17_33 : dc k12 33 (.iload_n 2) 1 := by decide +kernel
theorem d17_34 : dc k12 34 (.iadd) 1 := by decide +kernel
theorem d17_35 : dc k12 35 (.iconst 1) 1 := by decide +kernel
theorem d17_36 : dc k12 36 (.isub) 1 := by decide +kernel
theorem d17_37 : dc k12 37 (.ireturn) 1 := by decide +kernel
abbrev y17 : MethodName := ⟨"BillingRun", "openSlot", "(I)I"⟩
theorem hy17 : y17.cls ≠ "java/lang/invoke/MethodHandle" ∧ y17.cls ≠ "java/lang/invoke/VarHandle" := by decide
theorem pd17 : parseMethodDescriptor y17.desc = some ⟨[.int], some .int⟩ := by decide +kernel
abbrev R17 : Room := { frames := 0, cells := 0, slots := 0, locals := 0 }
abbrev P17 (s : St) (r : Int32) : Option Value → List OwnC → Prop := fun v H' => v = some (.int r) ∧ H' = (Hb 0 s)
abbrev W17 (l : Launch) (Z : State) (n0 : Nat) (Q : Option Value → List OwnC → Prop) (k n pc : Nat) (L : List Slot) (S : List Value) (H : List OwnC) : Prop := WP l Z CN lay "BillingRun" "openSlot" prog_1_method_14_code 3 (some FieldType.int) R17 n0 0 Q k n pc L S H
def f_openSlot_28 (s : St) : Option (Int32) :=
 some (-1 : Int32)
theorem ok17_28 (l : Launch) (Z : State) (a0 : Array Value) (hw : HW a0 Z) (n0 : Nat) (s : St) (r : Int32) (h : f_openSlot_28 s = some r) : W17 l Z n0 (P17 s r) 0 0 28 (vU :: vU :: vU :: []) [] (Hb 0 s) := by
 unfold f_openSlot_28 at h
 refine WP.iconst (-1 : Int32) d17_28 rfl ?_
 cases h
 exact WP.ireturn d17_29 rfl (leb rfl) (leb rfl) ⟨rfl, rfl⟩
def f_openSlot (p1 : Int32) (s : St) : Option (Int32) :=
 (rd (gA s 4) p1).bind fun x1 =>
 if x1 = 0 then
  some (-1 : Int32)
 else
  (rd (gA s 6) p1).bind fun x3 =>
  if x3 < (1 : Int32) then
   f_openSlot_28 s
  else
   if (4 : Int32) < x3 then
    f_openSlot_28 s
   else
    some (((p1 * (4 : Int32)) + x3) - (1 : Int32))
theorem ok17 (l : Launch) (Z : State) (a0 : Array Value) (hw : HW a0 Z) (p1 : Int32) (s : St) (r : Int32) (h : f_openSlot p1 s = some r) : CS l Z CN lay y17 prog_1_method_14_code 3 (some FieldType.int) R17 0 [.ref 0, .int p1] (Hb 0 s) (P17 s r) := by
 refine CS.of_wp pn_cls (leb rfl) fun n0 => ?_
 show W17 l Z n0 (P17 s r) 0 0 0 (vR 0 :: vI p1 :: vU :: []) [] (Hb 0 s)
 unfold f_openSlot at h
 refine WP.aloadN d17_0 rfl ?_
 refine WP.getfield (i := 0) (j := 8) d17_1 (hw _ m_26) rfl rfl rfl ?_
 refine WP.iloadN d17_4 rfl ?_
 obtain ⟨x1, hx1, h⟩ := bd h
 refine WP.baload (i := 5) d17_5 rfl hx1 ?_
 rcases ite_e h with ⟨hc2, h⟩ | ⟨hc2, h⟩
 ·
  refine WP.ifN d17_6 (XT.i0_ne_f hc2) ?_
  refine WP.iconst (-1 : Int32) d17_9 rfl ?_
  cases h
  exact WP.ireturn d17_10 rfl (leb rfl) (leb rfl) ⟨rfl, rfl⟩
 ·
  refine WP.ifY (pc' := 11) d17_6 (XT.i0_ne_t hc2) (by decide) rfl ?_
  refine WP.aloadN d17_11 rfl ?_
  refine WP.getfield (i := 0) (j := 10) d17_12 (hw _ m_30) rfl rfl rfl ?_
  refine WP.iloadN d17_15 rfl ?_
  obtain ⟨x3, hx3, h⟩ := bd h
  refine WP.iaload (i := 7) d17_16 rfl hx3 ?_
  refine WP.istoreN (L' := (vR 0 :: vI p1 :: vI x3 :: [])) d17_17 (leb rfl) rfl ?_
  refine WP.iloadN d17_18 rfl ?_
  refine WP.iconst (1 : Int32) d17_19 rfl ?_
  rcases ite_e h with ⟨hc4, h⟩ | ⟨hc4, h⟩
  ·
   refine WP.icmpY (pc' := 28) d17_20 (XT.ii_lt_t hc4) (by decide) rfl ?_
   exact WP.weak (L' := (vU :: vU :: vU :: [])) trivial (ok17_28 l Z a0 hw n0 s _ h)
  ·
   refine WP.icmpN d17_20 (XT.ii_lt_f hc4) ?_
   refine WP.iloadN d17_23 rfl ?_
   refine WP.iconst (4 : Int32) d17_24 rfl ?_
   rcases ite_e h with ⟨hc5, h⟩ | ⟨hc5, h⟩
   ·
    refine WP.icmpN d17_25 (XT.ii_le_f hc5) ?_
    exact WP.weak (L' := (vU :: vU :: vU :: [])) trivial (ok17_28 l Z a0 hw n0 s _ h)
   ·
    refine WP.icmpY (pc' := 30) d17_25 (XT.ii_le_t hc5) (by decide) rfl ?_
    refine WP.iloadN d17_30 rfl ?_
    refine WP.iconst (4 : Int32) d17_31 rfl ?_
    refine WP.imul d17_32 ?_
    refine WP.iloadN d17_33 rfl ?_
    refine WP.iadd d17_34 ?_
    refine WP.iconst (1 : Int32) d17_35 rfl ?_
    refine WP.isub d17_36 ?_
    cases h
    exact WP.ireturn d17_37 rfl (leb rfl) (leb rfl) ⟨rfl, rfl⟩
theorem d30_0 : dc k14 0 (.aload_n 0) 1 := by decide +kernel
theorem d30_1 : dc k14 1 (.iload_n 1) 1 := by decide +kernel
theorem d30_2 : dc k14 2 (.invokevirtual 122) 3 := by decide +kernel
theorem d30_5 : dc k14 5 (.ifCond .eq 20) 3 := by decide +kernel
theorem d30_8 : dc k14 8 (.aload_n 0) 1 := by decide +kernel
theorem d30_9 : dc k14 9 (.getfield 22) 3 := by decide +kernel
theorem d30_12 : dc k14 12 (.iload_n 1) 1 := by decide +kernel
theorem d30_13 : dc k14 13 (.baload) 1 := by decide +kernel
theorem d30_14 : dc k14 14 (.ifCond .eq 11) 3 := by decide +kernel
theorem d30_17 : dc k14 17 (.aload_n 0) 1 := by decide +kernel
theorem d30_18 : dc k14 18 (.iload_n 2) 1 := by decide +kernel
theorem d30_19 : dc k14 19 (.invokevirtual 99) 3 := by decide +kernel
theorem d30_22 : dc k14 22 (.ifCond .ne 5) 3 := by decide +kernel
theorem d30_25 : dc k14 25 (.iconst 0) 1 := by decide +kernel
theorem d30_26 : dc k14 26 (.ireturn) 1 := by decide +kernel
theorem d30_27 : dc k14 27 (.aload_n 0) 1 := by decide +kernel
theorem d30_28 : dc k14 28 (.iload_n 3) 1 := by decide +kernel
theorem d30_29 : dc k14 29 (.invokevirtual 125) 3 := by decide +kernel
theorem d30_32 : dc k14 32 (.ifCond .eq 13) 3 := by decide +kernel
theorem d30_35 : dc k14 35 (.aload_n 0) 1 := by decide +kernel
theorem d30_36 : dc k14 36 (.getfield 29) 3 := by decide +kernel
theorem d30_39 : dc k14 39 (.iload_n 1) 1 := by decide +kernel
theorem d30_40 : dc k14 40 (.iaload) 1 := by decide +kernel
theorem d30_41 : dc k14 41 (.iconst 4) 1 := by decide +kernel
theorem d30_42 : dc k14 42 (.if_icmp .lt 5) 3 := by decide +kernel
theorem d30_45 : dc k14 45 (.iconst 0) 1 := by decide +kernel
theorem d30_46 : dc k14 46 (.ireturn) 1 := by decide +kernel
theorem d30_47 : dc k14 47 (.aload_n 0) 1 := by decide +kernel
theorem d30_48 : dc k14 48 (.iload_n 1) 1 := by decide +kernel
theorem d30_49 : dc k14 49 (.invokevirtual 132) 3 := by decide +kernel
theorem d30_52 : dc k14 52 (.istore 4) 2 := by decide +kernel
theorem d30_54 : dc k14 54 (.iload 4) 2 := by decide +kernel
theorem d30_56 : dc k14 56 (.ifCond .ge 5) 3 := by decide +kernel
theorem d30_59 : dc k14 59 (.iconst 0) 1 := by decide +kernel
theorem d30_60 : dc k14 60 (.ireturn) 1 := by decide +kernel
theorem d30_61 : dc k14 61 (.aload_n 0) 1 := by decide +kernel
theorem d30_62 : dc k14 62 (.getfield 45) 3 := by decide +kernel
theorem d30_65 : dc k14 65 (.iload 4) 2 := by decide +kernel
theorem d30_67 : dc k14 67 (.iload_n 3) 1 := by decide +kernel
theorem d30_68 : dc k14 68 (.iastore) 1 := by decide +kernel
theorem d30_69 : dc k14 69 (.aload_n 0) 1 := by decide +kernel
theorem d30_70 : dc k14 70 (.iload_n 1) 1 := by decide +kernel
theorem d30_71 : dc k14 71 (.iload_n 3) 1 := by decide +kernel
theorem d30_72 : dc k14 72 (.iload_n 2) 1 := by decide +kernel
theorem d30_73 : dc k14 73 (.invokevirtual 128) 3 := by decide +kernel
theorem d30_76 : dc k14 76 (.aload_n 0) 1 := by decide +kernel
theorem d30_77 : dc k14 77 (.getfield 26) 3 := by decide +kernel
theorem d30_80 : dc k14 80 (.iload_n 1) 1 := by decide +kernel
theorem d30_81 : dc k14 81 (.iload_n 2) 1 := by decide +kernel
theorem d30_82 : dc k14 82 (.iastore) 1 := by decide +kernel
theorem d30_83 : dc k14 83 (.aload_n 0) 1 := by decide +kernel
theorem d30_84 : dc k14 84 (.iload_n 3) 1 := by decide +kernel
theorem d30_85 : dc k14 85 (.putfield 96) 3 := by decide +kernel
theorem d30_88 : dc k14 88 (.iconst 1) 1 := by decide +kernel
theorem d30_89 : dc k14 89 (.ireturn) 1 := by decide +kernel
abbrev y30 : MethodName := ⟨"BillingRun", "changePlan", "(III)Z"⟩
theorem hy30 : y30.cls ≠ "java/lang/invoke/MethodHandle" ∧ y30.cls ≠ "java/lang/invoke/VarHandle" := by decide
theorem pd30 : parseMethodDescriptor y30.desc = some ⟨[.int, .int, .int], some .boolean⟩ := by decide +kernel
abbrev R30 : Room := { frames := 1, cells := 0, slots := 0, locals := 17 }
abbrev P30 (r : Int32 × St) : Option Value → List OwnC → Prop := fun v H' => v = some (.int r.1) ∧ H' = (Hb 0 r.2)
abbrev W30 (l : Launch) (Z : State) (n0 : Nat) (Q : Option Value → List OwnC → Prop) (k n pc : Nat) (L : List Slot) (S : List Value) (H : List OwnC) : Prop := WP l Z CN lay "BillingRun" "changePlan" prog_1_method_16_code 5 (some FieldType.boolean) R30 n0 0 Q k n pc L S H
def f_changePlan_25 (s : St) : Option (Int32 × St) :=
 some ((0 : Int32), s)
theorem ok30_25 (l : Launch) (Z : State) (a0 : Array Value) (hw : HW a0 Z) (n0 : Nat) (s : St) (r : Int32 × St) (h : f_changePlan_25 s = some r) : W30 l Z n0 (P30 r) 0 0 25 (vU :: vU :: vU :: vU :: vU :: []) [] (Hb 0 s) := by
 unfold f_changePlan_25 at h
 refine WP.iconst (0 : Int32) d30_25 rfl ?_
 cases h
 exact WP.zreturn d30_26 rfl (leb rfl) (leb rfl) ⟨rfl, rfl⟩
def f_changePlan_45 (s : St) : Option (Int32 × St) :=
 some ((0 : Int32), s)
theorem ok30_45 (l : Launch) (Z : State) (a0 : Array Value) (hw : HW a0 Z) (n0 : Nat) (s : St) (r : Int32 × St) (h : f_changePlan_45 s = some r) : W30 l Z n0 (P30 r) 0 0 45 (vU :: vU :: vU :: vU :: vU :: []) [] (Hb 0 s) := by
 unfold f_changePlan_45 at h
 refine WP.iconst (0 : Int32) d30_45 rfl ?_
 cases h
 exact WP.zreturn d30_46 rfl (leb rfl) (leb rfl) ⟨rfl, rfl⟩
def f_changePlan (p1 p2 p3 : Int32) (s : St) : Option (Int32 × St) :=
 (f_validCustomer p1 s).bind fun c1 =>
 if c1 = 0 then
  f_changePlan_25 s
 else
  (rd (gA s 4) p1).bind fun x3 =>
  if x3 = 0 then
   f_changePlan_25 s
  else
   (f_validPlan p2 s).bind fun c5 =>
   if c5 = 0 then
    f_changePlan_25 s
   else
    (f_validDay p3 s).bind fun c7 =>
    if c7 = 0 then
     f_changePlan_45 s
    else
     (rd (gA s 6) p1).bind fun x9 =>
     if x9 < (4 : Int32) then
      (f_openSlot p1 s).bind fun c11 =>
      if c11 < 0 then
       some ((0 : Int32), s)
      else
       (wrA s 8 c11 p3).bind fun s13 =>
       (f_appendSegment p1 p3 p2 s13).bind fun c14 =>
       (wrA c14 5 p1 p2).bind fun s15 =>
       lt (sI s15 2 p3) fun s16 =>
       some ((1 : Int32), s16)
     else
      f_changePlan_45 s
theorem ok30 (l : Launch) (Z : State) (a0 : Array Value) (hw : HW a0 Z) (p1 p2 p3 : Int32) (s : St) (r : Int32 × St) (h : f_changePlan p1 p2 p3 s = some r) : CS l Z CN lay y30 prog_1_method_16_code 5 (some FieldType.boolean) R30 0 [.ref 0, .int p1, .int p2, .int p3] (Hb 0 s) (P30 r) := by
 refine CS.of_wp pn_cls (leb rfl) fun n0 => ?_
 show W30 l Z n0 (P30 r) 0 0 0 (vR 0 :: vI p1 :: vI p2 :: vI p3 :: vU :: []) [] (Hb 0 s)
 unfold f_changePlan at h
 refine WP.aloadN d30_0 rfl ?_
 refine WP.iloadN d30_1 rfl ?_
 obtain ⟨c1, hc1, h⟩ := bd h
 refine WP.callP (i := 0) (y := y8) (as := [.int p1]) (S := []) d30_2 (hw _ m_95) (hw _ m_97) (hw _ m_8) (hw _ m_96) (hw _ m_98) (hw _ m_9) hy8 rfl (ok8 l Z a0 hw p1 s _ hc1) rfl (lenOf pd8 rfl) (leb rfl) (leb rfl) (leb rfl) (leb rfl) ?_
 rintro _ _ ⟨rfl, rfl⟩
 show W30 l Z n0 (P30 r) 0 0 5 (vR 0 :: vI p1 :: vI p2 :: vI p3 :: vU :: []) [.int c1] (Hb 0 s)
 rcases ite_e h with ⟨hc2, h⟩ | ⟨hc2, h⟩
 ·
  refine WP.ifY (pc' := 25) d30_5 (XT.i0_eq_t hc2) (by decide) rfl ?_
  exact WP.weak (L' := (vU :: vU :: vU :: vU :: vU :: [])) trivial (ok30_25 l Z a0 hw n0 s _ h)
 ·
  refine WP.ifN d30_5 (XT.i0_eq_f hc2) ?_
  refine WP.aloadN d30_8 rfl ?_
  refine WP.getfield (i := 0) (j := 8) d30_9 (hw _ m_26) rfl rfl rfl ?_
  refine WP.iloadN d30_12 rfl ?_
  obtain ⟨x3, hx3, h⟩ := bd h
  refine WP.baload (i := 5) d30_13 rfl hx3 ?_
  rcases ite_e h with ⟨hc4, h⟩ | ⟨hc4, h⟩
  ·
   refine WP.ifY (pc' := 25) d30_14 (XT.i0_eq_t hc4) (by decide) rfl ?_
   exact WP.weak (L' := (vU :: vU :: vU :: vU :: vU :: [])) trivial (ok30_25 l Z a0 hw n0 s _ h)
  ·
   refine WP.ifN d30_14 (XT.i0_eq_f hc4) ?_
   refine WP.aloadN d30_17 rfl ?_
   refine WP.iloadN d30_18 rfl ?_
   obtain ⟨c5, hc5, h⟩ := bd h
   refine WP.callP (i := 0) (y := y5) (as := [.int p2]) (S := []) d30_19 (hw _ m_82) (hw _ m_84) (hw _ m_8) (hw _ m_83) (hw _ m_85) (hw _ m_9) hy5 rfl (ok5 l Z a0 hw p2 s _ hc5) rfl (lenOf pd5 rfl) (leb rfl) (leb rfl) (leb rfl) (leb rfl) ?_
   rintro _ _ ⟨rfl, rfl⟩
   show W30 l Z n0 (P30 r) 0 0 22 (vR 0 :: vI p1 :: vI p2 :: vI p3 :: vU :: []) [.int c5] (Hb 0 s)
   rcases ite_e h with ⟨hc6, h⟩ | ⟨hc6, h⟩
   ·
    refine WP.ifN d30_22 (XT.i0_ne_f hc6) ?_
    exact WP.weak (L' := (vU :: vU :: vU :: vU :: vU :: [])) trivial (ok30_25 l Z a0 hw n0 s _ h)
   ·
    refine WP.ifY (pc' := 27) d30_22 (XT.i0_ne_t hc6) (by decide) rfl ?_
    refine WP.aloadN d30_27 rfl ?_
    refine WP.iloadN d30_28 rfl ?_
    obtain ⟨c7, hc7, h⟩ := bd h
    refine WP.callP (i := 0) (y := y12) (as := [.int p3]) (S := []) d30_29 (hw _ m_117) (hw _ m_119) (hw _ m_8) (hw _ m_118) (hw _ m_120) (hw _ m_9) hy12 rfl (ok12 l Z a0 hw p3 s _ hc7) rfl (lenOf pd12 rfl) (leb rfl) (leb rfl) (leb rfl) (leb rfl) ?_
    rintro _ _ ⟨rfl, rfl⟩
    show W30 l Z n0 (P30 r) 0 0 32 (vR 0 :: vI p1 :: vI p2 :: vI p3 :: vU :: []) [.int c7] (Hb 0 s)
    rcases ite_e h with ⟨hc8, h⟩ | ⟨hc8, h⟩
    ·
     refine WP.ifY (pc' := 45) d30_32 (XT.i0_eq_t hc8) (by decide) rfl ?_
     exact WP.weak (L' := (vU :: vU :: vU :: vU :: vU :: [])) trivial (ok30_45 l Z a0 hw n0 s _ h)
    ·
     refine WP.ifN d30_32 (XT.i0_eq_f hc8) ?_
     refine WP.aloadN d30_35 rfl ?_
     refine WP.getfield (i := 0) (j := 10) d30_36 (hw _ m_30) rfl rfl rfl ?_
     refine WP.iloadN d30_39 rfl ?_
     obtain ⟨x9, hx9, h⟩ := bd h
     refine WP.iaload (i := 7) d30_40 rfl hx9 ?_
     refine WP.iconst (4 : Int32) d30_41 rfl ?_
     rcases ite_e h with ⟨hc10, h⟩ | ⟨hc10, h⟩
     ·
      refine WP.icmpY (pc' := 47) d30_42 (XT.ii_lt_t hc10) (by decide) rfl ?_
      refine WP.aloadN d30_47 rfl ?_
      refine WP.iloadN d30_48 rfl ?_
      obtain ⟨c11, hc11, h⟩ := bd h
      refine WP.callP (i := 0) (y := y17) (as := [.int p1]) (S := []) d30_49 (hw _ m_146) (hw _ m_148) (hw _ m_8) (hw _ m_147) (hw _ m_149) (hw _ m_9) hy17 rfl (ok17 l Z a0 hw p1 s _ hc11) rfl (lenOf pd17 rfl) (leb rfl) (leb rfl) (leb rfl) (leb rfl) ?_
      rintro _ _ ⟨rfl, rfl⟩
      show W30 l Z n0 (P30 r) 0 0 52 (vR 0 :: vI p1 :: vI p2 :: vI p3 :: vU :: []) [.int c11] (Hb 0 s)
      refine WP.istore (L' := (vR 0 :: vI p1 :: vI p2 :: vI p3 :: vI c11 :: [])) d30_52 (leb rfl) rfl ?_
      refine WP.iload d30_54 rfl ?_
      rcases ite_e h with ⟨hc12, h⟩ | ⟨hc12, h⟩
      ·
       refine WP.ifN d30_56 (XT.i0_ge_f hc12) ?_
       refine WP.iconst (0 : Int32) d30_59 rfl ?_
       cases h
       exact WP.zreturn d30_60 rfl (leb rfl) (leb rfl) ⟨rfl, rfl⟩
      ·
       refine WP.ifY (pc' := 61) d30_56 (XT.i0_ge_t hc12) (by decide) rfl ?_
       refine WP.aloadN d30_61 rfl ?_
       refine WP.getfield (i := 0) (j := 15) d30_62 (hw _ m_41) rfl rfl rfl ?_
       refine WP.iload d30_65 rfl ?_
       refine WP.iloadN d30_67 rfl ?_
       obtain ⟨s13, hs13, h⟩ := bd h
       obtain ⟨ys13, gs13, es13⟩ := wrA_e hs13
       refine WP.iastore (i := 12) (xs := gA s 8) (H' := (Hb 0 s13)) d30_68 rfl (leb rfl) gs13 (by subst es13; rfl) ?_
       refine WP.aloadN d30_69 rfl ?_
       refine WP.iloadN d30_70 rfl ?_
       refine WP.iloadN d30_71 rfl ?_
       refine WP.iloadN d30_72 rfl ?_
       obtain ⟨c14, hc14, h⟩ := bd h
       refine WP.callP (i := 0) (y := y13) (as := [.int p1, .int p3, .int p2]) (S := []) d30_73 (hw _ m_121) (hw _ m_123) (hw _ m_8) (hw _ m_122) (hw _ m_124) (hw _ m_9) hy13 rfl (ok13 l Z a0 hw p1 p3 p2 s13 _ hc14) rfl (lenOf pd13 rfl) (leb rfl) (leb rfl) (leb rfl) (leb rfl) ?_
       rintro _ _ ⟨rfl, rfl⟩
       show W30 l Z n0 (P30 r) 0 0 76 (vR 0 :: vI p1 :: vI p2 :: vI p3 :: vI c11 :: []) [] (Hb 0 c14)
       refine WP.aloadN d30_76 rfl ?_
       refine WP.getfield (i := 0) (j := 9) d30_77 (hw _ m_28) rfl rfl rfl ?_
       refine WP.iloadN d30_80 rfl ?_
       refine WP.iloadN d30_81 rfl ?_
       obtain ⟨s15, hs15, h⟩ := bd h
       obtain ⟨ys15, gs15, es15⟩ := wrA_e hs15
       refine WP.iastore (i := 6) (xs := gA c14 5) (H' := (Hb 0 s15)) d30_82 rfl (leb rfl) gs15 (by subst es15; rfl) ?_
       refine WP.aloadN d30_83 rfl ?_
       refine WP.iloadN d30_84 rfl ?_
       obtain ⟨s16, es16, h⟩ := lt_e h
       refine WP.putI (i := 0) (j := 2) (H' := (Hb 0 s16)) d30_85 (hw _ m_110) (Or.inl (hw _ m_111)) (hw _ m_8) (hlay hw) rfl rfl rfl (leb rfl) (by subst es16; rfl) ?_
       refine WP.iconst (1 : Int32) d30_88 rfl ?_
       cases h
       exact WP.zreturn d30_89 rfl (leb rfl) (leb rfl) ⟨rfl, rfl⟩
     ·
      refine WP.icmpN d30_42 (XT.ii_lt_f hc10) ?_
      exact WP.weak (L' := (vU :: vU :: vU :: vU :: vU :: [])) trivial (ok30_45 l Z a0 hw n0 s _ h)
theorem d31_0 : dc k15 0 (.aload_n 0) 1 := by decide +kernel
theorem d31_1 : dc k15 1 (.iload_n 1) 1 := by decide +kernel
theorem d31_2 : dc k15 2 (.invokevirtual 122) 3 := by decide +kernel
theorem d31_5 : dc k15 5 (.ifCond .eq 20) 3 := by decide +kernel
theorem d31_8 : dc k15 8 (.aload_n 0) 1 := by decide +kernel
theorem d31_9 : dc k15 9 (.getfield 22) 3 := by decide +kernel
theorem d31_12 : dc k15 12 (.iload_n 1) 1 := by decide +kernel
theorem d31_13 : dc k15 13 (.baload) 1 := by decide +kernel
theorem d31_14 : dc k15 14 (.ifCond .eq 11) 3 := by decide +kernel
theorem d31_17 : dc k15 17 (.aload_n 0) 1 := by decide +kernel
theorem d31_18 : dc k15 18 (.iload_n 2) 1 := by decide +kernel
theorem d31_19 : dc k15 19 (.invokevirtual 125) 3 := by decide +kernel
theorem d31_22 : dc k15 22 (.ifCond .ne 5) 3 := by decide +kernel
theorem d31_25 : dc k15 25 (.iconst 0) 1 := by decide +kernel
theorem d31_26 : dc k15 26 (.ireturn) 1 := by decide +kernel
theorem d31_27 : dc k15 27 (.aload_n 0) 1 := by decide +kernel
theorem d31_28 : dc k15 28 (.iload_n 1) 1 := by decide +kernel
theorem d31_29 : dc k15 29 (.invokevirtual 132) 3 := by decide +kernel
theorem d31_32 : dc k15 32 (.istore_n 3) 1 := by decide +kernel
theorem d31_33 : dc k15 33 (.iload_n 3) 1 := by decide +kernel
theorem d31_34 : dc k15 34 (.ifCond .lt 10) 3 := by decide +kernel
theorem d31_37 : dc k15 37 (.aload_n 0) 1 := by decide +kernel
theorem d31_38 : dc k15 38 (.getfield 45) 3 := by decide +kernel
theorem d31_41 : dc k15 41 (.iload_n 3) 1 := by decide +kernel
theorem d31_42 : dc k15 42 (.iload_n 2) 1 := by decide +kernel
theorem d31_43 : dc k15 43 (.iastore) 1 := by decide +kernel
theorem d31_44 : dc k15 44 (.aload_n 0) 1 := by decide +kernel
theorem d31_45 : dc k15 45 (.getfield 22) 3 := by decide +kernel
theorem d31_48 : dc k15 48 (.iload_n 1) 1 := by decide +kernel
theorem d31_49 : dc k15 49 (.iconst 0) 1 := by decide +kernel
theorem d31_50 : dc k15 50 (.bastore) 1 := by decide +kernel
theorem d31_51 : dc k15 51 (.aload_n 0) 1 := by decide +kernel
theorem d31_52 : dc k15 52 (.iload_n 2) 1 := by decide +kernel
theorem d31_53 : dc k15 53 (.putfield 96) 3 := by decide +kernel
theorem d31_56 : dc k15 56 (.iconst 1) 1 := by decide +kernel
theorem d31_57 : dc k15 57 (.ireturn) 1 := by decide +kernel
abbrev y31 : MethodName := ⟨"BillingRun", "cancel", "(II)Z"⟩
theorem hy31 : y31.cls ≠ "java/lang/invoke/MethodHandle" ∧ y31.cls ≠ "java/lang/invoke/VarHandle" := by decide
theorem pd31 : parseMethodDescriptor y31.desc = some ⟨[.int, .int], some .boolean⟩ := by decide +kernel
abbrev R31 : Room := { frames := 1, cells := 0, slots := 0, locals := 14 }
abbrev P31 (r : Int32 × St) : Option Value → List OwnC → Prop := fun v H' => v = some (.int r.1) ∧ H' = (Hb 0 r.2)
abbrev W31 (l : Launch) (Z : State) (n0 : Nat) (Q : Option Value → List OwnC → Prop) (k n pc : Nat) (L : List Slot) (S : List Value) (H : List OwnC) : Prop := WP l Z CN lay "BillingRun" "cancel" prog_1_method_17_code 4 (some FieldType.boolean) R31 n0 0 Q k n pc L S H
def f_cancel_25 (s : St) : Option (Int32 × St) :=
 some ((0 : Int32), s)
theorem ok31_25 (l : Launch) (Z : State) (a0 : Array Value) (hw : HW a0 Z) (n0 : Nat) (s : St) (r : Int32 × St) (h : f_cancel_25 s = some r) : W31 l Z n0 (P31 r) 0 0 25 (vU :: vU :: vU :: vU :: []) [] (Hb 0 s) := by
 unfold f_cancel_25 at h
 refine WP.iconst (0 : Int32) d31_25 rfl ?_
 cases h
 exact WP.zreturn d31_26 rfl (leb rfl) (leb rfl) ⟨rfl, rfl⟩
def f_cancel_44 (v1 v2 : Int32) (s : St) : Option (Int32 × St) :=
 (wrA s 4 v1 (0 : Int32)).bind fun s1 =>
 lt (sI s1 2 v2) fun s2 =>
 some ((1 : Int32), s2)
theorem ok31_44 (l : Launch) (Z : State) (a0 : Array Value) (hw : HW a0 Z) (n0 : Nat) (v1 v2 : Int32) (s : St) (r : Int32 × St) (h : f_cancel_44 v1 v2 s = some r) : W31 l Z n0 (P31 r) 0 0 44 (vR 0 :: vI v1 :: vI v2 :: vU :: []) [] (Hb 0 s) := by
 unfold f_cancel_44 at h
 refine WP.aloadN d31_44 rfl ?_
 refine WP.getfield (i := 0) (j := 8) d31_45 (hw _ m_26) rfl rfl rfl ?_
 refine WP.iloadN d31_48 rfl ?_
 refine WP.iconst (0 : Int32) d31_49 rfl ?_
 obtain ⟨s1, hs1, h⟩ := bd h
 obtain ⟨ys1, gs1, es1⟩ := wrA_e hs1
 refine WP.bastore (i := 5) (xs := gA s 4) (H' := (Hb 0 s1)) d31_50 rfl (leb rfl) gs1 (by subst es1; rfl) ?_
 refine WP.aloadN d31_51 rfl ?_
 refine WP.iloadN d31_52 rfl ?_
 obtain ⟨s2, es2, h⟩ := lt_e h
 refine WP.putI (i := 0) (j := 2) (H' := (Hb 0 s2)) d31_53 (hw _ m_110) (Or.inl (hw _ m_111)) (hw _ m_8) (hlay hw) rfl rfl rfl (leb rfl) (by subst es2; rfl) ?_
 refine WP.iconst (1 : Int32) d31_56 rfl ?_
 cases h
 exact WP.zreturn d31_57 rfl (leb rfl) (leb rfl) ⟨rfl, rfl⟩
def f_cancel (p1 p2 : Int32) (s : St) : Option (Int32 × St) :=
 (f_validCustomer p1 s).bind fun c1 =>
 if c1 = 0 then
  f_cancel_25 s
 else
  (rd (gA s 4) p1).bind fun x3 =>
  if x3 = 0 then
   f_cancel_25 s
  else
   (f_validDay p2 s).bind fun c5 =>
   if c5 = 0 then
    f_cancel_25 s
   else
    (f_openSlot p1 s).bind fun c7 =>
    if c7 < 0 then
     f_cancel_44 p1 p2 s
    else
     (wrA s 8 c7 p2).bind fun s9 =>
     f_cancel_44 p1 p2 s9
theorem ok31 (l : Launch) (Z : State) (a0 : Array Value) (hw : HW a0 Z) (p1 p2 : Int32) (s : St) (r : Int32 × St) (h : f_cancel p1 p2 s = some r) : CS l Z CN lay y31 prog_1_method_17_code 4 (some FieldType.boolean) R31 0 [.ref 0, .int p1, .int p2] (Hb 0 s) (P31 r) := by
 refine CS.of_wp pn_cls (leb rfl) fun n0 => ?_
 show W31 l Z n0 (P31 r) 0 0 0 (vR 0 :: vI p1 :: vI p2 :: vU :: []) [] (Hb 0 s)
 unfold f_cancel at h
 refine WP.aloadN d31_0 rfl ?_
 refine WP.iloadN d31_1 rfl ?_
 obtain ⟨c1, hc1, h⟩ := bd h
 refine WP.callP (i := 0) (y := y8) (as := [.int p1]) (S := []) d31_2 (hw _ m_95) (hw _ m_97) (hw _ m_8) (hw _ m_96) (hw _ m_98) (hw _ m_9) hy8 rfl (ok8 l Z a0 hw p1 s _ hc1) rfl (lenOf pd8 rfl) (leb rfl) (leb rfl) (leb rfl) (leb rfl) ?_
 rintro _ _ ⟨rfl, rfl⟩
 show W31 l Z n0 (P31 r) 0 0 5 (vR 0 :: vI p1 :: vI p2 :: vU :: []) [.int c1] (Hb 0 s)
 rcases ite_e h with ⟨hc2, h⟩ | ⟨hc2, h⟩
 ·
  refine WP.ifY (pc' := 25) d31_5 (XT.i0_eq_t hc2) (by decide) rfl ?_
  exact WP.weak (L' := (vU :: vU :: vU :: vU :: [])) trivial (ok31_25 l Z a0 hw n0 s _ h)
 ·
  refine WP.ifN d31_5 (XT.i0_eq_f hc2) ?_
  refine WP.aloadN d31_8 rfl ?_
  refine WP.getfield (i := 0) (j := 8) d31_9 (hw _ m_26) rfl rfl rfl ?_
  refine WP.iloadN d31_12 rfl ?_
  obtain ⟨x3, hx3, h⟩ := bd h
  refine WP.baload (i := 5) d31_13 rfl hx3 ?_
  rcases ite_e h with ⟨hc4, h⟩ | ⟨hc4, h⟩
  ·
   refine WP.ifY (pc' := 25) d31_14 (XT.i0_eq_t hc4) (by decide) rfl ?_
   exact WP.weak (L' := (vU :: vU :: vU :: vU :: [])) trivial (ok31_25 l Z a0 hw n0 s _ h)
  ·
   refine WP.ifN d31_14 (XT.i0_eq_f hc4) ?_
   refine WP.aloadN d31_17 rfl ?_
   refine WP.iloadN d31_18 rfl ?_
   obtain ⟨c5, hc5, h⟩ := bd h
   refine WP.callP (i := 0) (y := y12) (as := [.int p2]) (S := []) d31_19 (hw _ m_117) (hw _ m_119) (hw _ m_8) (hw _ m_118) (hw _ m_120) (hw _ m_9) hy12 rfl (ok12 l Z a0 hw p2 s _ hc5) rfl (lenOf pd12 rfl) (leb rfl) (leb rfl) (leb rfl) (leb rfl) ?_
   rintro _ _ ⟨rfl, rfl⟩
   show W31 l Z n0 (P31 r) 0 0 22 (vR 0 :: vI p1 :: vI p2 :: vU :: []) [.int c5] (Hb 0 s)
   rcases ite_e h with ⟨hc6, h⟩ | ⟨hc6, h⟩
   ·
    refine WP.ifN d31_22 (XT.i0_ne_f hc6) ?_
    exact WP.weak (L' := (vU :: vU :: vU :: vU :: [])) trivial (ok31_25 l Z a0 hw n0 s _ h)
   ·
    refine WP.ifY (pc' := 27) d31_22 (XT.i0_ne_t hc6) (by decide) rfl ?_
    refine WP.aloadN d31_27 rfl ?_
    refine WP.iloadN d31_28 rfl ?_
    obtain ⟨c7, hc7, h⟩ := bd h
    refine WP.callP (i := 0) (y := y17) (as := [.int p1]) (S := []) d31_29 (hw _ m_146) (hw _ m_148) (hw _ m_8) (hw _ m_147) (hw _ m_149) (hw _ m_9) hy17 rfl (ok17 l Z a0 hw p1 s _ hc7) rfl (lenOf pd17 rfl) (leb rfl) (leb rfl) (leb rfl) (leb rfl) ?_
    rintro _ _ ⟨rfl, rfl⟩
    show W31 l Z n0 (P31 r) 0 0 32 (vR 0 :: vI p1 :: vI p2 :: vU :: []) [.int c7] (Hb 0 s)
    refine WP.istoreN (L' := (vR 0 :: vI p1 :: vI p2 :: vI c7 :: [])) d31_32 (leb rfl) rfl ?_
    refine WP.iloadN d31_33 rfl ?_
    rcases ite_e h with ⟨hc8, h⟩ | ⟨hc8, h⟩
    ·
     refine WP.ifY (pc' := 44) d31_34 (XT.i0_lt_t hc8) (by decide) rfl ?_
     exact WP.weak (L' := (vR 0 :: vI p1 :: vI p2 :: vU :: [])) ⟨rfl, rfl, rfl, trivial⟩ (ok31_44 l Z a0 hw n0 p1 p2 s _ h)
    ·
     refine WP.ifN d31_34 (XT.i0_lt_f hc8) ?_
     refine WP.aloadN d31_37 rfl ?_
     refine WP.getfield (i := 0) (j := 15) d31_38 (hw _ m_41) rfl rfl rfl ?_
     refine WP.iloadN d31_41 rfl ?_
     refine WP.iloadN d31_42 rfl ?_
     obtain ⟨s9, hs9, h⟩ := bd h
     obtain ⟨ys9, gs9, es9⟩ := wrA_e hs9
     refine WP.iastore (i := 12) (xs := gA s 8) (H' := (Hb 0 s9)) d31_43 rfl (leb rfl) gs9 (by subst es9; rfl) ?_
     exact WP.weak (L' := (vR 0 :: vI p1 :: vI p2 :: vU :: [])) ⟨rfl, rfl, rfl, trivial⟩ (ok31_44 l Z a0 hw n0 p1 p2 s9 _ h)
theorem d28_0 : dc k16 0 (.aload_n 0) 1 := by decide +kernel
theorem d28_1 : dc k16 1 (.iload_n 1) 1 := by decide +kernel
theorem d28_2 : dc k16 2 (.invokevirtual 122) 3 := by decide +kernel
theorem d28_5 : dc k16 5 (.ifCond .eq 20) 3 := by decide +kernel
theorem d28_8 : dc k16 8 (.aload_n 0) 1 := by decide +kernel
theorem d28_9 : dc k16 9 (.getfield 22) 3 := by decide +kernel
theorem d28_12 : dc k16 12 (.iload_n 1) 1 := by decide +kernel
theorem d28_13 : dc k16 13 (.baload) 1 := by decide +kernel
theorem d28_14 : dc k16 14 (.ifCond .eq 11) 3 := by decide +kernel
theorem d28_17 : dc k16 17 (.aload_n 0) 1 := by decide +kernel
theorem d28_18 : dc k16 18 (.iload_n 2) 1 := by decide +kernel
theorem d28_19 : dc k16 19 (.invokevirtual 125) 3 := by decide +kernel
theorem d28_22 : dc k16 22 (.ifCond .ne 5) 3 := by decide +kernel
theorem d28_25 : dc k16 25 (.iconst 0) 1 := by decide +kernel
theorem d28_26 : dc k16 26 (.ireturn) 1 := by decide +kernel
theorem d28_27 : dc k16 27 (.iload_n 3) 1 := by decide +kernel
theorem d28_28 : dc k16 28 (.iconst 1) 1 := by decide +kernel
theorem d28_29 : dc k16 29 (.if_icmp .lt 10) 3 := by decide +kernel
theorem d28_32 : dc k16 32 (.iload_n 3) 1 := by decide +kernel
theorem d28_33 : dc k16 33 (.sipush 10000) 3 := by decide +kernel
theorem d28_36 : dc k16 36 (.if_icmp .le 5) 3 := by decide +kernel
theorem d28_39 : dc k16 39 (.iconst 0) 1 := by decide +kernel
theorem d28_40 : dc k16 40 (.ireturn) 1 := by decide +kernel
theorem d28_41 : dc k16 41 (.aload_n 0) 1 := by decide +kernel
theorem d28_42 : dc k16 42 (.iload_n 1) 1 := by decide +kernel
theorem d28_43 : dc k16 43 (.invokevirtual 132) 3 := by decide +kernel
theorem d28_46 : dc k16 46 (.istore 4) 2 := by decide +kernel
theorem d28_48 : dc k16 48 (.iload 4) 2 := by decide +kernel
theorem d28_50 : dc k16 50 (.ifCond .lt 17) 3 := by decide +kernel
theorem d28_53 : dc k16 53 (.aload_n 0) 1 := by decide +kernel
theorem d28_54 : dc k16 54 (.getfield 51) 3 := by decide +kernel
theorem d28_57 : dc k16 57 (.iload 4) 2 := by decide +kernel
theorem d28_59 : dc k16 59 (.iaload) 1 := by decide +kernel
theorem d28_60 : dc k16 60 (.iload_n 3) 1 := by decide +kernel
theorem d28_61 : dc k16 61 (.iadd) 1 := by decide +kernel
theorem d28_62 : dc k16 62 (.ldc 95) 2 := by decide +kernel
theorem d28_64 : dc k16 64 (.if_icmp .le 5) 3 := by decide +kernel
theorem d28_67 : dc k16 67 (.iconst 0) 1 := by decide +kernel
theorem d28_68 : dc k16 68 (.ireturn) 1 := by decide +kernel
theorem d28_69 : dc k16 69 (.aload_n 0) 1 := by decide +kernel
theorem d28_70 : dc k16 70 (.getfield 51) 3 := by decide +kernel
theorem d28_73 : dc k16 73 (.iload 4) 2 := by decide +kernel
theorem d28_75 : dc k16 75 (.dup2) 1 := by decide +kernel
theorem d28_76 : dc k16 76 (.iaload) 1 := by decide +kernel
theorem d28_77 : dc k16 77 (.iload_n 3) 1 := by decide +kernel
theorem d28_78 : dc k16 78 (.iadd) 1 := by decide +kernel
theorem d28_79 : dc k16 79 (.iastore) 1 := by decide +kernel
theorem d28_80 : dc k16 80 (.aload_n 0) 1 := by decide +kernel
theorem d28_81 : dc k16 81 (.iload_n 2) 1 := by decide +kernel
theorem d28_82 : dc k16 82 (.putfield 96) 3 := by decide +kernel
theorem d28_85 : dc k16 85 (.iconst 1) 1 := by decide +kernel
theorem d28_86 : dc k16 86 (.ireturn) 1 := by decide +kernel
abbrev y28 : MethodName := ⟨"BillingRun", "recordUsage", "(III)Z"⟩
theorem hy28 : y28.cls ≠ "java/lang/invoke/MethodHandle" ∧ y28.cls ≠ "java/lang/invoke/VarHandle" := by decide
theorem pd28 : parseMethodDescriptor y28.desc = some ⟨[.int, .int, .int], some .boolean⟩ := by decide +kernel
abbrev R28 : Room := { frames := 1, cells := 0, slots := 0, locals := 14 }
abbrev P28 (r : Int32 × St) : Option Value → List OwnC → Prop := fun v H' => v = some (.int r.1) ∧ H' = (Hb 0 r.2)
abbrev W28 (l : Launch) (Z : State) (n0 : Nat) (Q : Option Value → List OwnC → Prop) (k n pc : Nat) (L : List Slot) (S : List Value) (H : List OwnC) : Prop := WP l Z CN lay "BillingRun" "recordUsage" prog_1_method_18_code 5 (some FieldType.boolean) R28 n0 0 Q k n pc L S H
def f_recordUsage_25 (s : St) : Option (Int32 × St) :=
 some ((0 : Int32), s)
theorem ok28_25 (l : Launch) (Z : State) (a0 : Array Value) (hw : HW a0 Z) (n0 : Nat) (s : St) (r : Int32 × St) (h : f_recordUsage_25 s = some r) : W28 l Z n0 (P28 r) 0 0 25 (vU :: vU :: vU :: vU :: vU :: []) [] (Hb 0 s) := by
 unfold f_recordUsage_25 at h
 refine WP.iconst (0 : Int32) d28_25 rfl ?_
 cases h
 exact WP.zreturn d28_26 rfl (leb rfl) (leb rfl) ⟨rfl, rfl⟩
def f_recordUsage_39 (s : St) : Option (Int32 × St) :=
 some ((0 : Int32), s)
theorem ok28_39 (l : Launch) (Z : State) (a0 : Array Value) (hw : HW a0 Z) (n0 : Nat) (s : St) (r : Int32 × St) (h : f_recordUsage_39 s = some r) : W28 l Z n0 (P28 r) 0 0 39 (vU :: vU :: vU :: vU :: vU :: []) [] (Hb 0 s) := by
 unfold f_recordUsage_39 at h
 refine WP.iconst (0 : Int32) d28_39 rfl ?_
 cases h
 exact WP.zreturn d28_40 rfl (leb rfl) (leb rfl) ⟨rfl, rfl⟩
def f_recordUsage_67 (s : St) : Option (Int32 × St) :=
 some ((0 : Int32), s)
theorem ok28_67 (l : Launch) (Z : State) (a0 : Array Value) (hw : HW a0 Z) (n0 : Nat) (s : St) (r : Int32 × St) (h : f_recordUsage_67 s = some r) : W28 l Z n0 (P28 r) 0 0 67 (vU :: vU :: vU :: vU :: vU :: []) [] (Hb 0 s) := by
 unfold f_recordUsage_67 at h
 refine WP.iconst (0 : Int32) d28_67 rfl ?_
 cases h
 exact WP.zreturn d28_68 rfl (leb rfl) (leb rfl) ⟨rfl, rfl⟩
def f_recordUsage (p1 p2 p3 : Int32) (s : St) : Option (Int32 × St) :=
 (f_validCustomer p1 s).bind fun c1 =>
 if c1 = 0 then
  f_recordUsage_25 s
 else
  (rd (gA s 4) p1).bind fun x3 =>
  if x3 = 0 then
   f_recordUsage_25 s
  else
   (f_validDay p2 s).bind fun c5 =>
   if c5 = 0 then
    f_recordUsage_25 s
   else
    if p3 < (1 : Int32) then
     f_recordUsage_39 s
    else
     if (10000 : Int32) < p3 then
      f_recordUsage_39 s
     else
      (f_openSlot p1 s).bind fun c9 =>
      if c9 < 0 then
       f_recordUsage_67 s
      else
       (rd (gA s 10) c9).bind fun x11 =>
       if (1000000 : Int32) < (x11 + p3) then
        f_recordUsage_67 s
       else
        (rd (gA s 10) c9).bind fun x13 =>
        (wrA s 10 c9 (x13 + p3)).bind fun s14 =>
        lt (sI s14 2 p2) fun s15 =>
        some ((1 : Int32), s15)
theorem ok28 (l : Launch) (Z : State) (a0 : Array Value) (hw : HW a0 Z) (p1 p2 p3 : Int32) (s : St) (r : Int32 × St) (h : f_recordUsage p1 p2 p3 s = some r) : CS l Z CN lay y28 prog_1_method_18_code 5 (some FieldType.boolean) R28 0 [.ref 0, .int p1, .int p2, .int p3] (Hb 0 s) (P28 r) := by
 refine CS.of_wp pn_cls (leb rfl) fun n0 => ?_
 show W28 l Z n0 (P28 r) 0 0 0 (vR 0 :: vI p1 :: vI p2 :: vI p3 :: vU :: []) [] (Hb 0 s)
 unfold f_recordUsage at h
 refine WP.aloadN d28_0 rfl ?_
 refine WP.iloadN d28_1 rfl ?_
 obtain ⟨c1, hc1, h⟩ := bd h
 refine WP.callP (i := 0) (y := y8) (as := [.int p1]) (S := []) d28_2 (hw _ m_95) (hw _ m_97) (hw _ m_8) (hw _ m_96) (hw _ m_98) (hw _ m_9) hy8 rfl (ok8 l Z a0 hw p1 s _ hc1) rfl (lenOf pd8 rfl) (leb rfl) (leb rfl) (leb rfl) (leb rfl) ?_
 rintro _ _ ⟨rfl, rfl⟩
 show W28 l Z n0 (P28 r) 0 0 5 (vR 0 :: vI p1 :: vI p2 :: vI p3 :: vU :: []) [.int c1] (Hb 0 s)
 rcases ite_e h with ⟨hc2, h⟩ | ⟨hc2, h⟩
 ·
  refine WP.ifY (pc' := 25) d28_5 (XT.i0_eq_t hc2) (by decide) rfl ?_
  exact WP.weak (L' := (vU :: vU :: vU :: vU :: vU :: [])) trivial (ok28_25 l Z a0 hw n0 s _ h)
 ·
  refine WP.ifN d28_5 (XT.i0_eq_f hc2) ?_
  refine WP.aloadN d28_8 rfl ?_
  refine WP.getfield (i := 0) (j := 8) d28_9 (hw _ m_26) rfl rfl rfl ?_
  refine WP.iloadN d28_12 rfl ?_
  obtain ⟨x3, hx3, h⟩ := bd h
  refine WP.baload (i := 5) d28_13 rfl hx3 ?_
  rcases ite_e h with ⟨hc4, h⟩ | ⟨hc4, h⟩
  ·
   refine WP.ifY (pc' := 25) d28_14 (XT.i0_eq_t hc4) (by decide) rfl ?_
   exact WP.weak (L' := (vU :: vU :: vU :: vU :: vU :: [])) trivial (ok28_25 l Z a0 hw n0 s _ h)
  ·
   refine WP.ifN d28_14 (XT.i0_eq_f hc4) ?_
   refine WP.aloadN d28_17 rfl ?_
   refine WP.iloadN d28_18 rfl ?_
   obtain ⟨c5, hc5, h⟩ := bd h
   refine WP.callP (i := 0) (y := y12) (as := [.int p2]) (S := []) d28_19 (hw _ m_117) (hw _ m_119) (hw _ m_8) (hw _ m_118) (hw _ m_120) (hw _ m_9) hy12 rfl (ok12 l Z a0 hw p2 s _ hc5) rfl (lenOf pd12 rfl) (leb rfl) (leb rfl) (leb rfl) (leb rfl) ?_
   rintro _ _ ⟨rfl, rfl⟩
   show W28 l Z n0 (P28 r) 0 0 22 (vR 0 :: vI p1 :: vI p2 :: vI p3 :: vU :: []) [.int c5] (Hb 0 s)
   rcases ite_e h with ⟨hc6, h⟩ | ⟨hc6, h⟩
   ·
    refine WP.ifN d28_22 (XT.i0_ne_f hc6) ?_
    exact WP.weak (L' := (vU :: vU :: vU :: vU :: vU :: [])) trivial (ok28_25 l Z a0 hw n0 s _ h)
   ·
    refine WP.ifY (pc' := 27) d28_22 (XT.i0_ne_t hc6) (by decide) rfl ?_
    refine WP.iloadN d28_27 rfl ?_
    refine WP.iconst (1 : Int32) d28_28 rfl ?_
    rcases ite_e h with ⟨hc7, h⟩ | ⟨hc7, h⟩
    ·
     refine WP.icmpY (pc' := 39) d28_29 (XT.ii_lt_t hc7) (by decide) rfl ?_
     exact WP.weak (L' := (vU :: vU :: vU :: vU :: vU :: [])) trivial (ok28_39 l Z a0 hw n0 s _ h)
    ·
     refine WP.icmpN d28_29 (XT.ii_lt_f hc7) ?_
     refine WP.iloadN d28_32 rfl ?_
     refine WP.sipush (10000 : Int32) d28_33 rfl ?_
     rcases ite_e h with ⟨hc8, h⟩ | ⟨hc8, h⟩
     ·
      refine WP.icmpN d28_36 (XT.ii_le_f hc8) ?_
      exact WP.weak (L' := (vU :: vU :: vU :: vU :: vU :: [])) trivial (ok28_39 l Z a0 hw n0 s _ h)
     ·
      refine WP.icmpY (pc' := 41) d28_36 (XT.ii_le_t hc8) (by decide) rfl ?_
      refine WP.aloadN d28_41 rfl ?_
      refine WP.iloadN d28_42 rfl ?_
      obtain ⟨c9, hc9, h⟩ := bd h
      refine WP.callP (i := 0) (y := y17) (as := [.int p1]) (S := []) d28_43 (hw _ m_146) (hw _ m_148) (hw _ m_8) (hw _ m_147) (hw _ m_149) (hw _ m_9) hy17 rfl (ok17 l Z a0 hw p1 s _ hc9) rfl (lenOf pd17 rfl) (leb rfl) (leb rfl) (leb rfl) (leb rfl) ?_
      rintro _ _ ⟨rfl, rfl⟩
      show W28 l Z n0 (P28 r) 0 0 46 (vR 0 :: vI p1 :: vI p2 :: vI p3 :: vU :: []) [.int c9] (Hb 0 s)
      refine WP.istore (L' := (vR 0 :: vI p1 :: vI p2 :: vI p3 :: vI c9 :: [])) d28_46 (leb rfl) rfl ?_
      refine WP.iload d28_48 rfl ?_
      rcases ite_e h with ⟨hc10, h⟩ | ⟨hc10, h⟩
      ·
       refine WP.ifY (pc' := 67) d28_50 (XT.i0_lt_t hc10) (by decide) rfl ?_
       exact WP.weak (L' := (vU :: vU :: vU :: vU :: vU :: [])) trivial (ok28_67 l Z a0 hw n0 s _ h)
      ·
       refine WP.ifN d28_50 (XT.i0_lt_f hc10) ?_
       refine WP.aloadN d28_53 rfl ?_
       refine WP.getfield (i := 0) (j := 17) d28_54 (hw _ m_45) rfl rfl rfl ?_
       refine WP.iload d28_57 rfl ?_
       obtain ⟨x11, hx11, h⟩ := bd h
       refine WP.iaload (i := 14) d28_59 rfl hx11 ?_
       refine WP.iloadN d28_60 rfl ?_
       refine WP.iadd d28_61 ?_
       refine WP.ldc d28_62 (hw _ m_74) ?_
       rcases ite_e h with ⟨hc12, h⟩ | ⟨hc12, h⟩
       ·
        refine WP.icmpN d28_64 (XT.ii_le_f hc12) ?_
        exact WP.weak (L' := (vU :: vU :: vU :: vU :: vU :: [])) trivial (ok28_67 l Z a0 hw n0 s _ h)
       ·
        refine WP.icmpY (pc' := 69) d28_64 (XT.ii_le_t hc12) (by decide) rfl ?_
        refine WP.aloadN d28_69 rfl ?_
        refine WP.getfield (i := 0) (j := 17) d28_70 (hw _ m_45) rfl rfl rfl ?_
        refine WP.iload d28_73 rfl ?_
        refine WP.dup2 d28_75 rfl rfl ?_
        obtain ⟨x13, hx13, h⟩ := bd h
        refine WP.iaload (i := 14) d28_76 rfl hx13 ?_
        refine WP.iloadN d28_77 rfl ?_
        refine WP.iadd d28_78 ?_
        obtain ⟨s14, hs14, h⟩ := bd h
        obtain ⟨ys14, gs14, es14⟩ := wrA_e hs14
        refine WP.iastore (i := 14) (xs := gA s 10) (H' := (Hb 0 s14)) d28_79 rfl (leb rfl) gs14 (by subst es14; rfl) ?_
        refine WP.aloadN d28_80 rfl ?_
        refine WP.iloadN d28_81 rfl ?_
        obtain ⟨s15, es15, h⟩ := lt_e h
        refine WP.putI (i := 0) (j := 2) (H' := (Hb 0 s15)) d28_82 (hw _ m_110) (Or.inl (hw _ m_111)) (hw _ m_8) (hlay hw) rfl rfl rfl (leb rfl) (by subst es15; rfl) ?_
        refine WP.iconst (1 : Int32) d28_85 rfl ?_
        cases h
        exact WP.zreturn d28_86 rfl (leb rfl) (leb rfl) ⟨rfl, rfl⟩
theorem d29_0 : dc k17 0 (.aload_n 0) 1 := by decide +kernel
theorem d29_1 : dc k17 1 (.iload_n 1) 1 := by decide +kernel
theorem d29_2 : dc k17 2 (.invokevirtual 122) 3 := by decide +kernel
theorem d29_5 : dc k17 5 (.ifCond .eq 14) 3 := by decide +kernel
theorem d29_8 : dc k17 8 (.iload_n 2) 1 := by decide +kernel
theorem d29_9 : dc k17 9 (.iconst 1) 1 := by decide +kernel
theorem d29_10 : dc k17 10 (.if_icmp .lt 9) 3 := by decide +kernel
theorem d29_13 : dc k17 13 (.iload_n 2) 1 := by decide +kernel
theorem d29_14 : dc k17 14 (.ldc 95) 2 := by decide +kernel
theorem d29_16 : dc k17 16 (.if_icmp .le 5) 3 := by decide +kernel
theorem d29_19 : dc k17 19 (.iconst 0) 1 := by decide +kernel
theorem d29_20 : dc k17 20 (.ireturn) 1 := by decide +kernel
theorem d29_21 : dc k17 21 (.iload_n 2) 1 := by decide +kernel
theorem d29_22 : dc k17 22 (.i2l) 1 := by decide +kernel
theorem d29_23 : dc k17 23 (.ldc2_w 104) 3 := by decide +kernel
theorem d29_26 : dc k17 26 (.lmul) 1 := by decide +kernel
theorem d29_27 : dc k17 27 (.lstore_n 3) 1 := by decide +kernel
theorem d29_28 : dc k17 28 (.aload_n 0) 1 := by decide +kernel
theorem d29_29 : dc k17 29 (.getfield 32) 3 := by decide +kernel
theorem d29_32 : dc k17 32 (.iload_n 1) 1 := by decide +kernel
theorem d29_33 : dc k17 33 (.dup2) 1 := by decide +kernel
theorem d29_34 : dc k17 34 (.laload) 1 := by decide +kernel
theorem d29_35 : dc k17 35 (.lload_n 3) 1 := by decide +kernel
theorem d29_36 : dc k17 36 (.ladd) 1 := by decide +kernel
theorem d29_37 : dc k17 37 (.lastore) 1 := by decide +kernel
theorem d29_38 : dc k17 38 (.aload_n 0) 1 := by decide +kernel
theorem d29_39 : dc k17 39 (.getfield 36) 3 := by decide +kernel
theorem d29_42 : dc k17 42 (.iload_n 1) 1 := by decide +kernel
theorem d29_43 : dc k17 43 (.dup2) 1 := by decide +kernel
theorem d29_44 : dc k17 44 (.laload) 1 := by decide +kernel
theorem d29_45 : dc k17 45 (.lload_n 3) 1 := by decide +kernel
theorem d29_46 : dc k17 46 (.ladd) 1 := by decide +kernel
theorem d29_47 : dc k17 47 (.lastore) 1 := by decide +kernel
theorem d29_48 : dc k17 48 (.iconst 1) 1 := by decide +kernel
theorem d29_49 : dc k17 49 (.ireturn) 1 := by decide +kernel
abbrev y29 : MethodName := ⟨"BillingRun", "issueCredit", "(II)Z"⟩
theorem hy29 : y29.cls ≠ "java/lang/invoke/MethodHandle" ∧ y29.cls ≠ "java/lang/invoke/VarHandle" := by decide
theorem pd29 : parseMethodDescriptor y29.desc = some ⟨[.int, .int], some .boolean⟩ := by decide +kernel
abbrev R29 : Room := { frames := 1, cells := 0, slots := 0, locals := 13 }
abbrev P29 (r : Int32 × St) : Option Value → List OwnC → Prop := fun v H' => v = some (.int r.1) ∧ H' = (Hb 0 r.2)
abbrev W29 (l : Launch) (Z : State) (n0 : Nat) (Q : Option Value → List OwnC → Prop) (k n pc : Nat) (L : List Slot) (S : List Value) (H : List OwnC) : Prop := WP l Z CN lay "BillingRun" "issueCredit" prog_1_method_19_code 5 (some FieldType.boolean) R29 n0 0 Q k n pc L S H
def f_issueCredit_19 (s : St) : Option (Int32 × St) :=
 some ((0 : Int32), s)
theorem ok29_19 (l : Launch) (Z : State) (a0 : Array Value) (hw : HW a0 Z) (n0 : Nat) (s : St) (r : Int32 × St) (h : f_issueCredit_19 s = some r) : W29 l Z n0 (P29 r) 0 0 19 (vU :: vU :: vU :: vU :: vU :: []) [] (Hb 0 s) := by
 unfold f_issueCredit_19 at h
 refine WP.iconst (0 : Int32) d29_19 rfl ?_
 cases h
 exact WP.zreturn d29_20 rfl (leb rfl) (leb rfl) ⟨rfl, rfl⟩
def f_issueCredit (p1 p2 : Int32) (s : St) : Option (Int32 × St) :=
 (f_validCustomer p1 s).bind fun c1 =>
 if c1 = 0 then
  f_issueCredit_19 s
 else
  if p2 < (1 : Int32) then
   f_issueCredit_19 s
  else
   if (1000000 : Int32) < p2 then
    f_issueCredit_19 s
   else
    lt (p2.toInt64 * (1000000 : Int64)) fun x5 =>
    (rd (gB s 0) p1).bind fun x6 =>
    (wrB s 0 p1 (x6 + x5)).bind fun s7 =>
    (rd (gB s7 1) p1).bind fun x8 =>
    (wrB s7 1 p1 (x8 + x5)).bind fun s9 =>
    some ((1 : Int32), s9)
theorem ok29 (l : Launch) (Z : State) (a0 : Array Value) (hw : HW a0 Z) (p1 p2 : Int32) (s : St) (r : Int32 × St) (h : f_issueCredit p1 p2 s = some r) : CS l Z CN lay y29 prog_1_method_19_code 5 (some FieldType.boolean) R29 0 [.ref 0, .int p1, .int p2] (Hb 0 s) (P29 r) := by
 refine CS.of_wp pn_cls (leb rfl) fun n0 => ?_
 show W29 l Z n0 (P29 r) 0 0 0 (vR 0 :: vI p1 :: vI p2 :: vU :: vU :: []) [] (Hb 0 s)
 unfold f_issueCredit at h
 refine WP.aloadN d29_0 rfl ?_
 refine WP.iloadN d29_1 rfl ?_
 obtain ⟨c1, hc1, h⟩ := bd h
 refine WP.callP (i := 0) (y := y8) (as := [.int p1]) (S := []) d29_2 (hw _ m_95) (hw _ m_97) (hw _ m_8) (hw _ m_96) (hw _ m_98) (hw _ m_9) hy8 rfl (ok8 l Z a0 hw p1 s _ hc1) rfl (lenOf pd8 rfl) (leb rfl) (leb rfl) (leb rfl) (leb rfl) ?_
 rintro _ _ ⟨rfl, rfl⟩
 show W29 l Z n0 (P29 r) 0 0 5 (vR 0 :: vI p1 :: vI p2 :: vU :: vU :: []) [.int c1] (Hb 0 s)
 rcases ite_e h with ⟨hc2, h⟩ | ⟨hc2, h⟩
 ·
  refine WP.ifY (pc' := 19) d29_5 (XT.i0_eq_t hc2) (by decide) rfl ?_
  exact WP.weak (L' := (vU :: vU :: vU :: vU :: vU :: [])) trivial (ok29_19 l Z a0 hw n0 s _ h)
 ·
  refine WP.ifN d29_5 (XT.i0_eq_f hc2) ?_
  refine WP.iloadN d29_8 rfl ?_
  refine WP.iconst (1 : Int32) d29_9 rfl ?_
  rcases ite_e h with ⟨hc3, h⟩ | ⟨hc3, h⟩
  ·
   refine WP.icmpY (pc' := 19) d29_10 (XT.ii_lt_t hc3) (by decide) rfl ?_
   exact WP.weak (L' := (vU :: vU :: vU :: vU :: vU :: [])) trivial (ok29_19 l Z a0 hw n0 s _ h)
  ·
   refine WP.icmpN d29_10 (XT.ii_lt_f hc3) ?_
   refine WP.iloadN d29_13 rfl ?_
   refine WP.ldc d29_14 (hw _ m_74) ?_
   rcases ite_e h with ⟨hc4, h⟩ | ⟨hc4, h⟩
   ·
    refine WP.icmpN d29_16 (XT.ii_le_f hc4) ?_
    exact WP.weak (L' := (vU :: vU :: vU :: vU :: vU :: [])) trivial (ok29_19 l Z a0 hw n0 s _ h)
   ·
    refine WP.icmpY (pc' := 21) d29_16 (XT.ii_le_t hc4) (by decide) rfl ?_
    refine WP.iloadN d29_21 rfl ?_
    refine WP.i2l d29_22 ?_
    refine WP.ldc2 d29_23 (hw _ m_158) ?_
    refine WP.lmul d29_26 ?_
    obtain ⟨x5, ex5, h⟩ := lt_e h
    refine WP.lstoreN (L' := (vR 0 :: vI p1 :: vI p2 :: vJ x5 :: vS :: [])) d29_27 (leb rfl) (by subst ex5; rfl) ?_
    refine WP.aloadN d29_28 rfl ?_
    refine WP.getfield (i := 0) (j := 11) d29_29 (hw _ m_33) rfl rfl rfl ?_
    refine WP.iloadN d29_32 rfl ?_
    refine WP.dup2 d29_33 rfl rfl ?_
    obtain ⟨x6, hx6, h⟩ := bd h
    refine WP.laload (i := 8) d29_34 rfl hx6 ?_
    refine WP.lloadN d29_35 rfl ?_
    refine WP.ladd d29_36 ?_
    obtain ⟨s7, hs7, h⟩ := bd h
    obtain ⟨ys7, gs7, es7⟩ := wrB_e hs7
    refine WP.lastore (i := 8) (xs := gB s 0) (H' := (Hb 0 s7)) d29_37 rfl (leb rfl) gs7 (by subst es7; rfl) ?_
    refine WP.aloadN d29_38 rfl ?_
    refine WP.getfield (i := 0) (j := 12) d29_39 (hw _ m_35) rfl rfl rfl ?_
    refine WP.iloadN d29_42 rfl ?_
    refine WP.dup2 d29_43 rfl rfl ?_
    obtain ⟨x8, hx8, h⟩ := bd h
    refine WP.laload (i := 9) d29_44 rfl hx8 ?_
    refine WP.lloadN d29_45 rfl ?_
    refine WP.ladd d29_46 ?_
    obtain ⟨s9, hs9, h⟩ := bd h
    obtain ⟨ys9, gs9, es9⟩ := wrB_e hs9
    refine WP.lastore (i := 9) (xs := gB s7 1) (H' := (Hb 0 s9)) d29_47 rfl (leb rfl) gs9 (by subst es9; rfl) ?_
    refine WP.iconst (1 : Int32) d29_48 rfl ?_
    cases h
    exact WP.zreturn d29_49 rfl (leb rfl) (leb rfl) ⟨rfl, rfl⟩
theorem d9_0 : dc k26 0 (.aload_n 0) 1 := by decide +kernel
theorem d9_1 : dc k26 1 (.iload_n 1) 1 := by decide +kernel
theorem d9_2 : dc k26 2 (.invokevirtual 122) 3 := by decide +kernel
theorem d9_5 : dc k26 5 (.ifCond .ne 5) 3 := by decide +kernel
theorem d9_8 : dc k26 8 (.lconst 0) 1 := by decide +kernel
theorem d9_9 : dc k26 9 (.lreturn) 1 := by decide +kernel
theorem d9_10 : dc k26 10 (.iload_n 2) 1 := by decide +kernel
theorem d9_11 : dc k26 11 (.ifCond .ne 18) 3 := by decide +kernel
theorem d9_14 : dc k26 14 (.aload_n 0) 1 := by decide +kernel
theorem d9_15 : dc k26 15 (.getfield 22) 3 := by decide +kernel
theorem d9_18 : dc k26 18 (.iload_n 1) 1 := by decide +kernel
theorem d9_19 : dc k26 19 (.baload) 1 := by decide +kernel
theorem d9_20 : dc k26 20 (.ifCond .eq 7) 3 := by decide +kernel
theorem d9_23 : dc k26 23 (.lconst 1) 1 := by decide +kernel
theorem d9_24 : dc k26 24 (.goto 4) 3 := by decide +kernel
theorem d9_27 : dc k26 27 (.lconst 0) 1 := by decide +kernel
theorem d9_28 : dc k26 28 (.lreturn) 1 := by decide +kernel
theorem d9_29 : dc k26 29 (.iload_n 2) 1 := by decide +kernel
theorem d9_30 : dc k26 30 (.iconst 1) 1 := by decide +kernel
theorem d9_31 : dc k26 31 (.if_icmp .ne 26) 3 := by decide +kernel
theorem d9_34 : dc k26 34 (.aload_n 0) 1 := by decide +kernel
theorem d9_35 : dc k26 35 (.getfield 22) 3 := by decide +kernel
theorem d9_38 : dc k26 38 (.iload_n 1) 1 := by decide +kernel
theorem d9_39 : dc k26 39 (.baload) 1 := by decide +kernel
theorem d9_40 : dc k26 40 (.ifCond .eq 13) 3 := by decide +kernel
theorem d9_43 : dc k26 43 (.aload_n 0) 1 := by decide +kernel
theorem d9_44 : dc k26 44 (.getfield 26) 3 := by decide +kernel
theorem d9_47 : dc k26 47 (.iload_n 1) 1 := by decide +kernel
theorem d9_48 : dc k26 48 (.iaload) 1 := by decide +kernel
theorem d9_49 : dc k26 49 (.i2l) 1 := by decide +kernel
theorem d9_50 : dc k26 50 (.goto 6) 3 := by decide +kernel
theorem d9_53 : dc k26 53 (.ldc2_w 117) 3 := by decide +kernel
theorem d9_56 : dc k26 56 (.lreturn) 1 := by decide +kernel
theorem d9_57 : dc k26 57 (.iload_n 2) 1 := by decide +kernel
theorem d9_58 : dc k26 58 (.iconst 2) 1 := by decide +kernel
theorem d9_59 : dc k26 59 (.if_icmp .ne 11) 3 := by decide +kernel
theorem d9_62 : dc k26 62 (.aload_n 0) 1 := by decide +kernel
theorem d9_63 : dc k26 63 (.getfield 29) 3 := by decide +kernel
theorem d9_66 : dc k26 66 (.iload_n 1) 1 := by decide +kernel
theorem d9_67 : dc k26 67 (.iaload) 1 := by decide +kernel
theorem d9_68 : dc k26 68 (.i2l) 1 := by decide +kernel
theorem d9_69 : dc k26 69 (.lreturn) 1 := by decide +kernel
theorem d9_70 : dc k26 70 (.iload_n 2) 1 := by decide +kernel
theorem d9_71 : dc k26 71 (.iconst 3) 1 := by decide +kernel
theorem d9_72 : dc k26 72 (.if_icmp .ne 10) 3 := by decide +kernel
theorem d9_75 : dc k26 75 (.aload_n 0) 1 := by decide +kernel
theorem d9_76 : dc k26 76 (.getfield 32) 3 := by decide +kernel
theorem d9_79 : dc k26 79 (.iload_n 1) 1 := by decide +kernel
theorem d9_80 : dc k26 80 (.laload) 1 := by decide +kernel
theorem d9_81 : dc k26 81 (.lreturn) 1 := by decide +kernel
theorem d9_82 : dc k26 82 (.iload_n 2) 1 := by decide +kernel
theorem d9_83 : dc k26 83 (.iconst 4) 1 := by decide +kernel
theorem d9_84 : dc k26 84 (.if_icmp .ne 10) 3 := by decide +kernel
theorem d9_87 : dc k26 87 (.aload_n 0) 1 := by decide +kernel
theorem d9_88 : dc k26 88 (.getfield 36) 3 := by decide +kernel
theorem d9_91 : dc k26 91 (.iload_n 1) 1 := by decide +kernel
theorem d9_92 : dc k26 92 (.laload) 1 := by decide +kernel
theorem d9_93 : dc k26 93 (.lreturn) 1 := by decide +kernel
theorem d9_94 : dc k26 94 (.iload_n 2) 1 := by decide +kernel
theorem d9_95 : dc k26 95 (.iconst 5) 1 := by decide +kernel
theorem d9_96 : dc k26 96 (.if_icmp .ne 10) 3 := by decide +kernel
theorem d9_99 : dc k26 99 (.aload_n 0) 1 := by decide +kernel
theorem d9_100 : dc k26 100 (.getfield 39) 3 := by decide +kernel
theorem d9_103 : dc k26 103 (.iload_n 1) 1 := by decide +kernel
theorem d9_104 : dc k26 104 (.laload) 1 := by decide +kernel
theorem d9_105 : dc k26 105 (.lreturn) 1 := by decide +kernel
theorem d9_106 : dc k26 106 (.lconst 0) 1 := by decide +kernel
theorem d9_107 : dc k26 107 (.lreturn) 1 := by decide +kernel
abbrev y9 : MethodName := ⟨"BillingRun", "getCustomer", "(II)J"⟩
theorem hy9 : y9.cls ≠ "java/lang/invoke/MethodHandle" ∧ y9.cls ≠ "java/lang/invoke/VarHandle" := by decide
theorem pd9 : parseMethodDescriptor y9.desc = some ⟨[.int, .int], some .long⟩ := by decide +kernel
abbrev R9 : Room := { frames := 1, cells := 0, slots := 0, locals := 13 }
abbrev P9 (s : St) (r : Int64) : Option Value → List OwnC → Prop := fun v H' => v = some (.long r) ∧ H' = (Hb 0 s)
abbrev W9 (l : Launch) (Z : State) (n0 : Nat) (Q : Option Value → List OwnC → Prop) (k n pc : Nat) (L : List Slot) (S : List Value) (H : List OwnC) : Prop := WP l Z CN lay "BillingRun" "getCustomer" prog_1_method_28_code 3 (some FieldType.long) R9 n0 0 Q k n pc L S H
def f_getCustomer_28 (t0 : Int64) (s : St) : Option (Int64) :=
 some t0
theorem ok9_28 (l : Launch) (Z : State) (a0 : Array Value) (hw : HW a0 Z) (n0 : Nat) (t0 : Int64) (s : St) (r : Int64) (h : f_getCustomer_28 t0 s = some r) : W9 l Z n0 (P9 s r) 0 0 28 (vU :: vU :: vU :: []) [.long t0] (Hb 0 s) := by
 unfold f_getCustomer_28 at h
 cases h
 exact WP.lreturn d9_28 rfl (leb rfl) (leb rfl) ⟨rfl, rfl⟩
def f_getCustomer_56 (t0 : Int64) (s : St) : Option (Int64) :=
 some t0
theorem ok9_56 (l : Launch) (Z : State) (a0 : Array Value) (hw : HW a0 Z) (n0 : Nat) (t0 : Int64) (s : St) (r : Int64) (h : f_getCustomer_56 t0 s = some r) : W9 l Z n0 (P9 s r) 0 0 56 (vU :: vU :: vU :: []) [.long t0] (Hb 0 s) := by
 unfold f_getCustomer_56 at h
 cases h
 exact WP.lreturn d9_56 rfl (leb rfl) (leb rfl) ⟨rfl, rfl⟩
def f_getCustomer (p1 p2 : Int32) (s : St) : Option (Int64) :=
 (f_validCustomer p1 s).bind fun c1 =>
 if c1 = 0 then
  some (0 : Int64)
 else
  if p2 = 0 then
   (rd (gA s 4) p1).bind fun x4 =>
   if x4 = 0 then
    f_getCustomer_28 (0 : Int64) s
   else
    f_getCustomer_28 (1 : Int64) s
  else
   if p2 = (1 : Int32) then
    (rd (gA s 4) p1).bind fun x7 =>
    if x7 = 0 then
     f_getCustomer_56 (-1 : Int64) s
    else
     (rd (gA s 5) p1).bind fun x9 =>
     f_getCustomer_56 x9.toInt64 s
   else
    if p2 = (2 : Int32) then
     (rd (gA s 6) p1).bind fun x11 =>
     some x11.toInt64
    else
     if p2 = (3 : Int32) then
      (rd (gB s 0) p1).bind fun x13 =>
      some x13
     else
      if p2 = (4 : Int32) then
       (rd (gB s 1) p1).bind fun x15 =>
       some x15
      else
       if p2 = (5 : Int32) then
        (rd (gB s 2) p1).bind fun x17 =>
        some x17
       else
        some (0 : Int64)
theorem ok9 (l : Launch) (Z : State) (a0 : Array Value) (hw : HW a0 Z) (p1 p2 : Int32) (s : St) (r : Int64) (h : f_getCustomer p1 p2 s = some r) : CS l Z CN lay y9 prog_1_method_28_code 3 (some FieldType.long) R9 0 [.ref 0, .int p1, .int p2] (Hb 0 s) (P9 s r) := by
 refine CS.of_wp pn_cls (leb rfl) fun n0 => ?_
 show W9 l Z n0 (P9 s r) 0 0 0 (vR 0 :: vI p1 :: vI p2 :: []) [] (Hb 0 s)
 unfold f_getCustomer at h
 refine WP.aloadN d9_0 rfl ?_
 refine WP.iloadN d9_1 rfl ?_
 obtain ⟨c1, hc1, h⟩ := bd h
 refine WP.callP (i := 0) (y := y8) (as := [.int p1]) (S := []) d9_2 (hw _ m_95) (hw _ m_97) (hw _ m_8) (hw _ m_96) (hw _ m_98) (hw _ m_9) hy8 rfl (ok8 l Z a0 hw p1 s _ hc1) rfl (lenOf pd8 rfl) (leb rfl) (leb rfl) (leb rfl) (leb rfl) ?_
 rintro _ _ ⟨rfl, rfl⟩
 show W9 l Z n0 (P9 s r) 0 0 5 (vR 0 :: vI p1 :: vI p2 :: []) [.int c1] (Hb 0 s)
 rcases ite_e h with ⟨hc2, h⟩ | ⟨hc2, h⟩
 ·
  refine WP.ifN d9_5 (XT.i0_ne_f hc2) ?_
  refine WP.lconst (0 : Int64) d9_8 rfl ?_
  cases h
  exact WP.lreturn d9_9 rfl (leb rfl) (leb rfl) ⟨rfl, rfl⟩
 ·
  refine WP.ifY (pc' := 10) d9_5 (XT.i0_ne_t hc2) (by decide) rfl ?_
  refine WP.iloadN d9_10 rfl ?_
  rcases ite_e h with ⟨hc3, h⟩ | ⟨hc3, h⟩
  ·
   refine WP.ifN d9_11 (XT.i0_ne_f hc3) ?_
   refine WP.aloadN d9_14 rfl ?_
   refine WP.getfield (i := 0) (j := 8) d9_15 (hw _ m_26) rfl rfl rfl ?_
   refine WP.iloadN d9_18 rfl ?_
   obtain ⟨x4, hx4, h⟩ := bd h
   refine WP.baload (i := 5) d9_19 rfl hx4 ?_
   rcases ite_e h with ⟨hc5, h⟩ | ⟨hc5, h⟩
   ·
    refine WP.ifY (pc' := 27) d9_20 (XT.i0_eq_t hc5) (by decide) rfl ?_
    refine WP.lconst (0 : Int64) d9_27 rfl ?_
    exact WP.weak (L' := (vU :: vU :: vU :: [])) trivial (ok9_28 l Z a0 hw n0 (0 : Int64) s _ h)
   ·
    refine WP.ifN d9_20 (XT.i0_eq_f hc5) ?_
    refine WP.lconst (1 : Int64) d9_23 rfl ?_
    refine WP.goto (pc' := 28) d9_24 (by decide) rfl ?_
    exact WP.weak (L' := (vU :: vU :: vU :: [])) trivial (ok9_28 l Z a0 hw n0 (1 : Int64) s _ h)
  ·
   refine WP.ifY (pc' := 29) d9_11 (XT.i0_ne_t hc3) (by decide) rfl ?_
   refine WP.iloadN d9_29 rfl ?_
   refine WP.iconst (1 : Int32) d9_30 rfl ?_
   rcases ite_e h with ⟨hc6, h⟩ | ⟨hc6, h⟩
   ·
    refine WP.icmpN d9_31 (XT.ii_ne_f hc6) ?_
    refine WP.aloadN d9_34 rfl ?_
    refine WP.getfield (i := 0) (j := 8) d9_35 (hw _ m_26) rfl rfl rfl ?_
    refine WP.iloadN d9_38 rfl ?_
    obtain ⟨x7, hx7, h⟩ := bd h
    refine WP.baload (i := 5) d9_39 rfl hx7 ?_
    rcases ite_e h with ⟨hc8, h⟩ | ⟨hc8, h⟩
    ·
     refine WP.ifY (pc' := 53) d9_40 (XT.i0_eq_t hc8) (by decide) rfl ?_
     refine WP.ldc2 d9_53 (hw _ m_215) ?_
     exact WP.weak (L' := (vU :: vU :: vU :: [])) trivial (ok9_56 l Z a0 hw n0 (-1 : Int64) s _ h)
    ·
     refine WP.ifN d9_40 (XT.i0_eq_f hc8) ?_
     refine WP.aloadN d9_43 rfl ?_
     refine WP.getfield (i := 0) (j := 9) d9_44 (hw _ m_28) rfl rfl rfl ?_
     refine WP.iloadN d9_47 rfl ?_
     obtain ⟨x9, hx9, h⟩ := bd h
     refine WP.iaload (i := 6) d9_48 rfl hx9 ?_
     refine WP.i2l d9_49 ?_
     refine WP.goto (pc' := 56) d9_50 (by decide) rfl ?_
     exact WP.weak (L' := (vU :: vU :: vU :: [])) trivial (ok9_56 l Z a0 hw n0 x9.toInt64 s _ h)
   ·
    refine WP.icmpY (pc' := 57) d9_31 (XT.ii_ne_t hc6) (by decide) rfl ?_
    refine WP.iloadN d9_57 rfl ?_
    refine WP.iconst (2 : Int32) d9_58 rfl ?_
    rcases ite_e h with ⟨hc10, h⟩ | ⟨hc10, h⟩
    ·
     refine WP.icmpN d9_59 (XT.ii_ne_f hc10) ?_
     refine WP.aloadN d9_62 rfl ?_
     refine WP.getfield (i := 0) (j := 10) d9_63 (hw _ m_30) rfl rfl rfl ?_
     refine WP.iloadN d9_66 rfl ?_
     obtain ⟨x11, hx11, h⟩ := bd h
     refine WP.iaload (i := 7) d9_67 rfl hx11 ?_
     refine WP.i2l d9_68 ?_
     cases h
     exact WP.lreturn d9_69 rfl (leb rfl) (leb rfl) ⟨rfl, rfl⟩
    ·
     refine WP.icmpY (pc' := 70) d9_59 (XT.ii_ne_t hc10) (by decide) rfl ?_
     refine WP.iloadN d9_70 rfl ?_
     refine WP.iconst (3 : Int32) d9_71 rfl ?_
     rcases ite_e h with ⟨hc12, h⟩ | ⟨hc12, h⟩
     ·
      refine WP.icmpN d9_72 (XT.ii_ne_f hc12) ?_
      refine WP.aloadN d9_75 rfl ?_
      refine WP.getfield (i := 0) (j := 11) d9_76 (hw _ m_33) rfl rfl rfl ?_
      refine WP.iloadN d9_79 rfl ?_
      obtain ⟨x13, hx13, h⟩ := bd h
      refine WP.laload (i := 8) d9_80 rfl hx13 ?_
      cases h
      exact WP.lreturn d9_81 rfl (leb rfl) (leb rfl) ⟨rfl, rfl⟩
     ·
      refine WP.icmpY (pc' := 82) d9_72 (XT.ii_ne_t hc12) (by decide) rfl ?_
      refine WP.iloadN d9_82 rfl ?_
      refine WP.iconst (4 : Int32) d9_83 rfl ?_
      rcases ite_e h with ⟨hc14, h⟩ | ⟨hc14, h⟩
      ·
       refine WP.icmpN d9_84 (XT.ii_ne_f hc14) ?_
       refine WP.aloadN d9_87 rfl ?_
       refine WP.getfield (i := 0) (j := 12) d9_88 (hw _ m_35) rfl rfl rfl ?_
       refine WP.iloadN d9_91 rfl ?_
       obtain ⟨x15, hx15, h⟩ := bd h
       refine WP.laload (i := 9) d9_92 rfl hx15 ?_
       cases h
       exact WP.lreturn d9_93 rfl (leb rfl) (leb rfl) ⟨rfl, rfl⟩
      ·
       refine WP.icmpY (pc' := 94) d9_84 (XT.ii_ne_t hc14) (by decide) rfl ?_
       refine WP.iloadN d9_94 rfl ?_
       refine WP.iconst (5 : Int32) d9_95 rfl ?_
       rcases ite_e h with ⟨hc16, h⟩ | ⟨hc16, h⟩
       ·
        refine WP.icmpN d9_96 (XT.ii_ne_f hc16) ?_
        refine WP.aloadN d9_99 rfl ?_
        refine WP.getfield (i := 0) (j := 13) d9_100 (hw _ m_37) rfl rfl rfl ?_
        refine WP.iloadN d9_103 rfl ?_
        obtain ⟨x17, hx17, h⟩ := bd h
        refine WP.laload (i := 10) d9_104 rfl hx17 ?_
        cases h
        exact WP.lreturn d9_105 rfl (leb rfl) (leb rfl) ⟨rfl, rfl⟩
       ·
        refine WP.icmpY (pc' := 106) d9_96 (XT.ii_ne_t hc16) (by decide) rfl ?_
        refine WP.lconst (0 : Int64) d9_106 rfl ?_
        cases h
        exact WP.lreturn d9_107 rfl (leb rfl) (leb rfl) ⟨rfl, rfl⟩
theorem d15_0 : dc k25 0 (.aload_n 0) 1 := by decide +kernel
theorem d15_1 : dc k25 1 (.iload_n 1) 1 := by decide +kernel
theorem d15_2 : dc k25 2 (.invokevirtual 122) 3 := by decide +kernel
theorem d15_5 : dc k25 5 (.ifCond .eq 22) 3 := by decide +kernel
theorem d15_8 : dc k25 8 (.iload_n 2) 1 := by decide +kernel
theorem d15_9 : dc k25 9 (.ifCond .lt 18) 3 := by decide +kernel
theorem d15_12 : dc k25 12 (.iload_n 2) 1 := by decide +kernel
theorem d15_13 : dc k25 13 (.aload_n 0) 1 := by decide +kernel
theorem d15_14 : dc k25 14 (.getfield 29) 3 := by decide +kernel
theorem d15_17 : dc k25 17 (.iload_n 1) 1 := by decide +kernel
theorem d15_18 : dc k25 18 (.iaload) 1 := by decide +kernel
theorem d15_19 : dc k25 19 (.if_icmp .ge 8) 3 := by decide +kernel
theorem d15_22 : dc k25 22 (.iload_n 2) 1 := by decide +kernel
theorem d15_23 : dc k25 23 (.iconst 4) 1 := by decide +kernel
theorem d15_24 : dc k25 24 (.if_icmp .lt 5) 3 := by decide +kernel
theorem d15_27 : dc k25 27 (.lconst 0) 1 := by decide +kernel
theorem d15_28 : dc k25 28 (.lreturn) 1 := by decide +kernel
theorem d15_29 : dc k25 29 (.iload_n 1) 1 := by decide +kernel
theorem d15_30 : dc k25 30 (.iconst 4) 1 := by decide +kernel
theorem d15_31 : dc k25 31 (.imul) 1 := by decide +kernel
theorem d15_32 : dc k25 32 (.iload_n 2) 1 := by decide +kernel
theorem d15_33 : dc k25 33 (.iadd) 1 := by decide +kernel
theorem d15_34 : dc k25 34 (.istore 4) 2 := by decide +kernel
theorem d15_36 : dc k25 36 (.iload_n 3) 1 := by decide +kernel
theorem d15_37 : dc k25 37 (.ifCond .ne 12) 3 := by decide +kernel
theorem d15_40 : dc k25 40 (.aload_n 0) 1 := by decide +kernel
theorem d15_41 : dc k25 41 (.getfield 42) 3 := by decide +kernel
theorem d15_44 : dc k25 44 (.iload 4) 2 := by decide +kernel
theorem d15_46 : dc k25 46 (.iaload) 1 := by decide +kernel
theorem d15_47 : dc k25 47 (.i2l) 1 := by decide +kernel
theorem d15_48 : dc k25 48 (.lreturn) 1 := by decide +kernel
theorem d15_49 : dc k25 49 (.iload_n 3) 1 := by decide +kernel
theorem d15_50 : dc k25 50 (.iconst 1) 1 := by decide +kernel
theorem d15_51 : dc k25 51 (.if_icmp .ne 12) 3 := by decide +kernel
theorem d15_54 : dc k25 54 (.aload_n 0) 1 := by decide +kernel
theorem d15_55 : dc k25 55 (.getfield 45) 3 := by decide +kernel
theorem d15_58 : dc k25 58 (.iload 4) 2 := by decide +kernel
theorem d15_60 : dc k25 60 (.iaload) 1 := by decide +kernel
theorem d15_61 : dc k25 61 (.i2l) 1 := by decide +kernel
theorem d15_62 : dc k25 62 (.lreturn) 1 := by decide +kernel
theorem d15_63 : dc k25 63 (.iload_n 3) 1 := by decide +kernel
theorem d15_64 : dc k25 64 (.iconst 2) 1 := by decide +kernel
theorem d15_65 : dc k25 65 (.if_icmp .ne 12) 3 := by decide +kernel
theorem d15_68 : dc k25 68 (.aload_n 0) 1 := by decide +kernel
theorem d15_69 : dc k25 69 (.getfield 48) 3 := by decide +kernel
theorem d15_72 : dc k25 72 (.iload 4) 2 := by decide +kernel
theorem d15_74 : dc k25 74 (.iaload) 1 := by decide +kernel
theorem d15_75 : dc k25 75 (.i2l) 1 := by decide +kernel
theorem d15_76 : dc k25 76 (.lreturn) 1 := by decide +kernel
theorem d15_77 : dc k25 77 (.iload_n 3) 1 := by decide +kernel
theorem d15_78 : dc k25 78 (.iconst 3) 1 := by decide +kernel
theorem d15_79 : dc k25 79 (.if_icmp .ne 12) 3 := by decide +kernel
theorem d15_82 : dc k25 82 (.aload_n 0) 1 := by decide +kernel
theorem d15_83 : dc k25 83 (.getfield 51) 3 := by decide +kernel
theorem d15_86 : dc k25 86 (.iload 4) 2 := by decide +kernel
theorem d15_88 : dc k25 88 (.iaload) 1 := by decide +kernel
theorem d15_89 : dc k25 89 (.i2l) 1 := by decide +kernel
theorem d15_90 : dc k25 90 (.lreturn) 1 := by decide +kernel
theorem d15_91 : dc k25 91 (.lconst 0) 1 := by decide +kernel
theorem d15_92 : dc k25 92 (.lreturn) 1 := by decide +kernel
abbrev y15 : MethodName := ⟨"BillingRun", "getSegment", "(III)J"⟩
theorem hy15 : y15.cls ≠ "java/lang/invoke/MethodHandle" ∧ y15.cls ≠ "java/lang/invoke/VarHandle" := by decide
theorem pd15 : parseMethodDescriptor y15.desc = some ⟨[.int, .int, .int], some .long⟩ := by decide +kernel
abbrev R15 : Room := { frames := 1, cells := 0, slots := 0, locals := 13 }
abbrev P15 (s : St) (r : Int64) : Option Value → List OwnC → Prop := fun v H' => v = some (.long r) ∧ H' = (Hb 0 s)
abbrev W15 (l : Launch) (Z : State) (n0 : Nat) (Q : Option Value → List OwnC → Prop) (k n pc : Nat) (L : List Slot) (S : List Value) (H : List OwnC) : Prop := WP l Z CN lay "BillingRun" "getSegment" prog_1_method_27_code 5 (some FieldType.long) R15 n0 0 Q k n pc L S H
def f_getSegment_27 (s : St) : Option (Int64) :=
 some (0 : Int64)
theorem ok15_27 (l : Launch) (Z : State) (a0 : Array Value) (hw : HW a0 Z) (n0 : Nat) (s : St) (r : Int64) (h : f_getSegment_27 s = some r) : W15 l Z n0 (P15 s r) 0 0 27 (vU :: vU :: vU :: vU :: vU :: []) [] (Hb 0 s) := by
 unfold f_getSegment_27 at h
 refine WP.lconst (0 : Int64) d15_27 rfl ?_
 cases h
 exact WP.lreturn d15_28 rfl (leb rfl) (leb rfl) ⟨rfl, rfl⟩
def f_getSegment (p1 p2 p3 : Int32) (s : St) : Option (Int64) :=
 (f_validCustomer p1 s).bind fun c1 =>
 if c1 = 0 then
  f_getSegment_27 s
 else
  if p2 < 0 then
   f_getSegment_27 s
  else
   (rd (gA s 6) p1).bind fun x4 =>
   if p2 < x4 then
    if p2 < (4 : Int32) then
     lt ((p1 * (4 : Int32)) + p2) fun x7 =>
     if p3 = 0 then
      (rd (gA s 7) x7).bind fun x9 =>
      some x9.toInt64
     else
      if p3 = (1 : Int32) then
       (rd (gA s 8) x7).bind fun x11 =>
       some x11.toInt64
      else
       if p3 = (2 : Int32) then
        (rd (gA s 9) x7).bind fun x13 =>
        some x13.toInt64
       else
        if p3 = (3 : Int32) then
         (rd (gA s 10) x7).bind fun x15 =>
         some x15.toInt64
        else
         some (0 : Int64)
    else
     f_getSegment_27 s
   else
    f_getSegment_27 s
theorem ok15 (l : Launch) (Z : State) (a0 : Array Value) (hw : HW a0 Z) (p1 p2 p3 : Int32) (s : St) (r : Int64) (h : f_getSegment p1 p2 p3 s = some r) : CS l Z CN lay y15 prog_1_method_27_code 5 (some FieldType.long) R15 0 [.ref 0, .int p1, .int p2, .int p3] (Hb 0 s) (P15 s r) := by
 refine CS.of_wp pn_cls (leb rfl) fun n0 => ?_
 show W15 l Z n0 (P15 s r) 0 0 0 (vR 0 :: vI p1 :: vI p2 :: vI p3 :: vU :: []) [] (Hb 0 s)
 unfold f_getSegment at h
 refine WP.aloadN d15_0 rfl ?_
 refine WP.iloadN d15_1 rfl ?_
 obtain ⟨c1, hc1, h⟩ := bd h
 refine WP.callP (i := 0) (y := y8) (as := [.int p1]) (S := []) d15_2 (hw _ m_95) (hw _ m_97) (hw _ m_8) (hw _ m_96) (hw _ m_98) (hw _ m_9) hy8 rfl (ok8 l Z a0 hw p1 s _ hc1) rfl (lenOf pd8 rfl) (leb rfl) (leb rfl) (leb rfl) (leb rfl) ?_
 rintro _ _ ⟨rfl, rfl⟩
 show W15 l Z n0 (P15 s r) 0 0 5 (vR 0 :: vI p1 :: vI p2 :: vI p3 :: vU :: []) [.int c1] (Hb 0 s)
 rcases ite_e h with ⟨hc2, h⟩ | ⟨hc2, h⟩
 ·
  refine WP.ifY (pc' := 27) d15_5 (XT.i0_eq_t hc2) (by decide) rfl ?_
  exact WP.weak (L' := (vU :: vU :: vU :: vU :: vU :: [])) trivial (ok15_27 l Z a0 hw n0 s _ h)
 ·
  refine WP.ifN d15_5 (XT.i0_eq_f hc2) ?_
  refine WP.iloadN d15_8 rfl ?_
  rcases ite_e h with ⟨hc3, h⟩ | ⟨hc3, h⟩
  ·
   refine WP.ifY (pc' := 27) d15_9 (XT.i0_lt_t hc3) (by decide) rfl ?_
   exact WP.weak (L' := (vU :: vU :: vU :: vU :: vU :: [])) trivial (ok15_27 l Z a0 hw n0 s _ h)
  ·
   refine WP.ifN d15_9 (XT.i0_lt_f hc3) ?_
   refine WP.iloadN d15_12 rfl ?_
   refine WP.aloadN d15_13 rfl ?_
   refine WP.getfield (i := 0) (j := 10) d15_14 (hw _ m_30) rfl rfl rfl ?_
   refine WP.iloadN d15_17 rfl ?_
   obtain ⟨x4, hx4, h⟩ := bd h
   refine WP.iaload (i := 7) d15_18 rfl hx4 ?_
   rcases ite_e h with ⟨hc5, h⟩ | ⟨hc5, h⟩
   ·
    refine WP.icmpN d15_19 (XT.ii_ge_f hc5) ?_
    refine WP.iloadN d15_22 rfl ?_
    refine WP.iconst (4 : Int32) d15_23 rfl ?_
    rcases ite_e h with ⟨hc6, h⟩ | ⟨hc6, h⟩
    ·
     refine WP.icmpY (pc' := 29) d15_24 (XT.ii_lt_t hc6) (by decide) rfl ?_
     refine WP.iloadN d15_29 rfl ?_
     refine WP.iconst (4 : Int32) d15_30 rfl ?_
     refine WP.imul d15_31 ?_
     refine WP.iloadN d15_32 rfl ?_
     refine WP.iadd d15_33 ?_
     obtain ⟨x7, ex7, h⟩ := lt_e h
     refine WP.istore (L' := (vR 0 :: vI p1 :: vI p2 :: vI p3 :: vI x7 :: [])) d15_34 (leb rfl) (by subst ex7; rfl) ?_
     refine WP.iloadN d15_36 rfl ?_
     rcases ite_e h with ⟨hc8, h⟩ | ⟨hc8, h⟩
     ·
      refine WP.ifN d15_37 (XT.i0_ne_f hc8) ?_
      refine WP.aloadN d15_40 rfl ?_
      refine WP.getfield (i := 0) (j := 14) d15_41 (hw _ m_39) rfl rfl rfl ?_
      refine WP.iload d15_44 rfl ?_
      obtain ⟨x9, hx9, h⟩ := bd h
      refine WP.iaload (i := 11) d15_46 rfl hx9 ?_
      refine WP.i2l d15_47 ?_
      cases h
      exact WP.lreturn d15_48 rfl (leb rfl) (leb rfl) ⟨rfl, rfl⟩
     ·
      refine WP.ifY (pc' := 49) d15_37 (XT.i0_ne_t hc8) (by decide) rfl ?_
      refine WP.iloadN d15_49 rfl ?_
      refine WP.iconst (1 : Int32) d15_50 rfl ?_
      rcases ite_e h with ⟨hc10, h⟩ | ⟨hc10, h⟩
      ·
       refine WP.icmpN d15_51 (XT.ii_ne_f hc10) ?_
       refine WP.aloadN d15_54 rfl ?_
       refine WP.getfield (i := 0) (j := 15) d15_55 (hw _ m_41) rfl rfl rfl ?_
       refine WP.iload d15_58 rfl ?_
       obtain ⟨x11, hx11, h⟩ := bd h
       refine WP.iaload (i := 12) d15_60 rfl hx11 ?_
       refine WP.i2l d15_61 ?_
       cases h
       exact WP.lreturn d15_62 rfl (leb rfl) (leb rfl) ⟨rfl, rfl⟩
      ·
       refine WP.icmpY (pc' := 63) d15_51 (XT.ii_ne_t hc10) (by decide) rfl ?_
       refine WP.iloadN d15_63 rfl ?_
       refine WP.iconst (2 : Int32) d15_64 rfl ?_
       rcases ite_e h with ⟨hc12, h⟩ | ⟨hc12, h⟩
       ·
        refine WP.icmpN d15_65 (XT.ii_ne_f hc12) ?_
        refine WP.aloadN d15_68 rfl ?_
        refine WP.getfield (i := 0) (j := 16) d15_69 (hw _ m_43) rfl rfl rfl ?_
        refine WP.iload d15_72 rfl ?_
        obtain ⟨x13, hx13, h⟩ := bd h
        refine WP.iaload (i := 13) d15_74 rfl hx13 ?_
        refine WP.i2l d15_75 ?_
        cases h
        exact WP.lreturn d15_76 rfl (leb rfl) (leb rfl) ⟨rfl, rfl⟩
       ·
        refine WP.icmpY (pc' := 77) d15_65 (XT.ii_ne_t hc12) (by decide) rfl ?_
        refine WP.iloadN d15_77 rfl ?_
        refine WP.iconst (3 : Int32) d15_78 rfl ?_
        rcases ite_e h with ⟨hc14, h⟩ | ⟨hc14, h⟩
        ·
         refine WP.icmpN d15_79 (XT.ii_ne_f hc14) ?_
         refine WP.aloadN d15_82 rfl ?_
         refine WP.getfield (i := 0) (j := 17) d15_83 (hw _ m_45) rfl rfl rfl ?_
         refine WP.iload d15_86 rfl ?_
         obtain ⟨x15, hx15, h⟩ := bd h
         refine WP.iaload (i := 14) d15_88 rfl hx15 ?_
         refine WP.i2l d15_89 ?_
         cases h
         exact WP.lreturn d15_90 rfl (leb rfl) (leb rfl) ⟨rfl, rfl⟩
        ·
         refine WP.icmpY (pc' := 91) d15_79 (XT.ii_ne_t hc14) (by decide) rfl ?_
         refine WP.lconst (0 : Int64) d15_91 rfl ?_
         cases h
         exact WP.lreturn d15_92 rfl (leb rfl) (leb rfl) ⟨rfl, rfl⟩
    ·
     refine WP.icmpN d15_24 (XT.ii_lt_f hc6) ?_
     exact WP.weak (L' := (vU :: vU :: vU :: vU :: vU :: [])) trivial (ok15_27 l Z a0 hw n0 s _ h)
   ·
    refine WP.icmpY (pc' := 27) d15_19 (XT.ii_ge_t hc5) (by decide) rfl ?_
    exact WP.weak (L' := (vU :: vU :: vU :: vU :: vU :: [])) trivial (ok15_27 l Z a0 hw n0 s _ h)
theorem d22_0 : dc k7 0 (.iload_n 2) 1 := by decide +kernel
theorem d22_1 : dc k7 1 (.ifCond .ge 5) 3 := by decide +kernel
theorem d22_4 : dc k7 4 (.lconst 0) 1 := by decide +kernel
theorem d22_5 : dc k7 5 (.lreturn) 1 := by decide +kernel
theorem d22_6 : dc k7 6 (.iload_n 2) 1 := by decide +kernel
theorem d22_7 : dc k7 7 (.iconst 3) 1 := by decide +kernel
theorem d22_8 : dc k7 8 (.if_icmp .lt 7) 3 := by decide +kernel
theorem d22_11 : dc k7 11 (.ldc2_w 104) 3 := by decide +kernel
theorem d22_14 : dc k7 14 (.lreturn) 1 := by decide +kernel
theorem d22_15 : dc k7 15 (.lconst 0) 1 := by decide +kernel
theorem d22_16 : dc k7 16 (.lstore_n 3) 1 := by decide +kernel
theorem d22_17 : dc k7 17 (.iconst 0) 1 := by decide +kernel
theorem d22_18 : dc k7 18 (.istore 5) 2 := by decide +kernel
theorem d22_20 : dc k7 20 (.iload 5) 2 := by decide +kernel
theorem d22_22 : dc k7 22 (.iconst 3) 1 := by decide +kernel
theorem d22_23 : dc k7 23 (.if_icmp .ge 42) 3 := by decide +kernel
theorem d22_26 : dc k7 26 (.iload 5) 2 := by decide +kernel
theorem d22_28 : dc k7 28 (.iload_n 2) 1 := by decide +kernel
theorem d22_29 : dc k7 29 (.if_icmp .le 6) 3 := by decide +kernel
theorem d22_32 : dc k7 32 (.goto 33) 3 := by decide +kernel
theorem d22_35 : dc k7 35 (.aload_n 0) 1 := by decide +kernel
theorem d22_36 : dc k7 36 (.getfield 16) 3 := by decide +kernel
theorem d22_39 : dc k7 39 (.iload_n 1) 1 := by decide +kernel
theorem d22_40 : dc k7 40 (.iconst 4) 1 := by decide +kernel
theorem d22_41 : dc k7 41 (.imul) 1 := by decide +kernel
theorem d22_42 : dc k7 42 (.iload 5) 2 := by decide +kernel
theorem d22_44 : dc k7 44 (.iadd) 1 := by decide +kernel
theorem d22_45 : dc k7 45 (.iaload) 1 := by decide +kernel
theorem d22_46 : dc k7 46 (.i2l) 1 := by decide +kernel
theorem d22_47 : dc k7 47 (.lstore 6) 2 := by decide +kernel
theorem d22_49 : dc k7 49 (.lload 6) 2 := by decide +kernel
theorem d22_51 : dc k7 51 (.lload_n 3) 1 := by decide +kernel
theorem d22_52 : dc k7 52 (.lcmp) 1 := by decide +kernel
theorem d22_53 : dc k7 53 (.ifCond .le 6) 3 := by decide +kernel
theorem d22_56 : dc k7 56 (.lload 6) 2 := by decide +kernel
theorem d22_58 : dc k7 58 (.lstore_n 3) 1 := by decide +kernel
theorem d22_59 : dc k7 59 (.iinc 5 1) 3 := by decide +kernel
theorem d22_62 : dc k7 62 (.goto (-42)) 3 := by decide +kernel
theorem d22_65 : dc k7 65 (.lload_n 3) 1 := by decide +kernel
theorem d22_66 : dc k7 66 (.lreturn) 1 := by decide +kernel
abbrev y22 : MethodName := ⟨"BillingRun", "effBound", "(II)J"⟩
theorem hy22 : y22.cls ≠ "java/lang/invoke/MethodHandle" ∧ y22.cls ≠ "java/lang/invoke/VarHandle" := by decide
theorem pd22 : parseMethodDescriptor y22.desc = some ⟨[.int, .int], some .long⟩ := by decide +kernel
abbrev R22 : Room := { frames := 0, cells := 0, slots := 0, locals := 0 }
abbrev P22 (s : St) (r : Int64) : Option Value → List OwnC → Prop := fun v H' => v = some (.long r) ∧ H' = (Hb 0 s)
abbrev W22 (l : Launch) (Z : State) (n0 : Nat) (Q : Option Value → List OwnC → Prop) (k n pc : Nat) (L : List Slot) (S : List Value) (H : List OwnC) : Prop := WP l Z CN lay "BillingRun" "effBound" prog_1_method_8_code 8 (some FieldType.long) R22 n0 0 Q k n pc L S H
def f_effBound_59 (k20 : KT9) (n : Nat) (v1 v2 : Int32) (v3 : Int64) (v5 : Int32) (s : St) : Option (Int64) :=
 lt (v5 + (1 : Int32)) fun x1 =>
 k20 v1 v2 v3 x1 s
abbrev HK22_20 (l : Launch) (Z : State) (n0 : Nat) (k20 : KT9) : Prop := ∀ (v1 v2 : Int32) (v3 : Int64) (v5 : Int32) (s : St) (r : Int64), k20 v1 v2 v3 v5 s = some r → W22 l Z n0 (P22 s r) 0 0 20 (vR 0 :: vI v1 :: vI v2 :: vJ v3 :: vS :: vI v5 :: vU :: vU :: []) [] (Hb 0 s)
theorem ok22_59 (l : Launch) (Z : State) (a0 : Array Value) (hw : HW a0 Z) (n0 : Nat) (k20 : KT9) (hk20 : HK22_20 l Z n0 k20) (n : Nat) (v1 v2 : Int32) (v3 : Int64) (v5 : Int32) (s : St) (r : Int64) (h : f_effBound_59 k20 n v1 v2 v3 v5 s = some r) : W22 l Z n0 (P22 s r) 0 0 59 (vR 0 :: vI v1 :: vI v2 :: vJ v3 :: vS :: vI v5 :: vU :: vU :: []) [] (Hb 0 s) := by
 unfold f_effBound_59 at h
 obtain ⟨x1, ex1, h⟩ := lt_e h
 refine WP.iinc (L' := (vR 0 :: vI v1 :: vI v2 :: vJ v3 :: vS :: vI x1 :: vU :: vU :: [])) (1 : Int32) d22_59 rfl rfl (by subst ex1; rfl) ?_
 refine WP.goto (pc' := 20) d22_62 (by decide) rfl ?_
 exact WP.weak (L' := (vR 0 :: vI v1 :: vI v2 :: vJ v3 :: vS :: vI x1 :: vU :: vU :: [])) ⟨rfl, rfl, rfl, rfl, rfl, rfl, trivial⟩ (hk20 v1 v2 v3 x1 s _ h)
def f_effBound_65 (n : Nat) (v3 : Int64) (s : St) : Option (Int64) :=
 some v3
theorem ok22_65 (l : Launch) (Z : State) (a0 : Array Value) (hw : HW a0 Z) (n0 n : Nat) (v3 : Int64) (s : St) (r : Int64) (h : f_effBound_65 n v3 s = some r) : W22 l Z n0 (P22 s r) 0 0 65 (vU :: vU :: vU :: vJ v3 :: vS :: vU :: vU :: vU :: []) [] (Hb 0 s) := by
 unfold f_effBound_65 at h
 refine WP.lloadN d22_65 rfl ?_
 cases h
 exact WP.lreturn d22_66 rfl (leb rfl) (leb rfl) ⟨rfl, rfl⟩
def g_effBound_20 (k20 : KT9) (n : Nat) (v1 v2 : Int32) (v3 : Int64) (v5 : Int32) (s : St) : Option (Int64) :=
 if v5 < (3 : Int32) then
  if v2 < v5 then
   f_effBound_65 n v3 s
  else
   (rd (gA s 2) ((v1 * (4 : Int32)) + v5)).bind fun x3 =>
   lt (x3.toInt64) fun x4 =>
   if v3 < x4 then
    f_effBound_59 k20 n v1 v2 x4 v5 s
   else
    f_effBound_59 k20 n v1 v2 v3 v5 s
 else
  f_effBound_65 n v3 s
theorem okg22_20 (l : Launch) (Z : State) (a0 : Array Value) (hw : HW a0 Z) (n0 : Nat) (k20 : KT9) (hk20 : HK22_20 l Z n0 k20) (n : Nat) (v1 v2 : Int32) (v3 : Int64) (v5 : Int32) (s : St) (r : Int64) (h : g_effBound_20 k20 n v1 v2 v3 v5 s = some r) : W22 l Z n0 (P22 s r) 0 0 20 (vR 0 :: vI v1 :: vI v2 :: vJ v3 :: vS :: vI v5 :: vU :: vU :: []) [] (Hb 0 s) := by
 unfold g_effBound_20 at h
 refine WP.iload d22_20 rfl ?_
 refine WP.iconst (3 : Int32) d22_22 rfl ?_
 rcases ite_e h with ⟨hc1, h⟩ | ⟨hc1, h⟩
 ·
  refine WP.icmpN d22_23 (XT.ii_ge_f hc1) ?_
  refine WP.iload d22_26 rfl ?_
  refine WP.iloadN d22_28 rfl ?_
  rcases ite_e h with ⟨hc2, h⟩ | ⟨hc2, h⟩
  ·
   refine WP.icmpN d22_29 (XT.ii_le_f hc2) ?_
   refine WP.goto (pc' := 65) d22_32 (by decide) rfl ?_
   exact WP.weak (L' := (vU :: vU :: vU :: vJ v3 :: vS :: vU :: vU :: vU :: [])) ⟨rfl, rfl, trivial⟩ (ok22_65 l Z a0 hw n0 n v3 s _ h)
  ·
   refine WP.icmpY (pc' := 35) d22_29 (XT.ii_le_t hc2) (by decide) rfl ?_
   refine WP.aloadN d22_35 rfl ?_
   refine WP.getfield (i := 0) (j := 6) d22_36 (hw _ m_21) rfl rfl rfl ?_
   refine WP.iloadN d22_39 rfl ?_
   refine WP.iconst (4 : Int32) d22_40 rfl ?_
   refine WP.imul d22_41 ?_
   refine WP.iload d22_42 rfl ?_
   refine WP.iadd d22_44 ?_
   obtain ⟨x3, hx3, h⟩ := bd h
   refine WP.iaload (i := 3) d22_45 rfl hx3 ?_
   refine WP.i2l d22_46 ?_
   obtain ⟨x4, ex4, h⟩ := lt_e h
   refine WP.lstore (L' := (vR 0 :: vI v1 :: vI v2 :: vJ v3 :: vS :: vI v5 :: vJ x4 :: vS :: [])) d22_47 (leb rfl) (by subst ex4; rfl) ?_
   refine WP.lload d22_49 rfl ?_
   refine WP.lloadN d22_51 rfl ?_
   refine WP.lcmp d22_52 ?_
   rcases ite_e h with ⟨hc5, h⟩ | ⟨hc5, h⟩
   ·
    refine WP.ifN d22_53 (XT.ll_le_f hc5) ?_
    refine WP.lload d22_56 rfl ?_
    refine WP.lstoreN (L' := (vR 0 :: vI v1 :: vI v2 :: vJ x4 :: vS :: vI v5 :: vJ x4 :: vS :: [])) d22_58 (leb rfl) rfl ?_
    exact WP.weak (L' := (vR 0 :: vI v1 :: vI v2 :: vJ x4 :: vS :: vI v5 :: vU :: vU :: [])) ⟨rfl, rfl, rfl, rfl, rfl, rfl, trivial⟩ (ok22_59 l Z a0 hw n0 _ hk20 n v1 v2 x4 v5 s _ h)
   ·
    refine WP.ifY (pc' := 59) d22_53 (XT.ll_le_t hc5) (by decide) rfl ?_
    exact WP.weak (L' := (vR 0 :: vI v1 :: vI v2 :: vJ v3 :: vS :: vI v5 :: vU :: vU :: [])) ⟨rfl, rfl, rfl, rfl, rfl, rfl, trivial⟩ (ok22_59 l Z a0 hw n0 _ hk20 n v1 v2 v3 v5 s _ h)
 ·
  refine WP.icmpY (pc' := 65) d22_23 (XT.ii_ge_t hc1) (by decide) rfl ?_
  exact WP.weak (L' := (vU :: vU :: vU :: vJ v3 :: vS :: vU :: vU :: vU :: [])) ⟨rfl, rfl, trivial⟩ (ok22_65 l Z a0 hw n0 n v3 s _ h)
def f_effBound_20 : Nat → Int32 → Int32 → Int64 → Int32 → St → Option (Int64)
 | 0 => fun _ _ _ _ _ => none
 | n + 1 => g_effBound_20 (f_effBound_20 n) n
theorem ok22_20 (l : Launch) (Z : State) (a0 : Array Value) (hw : HW a0 Z) (n0 : Nat) : ∀ (n : Nat) (v1 v2 : Int32) (v3 : Int64) (v5 : Int32) (s : St) (r : Int64), f_effBound_20 n v1 v2 v3 v5 s = some r → W22 l Z n0 (P22 s r) 0 0 20 (vR 0 :: vI v1 :: vI v2 :: vJ v3 :: vS :: vI v5 :: vU :: vU :: []) [] (Hb 0 s)
 | 0, v1, v2, v3, v5, s, r, h => nomatch (show none = some r from h)
 | n + 1, v1, v2, v3, v5, s, r, h => okg22_20 l Z a0 hw n0 _ (ok22_20 l Z a0 hw n0 n) n v1 v2 v3 v5 s r h
def f_effBound (n : Nat) (p1 p2 : Int32) (s : St) : Option (Int64) :=
 if p2 < 0 then
  some (0 : Int64)
 else
  if p2 < (3 : Int32) then
   f_effBound_20 n p1 p2 (0 : Int64) (0 : Int32) s
  else
   some (1000000 : Int64)
theorem ok22 (l : Launch) (Z : State) (a0 : Array Value) (hw : HW a0 Z) (n : Nat) (p1 p2 : Int32) (s : St) (r : Int64) (h : f_effBound n p1 p2 s = some r) : CS l Z CN lay y22 prog_1_method_8_code 8 (some FieldType.long) R22 0 [.ref 0, .int p1, .int p2] (Hb 0 s) (P22 s r) := by
 refine CS.of_wp pn_cls (leb rfl) fun n0 => ?_
 show W22 l Z n0 (P22 s r) 0 0 0 (vR 0 :: vI p1 :: vI p2 :: vU :: vU :: vU :: vU :: vU :: []) [] (Hb 0 s)
 unfold f_effBound at h
 refine WP.iloadN d22_0 rfl ?_
 rcases ite_e h with ⟨hc1, h⟩ | ⟨hc1, h⟩
 ·
  refine WP.ifN d22_1 (XT.i0_ge_f hc1) ?_
  refine WP.lconst (0 : Int64) d22_4 rfl ?_
  cases h
  exact WP.lreturn d22_5 rfl (leb rfl) (leb rfl) ⟨rfl, rfl⟩
 ·
  refine WP.ifY (pc' := 6) d22_1 (XT.i0_ge_t hc1) (by decide) rfl ?_
  refine WP.iloadN d22_6 rfl ?_
  refine WP.iconst (3 : Int32) d22_7 rfl ?_
  rcases ite_e h with ⟨hc2, h⟩ | ⟨hc2, h⟩
  ·
   refine WP.icmpY (pc' := 15) d22_8 (XT.ii_lt_t hc2) (by decide) rfl ?_
   refine WP.lconst (0 : Int64) d22_15 rfl ?_
   refine WP.lstoreN (L' := (vR 0 :: vI p1 :: vI p2 :: vJ (0 : Int64) :: vS :: vU :: vU :: vU :: [])) d22_16 (leb rfl) rfl ?_
   refine WP.iconst (0 : Int32) d22_17 rfl ?_
   refine WP.istore (L' := (vR 0 :: vI p1 :: vI p2 :: vJ (0 : Int64) :: vS :: vI (0 : Int32) :: vU :: vU :: [])) d22_18 (leb rfl) rfl ?_
   exact WP.weak (L' := (vR 0 :: vI p1 :: vI p2 :: vJ (0 : Int64) :: vS :: vI (0 : Int32) :: vU :: vU :: [])) ⟨rfl, rfl, rfl, rfl, rfl, rfl, trivial⟩ (ok22_20 l Z a0 hw n0 n p1 p2 (0 : Int64) (0 : Int32) s _ h)
  ·
   refine WP.icmpN d22_8 (XT.ii_lt_f hc2) ?_
   refine WP.ldc2 d22_11 (hw _ m_158) ?_
   cases h
   exact WP.lreturn d22_14 rfl (leb rfl) (leb rfl) ⟨rfl, rfl⟩
theorem d24_0 : dc k9 0 (.iconst 0) 1 := by decide +kernel
theorem d24_1 : dc k9 1 (.istore 4) 2 := by decide +kernel
theorem d24_3 : dc k9 3 (.iload 4) 2 := by decide +kernel
theorem d24_5 : dc k9 5 (.iconst 4) 1 := by decide +kernel
theorem d24_6 : dc k9 6 (.if_icmp .ge 36) 3 := by decide +kernel
theorem d24_9 : dc k9 9 (.lload_n 2) 1 := by decide +kernel
theorem d24_10 : dc k9 10 (.aload_n 0) 1 := by decide +kernel
theorem d24_11 : dc k9 11 (.iload_n 1) 1 := by decide +kernel
theorem d24_12 : dc k9 12 (.iload 4) 2 := by decide +kernel
theorem d24_14 : dc k9 14 (.invokevirtual 106) 3 := by decide +kernel
theorem d24_17 : dc k9 17 (.lcmp) 1 := by decide +kernel
theorem d24_18 : dc k9 18 (.ifCond .gt 18) 3 := by decide +kernel
theorem d24_21 : dc k9 21 (.lload_n 2) 1 := by decide +kernel
theorem d24_22 : dc k9 22 (.aload_n 0) 1 := by decide +kernel
theorem d24_23 : dc k9 23 (.getfield 19) 3 := by decide +kernel
theorem d24_26 : dc k9 26 (.iload_n 1) 1 := by decide +kernel
theorem d24_27 : dc k9 27 (.iconst 4) 1 := by decide +kernel
theorem d24_28 : dc k9 28 (.imul) 1 := by decide +kernel
theorem d24_29 : dc k9 29 (.iload 4) 2 := by decide +kernel
theorem d24_31 : dc k9 31 (.iadd) 1 := by decide +kernel
theorem d24_32 : dc k9 32 (.iaload) 1 := by decide +kernel
theorem d24_33 : dc k9 33 (.i2l) 1 := by decide +kernel
theorem d24_34 : dc k9 34 (.lmul) 1 := by decide +kernel
theorem d24_35 : dc k9 35 (.lreturn) 1 := by decide +kernel
theorem d24_36 : dc k9 36 (.iinc 4 1) 3 := by decide +kernel
theorem d24_39 : dc k9 39 (.goto (-36)) 3 := by decide +kernel
theorem d24_42 : dc k9 42 (.lconst 0) 1 := by decide +kernel
theorem d24_43 : dc k9 43 (.lreturn) 1 := by decide +kernel
abbrev y24 : MethodName := ⟨"BillingRun", "chargeVolume", "(IJ)J"⟩
theorem hy24 : y24.cls ≠ "java/lang/invoke/MethodHandle" ∧ y24.cls ≠ "java/lang/invoke/VarHandle" := by decide
theorem pd24 : parseMethodDescriptor y24.desc = some ⟨[.int, .long], some .long⟩ := by decide +kernel
abbrev R24 : Room := { frames := 1, cells := 0, slots := 0, locals := 21 }
abbrev P24 (s : St) (r : Int64) : Option Value → List OwnC → Prop := fun v H' => v = some (.long r) ∧ H' = (Hb 0 s)
abbrev W24 (l : Launch) (Z : State) (n0 : Nat) (Q : Option Value → List OwnC → Prop) (k n pc : Nat) (L : List Slot) (S : List Value) (H : List OwnC) : Prop := WP l Z CN lay "BillingRun" "chargeVolume" prog_1_method_10_code 5 (some FieldType.long) R24 n0 0 Q k n pc L S H
def g_chargeVolume_3 (k3 : KT12) (n : Nat) (v1 : Int32) (v2 : Int64) (v4 : Int32) (s : St) : Option (Int64) :=
 if v4 < (4 : Int32) then
  (f_effBound n v1 v4 s).bind fun c2 =>
  if c2 < v2 then
   lt (v4 + (1 : Int32)) fun x4 =>
   k3 v1 v2 x4 s
  else
   (rd (gA s 3) ((v1 * (4 : Int32)) + v4)).bind fun x5 =>
   some (v2 * x5.toInt64)
 else
  some (0 : Int64)
abbrev HK24_3 (l : Launch) (Z : State) (n0 : Nat) (k3 : KT12) : Prop := ∀ (v1 : Int32) (v2 : Int64) (v4 : Int32) (s : St) (r : Int64), k3 v1 v2 v4 s = some r → W24 l Z n0 (P24 s r) 0 0 3 (vR 0 :: vI v1 :: vJ v2 :: vS :: vI v4 :: []) [] (Hb 0 s)
theorem okg24_3 (l : Launch) (Z : State) (a0 : Array Value) (hw : HW a0 Z) (n0 : Nat) (k3 : KT12) (hk3 : HK24_3 l Z n0 k3) (n : Nat) (v1 : Int32) (v2 : Int64) (v4 : Int32) (s : St) (r : Int64) (h : g_chargeVolume_3 k3 n v1 v2 v4 s = some r) : W24 l Z n0 (P24 s r) 0 0 3 (vR 0 :: vI v1 :: vJ v2 :: vS :: vI v4 :: []) [] (Hb 0 s) := by
 unfold g_chargeVolume_3 at h
 refine WP.iload d24_3 rfl ?_
 refine WP.iconst (4 : Int32) d24_5 rfl ?_
 rcases ite_e h with ⟨hc1, h⟩ | ⟨hc1, h⟩
 ·
  refine WP.icmpN d24_6 (XT.ii_ge_f hc1) ?_
  refine WP.lloadN d24_9 rfl ?_
  refine WP.aloadN d24_10 rfl ?_
  refine WP.iloadN d24_11 rfl ?_
  refine WP.iload d24_12 rfl ?_
  obtain ⟨c2, hc2, h⟩ := bd h
  refine WP.callP (i := 0) (y := y22) (as := [.int v1, .int v4]) (S := [.long v2]) d24_14 (hw _ m_167) (hw _ m_169) (hw _ m_8) (hw _ m_168) (hw _ m_170) (hw _ m_9) hy22 rfl (ok22 l Z a0 hw n v1 v4 s _ hc2) rfl (lenOf pd22 rfl) (leb rfl) (leb rfl) (leb rfl) (leb rfl) ?_
  rintro _ _ ⟨rfl, rfl⟩
  show W24 l Z n0 (P24 s r) 0 0 17 (vR 0 :: vI v1 :: vJ v2 :: vS :: vI v4 :: []) [.long c2, .long v2] (Hb 0 s)
  refine WP.lcmp d24_17 ?_
  rcases ite_e h with ⟨hc3, h⟩ | ⟨hc3, h⟩
  ·
   refine WP.ifY (pc' := 36) d24_18 (XT.ll_gt_t hc3) (by decide) rfl ?_
   obtain ⟨x4, ex4, h⟩ := lt_e h
   refine WP.iinc (L' := (vR 0 :: vI v1 :: vJ v2 :: vS :: vI x4 :: [])) (1 : Int32) d24_36 rfl rfl (by subst ex4; rfl) ?_
   refine WP.goto (pc' := 3) d24_39 (by decide) rfl ?_
   exact WP.weak (L' := (vR 0 :: vI v1 :: vJ v2 :: vS :: vI x4 :: [])) ⟨rfl, rfl, rfl, rfl, rfl, trivial⟩ (hk3 v1 v2 x4 s _ h)
  ·
   refine WP.ifN d24_18 (XT.ll_gt_f hc3) ?_
   refine WP.lloadN d24_21 rfl ?_
   refine WP.aloadN d24_22 rfl ?_
   refine WP.getfield (i := 0) (j := 7) d24_23 (hw _ m_23) rfl rfl rfl ?_
   refine WP.iloadN d24_26 rfl ?_
   refine WP.iconst (4 : Int32) d24_27 rfl ?_
   refine WP.imul d24_28 ?_
   refine WP.iload d24_29 rfl ?_
   refine WP.iadd d24_31 ?_
   obtain ⟨x5, hx5, h⟩ := bd h
   refine WP.iaload (i := 4) d24_32 rfl hx5 ?_
   refine WP.i2l d24_33 ?_
   refine WP.lmul d24_34 ?_
   cases h
   exact WP.lreturn d24_35 rfl (leb rfl) (leb rfl) ⟨rfl, rfl⟩
 ·
  refine WP.icmpY (pc' := 42) d24_6 (XT.ii_ge_t hc1) (by decide) rfl ?_
  refine WP.lconst (0 : Int64) d24_42 rfl ?_
  cases h
  exact WP.lreturn d24_43 rfl (leb rfl) (leb rfl) ⟨rfl, rfl⟩
def f_chargeVolume_3 : Nat → Int32 → Int64 → Int32 → St → Option (Int64)
 | 0 => fun _ _ _ _ => none
 | n + 1 => g_chargeVolume_3 (f_chargeVolume_3 n) n
theorem ok24_3 (l : Launch) (Z : State) (a0 : Array Value) (hw : HW a0 Z) (n0 : Nat) : ∀ (n : Nat) (v1 : Int32) (v2 : Int64) (v4 : Int32) (s : St) (r : Int64), f_chargeVolume_3 n v1 v2 v4 s = some r → W24 l Z n0 (P24 s r) 0 0 3 (vR 0 :: vI v1 :: vJ v2 :: vS :: vI v4 :: []) [] (Hb 0 s)
 | 0, v1, v2, v4, s, r, h => nomatch (show none = some r from h)
 | n + 1, v1, v2, v4, s, r, h => okg24_3 l Z a0 hw n0 _ (ok24_3 l Z a0 hw n0 n) n v1 v2 v4 s r h
def f_chargeVolume (n : Nat) (p1 : Int32) (p2 : Int64) (s : St) : Option (Int64) :=
 f_chargeVolume_3 n p1 p2 (0 : Int32) s
theorem ok24 (l : Launch) (Z : State) (a0 : Array Value) (hw : HW a0 Z) (n : Nat) (p1 : Int32) (p2 : Int64) (s : St) (r : Int64) (h : f_chargeVolume n p1 p2 s = some r) : CS l Z CN lay y24 prog_1_method_10_code 5 (some FieldType.long) R24 0 [.ref 0, .int p1, .long p2] (Hb 0 s) (P24 s r) := by
 refine CS.of_wp pn_cls (leb rfl) fun n0 => ?_
 show W24 l Z n0 (P24 s r) 0 0 0 (vR 0 :: vI p1 :: vJ p2 :: vS :: vU :: []) [] (Hb 0 s)
 unfold f_chargeVolume at h
 refine WP.iconst (0 : Int32) d24_0 rfl ?_
 refine WP.istore (L' := (vR 0 :: vI p1 :: vJ p2 :: vS :: vI (0 : Int32) :: [])) d24_1 (leb rfl) rfl ?_
 exact WP.weak (L' := (vR 0 :: vI p1 :: vJ p2 :: vS :: vI (0 : Int32) :: [])) ⟨rfl, rfl, rfl, rfl, rfl, trivial⟩ (ok24_3 l Z a0 hw n0 n p1 p2 (0 : Int32) s _ h)
theorem d21_0 : dc k8 0 (.lconst 0) 1 := by decide +kernel
theorem d21_1 : dc k8 1 (.lstore 4) 2 := by decide +kernel
theorem d21_3 : dc k8 3 (.lconst 0) 1 := by decide +kernel
theorem d21_4 : dc k8 4 (.lstore 6) 2 := by decide +kernel
theorem d21_6 : dc k8 6 (.iconst 0) 1 := by decide +kernel
theorem d21_7 : dc k8 7 (.istore 8) 2 := by decide +kernel
theorem d21_9 : dc k8 9 (.iload 8) 2 := by decide +kernel
theorem d21_11 : dc k8 11 (.iconst 4) 1 := by decide +kernel
theorem d21_12 : dc k8 12 (.if_icmp .ge 60) 3 := by decide +kernel
theorem d21_15 : dc k8 15 (.aload_n 0) 1 := by decide +kernel
theorem d21_16 : dc k8 16 (.iload_n 1) 1 := by decide +kernel
theorem d21_17 : dc k8 17 (.iload 8) 2 := by decide +kernel
theorem d21_19 : dc k8 19 (.invokevirtual 106) 3 := by decide +kernel
theorem d21_22 : dc k8 22 (.lstore 9) 2 := by decide +kernel
theorem d21_24 : dc k8 24 (.lload_n 2) 1 := by decide +kernel
theorem d21_25 : dc k8 25 (.lload 9) 2 := by decide +kernel
theorem d21_27 : dc k8 27 (.lcmp) 1 := by decide +kernel
theorem d21_28 : dc k8 28 (.ifCond .ge 7) 3 := by decide +kernel
theorem d21_31 : dc k8 31 (.lload_n 2) 1 := by decide +kernel
theorem d21_32 : dc k8 32 (.goto 5) 3 := by decide +kernel
theorem d21_35 : dc k8 35 (.lload 9) 2 := by decide +kernel
theorem d21_37 : dc k8 37 (.lstore 11) 2 := by decide +kernel
theorem d21_39 : dc k8 39 (.lload 4) 2 := by decide +kernel
theorem d21_41 : dc k8 41 (.lload 11) 2 := by decide +kernel
theorem d21_43 : dc k8 43 (.lload 6) 2 := by decide +kernel
theorem d21_45 : dc k8 45 (.lsub) 1 := by decide +kernel
theorem d21_46 : dc k8 46 (.aload_n 0) 1 := by decide +kernel
theorem d21_47 : dc k8 47 (.getfield 19) 3 := by decide +kernel
theorem d21_50 : dc k8 50 (.iload_n 1) 1 := by decide +kernel
theorem d21_51 : dc k8 51 (.iconst 4) 1 := by decide +kernel
theorem d21_52 : dc k8 52 (.imul) 1 := by decide +kernel
theorem d21_53 : dc k8 53 (.iload 8) 2 := by decide +kernel
theorem d21_55 : dc k8 55 (.iadd) 1 := by decide +kernel
theorem d21_56 : dc k8 56 (.iaload) 1 := by decide +kernel
theorem d21_57 : dc k8 57 (.i2l) 1 := by decide +kernel
theorem d21_58 : dc k8 58 (.lmul) 1 := by decide +kernel
theorem d21_59 : dc k8 59 (.ladd) 1 := by decide +kernel
theorem d21_60 : dc k8 60 (.lstore 4) 2 := by decide +kernel
theorem d21_62 : dc k8 62 (.lload 11) 2 := by decide +kernel
theorem d21_64 : dc k8 64 (.lstore 6) 2 := by decide +kernel
theorem d21_66 : dc k8 66 (.iinc 8 1) 3 := by decide +kernel
theorem d21_69 : dc k8 69 (.goto (-60)) 3 := by decide +kernel
theorem d21_72 : dc k8 72 (.lload 4) 2 := by decide +kernel
theorem d21_74 : dc k8 74 (.lreturn) 1 := by decide +kernel
abbrev y21 : MethodName := ⟨"BillingRun", "chargeGraduated", "(IJ)J"⟩
theorem hy21 : y21.cls ≠ "java/lang/invoke/MethodHandle" ∧ y21.cls ≠ "java/lang/invoke/VarHandle" := by decide
theorem pd21 : parseMethodDescriptor y21.desc = some ⟨[.int, .long], some .long⟩ := by decide +kernel
abbrev R21 : Room := { frames := 1, cells := 0, slots := 0, locals := 19 }
abbrev P21 (s : St) (r : Int64) : Option Value → List OwnC → Prop := fun v H' => v = some (.long r) ∧ H' = (Hb 0 s)
abbrev W21 (l : Launch) (Z : State) (n0 : Nat) (Q : Option Value → List OwnC → Prop) (k n pc : Nat) (L : List Slot) (S : List Value) (H : List OwnC) : Prop := WP l Z CN lay "BillingRun" "chargeGraduated" prog_1_method_9_code 13 (some FieldType.long) R21 n0 0 Q k n pc L S H
def f_chargeGraduated_37 (k9 : KT10) (n : Nat) (v1 : Int32) (v2 v4 v6 : Int64) (v8 : Int32) (t0 : Int64) (s : St) : Option (Int64) :=
 (rd (gA s 3) ((v1 * (4 : Int32)) + v8)).bind fun x1 =>
 lt (v4 + ((t0 - v6) * x1.toInt64)) fun x2 =>
 lt (v8 + (1 : Int32)) fun x3 =>
 k9 v1 v2 x2 t0 x3 s
abbrev HK21_9 (l : Launch) (Z : State) (n0 : Nat) (k9 : KT10) : Prop := ∀ (v1 : Int32) (v2 v4 v6 : Int64) (v8 : Int32) (s : St) (r : Int64), k9 v1 v2 v4 v6 v8 s = some r → W21 l Z n0 (P21 s r) 0 0 9 (vR 0 :: vI v1 :: vJ v2 :: vS :: vJ v4 :: vS :: vJ v6 :: vS :: vI v8 :: vU :: vU :: vU :: vU :: []) [] (Hb 0 s)
theorem ok21_37 (l : Launch) (Z : State) (a0 : Array Value) (hw : HW a0 Z) (n0 : Nat) (k9 : KT10) (hk9 : HK21_9 l Z n0 k9) (n : Nat) (v1 : Int32) (v2 v4 v6 : Int64) (v8 : Int32) (t0 : Int64) (s : St) (r : Int64) (h : f_chargeGraduated_37 k9 n v1 v2 v4 v6 v8 t0 s = some r) : W21 l Z n0 (P21 s r) 0 0 37 (vR 0 :: vI v1 :: vJ v2 :: vS :: vJ v4 :: vS :: vJ v6 :: vS :: vI v8 :: vU :: vU :: vU :: vU :: []) [.long t0] (Hb 0 s) := by
 unfold f_chargeGraduated_37 at h
 refine WP.lstore (L' := (vR 0 :: vI v1 :: vJ v2 :: vS :: vJ v4 :: vS :: vJ v6 :: vS :: vI v8 :: vU :: vU :: vJ t0 :: vS :: [])) d21_37 (leb rfl) rfl ?_
 refine WP.lload d21_39 rfl ?_
 refine WP.lload d21_41 rfl ?_
 refine WP.lload d21_43 rfl ?_
 refine WP.lsub d21_45 ?_
 refine WP.aloadN d21_46 rfl ?_
 refine WP.getfield (i := 0) (j := 7) d21_47 (hw _ m_23) rfl rfl rfl ?_
 refine WP.iloadN d21_50 rfl ?_
 refine WP.iconst (4 : Int32) d21_51 rfl ?_
 refine WP.imul d21_52 ?_
 refine WP.iload d21_53 rfl ?_
 refine WP.iadd d21_55 ?_
 obtain ⟨x1, hx1, h⟩ := bd h
 refine WP.iaload (i := 4) d21_56 rfl hx1 ?_
 refine WP.i2l d21_57 ?_
 refine WP.lmul d21_58 ?_
 refine WP.ladd d21_59 ?_
 obtain ⟨x2, ex2, h⟩ := lt_e h
 refine WP.lstore (L' := (vR 0 :: vI v1 :: vJ v2 :: vS :: vJ x2 :: vS :: vJ v6 :: vS :: vI v8 :: vU :: vU :: vJ t0 :: vS :: [])) d21_60 (leb rfl) (by subst ex2; rfl) ?_
 refine WP.lload d21_62 rfl ?_
 refine WP.lstore (L' := (vR 0 :: vI v1 :: vJ v2 :: vS :: vJ x2 :: vS :: vJ t0 :: vS :: vI v8 :: vU :: vU :: vJ t0 :: vS :: [])) d21_64 (leb rfl) rfl ?_
 obtain ⟨x3, ex3, h⟩ := lt_e h
 refine WP.iinc (L' := (vR 0 :: vI v1 :: vJ v2 :: vS :: vJ x2 :: vS :: vJ t0 :: vS :: vI x3 :: vU :: vU :: vJ t0 :: vS :: [])) (1 : Int32) d21_66 rfl rfl (by subst ex3; rfl) ?_
 refine WP.goto (pc' := 9) d21_69 (by decide) rfl ?_
 exact WP.weak (L' := (vR 0 :: vI v1 :: vJ v2 :: vS :: vJ x2 :: vS :: vJ t0 :: vS :: vI x3 :: vU :: vU :: vU :: vU :: [])) ⟨rfl, rfl, rfl, rfl, rfl, rfl, rfl, rfl, rfl, trivial⟩ (hk9 v1 v2 x2 t0 x3 s _ h)
def g_chargeGraduated_9 (k9 : KT10) (n : Nat) (v1 : Int32) (v2 v4 v6 : Int64) (v8 : Int32) (s : St) : Option (Int64) :=
 if v8 < (4 : Int32) then
  (f_effBound n v1 v8 s).bind fun c2 =>
  if v2 < c2 then
   f_chargeGraduated_37 k9 n v1 v2 v4 v6 v8 v2 s
  else
   f_chargeGraduated_37 k9 n v1 v2 v4 v6 v8 c2 s
 else
  some v4
theorem okg21_9 (l : Launch) (Z : State) (a0 : Array Value) (hw : HW a0 Z) (n0 : Nat) (k9 : KT10) (hk9 : HK21_9 l Z n0 k9) (n : Nat) (v1 : Int32) (v2 v4 v6 : Int64) (v8 : Int32) (s : St) (r : Int64) (h : g_chargeGraduated_9 k9 n v1 v2 v4 v6 v8 s = some r) : W21 l Z n0 (P21 s r) 0 0 9 (vR 0 :: vI v1 :: vJ v2 :: vS :: vJ v4 :: vS :: vJ v6 :: vS :: vI v8 :: vU :: vU :: vU :: vU :: []) [] (Hb 0 s) := by
 unfold g_chargeGraduated_9 at h
 refine WP.iload d21_9 rfl ?_
 refine WP.iconst (4 : Int32) d21_11 rfl ?_
 rcases ite_e h with ⟨hc1, h⟩ | ⟨hc1, h⟩
 ·
  refine WP.icmpN d21_12 (XT.ii_ge_f hc1) ?_
  refine WP.aloadN d21_15 rfl ?_
  refine WP.iloadN d21_16 rfl ?_
  refine WP.iload d21_17 rfl ?_
  obtain ⟨c2, hc2, h⟩ := bd h
  refine WP.callP (i := 0) (y := y22) (as := [.int v1, .int v8]) (S := []) d21_19 (hw _ m_167) (hw _ m_169) (hw _ m_8) (hw _ m_168) (hw _ m_170) (hw _ m_9) hy22 rfl (ok22 l Z a0 hw n v1 v8 s _ hc2) rfl (lenOf pd22 rfl) (leb rfl) (leb rfl) (leb rfl) (leb rfl) ?_
  rintro _ _ ⟨rfl, rfl⟩
  show W21 l Z n0 (P21 s r) 0 0 22 (vR 0 :: vI v1 :: vJ v2 :: vS :: vJ v4 :: vS :: vJ v6 :: vS :: vI v8 :: vU :: vU :: vU :: vU :: []) [.long c2] (Hb 0 s)
  refine WP.lstore (L' := (vR 0 :: vI v1 :: vJ v2 :: vS :: vJ v4 :: vS :: vJ v6 :: vS :: vI v8 :: vJ c2 :: vS :: vU :: vU :: [])) d21_22 (leb rfl) rfl ?_
  refine WP.lloadN d21_24 rfl ?_
  refine WP.lload d21_25 rfl ?_
  refine WP.lcmp d21_27 ?_
  rcases ite_e h with ⟨hc3, h⟩ | ⟨hc3, h⟩
  ·
   refine WP.ifN d21_28 (XT.ll_ge_f hc3) ?_
   refine WP.lloadN d21_31 rfl ?_
   refine WP.goto (pc' := 37) d21_32 (by decide) rfl ?_
   exact WP.weak (L' := (vR 0 :: vI v1 :: vJ v2 :: vS :: vJ v4 :: vS :: vJ v6 :: vS :: vI v8 :: vU :: vU :: vU :: vU :: [])) ⟨rfl, rfl, rfl, rfl, rfl, rfl, rfl, rfl, rfl, trivial⟩ (ok21_37 l Z a0 hw n0 _ hk9 n v1 v2 v4 v6 v8 v2 s _ h)
  ·
   refine WP.ifY (pc' := 35) d21_28 (XT.ll_ge_t hc3) (by decide) rfl ?_
   refine WP.lload d21_35 rfl ?_
   exact WP.weak (L' := (vR 0 :: vI v1 :: vJ v2 :: vS :: vJ v4 :: vS :: vJ v6 :: vS :: vI v8 :: vU :: vU :: vU :: vU :: [])) ⟨rfl, rfl, rfl, rfl, rfl, rfl, rfl, rfl, rfl, trivial⟩ (ok21_37 l Z a0 hw n0 _ hk9 n v1 v2 v4 v6 v8 c2 s _ h)
 ·
  refine WP.icmpY (pc' := 72) d21_12 (XT.ii_ge_t hc1) (by decide) rfl ?_
  refine WP.lload d21_72 rfl ?_
  cases h
  exact WP.lreturn d21_74 rfl (leb rfl) (leb rfl) ⟨rfl, rfl⟩
def f_chargeGraduated_9 : Nat → Int32 → Int64 → Int64 → Int64 → Int32 → St → Option (Int64)
 | 0 => fun _ _ _ _ _ _ => none
 | n + 1 => g_chargeGraduated_9 (f_chargeGraduated_9 n) n
theorem ok21_9 (l : Launch) (Z : State) (a0 : Array Value) (hw : HW a0 Z) (n0 : Nat) : ∀ (n : Nat) (v1 : Int32) (v2 v4 v6 : Int64) (v8 : Int32) (s : St) (r : Int64), f_chargeGraduated_9 n v1 v2 v4 v6 v8 s = some r → W21 l Z n0 (P21 s r) 0 0 9 (vR 0 :: vI v1 :: vJ v2 :: vS :: vJ v4 :: vS :: vJ v6 :: vS :: vI v8 :: vU :: vU :: vU :: vU :: []) [] (Hb 0 s)
 | 0, v1, v2, v4, v6, v8, s, r, h => nomatch (show none = some r from h)
 | n + 1, v1, v2, v4, v6, v8, s, r, h => okg21_9 l Z a0 hw n0 _ (ok21_9 l Z a0 hw n0 n) n v1 v2 v4 v6 v8 s r h
def f_chargeGraduated (n : Nat) (p1 : Int32) (p2 : Int64) (s : St) : Option (Int64) :=
 f_chargeGraduated_9 n p1 p2 (0 : Int64) (0 : Int64) (0 : Int32) s
theorem ok21 (l : Launch) (Z : State) (a0 : Array Value) (hw : HW a0 Z) (n : Nat) (p1 : Int32) (p2 : Int64) (s : St) (r : Int64) (h : f_chargeGraduated n p1 p2 s = some r) : CS l Z CN lay y21 prog_1_method_9_code 13 (some FieldType.long) R21 0 [.ref 0, .int p1, .long p2] (Hb 0 s) (P21 s r) := by
 refine CS.of_wp pn_cls (leb rfl) fun n0 => ?_
 show W21 l Z n0 (P21 s r) 0 0 0 (vR 0 :: vI p1 :: vJ p2 :: vS :: vU :: vU :: vU :: vU :: vU :: vU :: vU :: vU :: vU :: []) [] (Hb 0 s)
 unfold f_chargeGraduated at h
 refine WP.lconst (0 : Int64) d21_0 rfl ?_
 refine WP.lstore (L' := (vR 0 :: vI p1 :: vJ p2 :: vS :: vJ (0 : Int64) :: vS :: vU :: vU :: vU :: vU :: vU :: vU :: vU :: [])) d21_1 (leb rfl) rfl ?_
 refine WP.lconst (0 : Int64) d21_3 rfl ?_
 refine WP.lstore (L' := (vR 0 :: vI p1 :: vJ p2 :: vS :: vJ (0 : Int64) :: vS :: vJ (0 : Int64) :: vS :: vU :: vU :: vU :: vU :: vU :: [])) d21_4 (leb rfl) rfl ?_
 refine WP.iconst (0 : Int32) d21_6 rfl ?_
 refine WP.istore (L' := (vR 0 :: vI p1 :: vJ p2 :: vS :: vJ (0 : Int64) :: vS :: vJ (0 : Int64) :: vS :: vI (0 : Int32) :: vU :: vU :: vU :: vU :: [])) d21_7 (leb rfl) rfl ?_
 exact WP.weak (L' := (vR 0 :: vI p1 :: vJ p2 :: vS :: vJ (0 : Int64) :: vS :: vJ (0 : Int64) :: vS :: vI (0 : Int32) :: vU :: vU :: vU :: vU :: [])) ⟨rfl, rfl, rfl, rfl, rfl, rfl, rfl, rfl, rfl, trivial⟩ (ok21_9 l Z a0 hw n0 n p1 p2 (0 : Int64) (0 : Int64) (0 : Int32) s _ h)
theorem d20_0 : dc k10 0 (.aload_n 0) 1 := by decide +kernel
theorem d20_1 : dc k10 1 (.getfield 13) 3 := by decide +kernel
theorem d20_4 : dc k10 4 (.iload_n 1) 1 := by decide +kernel
theorem d20_5 : dc k10 5 (.iaload) 1 := by decide +kernel
theorem d20_6 : dc k10 6 (.iconst 1) 1 := by decide +kernel
theorem d20_7 : dc k10 7 (.if_icmp .ne 10) 3 := by decide +kernel
theorem d20_10 : dc k10 10 (.aload_n 0) 1 := by decide +kernel
theorem d20_11 : dc k10 11 (.iload_n 1) 1 := by decide +kernel
theorem d20_12 : dc k10 12 (.lload_n 2) 1 := by decide +kernel
theorem d20_13 : dc k10 13 (.invokevirtual 110) 3 := by decide +kernel
theorem d20_16 : dc k10 16 (.lreturn) 1 := by decide +kernel
theorem d20_17 : dc k10 17 (.aload_n 0) 1 := by decide +kernel
theorem d20_18 : dc k10 18 (.iload_n 1) 1 := by decide +kernel
theorem d20_19 : dc k10 19 (.lload_n 2) 1 := by decide +kernel
theorem d20_20 : dc k10 20 (.invokevirtual 114) 3 := by decide +kernel
theorem d20_23 : dc k10 23 (.lreturn) 1 := by decide +kernel
abbrev y20 : MethodName := ⟨"BillingRun", "charge", "(IJ)J"⟩
theorem hy20 : y20.cls ≠ "java/lang/invoke/MethodHandle" ∧ y20.cls ≠ "java/lang/invoke/VarHandle" := by decide
theorem pd20 : parseMethodDescriptor y20.desc = some ⟨[.int, .long], some .long⟩ := by decide +kernel
abbrev R20 : Room := { frames := 2, cells := 0, slots := 0, locals := 43 }
abbrev P20 (s : St) (r : Int64) : Option Value → List OwnC → Prop := fun v H' => v = some (.long r) ∧ H' = (Hb 0 s)
abbrev W20 (l : Launch) (Z : State) (n0 : Nat) (Q : Option Value → List OwnC → Prop) (k n pc : Nat) (L : List Slot) (S : List Value) (H : List OwnC) : Prop := WP l Z CN lay "BillingRun" "charge" prog_1_method_11_code 4 (some FieldType.long) R20 n0 0 Q k n pc L S H
def f_charge (n : Nat) (p1 : Int32) (p2 : Int64) (s : St) : Option (Int64) :=
 (rd (gA s 1) p1).bind fun x1 =>
 if x1 = (1 : Int32) then
  (f_chargeVolume n p1 p2 s).bind fun c3 =>
  some c3
 else
  (f_chargeGraduated n p1 p2 s).bind fun c4 =>
  some c4
theorem ok20 (l : Launch) (Z : State) (a0 : Array Value) (hw : HW a0 Z) (n : Nat) (p1 : Int32) (p2 : Int64) (s : St) (r : Int64) (h : f_charge n p1 p2 s = some r) : CS l Z CN lay y20 prog_1_method_11_code 4 (some FieldType.long) R20 0 [.ref 0, .int p1, .long p2] (Hb 0 s) (P20 s r) := by
 refine CS.of_wp pn_cls (leb rfl) fun n0 => ?_
 show W20 l Z n0 (P20 s r) 0 0 0 (vR 0 :: vI p1 :: vJ p2 :: vS :: []) [] (Hb 0 s)
 unfold f_charge at h
 refine WP.aloadN d20_0 rfl ?_
 refine WP.getfield (i := 0) (j := 5) d20_1 (hw _ m_19) rfl rfl rfl ?_
 refine WP.iloadN d20_4 rfl ?_
 obtain ⟨x1, hx1, h⟩ := bd h
 refine WP.iaload (i := 2) d20_5 rfl hx1 ?_
 refine WP.iconst (1 : Int32) d20_6 rfl ?_
 rcases ite_e h with ⟨hc2, h⟩ | ⟨hc2, h⟩
 ·
  refine WP.icmpN d20_7 (XT.ii_ne_f hc2) ?_
  refine WP.aloadN d20_10 rfl ?_
  refine WP.iloadN d20_11 rfl ?_
  refine WP.lloadN d20_12 rfl ?_
  obtain ⟨c3, hc3, h⟩ := bd h
  refine WP.callP (i := 0) (y := y24) (as := [.int p1, .long p2]) (S := []) d20_13 (hw _ m_176) (hw _ m_178) (hw _ m_8) (hw _ m_177) (hw _ m_179) (hw _ m_9) hy24 rfl (ok24 l Z a0 hw n p1 p2 s _ hc3) rfl (lenOf pd24 rfl) (leb rfl) (leb rfl) (leb rfl) (leb rfl) ?_
  rintro _ _ ⟨rfl, rfl⟩
  show W20 l Z n0 (P20 s r) 0 0 16 (vR 0 :: vI p1 :: vJ p2 :: vS :: []) [.long c3] (Hb 0 s)
  cases h
  exact WP.lreturn d20_16 rfl (leb rfl) (leb rfl) ⟨rfl, rfl⟩
 ·
  refine WP.icmpY (pc' := 17) d20_7 (XT.ii_ne_t hc2) (by decide) rfl ?_
  refine WP.aloadN d20_17 rfl ?_
  refine WP.iloadN d20_18 rfl ?_
  refine WP.lloadN d20_19 rfl ?_
  obtain ⟨c4, hc4, h⟩ := bd h
  refine WP.callP (i := 0) (y := y21) (as := [.int p1, .long p2]) (S := []) d20_20 (hw _ m_163) (hw _ m_165) (hw _ m_8) (hw _ m_164) (hw _ m_166) (hw _ m_9) hy21 rfl (ok21 l Z a0 hw n p1 p2 s _ hc4) rfl (lenOf pd21 rfl) (leb rfl) (leb rfl) (leb rfl) (leb rfl) ?_
  rintro _ _ ⟨rfl, rfl⟩
  show W20 l Z n0 (P20 s r) 0 0 23 (vR 0 :: vI p1 :: vJ p2 :: vS :: []) [.long c4] (Hb 0 s)
  cases h
  exact WP.lreturn d20_23 rfl (leb rfl) (leb rfl) ⟨rfl, rfl⟩
theorem d19_0 : dc k19 0 (.iload_n 1) 1 := by decide +kernel
theorem d19_1 : dc k19 1 (.bipush 8) 2 := by decide +kernel
theorem d19_3 : dc k19 3 (.imul) 1 := by decide +kernel
theorem d19_4 : dc k19 4 (.istore_n 3) 1 := by decide +kernel
theorem d19_5 : dc k19 5 (.lconst 0) 1 := by decide +kernel
theorem d19_6 : dc k19 6 (.lstore 4) 2 := by decide +kernel
theorem d19_8 : dc k19 8 (.iconst 0) 1 := by decide +kernel
theorem d19_9 : dc k19 9 (.istore 6) 2 := by decide +kernel
theorem d19_11 : dc k19 11 (.iload 6) 2 := by decide +kernel
theorem d19_13 : dc k19 13 (.iconst 4) 1 := by decide +kernel
theorem d19_14 : dc k19 14 (.if_icmp .ge 162) 3 := by decide +kernel
theorem d19_17 : dc k19 17 (.iload 6) 2 := by decide +kernel
theorem d19_19 : dc k19 19 (.iload_n 2) 1 := by decide +kernel
theorem d19_20 : dc k19 20 (.if_icmp .lt 6) 3 := by decide +kernel
theorem d19_23 : dc k19 23 (.goto 153) 3 := by decide +kernel
theorem d19_26 : dc k19 26 (.iload_n 1) 1 := by decide +kernel
theorem d19_27 : dc k19 27 (.iconst 4) 1 := by decide +kernel
theorem d19_28 : dc k19 28 (.imul) 1 := by decide +kernel
theorem d19_29 : dc k19 29 (.iload 6) 2 := by decide +kernel
theorem d19_31 : dc k19 31 (.iadd) 1 := by decide +kernel
theorem d19_32 : dc k19 32 (.istore 7) 2 := by decide +kernel
theorem d19_34 : dc k19 34 (.aload_n 0) 1 := by decide +kernel
theorem d19_35 : dc k19 35 (.getfield 48) 3 := by decide +kernel
theorem d19_38 : dc k19 38 (.iload 7) 2 := by decide +kernel
theorem d19_40 : dc k19 40 (.iaload) 1 := by decide +kernel
theorem d19_41 : dc k19 41 (.istore 8) 2 := by decide +kernel
theorem d19_43 : dc k19 43 (.aload_n 0) 1 := by decide +kernel
theorem d19_44 : dc k19 44 (.getfield 45) 3 := by decide +kernel
theorem d19_47 : dc k19 47 (.iload 7) 2 := by decide +kernel
theorem d19_49 : dc k19 49 (.iaload) 1 := by decide +kernel
theorem d19_50 : dc k19 50 (.ifCond .ge 11) 3 := by decide +kernel
theorem d19_53 : dc k19 53 (.aload_n 0) 1 := by decide +kernel
theorem d19_54 : dc k19 54 (.getfield 88) 3 := by decide +kernel
theorem d19_57 : dc k19 57 (.i2l) 1 := by decide +kernel
theorem d19_58 : dc k19 58 (.goto 11) 3 := by decide +kernel
theorem d19_61 : dc k19 61 (.aload_n 0) 1 := by decide +kernel
theorem d19_62 : dc k19 62 (.getfield 45) 3 := by decide +kernel
theorem d19_65 : dc k19 65 (.iload 7) 2 := by decide +kernel
theorem d19_67 : dc k19 67 (.iaload) 1 := by decide +kernel
theorem d19_68 : dc k19 68 (.i2l) 1 := by decide +kernel
theorem d19_69 : dc k19 69 (.lstore 9) 2 := by decide +kernel
theorem d19_71 : dc k19 71 (.aload_n 0) 1 := by decide +kernel
theorem d19_72 : dc k19 72 (.getfield 7) 3 := by decide +kernel
theorem d19_75 : dc k19 75 (.iload 8) 2 := by decide +kernel
theorem d19_77 : dc k19 77 (.iaload) 1 := by decide +kernel
theorem d19_78 : dc k19 78 (.i2l) 1 := by decide +kernel
theorem d19_79 : dc k19 79 (.ldc2_w 104) 3 := by decide +kernel
theorem d19_82 : dc k19 82 (.lmul) 1 := by decide +kernel
theorem d19_83 : dc k19 83 (.lstore 11) 2 := by decide +kernel
theorem d19_85 : dc k19 85 (.lload 11) 2 := by decide +kernel
theorem d19_87 : dc k19 87 (.lload 9) 2 := by decide +kernel
theorem d19_89 : dc k19 89 (.lmul) 1 := by decide +kernel
theorem d19_90 : dc k19 90 (.aload_n 0) 1 := by decide +kernel
theorem d19_91 : dc k19 91 (.getfield 88) 3 := by decide +kernel
theorem d19_94 : dc k19 94 (.i2l) 1 := by decide +kernel
theorem d19_95 : dc k19 95 (.ldiv) 1 := by decide +kernel
theorem d19_96 : dc k19 96 (.lload 11) 2 := by decide +kernel
theorem d19_98 : dc k19 98 (.aload_n 0) 1 := by decide +kernel
theorem d19_99 : dc k19 99 (.getfield 42) 3 := by decide +kernel
theorem d19_102 : dc k19 102 (.iload 7) 2 := by decide +kernel
theorem d19_104 : dc k19 104 (.iaload) 1 := by decide +kernel
theorem d19_105 : dc k19 105 (.i2l) 1 := by decide +kernel
theorem d19_106 : dc k19 106 (.lmul) 1 := by decide +kernel
theorem d19_107 : dc k19 107 (.aload_n 0) 1 := by decide +kernel
theorem d19_108 : dc k19 108 (.getfield 88) 3 := by decide +kernel
theorem d19_111 : dc k19 111 (.i2l) 1 := by decide +kernel
theorem d19_112 : dc k19 112 (.ldiv) 1 := by decide +kernel
theorem d19_113 : dc k19 113 (.lsub) 1 := by decide +kernel
theorem d19_114 : dc k19 114 (.lstore 13) 2 := by decide +kernel
theorem d19_116 : dc k19 116 (.aload_n 0) 1 := by decide +kernel
theorem d19_117 : dc k19 117 (.iload 8) 2 := by decide +kernel
theorem d19_119 : dc k19 119 (.aload_n 0) 1 := by decide +kernel
theorem d19_120 : dc k19 120 (.getfield 51) 3 := by decide +kernel
theorem d19_123 : dc k19 123 (.iload 7) 2 := by decide +kernel
theorem d19_125 : dc k19 125 (.iaload) 1 := by decide +kernel
theorem d19_126 : dc k19 126 (.i2l) 1 := by decide +kernel
theorem d19_127 : dc k19 127 (.invokevirtual 119) 3 := by decide +kernel
theorem d19_130 : dc k19 130 (.lstore 15) 2 := by decide +kernel
theorem d19_132 : dc k19 132 (.aload_n 0) 1 := by decide +kernel
theorem d19_133 : dc k19 133 (.getfield 72) 3 := by decide +kernel
theorem d19_136 : dc k19 136 (.iload_n 3) 1 := by decide +kernel
theorem d19_137 : dc k19 137 (.iconst 2) 1 := by decide +kernel
theorem d19_138 : dc k19 138 (.iload 6) 2 := by decide +kernel
theorem d19_140 : dc k19 140 (.imul) 1 := by decide +kernel
theorem d19_141 : dc k19 141 (.iadd) 1 := by decide +kernel
theorem d19_142 : dc k19 142 (.lload 13) 2 := by decide +kernel
theorem d19_144 : dc k19 144 (.lastore) 1 := by decide +kernel
theorem d19_145 : dc k19 145 (.aload_n 0) 1 := by decide +kernel
theorem d19_146 : dc k19 146 (.getfield 72) 3 := by decide +kernel
theorem d19_149 : dc k19 149 (.iload_n 3) 1 := by decide +kernel
theorem d19_150 : dc k19 150 (.iconst 2) 1 := by decide +kernel
theorem d19_151 : dc k19 151 (.iload 6) 2 := by decide +kernel
theorem d19_153 : dc k19 153 (.imul) 1 := by decide +kernel
theorem d19_154 : dc k19 154 (.iadd) 1 := by decide +kernel
theorem d19_155 : dc k19 155 (.iconst 1) 1 := by decide +kernel
theorem d19_156 : dc k19 156 (.iadd) 1 := by decide +kernel
theorem d19_157 : dc k19 157 (.lload 15) 2 := by decide +kernel
theorem d19_159 : dc k19 159 (.lastore) 1 := by decide +kernel
theorem d19_160 : dc k19 160 (.lload 4) 2 := by decide +kernel
theorem d19_162 : dc k19 162 (.lload 13) 2 := by decide +kernel
theorem d19_164 : dc k19 164 (.lload 15) 2 := by decide +kernel
theorem d19_166 : dc k19 166 (.ladd) 1 := by decide +kernel
theorem d19_167 : dc k19 167 (.ladd) 1 := by decide +kernel
theorem d19_168 : dc k19 168 (.lstore 4) 2 := by decide +kernel
theorem d19_170 : dc k19 170 (.iinc 6 1) 3 := by decide +kernel
theorem d19_173 : dc k19 173 (.goto (-162)) 3 := by decide +kernel
theorem d19_176 : dc k19 176 (.iconst 2) 1 := by decide +kernel
theorem d19_177 : dc k19 177 (.iload_n 2) 1 := by decide +kernel
theorem d19_178 : dc k19 178 (.imul) 1 := by decide +kernel
theorem d19_179 : dc k19 179 (.istore 6) 2 := by decide +kernel
theorem d19_181 : dc k19 181 (.iload 6) 2 := by decide +kernel
theorem d19_183 : dc k19 183 (.bipush 8) 2 := by decide +kernel
theorem d19_185 : dc k19 185 (.if_icmp .ge 29) 3 := by decide +kernel
theorem d19_188 : dc k19 188 (.aload_n 0) 1 := by decide +kernel
theorem d19_189 : dc k19 189 (.getfield 72) 3 := by decide +kernel
theorem d19_192 : dc k19 192 (.iload_n 3) 1 := by decide +kernel
theorem d19_193 : dc k19 193 (.iload 6) 2 := by decide +kernel
theorem d19_195 : dc k19 195 (.iadd) 1 := by decide +kernel
theorem d19_196 : dc k19 196 (.lconst 0) 1 := by decide +kernel
theorem d19_197 : dc k19 197 (.lastore) 1 := by decide +kernel
theorem d19_198 : dc k19 198 (.aload_n 0) 1 := by decide +kernel
theorem d19_199 : dc k19 199 (.getfield 75) 3 := by decide +kernel
theorem d19_202 : dc k19 202 (.iload_n 3) 1 := by decide +kernel
theorem d19_203 : dc k19 203 (.iload 6) 2 := by decide +kernel
theorem d19_205 : dc k19 205 (.iadd) 1 := by decide +kernel
theorem d19_206 : dc k19 206 (.lconst 0) 1 := by decide +kernel
theorem d19_207 : dc k19 207 (.lastore) 1 := by decide +kernel
theorem d19_208 : dc k19 208 (.iinc 6 1) 3 := by decide +kernel
theorem d19_211 : dc k19 211 (.goto (-30)) 3 := by decide +kernel
theorem d19_214 : dc k19 214 (.lload 4) 2 := by decide +kernel
theorem d19_216 : dc k19 216 (.lreturn) 1 := by decide +kernel
abbrev y19 : MethodName := ⟨"BillingRun", "fillLines", "(II)J"⟩
theorem hy19 : y19.cls ≠ "java/lang/invoke/MethodHandle" ∧ y19.cls ≠ "java/lang/invoke/VarHandle" := by decide
theorem pd19 : parseMethodDescriptor y19.desc = some ⟨[.int, .int], some .long⟩ := by decide +kernel
abbrev R19 : Room := { frames := 3, cells := 0, slots := 0, locals := 58 }
abbrev P19 (r : Int64 × St) : Option Value → List OwnC → Prop := fun v H' => v = some (.long r.1) ∧ H' = (Hb 0 r.2)
abbrev W19 (l : Launch) (Z : State) (n0 : Nat) (Q : Option Value → List OwnC → Prop) (k n pc : Nat) (L : List Slot) (S : List Value) (H : List OwnC) : Prop := WP l Z CN lay "BillingRun" "fillLines" prog_1_method_21_code 17 (some FieldType.long) R19 n0 0 Q k n pc L S H
def f_fillLines_69 (k11 : KT11) (n : Nat) (v1 v2 v3 : Int32) (v4 : Int64) (v6 v7 v8 : Int32) (t0 : Int64) (s : St) : Option (Int64 × St) :=
 (rd (gA s 0) v8).bind fun x1 =>
 lt (x1.toInt64 * (1000000 : Int64)) fun x2 =>
 if (gI s 0).toInt64 = 0 then none else
 (rd (gA s 7) v7).bind fun x4 =>
 if (gI s 0).toInt64 = 0 then none else
 lt (((x2 * t0) / ((gI s 0).toInt64)) - ((x2 * x4.toInt64) / ((gI s 0).toInt64))) fun x6 =>
 (rd (gA s 10) v7).bind fun x7 =>
 (f_charge n v8 x7.toInt64 s).bind fun c8 =>
 (wrB s 7 (v3 + ((2 : Int32) * v6)) x6).bind fun s9 =>
 (wrB s9 7 ((v3 + ((2 : Int32) * v6)) + (1 : Int32)) c8).bind fun s10 =>
 lt (v4 + (x6 + c8)) fun x11 =>
 lt (v6 + (1 : Int32)) fun x12 =>
 k11 v1 v2 v3 x11 x12 s10
abbrev HK19_11 (l : Launch) (Z : State) (n0 : Nat) (k11 : KT11) : Prop := ∀ (v1 v2 v3 : Int32) (v4 : Int64) (v6 : Int32) (s : St) (r : Int64 × St), k11 v1 v2 v3 v4 v6 s = some r → W19 l Z n0 (P19 r) 0 0 11 (vR 0 :: vI v1 :: vI v2 :: vI v3 :: vJ v4 :: vS :: vI v6 :: vU :: vU :: vU :: vU :: vU :: vU :: vU :: vU :: vU :: vU :: []) [] (Hb 0 s)
theorem ok19_69 (l : Launch) (Z : State) (a0 : Array Value) (hw : HW a0 Z) (n0 : Nat) (k11 : KT11) (hk11 : HK19_11 l Z n0 k11) (n : Nat) (v1 v2 v3 : Int32) (v4 : Int64) (v6 v7 v8 : Int32) (t0 : Int64) (s : St) (r : Int64 × St) (h : f_fillLines_69 k11 n v1 v2 v3 v4 v6 v7 v8 t0 s = some r) : W19 l Z n0 (P19 r) 0 0 69 (vR 0 :: vI v1 :: vI v2 :: vI v3 :: vJ v4 :: vS :: vI v6 :: vI v7 :: vI v8 :: vU :: vU :: vU :: vU :: vU :: vU :: vU :: vU :: []) [.long t0] (Hb 0 s) := by
 unfold f_fillLines_69 at h
 refine WP.lstore (L' := (vR 0 :: vI v1 :: vI v2 :: vI v3 :: vJ v4 :: vS :: vI v6 :: vI v7 :: vI v8 :: vJ t0 :: vS :: vU :: vU :: vU :: vU :: vU :: vU :: [])) d19_69 (leb rfl) rfl ?_
 refine WP.aloadN d19_71 rfl ?_
 refine WP.getfield (i := 0) (j := 4) d19_72 (hw _ m_17) rfl rfl rfl ?_
 refine WP.iload d19_75 rfl ?_
 obtain ⟨x1, hx1, h⟩ := bd h
 refine WP.iaload (i := 1) d19_77 rfl hx1 ?_
 refine WP.i2l d19_78 ?_
 refine WP.ldc2 d19_79 (hw _ m_158) ?_
 refine WP.lmul d19_82 ?_
 obtain ⟨x2, ex2, h⟩ := lt_e h
 refine WP.lstore (L' := (vR 0 :: vI v1 :: vI v2 :: vI v3 :: vJ v4 :: vS :: vI v6 :: vI v7 :: vI v8 :: vJ t0 :: vS :: vJ x2 :: vS :: vU :: vU :: vU :: vU :: [])) d19_83 (leb rfl) (by subst ex2; rfl) ?_
 refine WP.lload d19_85 rfl ?_
 refine WP.lload d19_87 rfl ?_
 refine WP.lmul d19_89 ?_
 refine WP.aloadN d19_90 rfl ?_
 refine WP.getfield (i := 0) (j := 0) d19_91 (hw _ m_70) rfl rfl rfl ?_
 refine WP.i2l d19_94 ?_
 obtain ⟨hz3, h⟩ := nz_e h
 refine WP.ldiv d19_95 hz3 ?_
 refine WP.lload d19_96 rfl ?_
 refine WP.aloadN d19_98 rfl ?_
 refine WP.getfield (i := 0) (j := 14) d19_99 (hw _ m_39) rfl rfl rfl ?_
 refine WP.iload d19_102 rfl ?_
 obtain ⟨x4, hx4, h⟩ := bd h
 refine WP.iaload (i := 11) d19_104 rfl hx4 ?_
 refine WP.i2l d19_105 ?_
 refine WP.lmul d19_106 ?_
 refine WP.aloadN d19_107 rfl ?_
 refine WP.getfield (i := 0) (j := 0) d19_108 (hw _ m_70) rfl rfl rfl ?_
 refine WP.i2l d19_111 ?_
 obtain ⟨hz5, h⟩ := nz_e h
 refine WP.ldiv d19_112 hz5 ?_
 refine WP.lsub d19_113 ?_
 obtain ⟨x6, ex6, h⟩ := lt_e h
 refine WP.lstore (L' := (vR 0 :: vI v1 :: vI v2 :: vI v3 :: vJ v4 :: vS :: vI v6 :: vI v7 :: vI v8 :: vJ t0 :: vS :: vJ x2 :: vS :: vJ x6 :: vS :: vU :: vU :: [])) d19_114 (leb rfl) (by subst ex6; rfl) ?_
 refine WP.aloadN d19_116 rfl ?_
 refine WP.iload d19_117 rfl ?_
 refine WP.aloadN d19_119 rfl ?_
 refine WP.getfield (i := 0) (j := 17) d19_120 (hw _ m_45) rfl rfl rfl ?_
 refine WP.iload d19_123 rfl ?_
 obtain ⟨x7, hx7, h⟩ := bd h
 refine WP.iaload (i := 14) d19_125 rfl hx7 ?_
 refine WP.i2l d19_126 ?_
 obtain ⟨c8, hc8, h⟩ := bd h
 refine WP.callP (i := 0) (y := y20) (as := [.int v8, .long x7.toInt64]) (S := []) d19_127 (hw _ m_159) (hw _ m_161) (hw _ m_8) (hw _ m_160) (hw _ m_162) (hw _ m_9) hy20 rfl (ok20 l Z a0 hw n v8 x7.toInt64 s _ hc8) rfl (lenOf pd20 rfl) (leb rfl) (leb rfl) (leb rfl) (leb rfl) ?_
 rintro _ _ ⟨rfl, rfl⟩
 show W19 l Z n0 (P19 r) 0 0 130 (vR 0 :: vI v1 :: vI v2 :: vI v3 :: vJ v4 :: vS :: vI v6 :: vI v7 :: vI v8 :: vJ t0 :: vS :: vJ x2 :: vS :: vJ x6 :: vS :: vU :: vU :: []) [.long c8] (Hb 0 s)
 refine WP.lstore (L' := (vR 0 :: vI v1 :: vI v2 :: vI v3 :: vJ v4 :: vS :: vI v6 :: vI v7 :: vI v8 :: vJ t0 :: vS :: vJ x2 :: vS :: vJ x6 :: vS :: vJ c8 :: vS :: [])) d19_130 (leb rfl) rfl ?_
 refine WP.aloadN d19_132 rfl ?_
 refine WP.getfield (i := 0) (j := 24) d19_133 (hw _ m_59) rfl rfl rfl ?_
 refine WP.iloadN d19_136 rfl ?_
 refine WP.iconst (2 : Int32) d19_137 rfl ?_
 refine WP.iload d19_138 rfl ?_
 refine WP.imul d19_140 ?_
 refine WP.iadd d19_141 ?_
 refine WP.lload d19_142 rfl ?_
 obtain ⟨s9, hs9, h⟩ := bd h
 obtain ⟨ys9, gs9, es9⟩ := wrB_e hs9
 refine WP.lastore (i := 21) (xs := gB s 7) (H' := (Hb 0 s9)) d19_144 rfl (leb rfl) gs9 (by subst es9; rfl) ?_
 refine WP.aloadN d19_145 rfl ?_
 refine WP.getfield (i := 0) (j := 24) d19_146 (hw _ m_59) rfl rfl rfl ?_
 refine WP.iloadN d19_149 rfl ?_
 refine WP.iconst (2 : Int32) d19_150 rfl ?_
 refine WP.iload d19_151 rfl ?_
 refine WP.imul d19_153 ?_
 refine WP.iadd d19_154 ?_
 refine WP.iconst (1 : Int32) d19_155 rfl ?_
 refine WP.iadd d19_156 ?_
 refine WP.lload d19_157 rfl ?_
 obtain ⟨s10, hs10, h⟩ := bd h
 obtain ⟨ys10, gs10, es10⟩ := wrB_e hs10
 refine WP.lastore (i := 21) (xs := gB s9 7) (H' := (Hb 0 s10)) d19_159 rfl (leb rfl) gs10 (by subst es10; rfl) ?_
 refine WP.lload d19_160 rfl ?_
 refine WP.lload d19_162 rfl ?_
 refine WP.lload d19_164 rfl ?_
 refine WP.ladd d19_166 ?_
 refine WP.ladd d19_167 ?_
 obtain ⟨x11, ex11, h⟩ := lt_e h
 refine WP.lstore (L' := (vR 0 :: vI v1 :: vI v2 :: vI v3 :: vJ x11 :: vS :: vI v6 :: vI v7 :: vI v8 :: vJ t0 :: vS :: vJ x2 :: vS :: vJ x6 :: vS :: vJ c8 :: vS :: [])) d19_168 (leb rfl) (by subst ex11; rfl) ?_
 obtain ⟨x12, ex12, h⟩ := lt_e h
 refine WP.iinc (L' := (vR 0 :: vI v1 :: vI v2 :: vI v3 :: vJ x11 :: vS :: vI x12 :: vI v7 :: vI v8 :: vJ t0 :: vS :: vJ x2 :: vS :: vJ x6 :: vS :: vJ c8 :: vS :: [])) (1 : Int32) d19_170 rfl rfl (by subst ex12; rfl) ?_
 refine WP.goto (pc' := 11) d19_173 (by decide) rfl ?_
 exact WP.weak (L' := (vR 0 :: vI v1 :: vI v2 :: vI v3 :: vJ x11 :: vS :: vI x12 :: vU :: vU :: vU :: vU :: vU :: vU :: vU :: vU :: vU :: vU :: [])) ⟨rfl, rfl, rfl, rfl, rfl, rfl, rfl, trivial⟩ (hk11 v1 v2 v3 x11 x12 s10 _ h)
def g_fillLines_181 (k181 : KT13) (n : Nat) (v3 : Int32) (v4 : Int64) (v6 : Int32) (s : St) : Option (Int64 × St) :=
 if v6 < (8 : Int32) then
  (wrB s 7 (v3 + v6) (0 : Int64)).bind fun s2 =>
  (wrB s2 8 (v3 + v6) (0 : Int64)).bind fun s3 =>
  lt (v6 + (1 : Int32)) fun x4 =>
  k181 v3 v4 x4 s3
 else
  some (v4, s)
abbrev HK19_181 (l : Launch) (Z : State) (n0 : Nat) (k181 : KT13) : Prop := ∀ (v3 : Int32) (v4 : Int64) (v6 : Int32) (s : St) (r : Int64 × St), k181 v3 v4 v6 s = some r → W19 l Z n0 (P19 r) 0 0 181 (vR 0 :: vU :: vU :: vI v3 :: vJ v4 :: vS :: vI v6 :: vU :: vU :: vU :: vU :: vU :: vU :: vU :: vU :: vU :: vU :: []) [] (Hb 0 s)
theorem okg19_181 (l : Launch) (Z : State) (a0 : Array Value) (hw : HW a0 Z) (n0 : Nat) (k181 : KT13) (hk181 : HK19_181 l Z n0 k181) (n : Nat) (v3 : Int32) (v4 : Int64) (v6 : Int32) (s : St) (r : Int64 × St) (h : g_fillLines_181 k181 n v3 v4 v6 s = some r) : W19 l Z n0 (P19 r) 0 0 181 (vR 0 :: vU :: vU :: vI v3 :: vJ v4 :: vS :: vI v6 :: vU :: vU :: vU :: vU :: vU :: vU :: vU :: vU :: vU :: vU :: []) [] (Hb 0 s) := by
 unfold g_fillLines_181 at h
 refine WP.iload d19_181 rfl ?_
 refine WP.bipush (8 : Int32) d19_183 rfl ?_
 rcases ite_e h with ⟨hc1, h⟩ | ⟨hc1, h⟩
 ·
  refine WP.icmpN d19_185 (XT.ii_ge_f hc1) ?_
  refine WP.aloadN d19_188 rfl ?_
  refine WP.getfield (i := 0) (j := 24) d19_189 (hw _ m_59) rfl rfl rfl ?_
  refine WP.iloadN d19_192 rfl ?_
  refine WP.iload d19_193 rfl ?_
  refine WP.iadd d19_195 ?_
  refine WP.lconst (0 : Int64) d19_196 rfl ?_
  obtain ⟨s2, hs2, h⟩ := bd h
  obtain ⟨ys2, gs2, es2⟩ := wrB_e hs2
  refine WP.lastore (i := 21) (xs := gB s 7) (H' := (Hb 0 s2)) d19_197 rfl (leb rfl) gs2 (by subst es2; rfl) ?_
  refine WP.aloadN d19_198 rfl ?_
  refine WP.getfield (i := 0) (j := 25) d19_199 (hw _ m_61) rfl rfl rfl ?_
  refine WP.iloadN d19_202 rfl ?_
  refine WP.iload d19_203 rfl ?_
  refine WP.iadd d19_205 ?_
  refine WP.lconst (0 : Int64) d19_206 rfl ?_
  obtain ⟨s3, hs3, h⟩ := bd h
  obtain ⟨ys3, gs3, es3⟩ := wrB_e hs3
  refine WP.lastore (i := 22) (xs := gB s2 8) (H' := (Hb 0 s3)) d19_207 rfl (leb rfl) gs3 (by subst es3; rfl) ?_
  obtain ⟨x4, ex4, h⟩ := lt_e h
  refine WP.iinc (L' := (vR 0 :: vU :: vU :: vI v3 :: vJ v4 :: vS :: vI x4 :: vU :: vU :: vU :: vU :: vU :: vU :: vU :: vU :: vU :: vU :: [])) (1 : Int32) d19_208 rfl rfl (by subst ex4; rfl) ?_
  refine WP.goto (pc' := 181) d19_211 (by decide) rfl ?_
  exact WP.weak (L' := (vR 0 :: vU :: vU :: vI v3 :: vJ v4 :: vS :: vI x4 :: vU :: vU :: vU :: vU :: vU :: vU :: vU :: vU :: vU :: vU :: [])) ⟨rfl, rfl, rfl, rfl, rfl, trivial⟩ (hk181 v3 v4 x4 s3 _ h)
 ·
  refine WP.icmpY (pc' := 214) d19_185 (XT.ii_ge_t hc1) (by decide) rfl ?_
  refine WP.lload d19_214 rfl ?_
  cases h
  exact WP.lreturn d19_216 rfl (leb rfl) (leb rfl) ⟨rfl, rfl⟩
def f_fillLines_181 : Nat → Int32 → Int64 → Int32 → St → Option (Int64 × St)
 | 0 => fun _ _ _ _ => none
 | n + 1 => g_fillLines_181 (f_fillLines_181 n) n
theorem ok19_181 (l : Launch) (Z : State) (a0 : Array Value) (hw : HW a0 Z) (n0 : Nat) : ∀ (n : Nat) (v3 : Int32) (v4 : Int64) (v6 : Int32) (s : St) (r : Int64 × St), f_fillLines_181 n v3 v4 v6 s = some r → W19 l Z n0 (P19 r) 0 0 181 (vR 0 :: vU :: vU :: vI v3 :: vJ v4 :: vS :: vI v6 :: vU :: vU :: vU :: vU :: vU :: vU :: vU :: vU :: vU :: vU :: []) [] (Hb 0 s)
 | 0, v3, v4, v6, s, r, h => nomatch (show none = some r from h)
 | n + 1, v3, v4, v6, s, r, h => okg19_181 l Z a0 hw n0 _ (ok19_181 l Z a0 hw n0 n) n v3 v4 v6 s r h
def f_fillLines_176 (n : Nat) (v2 v3 : Int32) (v4 : Int64) (s : St) : Option (Int64 × St) :=
 lt ((2 : Int32) * v2) fun x1 =>
 f_fillLines_181 n v3 v4 x1 s
theorem ok19_176 (l : Launch) (Z : State) (a0 : Array Value) (hw : HW a0 Z) (n0 n : Nat) (v2 v3 : Int32) (v4 : Int64) (s : St) (r : Int64 × St) (h : f_fillLines_176 n v2 v3 v4 s = some r) : W19 l Z n0 (P19 r) 0 0 176 (vR 0 :: vU :: vI v2 :: vI v3 :: vJ v4 :: vS :: vU :: vU :: vU :: vU :: vU :: vU :: vU :: vU :: vU :: vU :: vU :: []) [] (Hb 0 s) := by
 unfold f_fillLines_176 at h
 refine WP.iconst (2 : Int32) d19_176 rfl ?_
 refine WP.iloadN d19_177 rfl ?_
 refine WP.imul d19_178 ?_
 obtain ⟨x1, ex1, h⟩ := lt_e h
 refine WP.istore (L' := (vR 0 :: vU :: vI v2 :: vI v3 :: vJ v4 :: vS :: vI x1 :: vU :: vU :: vU :: vU :: vU :: vU :: vU :: vU :: vU :: vU :: [])) d19_179 (leb rfl) (by subst ex1; rfl) ?_
 exact WP.weak (L' := (vR 0 :: vU :: vU :: vI v3 :: vJ v4 :: vS :: vI x1 :: vU :: vU :: vU :: vU :: vU :: vU :: vU :: vU :: vU :: vU :: [])) ⟨rfl, rfl, rfl, rfl, rfl, trivial⟩ (ok19_181 l Z a0 hw n0 n v3 v4 x1 s _ h)
def g_fillLines_11 (k11 : KT11) (n : Nat) (v1 v2 v3 : Int32) (v4 : Int64) (v6 : Int32) (s : St) : Option (Int64 × St) :=
 if v6 < (4 : Int32) then
  if v6 < v2 then
   lt ((v1 * (4 : Int32)) + v6) fun x3 =>
   (rd (gA s 9) x3).bind fun x4 =>
   (rd (gA s 8) x3).bind fun x5 =>
   if x5 < 0 then
    f_fillLines_69 k11 n v1 v2 v3 v4 v6 x3 x4 ((gI s 0).toInt64) s
   else
    (rd (gA s 8) x3).bind fun x7 =>
    f_fillLines_69 k11 n v1 v2 v3 v4 v6 x3 x4 x7.toInt64 s
  else
   f_fillLines_176 n v2 v3 v4 s
 else
  f_fillLines_176 n v2 v3 v4 s
theorem okg19_11 (l : Launch) (Z : State) (a0 : Array Value) (hw : HW a0 Z) (n0 : Nat) (k11 : KT11) (hk11 : HK19_11 l Z n0 k11) (n : Nat) (v1 v2 v3 : Int32) (v4 : Int64) (v6 : Int32) (s : St) (r : Int64 × St) (h : g_fillLines_11 k11 n v1 v2 v3 v4 v6 s = some r) : W19 l Z n0 (P19 r) 0 0 11 (vR 0 :: vI v1 :: vI v2 :: vI v3 :: vJ v4 :: vS :: vI v6 :: vU :: vU :: vU :: vU :: vU :: vU :: vU :: vU :: vU :: vU :: []) [] (Hb 0 s) := by
 unfold g_fillLines_11 at h
 refine WP.iload d19_11 rfl ?_
 refine WP.iconst (4 : Int32) d19_13 rfl ?_
 rcases ite_e h with ⟨hc1, h⟩ | ⟨hc1, h⟩
 ·
  refine WP.icmpN d19_14 (XT.ii_ge_f hc1) ?_
  refine WP.iload d19_17 rfl ?_
  refine WP.iloadN d19_19 rfl ?_
  rcases ite_e h with ⟨hc2, h⟩ | ⟨hc2, h⟩
  ·
   refine WP.icmpY (pc' := 26) d19_20 (XT.ii_lt_t hc2) (by decide) rfl ?_
   refine WP.iloadN d19_26 rfl ?_
   refine WP.iconst (4 : Int32) d19_27 rfl ?_
   refine WP.imul d19_28 ?_
   refine WP.iload d19_29 rfl ?_
   refine WP.iadd d19_31 ?_
   obtain ⟨x3, ex3, h⟩ := lt_e h
   refine WP.istore (L' := (vR 0 :: vI v1 :: vI v2 :: vI v3 :: vJ v4 :: vS :: vI v6 :: vI x3 :: vU :: vU :: vU :: vU :: vU :: vU :: vU :: vU :: vU :: [])) d19_32 (leb rfl) (by subst ex3; rfl) ?_
   refine WP.aloadN d19_34 rfl ?_
   refine WP.getfield (i := 0) (j := 16) d19_35 (hw _ m_43) rfl rfl rfl ?_
   refine WP.iload d19_38 rfl ?_
   obtain ⟨x4, hx4, h⟩ := bd h
   refine WP.iaload (i := 13) d19_40 rfl hx4 ?_
   refine WP.istore (L' := (vR 0 :: vI v1 :: vI v2 :: vI v3 :: vJ v4 :: vS :: vI v6 :: vI x3 :: vI x4 :: vU :: vU :: vU :: vU :: vU :: vU :: vU :: vU :: [])) d19_41 (leb rfl) rfl ?_
   refine WP.aloadN d19_43 rfl ?_
   refine WP.getfield (i := 0) (j := 15) d19_44 (hw _ m_41) rfl rfl rfl ?_
   refine WP.iload d19_47 rfl ?_
   obtain ⟨x5, hx5, h⟩ := bd h
   refine WP.iaload (i := 12) d19_49 rfl hx5 ?_
   rcases ite_e h with ⟨hc6, h⟩ | ⟨hc6, h⟩
   ·
    refine WP.ifN d19_50 (XT.i0_ge_f hc6) ?_
    refine WP.aloadN d19_53 rfl ?_
    refine WP.getfield (i := 0) (j := 0) d19_54 (hw _ m_70) rfl rfl rfl ?_
    refine WP.i2l d19_57 ?_
    refine WP.goto (pc' := 69) d19_58 (by decide) rfl ?_
    exact WP.weak (L' := (vR 0 :: vI v1 :: vI v2 :: vI v3 :: vJ v4 :: vS :: vI v6 :: vI x3 :: vI x4 :: vU :: vU :: vU :: vU :: vU :: vU :: vU :: vU :: [])) ⟨rfl, rfl, rfl, rfl, rfl, rfl, rfl, rfl, rfl, trivial⟩ (ok19_69 l Z a0 hw n0 _ hk11 n v1 v2 v3 v4 v6 x3 x4 ((gI s 0).toInt64) s _ h)
   ·
    refine WP.ifY (pc' := 61) d19_50 (XT.i0_ge_t hc6) (by decide) rfl ?_
    refine WP.aloadN d19_61 rfl ?_
    refine WP.getfield (i := 0) (j := 15) d19_62 (hw _ m_41) rfl rfl rfl ?_
    refine WP.iload d19_65 rfl ?_
    obtain ⟨x7, hx7, h⟩ := bd h
    refine WP.iaload (i := 12) d19_67 rfl hx7 ?_
    refine WP.i2l d19_68 ?_
    exact WP.weak (L' := (vR 0 :: vI v1 :: vI v2 :: vI v3 :: vJ v4 :: vS :: vI v6 :: vI x3 :: vI x4 :: vU :: vU :: vU :: vU :: vU :: vU :: vU :: vU :: [])) ⟨rfl, rfl, rfl, rfl, rfl, rfl, rfl, rfl, rfl, trivial⟩ (ok19_69 l Z a0 hw n0 _ hk11 n v1 v2 v3 v4 v6 x3 x4 x7.toInt64 s _ h)
  ·
   refine WP.icmpN d19_20 (XT.ii_lt_f hc2) ?_
   refine WP.goto (pc' := 176) d19_23 (by decide) rfl ?_
   exact WP.weak (L' := (vR 0 :: vU :: vI v2 :: vI v3 :: vJ v4 :: vS :: vU :: vU :: vU :: vU :: vU :: vU :: vU :: vU :: vU :: vU :: vU :: [])) ⟨rfl, rfl, rfl, rfl, rfl, trivial⟩ (ok19_176 l Z a0 hw n0 n v2 v3 v4 s _ h)
 ·
  refine WP.icmpY (pc' := 176) d19_14 (XT.ii_ge_t hc1) (by decide) rfl ?_
  exact WP.weak (L' := (vR 0 :: vU :: vI v2 :: vI v3 :: vJ v4 :: vS :: vU :: vU :: vU :: vU :: vU :: vU :: vU :: vU :: vU :: vU :: vU :: [])) ⟨rfl, rfl, rfl, rfl, rfl, trivial⟩ (ok19_176 l Z a0 hw n0 n v2 v3 v4 s _ h)
def f_fillLines_11 : Nat → Int32 → Int32 → Int32 → Int64 → Int32 → St → Option (Int64 × St)
 | 0 => fun _ _ _ _ _ _ => none
 | n + 1 => g_fillLines_11 (f_fillLines_11 n) n
theorem ok19_11 (l : Launch) (Z : State) (a0 : Array Value) (hw : HW a0 Z) (n0 : Nat) : ∀ (n : Nat) (v1 v2 v3 : Int32) (v4 : Int64) (v6 : Int32) (s : St) (r : Int64 × St), f_fillLines_11 n v1 v2 v3 v4 v6 s = some r → W19 l Z n0 (P19 r) 0 0 11 (vR 0 :: vI v1 :: vI v2 :: vI v3 :: vJ v4 :: vS :: vI v6 :: vU :: vU :: vU :: vU :: vU :: vU :: vU :: vU :: vU :: vU :: []) [] (Hb 0 s)
 | 0, v1, v2, v3, v4, v6, s, r, h => nomatch (show none = some r from h)
 | n + 1, v1, v2, v3, v4, v6, s, r, h => okg19_11 l Z a0 hw n0 _ (ok19_11 l Z a0 hw n0 n) n v1 v2 v3 v4 v6 s r h
def f_fillLines (n : Nat) (p1 p2 : Int32) (s : St) : Option (Int64 × St) :=
 lt (p1 * (8 : Int32)) fun x1 =>
 f_fillLines_11 n p1 p2 x1 (0 : Int64) (0 : Int32) s
theorem ok19 (l : Launch) (Z : State) (a0 : Array Value) (hw : HW a0 Z) (n : Nat) (p1 p2 : Int32) (s : St) (r : Int64 × St) (h : f_fillLines n p1 p2 s = some r) : CS l Z CN lay y19 prog_1_method_21_code 17 (some FieldType.long) R19 0 [.ref 0, .int p1, .int p2] (Hb 0 s) (P19 r) := by
 refine CS.of_wp pn_cls (leb rfl) fun n0 => ?_
 show W19 l Z n0 (P19 r) 0 0 0 (vR 0 :: vI p1 :: vI p2 :: vU :: vU :: vU :: vU :: vU :: vU :: vU :: vU :: vU :: vU :: vU :: vU :: vU :: vU :: []) [] (Hb 0 s)
 unfold f_fillLines at h
 refine WP.iloadN d19_0 rfl ?_
 refine WP.bipush (8 : Int32) d19_1 rfl ?_
 refine WP.imul d19_3 ?_
 obtain ⟨x1, ex1, h⟩ := lt_e h
 refine WP.istoreN (L' := (vR 0 :: vI p1 :: vI p2 :: vI x1 :: vU :: vU :: vU :: vU :: vU :: vU :: vU :: vU :: vU :: vU :: vU :: vU :: vU :: [])) d19_4 (leb rfl) (by subst ex1; rfl) ?_
 refine WP.lconst (0 : Int64) d19_5 rfl ?_
 refine WP.lstore (L' := (vR 0 :: vI p1 :: vI p2 :: vI x1 :: vJ (0 : Int64) :: vS :: vU :: vU :: vU :: vU :: vU :: vU :: vU :: vU :: vU :: vU :: vU :: [])) d19_6 (leb rfl) rfl ?_
 refine WP.iconst (0 : Int32) d19_8 rfl ?_
 refine WP.istore (L' := (vR 0 :: vI p1 :: vI p2 :: vI x1 :: vJ (0 : Int64) :: vS :: vI (0 : Int32) :: vU :: vU :: vU :: vU :: vU :: vU :: vU :: vU :: vU :: vU :: [])) d19_9 (leb rfl) rfl ?_
 exact WP.weak (L' := (vR 0 :: vI p1 :: vI p2 :: vI x1 :: vJ (0 : Int64) :: vS :: vI (0 : Int32) :: vU :: vU :: vU :: vU :: vU :: vU :: vU :: vU :: vU :: vU :: [])) ⟨rfl, rfl, rfl, rfl, rfl, rfl, rfl, trivial⟩ (ok19_11 l Z a0 hw n0 n p1 p2 x1 (0 : Int64) (0 : Int32) s _ h)
theorem d23_0 : dc k20 0 (.iload_n 1) 1 := by decide +kernel
theorem d23_1 : dc k20 1 (.bipush 8) 2 := by decide +kernel
theorem d23_3 : dc k20 3 (.imul) 1 := by decide +kernel
theorem d23_4 : dc k20 4 (.istore 5) 2 := by decide +kernel
theorem d23_6 : dc k20 6 (.lconst 0) 1 := by decide +kernel
theorem d23_7 : dc k20 7 (.lstore 6) 2 := by decide +kernel
theorem d23_9 : dc k20 9 (.iconst 0) 1 := by decide +kernel
theorem d23_10 : dc k20 10 (.istore 8) 2 := by decide +kernel
theorem d23_12 : dc k20 12 (.iload 8) 2 := by decide +kernel
theorem d23_14 : dc k20 14 (.bipush 8) 2 := by decide +kernel
theorem d23_16 : dc k20 16 (.if_icmp .ge 102) 3 := by decide +kernel
theorem d23_19 : dc k20 19 (.aload_n 0) 1 := by decide +kernel
theorem d23_20 : dc k20 20 (.getfield 81) 3 := by decide +kernel
theorem d23_23 : dc k20 23 (.iload 8) 2 := by decide +kernel
theorem d23_25 : dc k20 25 (.iload 8) 2 := by decide +kernel
theorem d23_27 : dc k20 27 (.iload_n 2) 1 := by decide +kernel
theorem d23_28 : dc k20 28 (.if_icmp .lt 7) 3 := by decide +kernel
theorem d23_31 : dc k20 31 (.iconst 1) 1 := by decide +kernel
theorem d23_32 : dc k20 32 (.goto 4) 3 := by decide +kernel
theorem d23_35 : dc k20 35 (.iconst 0) 1 := by decide +kernel
theorem d23_36 : dc k20 36 (.bastore) 1 := by decide +kernel
theorem d23_37 : dc k20 37 (.aload_n 0) 1 := by decide +kernel
theorem d23_38 : dc k20 38 (.getfield 78) 3 := by decide +kernel
theorem d23_41 : dc k20 41 (.iload 8) 2 := by decide +kernel
theorem d23_43 : dc k20 43 (.lconst 0) 1 := by decide +kernel
theorem d23_44 : dc k20 44 (.lastore) 1 := by decide +kernel
theorem d23_45 : dc k20 45 (.iload 8) 2 := by decide +kernel
theorem d23_47 : dc k20 47 (.iload_n 2) 1 := by decide +kernel
theorem d23_48 : dc k20 48 (.if_icmp .ge 64) 3 := by decide +kernel
theorem d23_51 : dc k20 51 (.aload_n 0) 1 := by decide +kernel
theorem d23_52 : dc k20 52 (.getfield 72) 3 := by decide +kernel
theorem d23_55 : dc k20 55 (.iload 5) 2 := by decide +kernel
theorem d23_57 : dc k20 57 (.iload 8) 2 := by decide +kernel
theorem d23_59 : dc k20 59 (.iadd) 1 := by decide +kernel
theorem d23_60 : dc k20 60 (.laload) 1 := by decide +kernel
theorem d23_61 : dc k20 61 (.aload_n 0) 1 := by decide +kernel
theorem d23_62 : dc k20 62 (.getfield 92) 3 := by decide +kernel
theorem d23_65 : dc k20 65 (.i2l) 1 := by decide +kernel
theorem d23_66 : dc k20 66 (.lmul) 1 := by decide +kernel
theorem d23_67 : dc k20 67 (.lstore 9) 2 := by decide +kernel
theorem d23_69 : dc k20 69 (.lload 9) 2 := by decide +kernel
theorem d23_71 : dc k20 71 (.ldc2_w 143) 3 := by decide +kernel
theorem d23_74 : dc k20 74 (.ldiv) 1 := by decide +kernel
theorem d23_75 : dc k20 75 (.lstore 11) 2 := by decide +kernel
theorem d23_77 : dc k20 77 (.aload_n 0) 1 := by decide +kernel
theorem d23_78 : dc k20 78 (.getfield 78) 3 := by decide +kernel
theorem d23_81 : dc k20 81 (.iload 8) 2 := by decide +kernel
theorem d23_83 : dc k20 83 (.lload 9) 2 := by decide +kernel
theorem d23_85 : dc k20 85 (.lload 11) 2 := by decide +kernel
theorem d23_87 : dc k20 87 (.ldc2_w 143) 3 := by decide +kernel
theorem d23_90 : dc k20 90 (.lmul) 1 := by decide +kernel
theorem d23_91 : dc k20 91 (.lsub) 1 := by decide +kernel
theorem d23_92 : dc k20 92 (.lastore) 1 := by decide +kernel
theorem d23_93 : dc k20 93 (.aload_n 0) 1 := by decide +kernel
theorem d23_94 : dc k20 94 (.getfield 75) 3 := by decide +kernel
theorem d23_97 : dc k20 97 (.iload 5) 2 := by decide +kernel
theorem d23_99 : dc k20 99 (.iload 8) 2 := by decide +kernel
theorem d23_101 : dc k20 101 (.iadd) 1 := by decide +kernel
theorem d23_102 : dc k20 102 (.lload 11) 2 := by decide +kernel
theorem d23_104 : dc k20 104 (.lastore) 1 := by decide +kernel
theorem d23_105 : dc k20 105 (.lload 6) 2 := by decide +kernel
theorem d23_107 : dc k20 107 (.lload 11) 2 := by decide +kernel
theorem d23_109 : dc k20 109 (.ladd) 1 := by decide +kernel
theorem d23_110 : dc k20 110 (.lstore 6) 2 := by decide +kernel
theorem d23_112 : dc k20 112 (.iinc 8 1) 3 := by decide +kernel
theorem d23_115 : dc k20 115 (.goto (-103)) 3 := by decide +kernel
theorem d23_118 : dc k20 118 (.lload_n 3) 1 := by decide +kernel
theorem d23_119 : dc k20 119 (.lload 6) 2 := by decide +kernel
theorem d23_121 : dc k20 121 (.lsub) 1 := by decide +kernel
theorem d23_122 : dc k20 122 (.lstore 8) 2 := by decide +kernel
theorem d23_124 : dc k20 124 (.iconst 0) 1 := by decide +kernel
theorem d23_125 : dc k20 125 (.istore 10) 2 := by decide +kernel
theorem d23_127 : dc k20 127 (.iload 10) 2 := by decide +kernel
theorem d23_129 : dc k20 129 (.bipush 8) 2 := by decide +kernel
theorem d23_131 : dc k20 131 (.if_icmp .ge 106) 3 := by decide +kernel
theorem d23_134 : dc k20 134 (.iload 10) 2 := by decide +kernel
theorem d23_136 : dc k20 136 (.i2l) 1 := by decide +kernel
theorem d23_137 : dc k20 137 (.lload 8) 2 := by decide +kernel
theorem d23_139 : dc k20 139 (.lcmp) 1 := by decide +kernel
theorem d23_140 : dc k20 140 (.ifCond .lt 6) 3 := by decide +kernel
theorem d23_143 : dc k20 143 (.goto 94) 3 := by decide +kernel
theorem d23_146 : dc k20 146 (.iconst (-1)) 1 := by decide +kernel
theorem d23_147 : dc k20 147 (.istore 11) 2 := by decide +kernel
theorem d23_149 : dc k20 149 (.iconst 0) 1 := by decide +kernel
theorem d23_150 : dc k20 150 (.istore 12) 2 := by decide +kernel
theorem d23_152 : dc k20 152 (.iload 12) 2 := by decide +kernel
theorem d23_154 : dc k20 154 (.iload_n 2) 1 := by decide +kernel
theorem d23_155 : dc k20 155 (.if_icmp .ge 46) 3 := by decide +kernel
theorem d23_158 : dc k20 158 (.aload_n 0) 1 := by decide +kernel
theorem d23_159 : dc k20 159 (.getfield 81) 3 := by decide +kernel
theorem d23_162 : dc k20 162 (.iload 12) 2 := by decide +kernel
theorem d23_164 : dc k20 164 (.baload) 1 := by decide +kernel
theorem d23_165 : dc k20 165 (.ifCond .ne 30) 3 := by decide +kernel
theorem d23_168 : dc k20 168 (.iload 11) 2 := by decide +kernel
theorem d23_170 : dc k20 170 (.ifCond .lt 21) 3 := by decide +kernel
theorem d23_173 : dc k20 173 (.aload_n 0) 1 := by decide +kernel
theorem d23_174 : dc k20 174 (.getfield 78) 3 := by decide +kernel
theorem d23_177 : dc k20 177 (.iload 12) 2 := by decide +kernel
theorem d23_179 : dc k20 179 (.laload) 1 := by decide +kernel
theorem d23_180 : dc k20 180 (.aload_n 0) 1 := by decide +kernel
theorem d23_181 : dc k20 181 (.getfield 78) 3 := by decide +kernel
theorem d23_184 : dc k20 184 (.iload 11) 2 := by decide +kernel
theorem d23_186 : dc k20 186 (.laload) 1 := by decide +kernel
theorem d23_187 : dc k20 187 (.lcmp) 1 := by decide +kernel
theorem d23_188 : dc k20 188 (.ifCond .le 7) 3 := by decide +kernel
theorem d23_191 : dc k20 191 (.iload 12) 2 := by decide +kernel
theorem d23_193 : dc k20 193 (.istore 11) 2 := by decide +kernel
theorem d23_195 : dc k20 195 (.iinc 12 1) 3 := by decide +kernel
theorem d23_198 : dc k20 198 (.goto (-46)) 3 := by decide +kernel
theorem d23_201 : dc k20 201 (.iload 11) 2 := by decide +kernel
theorem d23_203 : dc k20 203 (.ifCond .ge 6) 3 := by decide +kernel
theorem d23_206 : dc k20 206 (.goto 31) 3 := by decide +kernel
theorem d23_209 : dc k20 209 (.aload_n 0) 1 := by decide +kernel
theorem d23_210 : dc k20 210 (.getfield 81) 3 := by decide +kernel
theorem d23_213 : dc k20 213 (.iload 11) 2 := by decide +kernel
theorem d23_215 : dc k20 215 (.iconst 1) 1 := by decide +kernel
theorem d23_216 : dc k20 216 (.bastore) 1 := by decide +kernel
theorem d23_217 : dc k20 217 (.aload_n 0) 1 := by decide +kernel
theorem d23_218 : dc k20 218 (.getfield 75) 3 := by decide +kernel
theorem d23_221 : dc k20 221 (.iload 5) 2 := by decide +kernel
theorem d23_223 : dc k20 223 (.iload 11) 2 := by decide +kernel
theorem d23_225 : dc k20 225 (.iadd) 1 := by decide +kernel
theorem d23_226 : dc k20 226 (.dup2) 1 := by decide +kernel
theorem d23_227 : dc k20 227 (.laload) 1 := by decide +kernel
theorem d23_228 : dc k20 228 (.lconst 1) 1 := by decide +kernel
theorem d23_229 : dc k20 229 (.ladd) 1 := by decide +kernel
theorem d23_230 : dc k20 230 (.lastore) 1 := by decide +kernel
theorem d23_231 : dc k20 231 (.iinc 10 1) 3 := by decide +kernel
theorem d23_234 : dc k20 234 (.goto (-107)) 3 := by decide +kernel
theorem d23_237 : dc k20 237 (.return_) 1 := by decide +kernel
abbrev y23 : MethodName := ⟨"BillingRun", "spreadTax", "(IIJ)V"⟩
theorem hy23 : y23.cls ≠ "java/lang/invoke/MethodHandle" ∧ y23.cls ≠ "java/lang/invoke/VarHandle" := by decide
theorem pd23 : parseMethodDescriptor y23.desc = some ⟨[.int, .int, .long], none⟩ := by decide +kernel
abbrev R23 : Room := { frames := 0, cells := 0, slots := 0, locals := 0 }
abbrev P23 (r : St) : Option Value → List OwnC → Prop := fun v H' => v = none ∧ H' = (Hb 0 r)
abbrev W23 (l : Launch) (Z : State) (n0 : Nat) (Q : Option Value → List OwnC → Prop) (k n pc : Nat) (L : List Slot) (S : List Value) (H : List OwnC) : Prop := WP l Z CN lay "BillingRun" "spreadTax" prog_1_method_22_code 13 (none) R23 n0 0 Q k n pc L S H
def f_spreadTax_112 (k12 : KT5) (n : Nat) (v2 : Int32) (v3 : Int64) (v5 : Int32) (v6 : Int64) (v8 : Int32) (s : St) : Option (St) :=
 lt (v8 + (1 : Int32)) fun x1 =>
 k12 v2 v3 v5 v6 x1 s
abbrev HK23_12 (l : Launch) (Z : State) (n0 : Nat) (k12 : KT5) : Prop := ∀ (v2 : Int32) (v3 : Int64) (v5 : Int32) (v6 : Int64) (v8 : Int32) (s r : St), k12 v2 v3 v5 v6 v8 s = some r → W23 l Z n0 (P23 r) 0 0 12 (vR 0 :: vU :: vI v2 :: vJ v3 :: vS :: vI v5 :: vJ v6 :: vS :: vI v8 :: vU :: vU :: vU :: vU :: []) [] (Hb 0 s)
theorem ok23_112 (l : Launch) (Z : State) (a0 : Array Value) (hw : HW a0 Z) (n0 : Nat) (k12 : KT5) (hk12 : HK23_12 l Z n0 k12) (n : Nat) (v2 : Int32) (v3 : Int64) (v5 : Int32) (v6 : Int64) (v8 : Int32) (s r : St) (h : f_spreadTax_112 k12 n v2 v3 v5 v6 v8 s = some r) : W23 l Z n0 (P23 r) 0 0 112 (vR 0 :: vU :: vI v2 :: vJ v3 :: vS :: vI v5 :: vJ v6 :: vS :: vI v8 :: vU :: vU :: vU :: vU :: []) [] (Hb 0 s) := by
 unfold f_spreadTax_112 at h
 obtain ⟨x1, ex1, h⟩ := lt_e h
 refine WP.iinc (L' := (vR 0 :: vU :: vI v2 :: vJ v3 :: vS :: vI v5 :: vJ v6 :: vS :: vI x1 :: vU :: vU :: vU :: vU :: [])) (1 : Int32) d23_112 rfl rfl (by subst ex1; rfl) ?_
 refine WP.goto (pc' := 12) d23_115 (by decide) rfl ?_
 exact WP.weak (L' := (vR 0 :: vU :: vI v2 :: vJ v3 :: vS :: vI v5 :: vJ v6 :: vS :: vI x1 :: vU :: vU :: vU :: vU :: [])) ⟨rfl, rfl, rfl, rfl, rfl, rfl, rfl, rfl, trivial⟩ (hk12 v2 v3 v5 v6 x1 s _ h)
def f_spreadTax_36 (k12 : KT5) (n : Nat) (v2 : Int32) (v3 : Int64) (v5 : Int32) (v6 : Int64) (v8 t0 t1 : Int32) (s : St) : Option (St) :=
 (wrA s 13 t1 (t0 &&& 1)).bind fun s1 =>
 (wrB s1 9 v8 (0 : Int64)).bind fun s2 =>
 if v8 < v2 then
  (rd (gB s2 7) (v5 + v8)).bind fun x4 =>
  lt (x4 * ((gI s2 1).toInt64)) fun x5 =>
  lt (x5 / (10000 : Int64)) fun x6 =>
  (wrB s2 9 v8 (x5 - (x6 * (10000 : Int64)))).bind fun s7 =>
  (wrB s7 8 (v5 + v8) x6).bind fun s8 =>
  lt (v6 + x6) fun x9 =>
  f_spreadTax_112 k12 n v2 v3 v5 x9 v8 s8
 else
  f_spreadTax_112 k12 n v2 v3 v5 v6 v8 s2
theorem ok23_36 (l : Launch) (Z : State) (a0 : Array Value) (hw : HW a0 Z) (n0 : Nat) (k12 : KT5) (hk12 : HK23_12 l Z n0 k12) (n : Nat) (v2 : Int32) (v3 : Int64) (v5 : Int32) (v6 : Int64) (v8 t0 t1 : Int32) (s r : St) (h : f_spreadTax_36 k12 n v2 v3 v5 v6 v8 t0 t1 s = some r) : W23 l Z n0 (P23 r) 0 0 36 (vR 0 :: vU :: vI v2 :: vJ v3 :: vS :: vI v5 :: vJ v6 :: vS :: vI v8 :: vU :: vU :: vU :: vU :: []) [.int t0, .int t1, .ref 24] (Hb 0 s) := by
 unfold f_spreadTax_36 at h
 obtain ⟨s1, hs1, h⟩ := bd h
 obtain ⟨ys1, gs1, es1⟩ := wrA_e hs1
 refine WP.bastore (i := 24) (xs := gA s 13) (H' := (Hb 0 s1)) d23_36 rfl (leb rfl) gs1 (by subst es1; rfl) ?_
 refine WP.aloadN d23_37 rfl ?_
 refine WP.getfield (i := 0) (j := 26) d23_38 (hw _ m_63) rfl rfl rfl ?_
 refine WP.iload d23_41 rfl ?_
 refine WP.lconst (0 : Int64) d23_43 rfl ?_
 obtain ⟨s2, hs2, h⟩ := bd h
 obtain ⟨ys2, gs2, es2⟩ := wrB_e hs2
 refine WP.lastore (i := 23) (xs := gB s1 9) (H' := (Hb 0 s2)) d23_44 rfl (leb rfl) gs2 (by subst es2; rfl) ?_
 refine WP.iload d23_45 rfl ?_
 refine WP.iloadN d23_47 rfl ?_
 rcases ite_e h with ⟨hc3, h⟩ | ⟨hc3, h⟩
 ·
  refine WP.icmpN d23_48 (XT.ii_ge_f hc3) ?_
  refine WP.aloadN d23_51 rfl ?_
  refine WP.getfield (i := 0) (j := 24) d23_52 (hw _ m_59) rfl rfl rfl ?_
  refine WP.iload d23_55 rfl ?_
  refine WP.iload d23_57 rfl ?_
  refine WP.iadd d23_59 ?_
  obtain ⟨x4, hx4, h⟩ := bd h
  refine WP.laload (i := 21) d23_60 rfl hx4 ?_
  refine WP.aloadN d23_61 rfl ?_
  refine WP.getfield (i := 0) (j := 1) d23_62 (hw _ m_72) rfl rfl rfl ?_
  refine WP.i2l d23_65 ?_
  refine WP.lmul d23_66 ?_
  obtain ⟨x5, ex5, h⟩ := lt_e h
  refine WP.lstore (L' := (vR 0 :: vU :: vI v2 :: vJ v3 :: vS :: vI v5 :: vJ v6 :: vS :: vI v8 :: vJ x5 :: vS :: vU :: vU :: [])) d23_67 (leb rfl) (by subst ex5; rfl) ?_
  refine WP.lload d23_69 rfl ?_
  refine WP.ldc2 d23_71 (hw _ m_171) ?_
  refine WP.ldiv d23_74 (by decide) ?_
  obtain ⟨x6, ex6, h⟩ := lt_e h
  refine WP.lstore (L' := (vR 0 :: vU :: vI v2 :: vJ v3 :: vS :: vI v5 :: vJ v6 :: vS :: vI v8 :: vJ x5 :: vS :: vJ x6 :: vS :: [])) d23_75 (leb rfl) (by subst ex6; rfl) ?_
  refine WP.aloadN d23_77 rfl ?_
  refine WP.getfield (i := 0) (j := 26) d23_78 (hw _ m_63) rfl rfl rfl ?_
  refine WP.iload d23_81 rfl ?_
  refine WP.lload d23_83 rfl ?_
  refine WP.lload d23_85 rfl ?_
  refine WP.ldc2 d23_87 (hw _ m_171) ?_
  refine WP.lmul d23_90 ?_
  refine WP.lsub d23_91 ?_
  obtain ⟨s7, hs7, h⟩ := bd h
  obtain ⟨ys7, gs7, es7⟩ := wrB_e hs7
  refine WP.lastore (i := 23) (xs := gB s2 9) (H' := (Hb 0 s7)) d23_92 rfl (leb rfl) gs7 (by subst es7; rfl) ?_
  refine WP.aloadN d23_93 rfl ?_
  refine WP.getfield (i := 0) (j := 25) d23_94 (hw _ m_61) rfl rfl rfl ?_
  refine WP.iload d23_97 rfl ?_
  refine WP.iload d23_99 rfl ?_
  refine WP.iadd d23_101 ?_
  refine WP.lload d23_102 rfl ?_
  obtain ⟨s8, hs8, h⟩ := bd h
  obtain ⟨ys8, gs8, es8⟩ := wrB_e hs8
  refine WP.lastore (i := 22) (xs := gB s7 8) (H' := (Hb 0 s8)) d23_104 rfl (leb rfl) gs8 (by subst es8; rfl) ?_
  refine WP.lload d23_105 rfl ?_
  refine WP.lload d23_107 rfl ?_
  refine WP.ladd d23_109 ?_
  obtain ⟨x9, ex9, h⟩ := lt_e h
  refine WP.lstore (L' := (vR 0 :: vU :: vI v2 :: vJ v3 :: vS :: vI v5 :: vJ x9 :: vS :: vI v8 :: vJ x5 :: vS :: vJ x6 :: vS :: [])) d23_110 (leb rfl) (by subst ex9; rfl) ?_
  exact WP.weak (L' := (vR 0 :: vU :: vI v2 :: vJ v3 :: vS :: vI v5 :: vJ x9 :: vS :: vI v8 :: vU :: vU :: vU :: vU :: [])) ⟨rfl, rfl, rfl, rfl, rfl, rfl, rfl, rfl, trivial⟩ (ok23_112 l Z a0 hw n0 _ hk12 n v2 v3 v5 x9 v8 s8 _ h)
 ·
  refine WP.icmpY (pc' := 112) d23_48 (XT.ii_ge_t hc3) (by decide) rfl ?_
  exact WP.weak (L' := (vR 0 :: vU :: vI v2 :: vJ v3 :: vS :: vI v5 :: vJ v6 :: vS :: vI v8 :: vU :: vU :: vU :: vU :: [])) ⟨rfl, rfl, rfl, rfl, rfl, rfl, rfl, rfl, trivial⟩ (ok23_112 l Z a0 hw n0 _ hk12 n v2 v3 v5 v6 v8 s2 _ h)
def f_spreadTax_195 (k127 : KT2) (k152 : KT6) (n : Nat) (v2 v5 : Int32) (v8 : Int64) (v10 v11 v12 : Int32) (s : St) : Option (St) :=
 lt (v12 + (1 : Int32)) fun x1 =>
 k152 v2 v5 v8 v10 v11 x1 s
abbrev HK23_127 (l : Launch) (Z : State) (n0 : Nat) (k127 : KT2) : Prop := ∀ (v2 v5 : Int32) (v8 : Int64) (v10 : Int32) (s r : St), k127 v2 v5 v8 v10 s = some r → W23 l Z n0 (P23 r) 0 0 127 (vR 0 :: vU :: vI v2 :: vU :: vU :: vI v5 :: vU :: vU :: vJ v8 :: vS :: vI v10 :: vU :: vU :: []) [] (Hb 0 s)
abbrev HK23_152 (l : Launch) (Z : State) (n0 : Nat) (k152 : KT6) : Prop := ∀ (v2 v5 : Int32) (v8 : Int64) (v10 v11 v12 : Int32) (s r : St), k152 v2 v5 v8 v10 v11 v12 s = some r → W23 l Z n0 (P23 r) 0 0 152 (vR 0 :: vU :: vI v2 :: vU :: vU :: vI v5 :: vU :: vU :: vJ v8 :: vS :: vI v10 :: vI v11 :: vI v12 :: []) [] (Hb 0 s)
theorem ok23_195 (l : Launch) (Z : State) (a0 : Array Value) (hw : HW a0 Z) (n0 : Nat) (k127 : KT2) (hk127 : HK23_127 l Z n0 k127) (k152 : KT6) (hk152 : HK23_152 l Z n0 k152) (n : Nat) (v2 v5 : Int32) (v8 : Int64) (v10 v11 v12 : Int32) (s r : St) (h : f_spreadTax_195 k127 k152 n v2 v5 v8 v10 v11 v12 s = some r) : W23 l Z n0 (P23 r) 0 0 195 (vR 0 :: vU :: vI v2 :: vU :: vU :: vI v5 :: vU :: vU :: vJ v8 :: vS :: vI v10 :: vI v11 :: vI v12 :: []) [] (Hb 0 s) := by
 unfold f_spreadTax_195 at h
 obtain ⟨x1, ex1, h⟩ := lt_e h
 refine WP.iinc (L' := (vR 0 :: vU :: vI v2 :: vU :: vU :: vI v5 :: vU :: vU :: vJ v8 :: vS :: vI v10 :: vI v11 :: vI x1 :: [])) (1 : Int32) d23_195 rfl rfl (by subst ex1; rfl) ?_
 refine WP.goto (pc' := 152) d23_198 (by decide) rfl ?_
 exact WP.weak (L' := (vR 0 :: vU :: vI v2 :: vU :: vU :: vI v5 :: vU :: vU :: vJ v8 :: vS :: vI v10 :: vI v11 :: vI x1 :: [])) ⟨rfl, rfl, rfl, rfl, rfl, rfl, rfl, rfl, trivial⟩ (hk152 v2 v5 v8 v10 v11 x1 s _ h)
def f_spreadTax_191 (k127 : KT2) (k152 : KT6) (n : Nat) (v2 v5 : Int32) (v8 : Int64) (v10 v12 : Int32) (s : St) : Option (St) :=
 f_spreadTax_195 k127 k152 n v2 v5 v8 v10 v12 v12 s
theorem ok23_191 (l : Launch) (Z : State) (a0 : Array Value) (hw : HW a0 Z) (n0 : Nat) (k127 : KT2) (hk127 : HK23_127 l Z n0 k127) (k152 : KT6) (hk152 : HK23_152 l Z n0 k152) (n : Nat) (v2 v5 : Int32) (v8 : Int64) (v10 v12 : Int32) (s r : St) (h : f_spreadTax_191 k127 k152 n v2 v5 v8 v10 v12 s = some r) : W23 l Z n0 (P23 r) 0 0 191 (vR 0 :: vU :: vI v2 :: vU :: vU :: vI v5 :: vU :: vU :: vJ v8 :: vS :: vI v10 :: vU :: vI v12 :: []) [] (Hb 0 s) := by
 unfold f_spreadTax_191 at h
 refine WP.iload d23_191 rfl ?_
 refine WP.istore (L' := (vR 0 :: vU :: vI v2 :: vU :: vU :: vI v5 :: vU :: vU :: vJ v8 :: vS :: vI v10 :: vI v12 :: vI v12 :: [])) d23_193 (leb rfl) rfl ?_
 exact WP.weak (L' := (vR 0 :: vU :: vI v2 :: vU :: vU :: vI v5 :: vU :: vU :: vJ v8 :: vS :: vI v10 :: vI v12 :: vI v12 :: [])) ⟨rfl, rfl, rfl, rfl, rfl, rfl, rfl, rfl, trivial⟩ (ok23_195 l Z a0 hw n0 _ hk127 _ hk152 n v2 v5 v8 v10 v12 v12 s _ h)
def f_spreadTax_237 (n : Nat) (s : St) : Option (St) :=
 some s
theorem ok23_237 (l : Launch) (Z : State) (a0 : Array Value) (hw : HW a0 Z) (n0 n : Nat) (s r : St) (h : f_spreadTax_237 n s = some r) : W23 l Z n0 (P23 r) 0 0 237 (vU :: vU :: vU :: vU :: vU :: vU :: vU :: vU :: vU :: vU :: vU :: vU :: vU :: []) [] (Hb 0 s) := by
 unfold f_spreadTax_237 at h
 cases h
 exact WP.vreturn d23_237 rfl (leb rfl) (leb rfl) ⟨rfl, rfl⟩
def g_spreadTax_152 (k127 : KT2) (k152 : KT6) (n : Nat) (v2 v5 : Int32) (v8 : Int64) (v10 v11 v12 : Int32) (s : St) : Option (St) :=
 if v12 < v2 then
  (rd (gA s 13) v12).bind fun x2 =>
  if x2 = 0 then
   if v11 < 0 then
    f_spreadTax_191 k127 k152 n v2 v5 v8 v10 v12 s
   else
    (rd (gB s 9) v12).bind fun x5 =>
    (rd (gB s 9) v11).bind fun x6 =>
    if x6 < x5 then
     f_spreadTax_191 k127 k152 n v2 v5 v8 v10 v12 s
    else
     f_spreadTax_195 k127 k152 n v2 v5 v8 v10 v11 v12 s
  else
   f_spreadTax_195 k127 k152 n v2 v5 v8 v10 v11 v12 s
 else
  if v11 < 0 then
   f_spreadTax_237 n s
  else
   (wrA s 13 v11 (1 : Int32)).bind fun s9 =>
   (rd (gB s9 8) (v5 + v11)).bind fun x10 =>
   (wrB s9 8 (v5 + v11) (x10 + (1 : Int64))).bind fun s11 =>
   lt (v10 + (1 : Int32)) fun x12 =>
   k127 v2 v5 v8 x12 s11
theorem okg23_152 (l : Launch) (Z : State) (a0 : Array Value) (hw : HW a0 Z) (n0 : Nat) (k127 : KT2) (hk127 : HK23_127 l Z n0 k127) (k152 : KT6) (hk152 : HK23_152 l Z n0 k152) (n : Nat) (v2 v5 : Int32) (v8 : Int64) (v10 v11 v12 : Int32) (s r : St) (h : g_spreadTax_152 k127 k152 n v2 v5 v8 v10 v11 v12 s = some r) : W23 l Z n0 (P23 r) 0 0 152 (vR 0 :: vU :: vI v2 :: vU :: vU :: vI v5 :: vU :: vU :: vJ v8 :: vS :: vI v10 :: vI v11 :: vI v12 :: []) [] (Hb 0 s) := by
 unfold g_spreadTax_152 at h
 refine WP.iload d23_152 rfl ?_
 refine WP.iloadN d23_154 rfl ?_
 rcases ite_e h with ⟨hc1, h⟩ | ⟨hc1, h⟩
 ·
  refine WP.icmpN d23_155 (XT.ii_ge_f hc1) ?_
  refine WP.aloadN d23_158 rfl ?_
  refine WP.getfield (i := 0) (j := 27) d23_159 (hw _ m_65) rfl rfl rfl ?_
  refine WP.iload d23_162 rfl ?_
  obtain ⟨x2, hx2, h⟩ := bd h
  refine WP.baload (i := 24) d23_164 rfl hx2 ?_
  rcases ite_e h with ⟨hc3, h⟩ | ⟨hc3, h⟩
  ·
   refine WP.ifN d23_165 (XT.i0_ne_f hc3) ?_
   refine WP.iload d23_168 rfl ?_
   rcases ite_e h with ⟨hc4, h⟩ | ⟨hc4, h⟩
   ·
    refine WP.ifY (pc' := 191) d23_170 (XT.i0_lt_t hc4) (by decide) rfl ?_
    exact WP.weak (L' := (vR 0 :: vU :: vI v2 :: vU :: vU :: vI v5 :: vU :: vU :: vJ v8 :: vS :: vI v10 :: vU :: vI v12 :: [])) ⟨rfl, rfl, rfl, rfl, rfl, rfl, rfl, trivial⟩ (ok23_191 l Z a0 hw n0 _ hk127 _ hk152 n v2 v5 v8 v10 v12 s _ h)
   ·
    refine WP.ifN d23_170 (XT.i0_lt_f hc4) ?_
    refine WP.aloadN d23_173 rfl ?_
    refine WP.getfield (i := 0) (j := 26) d23_174 (hw _ m_63) rfl rfl rfl ?_
    refine WP.iload d23_177 rfl ?_
    obtain ⟨x5, hx5, h⟩ := bd h
    refine WP.laload (i := 23) d23_179 rfl hx5 ?_
    refine WP.aloadN d23_180 rfl ?_
    refine WP.getfield (i := 0) (j := 26) d23_181 (hw _ m_63) rfl rfl rfl ?_
    refine WP.iload d23_184 rfl ?_
    obtain ⟨x6, hx6, h⟩ := bd h
    refine WP.laload (i := 23) d23_186 rfl hx6 ?_
    refine WP.lcmp d23_187 ?_
    rcases ite_e h with ⟨hc7, h⟩ | ⟨hc7, h⟩
    ·
     refine WP.ifN d23_188 (XT.ll_le_f hc7) ?_
     exact WP.weak (L' := (vR 0 :: vU :: vI v2 :: vU :: vU :: vI v5 :: vU :: vU :: vJ v8 :: vS :: vI v10 :: vU :: vI v12 :: [])) ⟨rfl, rfl, rfl, rfl, rfl, rfl, rfl, trivial⟩ (ok23_191 l Z a0 hw n0 _ hk127 _ hk152 n v2 v5 v8 v10 v12 s _ h)
    ·
     refine WP.ifY (pc' := 195) d23_188 (XT.ll_le_t hc7) (by decide) rfl ?_
     exact WP.weak (L' := (vR 0 :: vU :: vI v2 :: vU :: vU :: vI v5 :: vU :: vU :: vJ v8 :: vS :: vI v10 :: vI v11 :: vI v12 :: [])) ⟨rfl, rfl, rfl, rfl, rfl, rfl, rfl, rfl, trivial⟩ (ok23_195 l Z a0 hw n0 _ hk127 _ hk152 n v2 v5 v8 v10 v11 v12 s _ h)
  ·
   refine WP.ifY (pc' := 195) d23_165 (XT.i0_ne_t hc3) (by decide) rfl ?_
   exact WP.weak (L' := (vR 0 :: vU :: vI v2 :: vU :: vU :: vI v5 :: vU :: vU :: vJ v8 :: vS :: vI v10 :: vI v11 :: vI v12 :: [])) ⟨rfl, rfl, rfl, rfl, rfl, rfl, rfl, rfl, trivial⟩ (ok23_195 l Z a0 hw n0 _ hk127 _ hk152 n v2 v5 v8 v10 v11 v12 s _ h)
 ·
  refine WP.icmpY (pc' := 201) d23_155 (XT.ii_ge_t hc1) (by decide) rfl ?_
  refine WP.iload d23_201 rfl ?_
  rcases ite_e h with ⟨hc8, h⟩ | ⟨hc8, h⟩
  ·
   refine WP.ifN d23_203 (XT.i0_ge_f hc8) ?_
   refine WP.goto (pc' := 237) d23_206 (by decide) rfl ?_
   exact WP.weak (L' := (vU :: vU :: vU :: vU :: vU :: vU :: vU :: vU :: vU :: vU :: vU :: vU :: vU :: [])) trivial (ok23_237 l Z a0 hw n0 n s _ h)
  ·
   refine WP.ifY (pc' := 209) d23_203 (XT.i0_ge_t hc8) (by decide) rfl ?_
   refine WP.aloadN d23_209 rfl ?_
   refine WP.getfield (i := 0) (j := 27) d23_210 (hw _ m_65) rfl rfl rfl ?_
   refine WP.iload d23_213 rfl ?_
   refine WP.iconst (1 : Int32) d23_215 rfl ?_
   obtain ⟨s9, hs9, h⟩ := bd h
   obtain ⟨ys9, gs9, es9⟩ := wrA_e hs9
   refine WP.bastore (i := 24) (xs := gA s 13) (H' := (Hb 0 s9)) d23_216 rfl (leb rfl) gs9 (by subst es9; rfl) ?_
   refine WP.aloadN d23_217 rfl ?_
   refine WP.getfield (i := 0) (j := 25) d23_218 (hw _ m_61) rfl rfl rfl ?_
   refine WP.iload d23_221 rfl ?_
   refine WP.iload d23_223 rfl ?_
   refine WP.iadd d23_225 ?_
   refine WP.dup2 d23_226 rfl rfl ?_
   obtain ⟨x10, hx10, h⟩ := bd h
   refine WP.laload (i := 22) d23_227 rfl hx10 ?_
   refine WP.lconst (1 : Int64) d23_228 rfl ?_
   refine WP.ladd d23_229 ?_
   obtain ⟨s11, hs11, h⟩ := bd h
   obtain ⟨ys11, gs11, es11⟩ := wrB_e hs11
   refine WP.lastore (i := 22) (xs := gB s9 8) (H' := (Hb 0 s11)) d23_230 rfl (leb rfl) gs11 (by subst es11; rfl) ?_
   obtain ⟨x12, ex12, h⟩ := lt_e h
   refine WP.iinc (L' := (vR 0 :: vU :: vI v2 :: vU :: vU :: vI v5 :: vU :: vU :: vJ v8 :: vS :: vI x12 :: vI v11 :: vI v12 :: [])) (1 : Int32) d23_231 rfl rfl (by subst ex12; rfl) ?_
   refine WP.goto (pc' := 127) d23_234 (by decide) rfl ?_
   exact WP.weak (L' := (vR 0 :: vU :: vI v2 :: vU :: vU :: vI v5 :: vU :: vU :: vJ v8 :: vS :: vI x12 :: vU :: vU :: [])) ⟨rfl, rfl, rfl, rfl, rfl, rfl, trivial⟩ (hk127 v2 v5 v8 x12 s11 _ h)
def f_spreadTax_152 (k127 : KT2) : Nat → Int32 → Int32 → Int64 → Int32 → Int32 → Int32 → St → Option (St)
 | 0 => fun _ _ _ _ _ _ _ => none
 | n + 1 => g_spreadTax_152 k127 (f_spreadTax_152 k127 n) n
theorem ok23_152 (l : Launch) (Z : State) (a0 : Array Value) (hw : HW a0 Z) (n0 : Nat) (k127 : KT2) (hk127 : HK23_127 l Z n0 k127) : ∀ (n : Nat) (v2 v5 : Int32) (v8 : Int64) (v10 v11 v12 : Int32) (s r : St), f_spreadTax_152 k127 n v2 v5 v8 v10 v11 v12 s = some r → W23 l Z n0 (P23 r) 0 0 152 (vR 0 :: vU :: vI v2 :: vU :: vU :: vI v5 :: vU :: vU :: vJ v8 :: vS :: vI v10 :: vI v11 :: vI v12 :: []) [] (Hb 0 s)
 | 0, v2, v5, v8, v10, v11, v12, s, r, h => nomatch (show none = some r from h)
 | n + 1, v2, v5, v8, v10, v11, v12, s, r, h => okg23_152 l Z a0 hw n0 _ hk127 _ (ok23_152 l Z a0 hw n0 k127 hk127 n) n v2 v5 v8 v10 v11 v12 s r h
def g_spreadTax_127 (k127 : KT2) (n : Nat) (v2 v5 : Int32) (v8 : Int64) (v10 : Int32) (s : St) : Option (St) :=
 if v10 < (8 : Int32) then
  if v10.toInt64 < v8 then
   f_spreadTax_152 k127 n v2 v5 v8 v10 (-1 : Int32) (0 : Int32) s
  else
   f_spreadTax_237 n s
 else
  f_spreadTax_237 n s
theorem okg23_127 (l : Launch) (Z : State) (a0 : Array Value) (hw : HW a0 Z) (n0 : Nat) (k127 : KT2) (hk127 : HK23_127 l Z n0 k127) (n : Nat) (v2 v5 : Int32) (v8 : Int64) (v10 : Int32) (s r : St) (h : g_spreadTax_127 k127 n v2 v5 v8 v10 s = some r) : W23 l Z n0 (P23 r) 0 0 127 (vR 0 :: vU :: vI v2 :: vU :: vU :: vI v5 :: vU :: vU :: vJ v8 :: vS :: vI v10 :: vU :: vU :: []) [] (Hb 0 s) := by
 unfold g_spreadTax_127 at h
 refine WP.iload d23_127 rfl ?_
 refine WP.bipush (8 : Int32) d23_129 rfl ?_
 rcases ite_e h with ⟨hc1, h⟩ | ⟨hc1, h⟩
 ·
  refine WP.icmpN d23_131 (XT.ii_ge_f hc1) ?_
  refine WP.iload d23_134 rfl ?_
  refine WP.i2l d23_136 ?_
  refine WP.lload d23_137 rfl ?_
  refine WP.lcmp d23_139 ?_
  rcases ite_e h with ⟨hc2, h⟩ | ⟨hc2, h⟩
  ·
   refine WP.ifY (pc' := 146) d23_140 (XT.ll_lt_t hc2) (by decide) rfl ?_
   refine WP.iconst (-1 : Int32) d23_146 rfl ?_
   refine WP.istore (L' := (vR 0 :: vU :: vI v2 :: vU :: vU :: vI v5 :: vU :: vU :: vJ v8 :: vS :: vI v10 :: vI (-1 : Int32) :: vU :: [])) d23_147 (leb rfl) rfl ?_
   refine WP.iconst (0 : Int32) d23_149 rfl ?_
   refine WP.istore (L' := (vR 0 :: vU :: vI v2 :: vU :: vU :: vI v5 :: vU :: vU :: vJ v8 :: vS :: vI v10 :: vI (-1 : Int32) :: vI (0 : Int32) :: [])) d23_150 (leb rfl) rfl ?_
   exact WP.weak (L' := (vR 0 :: vU :: vI v2 :: vU :: vU :: vI v5 :: vU :: vU :: vJ v8 :: vS :: vI v10 :: vI (-1 : Int32) :: vI (0 : Int32) :: [])) ⟨rfl, rfl, rfl, rfl, rfl, rfl, rfl, rfl, trivial⟩ (ok23_152 l Z a0 hw n0 _ hk127 n v2 v5 v8 v10 (-1 : Int32) (0 : Int32) s _ h)
  ·
   refine WP.ifN d23_140 (XT.ll_lt_f hc2) ?_
   refine WP.goto (pc' := 237) d23_143 (by decide) rfl ?_
   exact WP.weak (L' := (vU :: vU :: vU :: vU :: vU :: vU :: vU :: vU :: vU :: vU :: vU :: vU :: vU :: [])) trivial (ok23_237 l Z a0 hw n0 n s _ h)
 ·
  refine WP.icmpY (pc' := 237) d23_131 (XT.ii_ge_t hc1) (by decide) rfl ?_
  exact WP.weak (L' := (vU :: vU :: vU :: vU :: vU :: vU :: vU :: vU :: vU :: vU :: vU :: vU :: vU :: [])) trivial (ok23_237 l Z a0 hw n0 n s _ h)
def f_spreadTax_127 : Nat → Int32 → Int32 → Int64 → Int32 → St → Option (St)
 | 0 => fun _ _ _ _ _ => none
 | n + 1 => g_spreadTax_127 (f_spreadTax_127 n) n
theorem ok23_127 (l : Launch) (Z : State) (a0 : Array Value) (hw : HW a0 Z) (n0 : Nat) : ∀ (n : Nat) (v2 v5 : Int32) (v8 : Int64) (v10 : Int32) (s r : St), f_spreadTax_127 n v2 v5 v8 v10 s = some r → W23 l Z n0 (P23 r) 0 0 127 (vR 0 :: vU :: vI v2 :: vU :: vU :: vI v5 :: vU :: vU :: vJ v8 :: vS :: vI v10 :: vU :: vU :: []) [] (Hb 0 s)
 | 0, v2, v5, v8, v10, s, r, h => nomatch (show none = some r from h)
 | n + 1, v2, v5, v8, v10, s, r, h => okg23_127 l Z a0 hw n0 _ (ok23_127 l Z a0 hw n0 n) n v2 v5 v8 v10 s r h
def g_spreadTax_12 (k12 : KT5) (n : Nat) (v2 : Int32) (v3 : Int64) (v5 : Int32) (v6 : Int64) (v8 : Int32) (s : St) : Option (St) :=
 if v8 < (8 : Int32) then
  if v8 < v2 then
   f_spreadTax_36 k12 n v2 v3 v5 v6 v8 (0 : Int32) v8 s
  else
   f_spreadTax_36 k12 n v2 v3 v5 v6 v8 (1 : Int32) v8 s
 else
  lt (v3 - v6) fun x3 =>
  f_spreadTax_127 n v2 v5 x3 (0 : Int32) s
theorem okg23_12 (l : Launch) (Z : State) (a0 : Array Value) (hw : HW a0 Z) (n0 : Nat) (k12 : KT5) (hk12 : HK23_12 l Z n0 k12) (n : Nat) (v2 : Int32) (v3 : Int64) (v5 : Int32) (v6 : Int64) (v8 : Int32) (s r : St) (h : g_spreadTax_12 k12 n v2 v3 v5 v6 v8 s = some r) : W23 l Z n0 (P23 r) 0 0 12 (vR 0 :: vU :: vI v2 :: vJ v3 :: vS :: vI v5 :: vJ v6 :: vS :: vI v8 :: vU :: vU :: vU :: vU :: []) [] (Hb 0 s) := by
 unfold g_spreadTax_12 at h
 refine WP.iload d23_12 rfl ?_
 refine WP.bipush (8 : Int32) d23_14 rfl ?_
 rcases ite_e h with ⟨hc1, h⟩ | ⟨hc1, h⟩
 ·
  refine WP.icmpN d23_16 (XT.ii_ge_f hc1) ?_
  refine WP.aloadN d23_19 rfl ?_
  refine WP.getfield (i := 0) (j := 27) d23_20 (hw _ m_65) rfl rfl rfl ?_
  refine WP.iload d23_23 rfl ?_
  refine WP.iload d23_25 rfl ?_
  refine WP.iloadN d23_27 rfl ?_
  rcases ite_e h with ⟨hc2, h⟩ | ⟨hc2, h⟩
  ·
   refine WP.icmpY (pc' := 35) d23_28 (XT.ii_lt_t hc2) (by decide) rfl ?_
   refine WP.iconst (0 : Int32) d23_35 rfl ?_
   exact WP.weak (L' := (vR 0 :: vU :: vI v2 :: vJ v3 :: vS :: vI v5 :: vJ v6 :: vS :: vI v8 :: vU :: vU :: vU :: vU :: [])) ⟨rfl, rfl, rfl, rfl, rfl, rfl, rfl, rfl, trivial⟩ (ok23_36 l Z a0 hw n0 _ hk12 n v2 v3 v5 v6 v8 (0 : Int32) v8 s _ h)
  ·
   refine WP.icmpN d23_28 (XT.ii_lt_f hc2) ?_
   refine WP.iconst (1 : Int32) d23_31 rfl ?_
   refine WP.goto (pc' := 36) d23_32 (by decide) rfl ?_
   exact WP.weak (L' := (vR 0 :: vU :: vI v2 :: vJ v3 :: vS :: vI v5 :: vJ v6 :: vS :: vI v8 :: vU :: vU :: vU :: vU :: [])) ⟨rfl, rfl, rfl, rfl, rfl, rfl, rfl, rfl, trivial⟩ (ok23_36 l Z a0 hw n0 _ hk12 n v2 v3 v5 v6 v8 (1 : Int32) v8 s _ h)
 ·
  refine WP.icmpY (pc' := 118) d23_16 (XT.ii_ge_t hc1) (by decide) rfl ?_
  refine WP.lloadN d23_118 rfl ?_
  refine WP.lload d23_119 rfl ?_
  refine WP.lsub d23_121 ?_
  obtain ⟨x3, ex3, h⟩ := lt_e h
  refine WP.lstore (L' := (vR 0 :: vU :: vI v2 :: vJ v3 :: vS :: vI v5 :: vJ v6 :: vS :: vJ x3 :: vS :: vU :: vU :: vU :: [])) d23_122 (leb rfl) (by subst ex3; rfl) ?_
  refine WP.iconst (0 : Int32) d23_124 rfl ?_
  refine WP.istore (L' := (vR 0 :: vU :: vI v2 :: vJ v3 :: vS :: vI v5 :: vJ v6 :: vS :: vJ x3 :: vS :: vI (0 : Int32) :: vU :: vU :: [])) d23_125 (leb rfl) rfl ?_
  exact WP.weak (L' := (vR 0 :: vU :: vI v2 :: vU :: vU :: vI v5 :: vU :: vU :: vJ x3 :: vS :: vI (0 : Int32) :: vU :: vU :: [])) ⟨rfl, rfl, rfl, rfl, rfl, rfl, trivial⟩ (ok23_127 l Z a0 hw n0 n v2 v5 x3 (0 : Int32) s _ h)
def f_spreadTax_12 : Nat → Int32 → Int64 → Int32 → Int64 → Int32 → St → Option (St)
 | 0 => fun _ _ _ _ _ _ => none
 | n + 1 => g_spreadTax_12 (f_spreadTax_12 n) n
theorem ok23_12 (l : Launch) (Z : State) (a0 : Array Value) (hw : HW a0 Z) (n0 : Nat) : ∀ (n : Nat) (v2 : Int32) (v3 : Int64) (v5 : Int32) (v6 : Int64) (v8 : Int32) (s r : St), f_spreadTax_12 n v2 v3 v5 v6 v8 s = some r → W23 l Z n0 (P23 r) 0 0 12 (vR 0 :: vU :: vI v2 :: vJ v3 :: vS :: vI v5 :: vJ v6 :: vS :: vI v8 :: vU :: vU :: vU :: vU :: []) [] (Hb 0 s)
 | 0, v2, v3, v5, v6, v8, s, r, h => nomatch (show none = some r from h)
 | n + 1, v2, v3, v5, v6, v8, s, r, h => okg23_12 l Z a0 hw n0 _ (ok23_12 l Z a0 hw n0 n) n v2 v3 v5 v6 v8 s r h
def f_spreadTax (n : Nat) (p1 p2 : Int32) (p3 : Int64) (s : St) : Option (St) :=
 lt (p1 * (8 : Int32)) fun x1 =>
 f_spreadTax_12 n p2 p3 x1 (0 : Int64) (0 : Int32) s
theorem ok23 (l : Launch) (Z : State) (a0 : Array Value) (hw : HW a0 Z) (n : Nat) (p1 p2 : Int32) (p3 : Int64) (s r : St) (h : f_spreadTax n p1 p2 p3 s = some r) : CS l Z CN lay y23 prog_1_method_22_code 13 (none) R23 0 [.ref 0, .int p1, .int p2, .long p3] (Hb 0 s) (P23 r) := by
 refine CS.of_wp pn_cls (leb rfl) fun n0 => ?_
 show W23 l Z n0 (P23 r) 0 0 0 (vR 0 :: vI p1 :: vI p2 :: vJ p3 :: vS :: vU :: vU :: vU :: vU :: vU :: vU :: vU :: vU :: []) [] (Hb 0 s)
 unfold f_spreadTax at h
 refine WP.iloadN d23_0 rfl ?_
 refine WP.bipush (8 : Int32) d23_1 rfl ?_
 refine WP.imul d23_3 ?_
 obtain ⟨x1, ex1, h⟩ := lt_e h
 refine WP.istore (L' := (vR 0 :: vI p1 :: vI p2 :: vJ p3 :: vS :: vI x1 :: vU :: vU :: vU :: vU :: vU :: vU :: vU :: [])) d23_4 (leb rfl) (by subst ex1; rfl) ?_
 refine WP.lconst (0 : Int64) d23_6 rfl ?_
 refine WP.lstore (L' := (vR 0 :: vI p1 :: vI p2 :: vJ p3 :: vS :: vI x1 :: vJ (0 : Int64) :: vS :: vU :: vU :: vU :: vU :: vU :: [])) d23_7 (leb rfl) rfl ?_
 refine WP.iconst (0 : Int32) d23_9 rfl ?_
 refine WP.istore (L' := (vR 0 :: vI p1 :: vI p2 :: vJ p3 :: vS :: vI x1 :: vJ (0 : Int64) :: vS :: vI (0 : Int32) :: vU :: vU :: vU :: vU :: [])) d23_10 (leb rfl) rfl ?_
 exact WP.weak (L' := (vR 0 :: vU :: vI p2 :: vJ p3 :: vS :: vI x1 :: vJ (0 : Int64) :: vS :: vI (0 : Int32) :: vU :: vU :: vU :: vU :: [])) ⟨rfl, rfl, rfl, rfl, rfl, rfl, rfl, rfl, trivial⟩ (ok23_12 l Z a0 hw n0 n p2 p3 x1 (0 : Int64) (0 : Int32) s _ h)
theorem d18_0 : dc k21 0 (.aload_n 0) 1 := by decide +kernel
theorem d18_1 : dc k21 1 (.getfield 29) 3 := by decide +kernel
theorem d18_4 : dc k21 4 (.iload_n 1) 1 := by decide +kernel
theorem d18_5 : dc k21 5 (.iaload) 1 := by decide +kernel
theorem d18_6 : dc k21 6 (.istore_n 2) 1 := by decide +kernel
theorem d18_7 : dc k21 7 (.iload_n 2) 1 := by decide +kernel
theorem d18_8 : dc k21 8 (.ifCond .ge 5) 3 := by decide +kernel
theorem d18_11 : dc k21 11 (.iconst 0) 1 := by decide +kernel
theorem d18_12 : dc k21 12 (.istore_n 2) 1 := by decide +kernel
theorem d18_13 : dc k21 13 (.iload_n 2) 1 := by decide +kernel
theorem d18_14 : dc k21 14 (.iconst 4) 1 := by decide +kernel
theorem d18_15 : dc k21 15 (.if_icmp .le 5) 3 := by decide +kernel
theorem d18_18 : dc k21 18 (.iconst 4) 1 := by decide +kernel
theorem d18_19 : dc k21 19 (.istore_n 2) 1 := by decide +kernel
theorem d18_20 : dc k21 20 (.iconst 2) 1 := by decide +kernel
theorem d18_21 : dc k21 21 (.iload_n 2) 1 := by decide +kernel
theorem d18_22 : dc k21 22 (.imul) 1 := by decide +kernel
theorem d18_23 : dc k21 23 (.istore_n 3) 1 := by decide +kernel
theorem d18_24 : dc k21 24 (.aload_n 0) 1 := by decide +kernel
theorem d18_25 : dc k21 25 (.iload_n 1) 1 := by decide +kernel
theorem d18_26 : dc k21 26 (.iload_n 2) 1 := by decide +kernel
theorem d18_27 : dc k21 27 (.invokevirtual 145) 3 := by decide +kernel
theorem d18_30 : dc k21 30 (.lstore 4) 2 := by decide +kernel
theorem d18_32 : dc k21 32 (.lload 4) 2 := by decide +kernel
theorem d18_34 : dc k21 34 (.aload_n 0) 1 := by decide +kernel
theorem d18_35 : dc k21 35 (.getfield 92) 3 := by decide +kernel
theorem d18_38 : dc k21 38 (.i2l) 1 := by decide +kernel
theorem d18_39 : dc k21 39 (.lmul) 1 := by decide +kernel
theorem d18_40 : dc k21 40 (.ldc2_w 143) 3 := by decide +kernel
theorem d18_43 : dc k21 43 (.ldiv) 1 := by decide +kernel
theorem d18_44 : dc k21 44 (.lstore 6) 2 := by decide +kernel
theorem d18_46 : dc k21 46 (.aload_n 0) 1 := by decide +kernel
theorem d18_47 : dc k21 47 (.iload_n 1) 1 := by decide +kernel
theorem d18_48 : dc k21 48 (.iload_n 3) 1 := by decide +kernel
theorem d18_49 : dc k21 49 (.lload 6) 2 := by decide +kernel
theorem d18_51 : dc k21 51 (.invokevirtual 148) 3 := by decide +kernel
theorem d18_54 : dc k21 54 (.lload 4) 2 := by decide +kernel
theorem d18_56 : dc k21 56 (.lload 6) 2 := by decide +kernel
theorem d18_58 : dc k21 58 (.ladd) 1 := by decide +kernel
theorem d18_59 : dc k21 59 (.lstore 8) 2 := by decide +kernel
theorem d18_61 : dc k21 61 (.aload_n 0) 1 := by decide +kernel
theorem d18_62 : dc k21 62 (.getfield 32) 3 := by decide +kernel
theorem d18_65 : dc k21 65 (.iload_n 1) 1 := by decide +kernel
theorem d18_66 : dc k21 66 (.laload) 1 := by decide +kernel
theorem d18_67 : dc k21 67 (.lload 8) 2 := by decide +kernel
theorem d18_69 : dc k21 69 (.lcmp) 1 := by decide +kernel
theorem d18_70 : dc k21 70 (.ifCond .ge 12) 3 := by decide +kernel
theorem d18_73 : dc k21 73 (.aload_n 0) 1 := by decide +kernel
theorem d18_74 : dc k21 74 (.getfield 32) 3 := by decide +kernel
theorem d18_77 : dc k21 77 (.iload_n 1) 1 := by decide +kernel
theorem d18_78 : dc k21 78 (.laload) 1 := by decide +kernel
theorem d18_79 : dc k21 79 (.goto 5) 3 := by decide +kernel
theorem d18_82 : dc k21 82 (.lload 8) 2 := by decide +kernel
theorem d18_84 : dc k21 84 (.lstore 10) 2 := by decide +kernel
theorem d18_86 : dc k21 86 (.iload_n 2) 1 := by decide +kernel
theorem d18_87 : dc k21 87 (.ifCond .ne 6) 3 := by decide +kernel
theorem d18_90 : dc k21 90 (.lconst 0) 1 := by decide +kernel
theorem d18_91 : dc k21 91 (.lstore 10) 2 := by decide +kernel
theorem d18_93 : dc k21 93 (.aload_n 0) 1 := by decide +kernel
theorem d18_94 : dc k21 94 (.getfield 32) 3 := by decide +kernel
theorem d18_97 : dc k21 97 (.iload_n 1) 1 := by decide +kernel
theorem d18_98 : dc k21 98 (.dup2) 1 := by decide +kernel
theorem d18_99 : dc k21 99 (.laload) 1 := by decide +kernel
theorem d18_100 : dc k21 100 (.lload 10) 2 := by decide +kernel
theorem d18_102 : dc k21 102 (.lsub) 1 := by decide +kernel
theorem d18_103 : dc k21 103 (.lastore) 1 := by decide +kernel
theorem d18_104 : dc k21 104 (.aload_n 0) 1 := by decide +kernel
theorem d18_105 : dc k21 105 (.getfield 39) 3 := by decide +kernel
theorem d18_108 : dc k21 108 (.iload_n 1) 1 := by decide +kernel
theorem d18_109 : dc k21 109 (.dup2) 1 := by decide +kernel
theorem d18_110 : dc k21 110 (.laload) 1 := by decide +kernel
theorem d18_111 : dc k21 111 (.lload 10) 2 := by decide +kernel
theorem d18_113 : dc k21 113 (.ladd) 1 := by decide +kernel
theorem d18_114 : dc k21 114 (.lastore) 1 := by decide +kernel
theorem d18_115 : dc k21 115 (.aload_n 0) 1 := by decide +kernel
theorem d18_116 : dc k21 116 (.getfield 54) 3 := by decide +kernel
theorem d18_119 : dc k21 119 (.iload_n 1) 1 := by decide +kernel
theorem d18_120 : dc k21 120 (.iload_n 3) 1 := by decide +kernel
theorem d18_121 : dc k21 121 (.iastore) 1 := by decide +kernel
theorem d18_122 : dc k21 122 (.aload_n 0) 1 := by decide +kernel
theorem d18_123 : dc k21 123 (.getfield 57) 3 := by decide +kernel
theorem d18_126 : dc k21 126 (.iload_n 1) 1 := by decide +kernel
theorem d18_127 : dc k21 127 (.lload 4) 2 := by decide +kernel
theorem d18_129 : dc k21 129 (.lastore) 1 := by decide +kernel
theorem d18_130 : dc k21 130 (.aload_n 0) 1 := by decide +kernel
theorem d18_131 : dc k21 131 (.getfield 60) 3 := by decide +kernel
theorem d18_134 : dc k21 134 (.iload_n 1) 1 := by decide +kernel
theorem d18_135 : dc k21 135 (.lload 6) 2 := by decide +kernel
theorem d18_137 : dc k21 137 (.lastore) 1 := by decide +kernel
theorem d18_138 : dc k21 138 (.aload_n 0) 1 := by decide +kernel
theorem d18_139 : dc k21 139 (.getfield 63) 3 := by decide +kernel
theorem d18_142 : dc k21 142 (.iload_n 1) 1 := by decide +kernel
theorem d18_143 : dc k21 143 (.lload 10) 2 := by decide +kernel
theorem d18_145 : dc k21 145 (.lastore) 1 := by decide +kernel
theorem d18_146 : dc k21 146 (.aload_n 0) 1 := by decide +kernel
theorem d18_147 : dc k21 147 (.getfield 66) 3 := by decide +kernel
theorem d18_150 : dc k21 150 (.iload_n 1) 1 := by decide +kernel
theorem d18_151 : dc k21 151 (.lload 8) 2 := by decide +kernel
theorem d18_153 : dc k21 153 (.lload 10) 2 := by decide +kernel
theorem d18_155 : dc k21 155 (.lsub) 1 := by decide +kernel
theorem d18_156 : dc k21 156 (.lastore) 1 := by decide +kernel
theorem d18_157 : dc k21 157 (.aload_n 0) 1 := by decide +kernel
theorem d18_158 : dc k21 158 (.getfield 69) 3 := by decide +kernel
theorem d18_161 : dc k21 161 (.iload_n 1) 1 := by decide +kernel
theorem d18_162 : dc k21 162 (.aload_n 0) 1 := by decide +kernel
theorem d18_163 : dc k21 163 (.getfield 136) 3 := by decide +kernel
theorem d18_166 : dc k21 166 (.iastore) 1 := by decide +kernel
theorem d18_167 : dc k21 167 (.return_) 1 := by decide +kernel
abbrev y18 : MethodName := ⟨"BillingRun", "buildInvoice", "(I)V"⟩
theorem hy18 : y18.cls ≠ "java/lang/invoke/MethodHandle" ∧ y18.cls ≠ "java/lang/invoke/VarHandle" := by decide
theorem pd18 : parseMethodDescriptor y18.desc = some ⟨[.int], none⟩ := by decide +kernel
abbrev R18 : Room := { frames := 4, cells := 0, slots := 0, locals := 86 }
abbrev P18 (r : St) : Option Value → List OwnC → Prop := fun v H' => v = none ∧ H' = (Hb 0 r)
abbrev W18 (l : Launch) (Z : State) (n0 : Nat) (Q : Option Value → List OwnC → Prop) (k n pc : Nat) (L : List Slot) (S : List Value) (H : List OwnC) : Prop := WP l Z CN lay "BillingRun" "buildInvoice" prog_1_method_23_code 12 (none) R18 n0 0 Q k n pc L S H
def f_buildInvoice_93 (n : Nat) (v1 v3 : Int32) (v4 v6 v8 v10 : Int64) (s : St) : Option (St) :=
 (rd (gB s 0) v1).bind fun x1 =>
 (wrB s 0 v1 (x1 - v10)).bind fun s2 =>
 (rd (gB s2 2) v1).bind fun x3 =>
 (wrB s2 2 v1 (x3 + v10)).bind fun s4 =>
 (wrA s4 11 v1 v3).bind fun s5 =>
 (wrB s5 3 v1 v4).bind fun s6 =>
 (wrB s6 4 v1 v6).bind fun s7 =>
 (wrB s7 5 v1 v10).bind fun s8 =>
 (wrB s8 6 v1 (v8 - v10)).bind fun s9 =>
 (wrA s9 12 v1 (gI s9 3)).bind fun s10 =>
 some s10
theorem ok18_93 (l : Launch) (Z : State) (a0 : Array Value) (hw : HW a0 Z) (n0 n : Nat) (v1 v3 : Int32) (v4 v6 v8 v10 : Int64) (s r : St) (h : f_buildInvoice_93 n v1 v3 v4 v6 v8 v10 s = some r) : W18 l Z n0 (P18 r) 0 0 93 (vR 0 :: vI v1 :: vU :: vI v3 :: vJ v4 :: vS :: vJ v6 :: vS :: vJ v8 :: vS :: vJ v10 :: vS :: []) [] (Hb 0 s) := by
 unfold f_buildInvoice_93 at h
 refine WP.aloadN d18_93 rfl ?_
 refine WP.getfield (i := 0) (j := 11) d18_94 (hw _ m_33) rfl rfl rfl ?_
 refine WP.iloadN d18_97 rfl ?_
 refine WP.dup2 d18_98 rfl rfl ?_
 obtain ⟨x1, hx1, h⟩ := bd h
 refine WP.laload (i := 8) d18_99 rfl hx1 ?_
 refine WP.lload d18_100 rfl ?_
 refine WP.lsub d18_102 ?_
 obtain ⟨s2, hs2, h⟩ := bd h
 obtain ⟨ys2, gs2, es2⟩ := wrB_e hs2
 refine WP.lastore (i := 8) (xs := gB s 0) (H' := (Hb 0 s2)) d18_103 rfl (leb rfl) gs2 (by subst es2; rfl) ?_
 refine WP.aloadN d18_104 rfl ?_
 refine WP.getfield (i := 0) (j := 13) d18_105 (hw _ m_37) rfl rfl rfl ?_
 refine WP.iloadN d18_108 rfl ?_
 refine WP.dup2 d18_109 rfl rfl ?_
 obtain ⟨x3, hx3, h⟩ := bd h
 refine WP.laload (i := 10) d18_110 rfl hx3 ?_
 refine WP.lload d18_111 rfl ?_
 refine WP.ladd d18_113 ?_
 obtain ⟨s4, hs4, h⟩ := bd h
 obtain ⟨ys4, gs4, es4⟩ := wrB_e hs4
 refine WP.lastore (i := 10) (xs := gB s2 2) (H' := (Hb 0 s4)) d18_114 rfl (leb rfl) gs4 (by subst es4; rfl) ?_
 refine WP.aloadN d18_115 rfl ?_
 refine WP.getfield (i := 0) (j := 18) d18_116 (hw _ m_47) rfl rfl rfl ?_
 refine WP.iloadN d18_119 rfl ?_
 refine WP.iloadN d18_120 rfl ?_
 obtain ⟨s5, hs5, h⟩ := bd h
 obtain ⟨ys5, gs5, es5⟩ := wrA_e hs5
 refine WP.iastore (i := 15) (xs := gA s4 11) (H' := (Hb 0 s5)) d18_121 rfl (leb rfl) gs5 (by subst es5; rfl) ?_
 refine WP.aloadN d18_122 rfl ?_
 refine WP.getfield (i := 0) (j := 19) d18_123 (hw _ m_49) rfl rfl rfl ?_
 refine WP.iloadN d18_126 rfl ?_
 refine WP.lload d18_127 rfl ?_
 obtain ⟨s6, hs6, h⟩ := bd h
 obtain ⟨ys6, gs6, es6⟩ := wrB_e hs6
 refine WP.lastore (i := 16) (xs := gB s5 3) (H' := (Hb 0 s6)) d18_129 rfl (leb rfl) gs6 (by subst es6; rfl) ?_
 refine WP.aloadN d18_130 rfl ?_
 refine WP.getfield (i := 0) (j := 20) d18_131 (hw _ m_51) rfl rfl rfl ?_
 refine WP.iloadN d18_134 rfl ?_
 refine WP.lload d18_135 rfl ?_
 obtain ⟨s7, hs7, h⟩ := bd h
 obtain ⟨ys7, gs7, es7⟩ := wrB_e hs7
 refine WP.lastore (i := 17) (xs := gB s6 4) (H' := (Hb 0 s7)) d18_137 rfl (leb rfl) gs7 (by subst es7; rfl) ?_
 refine WP.aloadN d18_138 rfl ?_
 refine WP.getfield (i := 0) (j := 21) d18_139 (hw _ m_53) rfl rfl rfl ?_
 refine WP.iloadN d18_142 rfl ?_
 refine WP.lload d18_143 rfl ?_
 obtain ⟨s8, hs8, h⟩ := bd h
 obtain ⟨ys8, gs8, es8⟩ := wrB_e hs8
 refine WP.lastore (i := 18) (xs := gB s7 5) (H' := (Hb 0 s8)) d18_145 rfl (leb rfl) gs8 (by subst es8; rfl) ?_
 refine WP.aloadN d18_146 rfl ?_
 refine WP.getfield (i := 0) (j := 22) d18_147 (hw _ m_55) rfl rfl rfl ?_
 refine WP.iloadN d18_150 rfl ?_
 refine WP.lload d18_151 rfl ?_
 refine WP.lload d18_153 rfl ?_
 refine WP.lsub d18_155 ?_
 obtain ⟨s9, hs9, h⟩ := bd h
 obtain ⟨ys9, gs9, es9⟩ := wrB_e hs9
 refine WP.lastore (i := 19) (xs := gB s8 6) (H' := (Hb 0 s9)) d18_156 rfl (leb rfl) gs9 (by subst es9; rfl) ?_
 refine WP.aloadN d18_157 rfl ?_
 refine WP.getfield (i := 0) (j := 23) d18_158 (hw _ m_57) rfl rfl rfl ?_
 refine WP.iloadN d18_161 rfl ?_
 refine WP.aloadN d18_162 rfl ?_
 refine WP.getfield (i := 0) (j := 3) d18_163 (hw _ m_144) rfl rfl rfl ?_
 obtain ⟨s10, hs10, h⟩ := bd h
 obtain ⟨ys10, gs10, es10⟩ := wrA_e hs10
 refine WP.iastore (i := 20) (xs := gA s9 12) (H' := (Hb 0 s10)) d18_166 rfl (leb rfl) gs10 (by subst es10; rfl) ?_
 cases h
 exact WP.vreturn d18_167 rfl (leb rfl) (leb rfl) ⟨rfl, rfl⟩
def f_buildInvoice_84 (n : Nat) (v1 v2 v3 : Int32) (v4 v6 v8 t0 : Int64) (s : St) : Option (St) :=
 if v2 = 0 then
  f_buildInvoice_93 n v1 v3 v4 v6 v8 (0 : Int64) s
 else
  f_buildInvoice_93 n v1 v3 v4 v6 v8 t0 s
theorem ok18_84 (l : Launch) (Z : State) (a0 : Array Value) (hw : HW a0 Z) (n0 n : Nat) (v1 v2 v3 : Int32) (v4 v6 v8 t0 : Int64) (s r : St) (h : f_buildInvoice_84 n v1 v2 v3 v4 v6 v8 t0 s = some r) : W18 l Z n0 (P18 r) 0 0 84 (vR 0 :: vI v1 :: vI v2 :: vI v3 :: vJ v4 :: vS :: vJ v6 :: vS :: vJ v8 :: vS :: vU :: vU :: []) [.long t0] (Hb 0 s) := by
 unfold f_buildInvoice_84 at h
 refine WP.lstore (L' := (vR 0 :: vI v1 :: vI v2 :: vI v3 :: vJ v4 :: vS :: vJ v6 :: vS :: vJ v8 :: vS :: vJ t0 :: vS :: [])) d18_84 (leb rfl) rfl ?_
 refine WP.iloadN d18_86 rfl ?_
 rcases ite_e h with ⟨hc1, h⟩ | ⟨hc1, h⟩
 ·
  refine WP.ifN d18_87 (XT.i0_ne_f hc1) ?_
  refine WP.lconst (0 : Int64) d18_90 rfl ?_
  refine WP.lstore (L' := (vR 0 :: vI v1 :: vI v2 :: vI v3 :: vJ v4 :: vS :: vJ v6 :: vS :: vJ v8 :: vS :: vJ (0 : Int64) :: vS :: [])) d18_91 (leb rfl) rfl ?_
  exact WP.weak (L' := (vR 0 :: vI v1 :: vU :: vI v3 :: vJ v4 :: vS :: vJ v6 :: vS :: vJ v8 :: vS :: vJ (0 : Int64) :: vS :: [])) ⟨rfl, rfl, rfl, rfl, rfl, rfl, rfl, rfl, rfl, rfl, rfl, trivial⟩ (ok18_93 l Z a0 hw n0 n v1 v3 v4 v6 v8 (0 : Int64) s _ h)
 ·
  refine WP.ifY (pc' := 93) d18_87 (XT.i0_ne_t hc1) (by decide) rfl ?_
  exact WP.weak (L' := (vR 0 :: vI v1 :: vU :: vI v3 :: vJ v4 :: vS :: vJ v6 :: vS :: vJ v8 :: vS :: vJ t0 :: vS :: [])) ⟨rfl, rfl, rfl, rfl, rfl, rfl, rfl, rfl, rfl, rfl, rfl, trivial⟩ (ok18_93 l Z a0 hw n0 n v1 v3 v4 v6 v8 t0 s _ h)
def f_buildInvoice_20 (n : Nat) (v1 v2 : Int32) (s : St) : Option (St) :=
 lt ((2 : Int32) * v2) fun x1 =>
 (f_fillLines n v1 v2 s).bind fun c2 =>
 lt ((c2.1 * ((gI c2.2 1).toInt64)) / (10000 : Int64)) fun x3 =>
 (f_spreadTax n v1 x1 x3 c2.2).bind fun c4 =>
 lt (c2.1 + x3) fun x5 =>
 (rd (gB c4 0) v1).bind fun x6 =>
 if x6 < x5 then
  (rd (gB c4 0) v1).bind fun x8 =>
  f_buildInvoice_84 n v1 v2 x1 c2.1 x3 x5 x8 c4
 else
  f_buildInvoice_84 n v1 v2 x1 c2.1 x3 x5 x5 c4
theorem ok18_20 (l : Launch) (Z : State) (a0 : Array Value) (hw : HW a0 Z) (n0 n : Nat) (v1 v2 : Int32) (s r : St) (h : f_buildInvoice_20 n v1 v2 s = some r) : W18 l Z n0 (P18 r) 0 0 20 (vR 0 :: vI v1 :: vI v2 :: vU :: vU :: vU :: vU :: vU :: vU :: vU :: vU :: vU :: []) [] (Hb 0 s) := by
 unfold f_buildInvoice_20 at h
 refine WP.iconst (2 : Int32) d18_20 rfl ?_
 refine WP.iloadN d18_21 rfl ?_
 refine WP.imul d18_22 ?_
 obtain ⟨x1, ex1, h⟩ := lt_e h
 refine WP.istoreN (L' := (vR 0 :: vI v1 :: vI v2 :: vI x1 :: vU :: vU :: vU :: vU :: vU :: vU :: vU :: vU :: [])) d18_23 (leb rfl) (by subst ex1; rfl) ?_
 refine WP.aloadN d18_24 rfl ?_
 refine WP.iloadN d18_25 rfl ?_
 refine WP.iloadN d18_26 rfl ?_
 obtain ⟨c2, hc2, h⟩ := bd h
 refine WP.callP (i := 0) (y := y19) (as := [.int v1, .int v2]) (S := []) d18_27 (hw _ m_154) (hw _ m_156) (hw _ m_8) (hw _ m_155) (hw _ m_157) (hw _ m_9) hy19 rfl (ok19 l Z a0 hw n v1 v2 s _ hc2) rfl (lenOf pd19 rfl) (leb rfl) (leb rfl) (leb rfl) (leb rfl) ?_
 rintro _ _ ⟨rfl, rfl⟩
 show W18 l Z n0 (P18 r) 0 0 30 (vR 0 :: vI v1 :: vI v2 :: vI x1 :: vU :: vU :: vU :: vU :: vU :: vU :: vU :: vU :: []) [.long c2.1] (Hb 0 c2.2)
 refine WP.lstore (L' := (vR 0 :: vI v1 :: vI v2 :: vI x1 :: vJ c2.1 :: vS :: vU :: vU :: vU :: vU :: vU :: vU :: [])) d18_30 (leb rfl) rfl ?_
 refine WP.lload d18_32 rfl ?_
 refine WP.aloadN d18_34 rfl ?_
 refine WP.getfield (i := 0) (j := 1) d18_35 (hw _ m_72) rfl rfl rfl ?_
 refine WP.i2l d18_38 ?_
 refine WP.lmul d18_39 ?_
 refine WP.ldc2 d18_40 (hw _ m_171) ?_
 refine WP.ldiv d18_43 (by decide) ?_
 obtain ⟨x3, ex3, h⟩ := lt_e h
 refine WP.lstore (L' := (vR 0 :: vI v1 :: vI v2 :: vI x1 :: vJ c2.1 :: vS :: vJ x3 :: vS :: vU :: vU :: vU :: vU :: [])) d18_44 (leb rfl) (by subst ex3; rfl) ?_
 refine WP.aloadN d18_46 rfl ?_
 refine WP.iloadN d18_47 rfl ?_
 refine WP.iloadN d18_48 rfl ?_
 refine WP.lload d18_49 rfl ?_
 obtain ⟨c4, hc4, h⟩ := bd h
 refine WP.callP (i := 0) (y := y23) (as := [.int v1, .int x1, .long x3]) (S := []) d18_51 (hw _ m_172) (hw _ m_174) (hw _ m_8) (hw _ m_173) (hw _ m_175) (hw _ m_9) hy23 rfl (ok23 l Z a0 hw n v1 x1 x3 c2.2 _ hc4) rfl (lenOf pd23 rfl) (leb rfl) (leb rfl) (leb rfl) (leb rfl) ?_
 rintro _ _ ⟨rfl, rfl⟩
 show W18 l Z n0 (P18 r) 0 0 54 (vR 0 :: vI v1 :: vI v2 :: vI x1 :: vJ c2.1 :: vS :: vJ x3 :: vS :: vU :: vU :: vU :: vU :: []) [] (Hb 0 c4)
 refine WP.lload d18_54 rfl ?_
 refine WP.lload d18_56 rfl ?_
 refine WP.ladd d18_58 ?_
 obtain ⟨x5, ex5, h⟩ := lt_e h
 refine WP.lstore (L' := (vR 0 :: vI v1 :: vI v2 :: vI x1 :: vJ c2.1 :: vS :: vJ x3 :: vS :: vJ x5 :: vS :: vU :: vU :: [])) d18_59 (leb rfl) (by subst ex5; rfl) ?_
 refine WP.aloadN d18_61 rfl ?_
 refine WP.getfield (i := 0) (j := 11) d18_62 (hw _ m_33) rfl rfl rfl ?_
 refine WP.iloadN d18_65 rfl ?_
 obtain ⟨x6, hx6, h⟩ := bd h
 refine WP.laload (i := 8) d18_66 rfl hx6 ?_
 refine WP.lload d18_67 rfl ?_
 refine WP.lcmp d18_69 ?_
 rcases ite_e h with ⟨hc7, h⟩ | ⟨hc7, h⟩
 ·
  refine WP.ifN d18_70 (XT.ll_ge_f hc7) ?_
  refine WP.aloadN d18_73 rfl ?_
  refine WP.getfield (i := 0) (j := 11) d18_74 (hw _ m_33) rfl rfl rfl ?_
  refine WP.iloadN d18_77 rfl ?_
  obtain ⟨x8, hx8, h⟩ := bd h
  refine WP.laload (i := 8) d18_78 rfl hx8 ?_
  refine WP.goto (pc' := 84) d18_79 (by decide) rfl ?_
  exact WP.weak (L' := (vR 0 :: vI v1 :: vI v2 :: vI x1 :: vJ c2.1 :: vS :: vJ x3 :: vS :: vJ x5 :: vS :: vU :: vU :: [])) ⟨rfl, rfl, rfl, rfl, rfl, rfl, rfl, rfl, rfl, rfl, trivial⟩ (ok18_84 l Z a0 hw n0 n v1 v2 x1 c2.1 x3 x5 x8 c4 _ h)
 ·
  refine WP.ifY (pc' := 82) d18_70 (XT.ll_ge_t hc7) (by decide) rfl ?_
  refine WP.lload d18_82 rfl ?_
  exact WP.weak (L' := (vR 0 :: vI v1 :: vI v2 :: vI x1 :: vJ c2.1 :: vS :: vJ x3 :: vS :: vJ x5 :: vS :: vU :: vU :: [])) ⟨rfl, rfl, rfl, rfl, rfl, rfl, rfl, rfl, rfl, rfl, trivial⟩ (ok18_84 l Z a0 hw n0 n v1 v2 x1 c2.1 x3 x5 x5 c4 _ h)
def f_buildInvoice_13 (n : Nat) (v1 v2 : Int32) (s : St) : Option (St) :=
 if (4 : Int32) < v2 then
  f_buildInvoice_20 n v1 (4 : Int32) s
 else
  f_buildInvoice_20 n v1 v2 s
theorem ok18_13 (l : Launch) (Z : State) (a0 : Array Value) (hw : HW a0 Z) (n0 n : Nat) (v1 v2 : Int32) (s r : St) (h : f_buildInvoice_13 n v1 v2 s = some r) : W18 l Z n0 (P18 r) 0 0 13 (vR 0 :: vI v1 :: vI v2 :: vU :: vU :: vU :: vU :: vU :: vU :: vU :: vU :: vU :: []) [] (Hb 0 s) := by
 unfold f_buildInvoice_13 at h
 refine WP.iloadN d18_13 rfl ?_
 refine WP.iconst (4 : Int32) d18_14 rfl ?_
 rcases ite_e h with ⟨hc1, h⟩ | ⟨hc1, h⟩
 ·
  refine WP.icmpN d18_15 (XT.ii_le_f hc1) ?_
  refine WP.iconst (4 : Int32) d18_18 rfl ?_
  refine WP.istoreN (L' := (vR 0 :: vI v1 :: vI (4 : Int32) :: vU :: vU :: vU :: vU :: vU :: vU :: vU :: vU :: vU :: [])) d18_19 (leb rfl) rfl ?_
  exact WP.weak (L' := (vR 0 :: vI v1 :: vI (4 : Int32) :: vU :: vU :: vU :: vU :: vU :: vU :: vU :: vU :: vU :: [])) ⟨rfl, rfl, rfl, trivial⟩ (ok18_20 l Z a0 hw n0 n v1 (4 : Int32) s _ h)
 ·
  refine WP.icmpY (pc' := 20) d18_15 (XT.ii_le_t hc1) (by decide) rfl ?_
  exact WP.weak (L' := (vR 0 :: vI v1 :: vI v2 :: vU :: vU :: vU :: vU :: vU :: vU :: vU :: vU :: vU :: [])) ⟨rfl, rfl, rfl, trivial⟩ (ok18_20 l Z a0 hw n0 n v1 v2 s _ h)
def f_buildInvoice (n : Nat) (p1 : Int32) (s : St) : Option (St) :=
 (rd (gA s 6) p1).bind fun x1 =>
 if x1 < 0 then
  f_buildInvoice_13 n p1 (0 : Int32) s
 else
  f_buildInvoice_13 n p1 x1 s
theorem ok18 (l : Launch) (Z : State) (a0 : Array Value) (hw : HW a0 Z) (n : Nat) (p1 : Int32) (s r : St) (h : f_buildInvoice n p1 s = some r) : CS l Z CN lay y18 prog_1_method_23_code 12 (none) R18 0 [.ref 0, .int p1] (Hb 0 s) (P18 r) := by
 refine CS.of_wp pn_cls (leb rfl) fun n0 => ?_
 show W18 l Z n0 (P18 r) 0 0 0 (vR 0 :: vI p1 :: vU :: vU :: vU :: vU :: vU :: vU :: vU :: vU :: vU :: vU :: []) [] (Hb 0 s)
 unfold f_buildInvoice at h
 refine WP.aloadN d18_0 rfl ?_
 refine WP.getfield (i := 0) (j := 10) d18_1 (hw _ m_30) rfl rfl rfl ?_
 refine WP.iloadN d18_4 rfl ?_
 obtain ⟨x1, hx1, h⟩ := bd h
 refine WP.iaload (i := 7) d18_5 rfl hx1 ?_
 refine WP.istoreN (L' := (vR 0 :: vI p1 :: vI x1 :: vU :: vU :: vU :: vU :: vU :: vU :: vU :: vU :: vU :: [])) d18_6 (leb rfl) rfl ?_
 refine WP.iloadN d18_7 rfl ?_
 rcases ite_e h with ⟨hc2, h⟩ | ⟨hc2, h⟩
 ·
  refine WP.ifN d18_8 (XT.i0_ge_f hc2) ?_
  refine WP.iconst (0 : Int32) d18_11 rfl ?_
  refine WP.istoreN (L' := (vR 0 :: vI p1 :: vI (0 : Int32) :: vU :: vU :: vU :: vU :: vU :: vU :: vU :: vU :: vU :: [])) d18_12 (leb rfl) rfl ?_
  exact WP.weak (L' := (vR 0 :: vI p1 :: vI (0 : Int32) :: vU :: vU :: vU :: vU :: vU :: vU :: vU :: vU :: vU :: [])) ⟨rfl, rfl, rfl, trivial⟩ (ok18_13 l Z a0 hw n0 n p1 (0 : Int32) s _ h)
 ·
  refine WP.ifY (pc' := 13) d18_8 (XT.i0_ge_t hc2) (by decide) rfl ?_
  exact WP.weak (L' := (vR 0 :: vI p1 :: vI x1 :: vU :: vU :: vU :: vU :: vU :: vU :: vU :: vU :: vU :: [])) ⟨rfl, rfl, rfl, trivial⟩ (ok18_13 l Z a0 hw n0 n p1 x1 s _ h)
theorem d16_0 : dc k18 0 (.aload_n 0) 1 := by decide +kernel
theorem d16_1 : dc k18 1 (.dup) 1 := by decide +kernel
theorem d16_2 : dc k18 2 (.getfield 136) 3 := by decide +kernel
theorem d16_5 : dc k18 5 (.iconst 1) 1 := by decide +kernel
theorem d16_6 : dc k18 6 (.iadd) 1 := by decide +kernel
theorem d16_7 : dc k18 7 (.putfield 136) 3 := by decide +kernel
theorem d16_10 : dc k18 10 (.iconst 0) 1 := by decide +kernel
theorem d16_11 : dc k18 11 (.istore_n 1) 1 := by decide +kernel
theorem d16_12 : dc k18 12 (.iconst 0) 1 := by decide +kernel
theorem d16_13 : dc k18 13 (.istore_n 2) 1 := by decide +kernel
theorem d16_14 : dc k18 14 (.iload_n 2) 1 := by decide +kernel
theorem d16_15 : dc k18 15 (.bipush 16) 2 := by decide +kernel
theorem d16_17 : dc k18 17 (.if_icmp .ge 74) 3 := by decide +kernel
theorem d16_20 : dc k18 20 (.aload_n 0) 1 := by decide +kernel
theorem d16_21 : dc k18 21 (.getfield 29) 3 := by decide +kernel
theorem d16_24 : dc k18 24 (.iload_n 2) 1 := by decide +kernel
theorem d16_25 : dc k18 25 (.iaload) 1 := by decide +kernel
theorem d16_26 : dc k18 26 (.ifCond .le 6) 3 := by decide +kernel
theorem d16_29 : dc k18 29 (.iinc 1 1) 3 := by decide +kernel
theorem d16_32 : dc k18 32 (.aload_n 0) 1 := by decide +kernel
theorem d16_33 : dc k18 33 (.iload_n 2) 1 := by decide +kernel
theorem d16_34 : dc k18 34 (.invokevirtual 132) 3 := by decide +kernel
theorem d16_37 : dc k18 37 (.istore_n 3) 1 := by decide +kernel
theorem d16_38 : dc k18 38 (.iload_n 3) 1 := by decide +kernel
theorem d16_39 : dc k18 39 (.ifCond .lt 13) 3 := by decide +kernel
theorem d16_42 : dc k18 42 (.aload_n 0) 1 := by decide +kernel
theorem d16_43 : dc k18 43 (.getfield 45) 3 := by decide +kernel
theorem d16_46 : dc k18 46 (.iload_n 3) 1 := by decide +kernel
theorem d16_47 : dc k18 47 (.aload_n 0) 1 := by decide +kernel
theorem d16_48 : dc k18 48 (.getfield 88) 3 := by decide +kernel
theorem d16_51 : dc k18 51 (.iastore) 1 := by decide +kernel
theorem d16_52 : dc k18 52 (.aload_n 0) 1 := by decide +kernel
theorem d16_53 : dc k18 53 (.iload_n 2) 1 := by decide +kernel
theorem d16_54 : dc k18 54 (.invokevirtual 139) 3 := by decide +kernel
theorem d16_57 : dc k18 57 (.aload_n 0) 1 := by decide +kernel
theorem d16_58 : dc k18 58 (.getfield 29) 3 := by decide +kernel
theorem d16_61 : dc k18 61 (.iload_n 2) 1 := by decide +kernel
theorem d16_62 : dc k18 62 (.iconst 0) 1 := by decide +kernel
theorem d16_63 : dc k18 63 (.iastore) 1 := by decide +kernel
theorem d16_64 : dc k18 64 (.aload_n 0) 1 := by decide +kernel
theorem d16_65 : dc k18 65 (.getfield 22) 3 := by decide +kernel
theorem d16_68 : dc k18 68 (.iload_n 2) 1 := by decide +kernel
theorem d16_69 : dc k18 69 (.baload) 1 := by decide +kernel
theorem d16_70 : dc k18 70 (.ifCond .eq 15) 3 := by decide +kernel
theorem d16_73 : dc k18 73 (.aload_n 0) 1 := by decide +kernel
theorem d16_74 : dc k18 74 (.iload_n 2) 1 := by decide +kernel
theorem d16_75 : dc k18 75 (.iconst 0) 1 := by decide +kernel
theorem d16_76 : dc k18 76 (.aload_n 0) 1 := by decide +kernel
theorem d16_77 : dc k18 77 (.getfield 26) 3 := by decide +kernel
theorem d16_80 : dc k18 80 (.iload_n 2) 1 := by decide +kernel
theorem d16_81 : dc k18 81 (.iaload) 1 := by decide +kernel
theorem d16_82 : dc k18 82 (.invokevirtual 128) 3 := by decide +kernel
theorem d16_85 : dc k18 85 (.iinc 2 1) 3 := by decide +kernel
theorem d16_88 : dc k18 88 (.goto (-74)) 3 := by decide +kernel
theorem d16_91 : dc k18 91 (.aload_n 0) 1 := by decide +kernel
theorem d16_92 : dc k18 92 (.iconst 0) 1 := by decide +kernel
theorem d16_93 : dc k18 93 (.putfield 96) 3 := by decide +kernel
theorem d16_96 : dc k18 96 (.iload_n 1) 1 := by decide +kernel
theorem d16_97 : dc k18 97 (.ireturn) 1 := by decide +kernel
abbrev y16 : MethodName := ⟨"BillingRun", "closeCycle", "()I"⟩
theorem hy16 : y16.cls ≠ "java/lang/invoke/MethodHandle" ∧ y16.cls ≠ "java/lang/invoke/VarHandle" := by decide
theorem pd16 : parseMethodDescriptor y16.desc = some ⟨[], some .int⟩ := by decide +kernel
abbrev R16 : Room := { frames := 5, cells := 0, slots := 0, locals := 109 }
abbrev P16 (r : Int32 × St) : Option Value → List OwnC → Prop := fun v H' => v = some (.int r.1) ∧ H' = (Hb 0 r.2)
abbrev W16 (l : Launch) (Z : State) (n0 : Nat) (Q : Option Value → List OwnC → Prop) (k n pc : Nat) (L : List Slot) (S : List Value) (H : List OwnC) : Prop := WP l Z CN lay "BillingRun" "closeCycle" prog_1_method_20_code 4 (some FieldType.int) R16 n0 0 Q k n pc L S H
def f_closeCycle_85 (k14 : KT3) (n : Nat) (v1 v2 : Int32) (s : St) : Option (Int32 × St) :=
 lt (v2 + (1 : Int32)) fun x1 =>
 k14 v1 x1 s
abbrev HK16_14 (l : Launch) (Z : State) (n0 : Nat) (k14 : KT3) : Prop := ∀ (v1 v2 : Int32) (s : St) (r : Int32 × St), k14 v1 v2 s = some r → W16 l Z n0 (P16 r) 0 0 14 (vR 0 :: vI v1 :: vI v2 :: vU :: []) [] (Hb 0 s)
theorem ok16_85 (l : Launch) (Z : State) (a0 : Array Value) (hw : HW a0 Z) (n0 : Nat) (k14 : KT3) (hk14 : HK16_14 l Z n0 k14) (n : Nat) (v1 v2 : Int32) (s : St) (r : Int32 × St) (h : f_closeCycle_85 k14 n v1 v2 s = some r) : W16 l Z n0 (P16 r) 0 0 85 (vR 0 :: vI v1 :: vI v2 :: vU :: []) [] (Hb 0 s) := by
 unfold f_closeCycle_85 at h
 obtain ⟨x1, ex1, h⟩ := lt_e h
 refine WP.iinc (L' := (vR 0 :: vI v1 :: vI x1 :: vU :: [])) (1 : Int32) d16_85 rfl rfl (by subst ex1; rfl) ?_
 refine WP.goto (pc' := 14) d16_88 (by decide) rfl ?_
 exact WP.weak (L' := (vR 0 :: vI v1 :: vI x1 :: vU :: [])) ⟨rfl, rfl, rfl, trivial⟩ (hk14 v1 x1 s _ h)
def f_closeCycle_52 (k14 : KT3) (n : Nat) (v1 v2 : Int32) (s : St) : Option (Int32 × St) :=
 (f_buildInvoice n v2 s).bind fun c1 =>
 (wrA c1 6 v2 (0 : Int32)).bind fun s2 =>
 (rd (gA s2 4) v2).bind fun x3 =>
 if x3 = 0 then
  f_closeCycle_85 k14 n v1 v2 s2
 else
  (rd (gA s2 5) v2).bind fun x5 =>
  (f_appendSegment v2 (0 : Int32) x5 s2).bind fun c6 =>
  f_closeCycle_85 k14 n v1 v2 c6
theorem ok16_52 (l : Launch) (Z : State) (a0 : Array Value) (hw : HW a0 Z) (n0 : Nat) (k14 : KT3) (hk14 : HK16_14 l Z n0 k14) (n : Nat) (v1 v2 : Int32) (s : St) (r : Int32 × St) (h : f_closeCycle_52 k14 n v1 v2 s = some r) : W16 l Z n0 (P16 r) 0 0 52 (vR 0 :: vI v1 :: vI v2 :: vU :: []) [] (Hb 0 s) := by
 unfold f_closeCycle_52 at h
 refine WP.aloadN d16_52 rfl ?_
 refine WP.iloadN d16_53 rfl ?_
 obtain ⟨c1, hc1, h⟩ := bd h
 refine WP.callP (i := 0) (y := y18) (as := [.int v2]) (S := []) d16_54 (hw _ m_150) (hw _ m_152) (hw _ m_8) (hw _ m_151) (hw _ m_153) (hw _ m_9) hy18 rfl (ok18 l Z a0 hw n v2 s _ hc1) rfl (lenOf pd18 rfl) (leb rfl) (leb rfl) (leb rfl) (leb rfl) ?_
 rintro _ _ ⟨rfl, rfl⟩
 show W16 l Z n0 (P16 r) 0 0 57 (vR 0 :: vI v1 :: vI v2 :: vU :: []) [] (Hb 0 c1)
 refine WP.aloadN d16_57 rfl ?_
 refine WP.getfield (i := 0) (j := 10) d16_58 (hw _ m_30) rfl rfl rfl ?_
 refine WP.iloadN d16_61 rfl ?_
 refine WP.iconst (0 : Int32) d16_62 rfl ?_
 obtain ⟨s2, hs2, h⟩ := bd h
 obtain ⟨ys2, gs2, es2⟩ := wrA_e hs2
 refine WP.iastore (i := 7) (xs := gA c1 6) (H' := (Hb 0 s2)) d16_63 rfl (leb rfl) gs2 (by subst es2; rfl) ?_
 refine WP.aloadN d16_64 rfl ?_
 refine WP.getfield (i := 0) (j := 8) d16_65 (hw _ m_26) rfl rfl rfl ?_
 refine WP.iloadN d16_68 rfl ?_
 obtain ⟨x3, hx3, h⟩ := bd h
 refine WP.baload (i := 5) d16_69 rfl hx3 ?_
 rcases ite_e h with ⟨hc4, h⟩ | ⟨hc4, h⟩
 ·
  refine WP.ifY (pc' := 85) d16_70 (XT.i0_eq_t hc4) (by decide) rfl ?_
  exact WP.weak (L' := (vR 0 :: vI v1 :: vI v2 :: vU :: [])) ⟨rfl, rfl, rfl, trivial⟩ (ok16_85 l Z a0 hw n0 _ hk14 n v1 v2 s2 _ h)
 ·
  refine WP.ifN d16_70 (XT.i0_eq_f hc4) ?_
  refine WP.aloadN d16_73 rfl ?_
  refine WP.iloadN d16_74 rfl ?_
  refine WP.iconst (0 : Int32) d16_75 rfl ?_
  refine WP.aloadN d16_76 rfl ?_
  refine WP.getfield (i := 0) (j := 9) d16_77 (hw _ m_28) rfl rfl rfl ?_
  refine WP.iloadN d16_80 rfl ?_
  obtain ⟨x5, hx5, h⟩ := bd h
  refine WP.iaload (i := 6) d16_81 rfl hx5 ?_
  obtain ⟨c6, hc6, h⟩ := bd h
  refine WP.callP (i := 0) (y := y13) (as := [.int v2, .int (0 : Int32), .int x5]) (S := []) d16_82 (hw _ m_121) (hw _ m_123) (hw _ m_8) (hw _ m_122) (hw _ m_124) (hw _ m_9) hy13 rfl (ok13 l Z a0 hw v2 (0 : Int32) x5 s2 _ hc6) rfl (lenOf pd13 rfl) (leb rfl) (leb rfl) (leb rfl) (leb rfl) ?_
  rintro _ _ ⟨rfl, rfl⟩
  show W16 l Z n0 (P16 r) 0 0 85 (vR 0 :: vI v1 :: vI v2 :: vU :: []) [] (Hb 0 c6)
  exact WP.weak (L' := (vR 0 :: vI v1 :: vI v2 :: vU :: [])) ⟨rfl, rfl, rfl, trivial⟩ (ok16_85 l Z a0 hw n0 _ hk14 n v1 v2 c6 _ h)
def f_closeCycle_32 (k14 : KT3) (n : Nat) (v1 v2 : Int32) (s : St) : Option (Int32 × St) :=
 (f_openSlot v2 s).bind fun c1 =>
 if c1 < 0 then
  f_closeCycle_52 k14 n v1 v2 s
 else
  (wrA s 8 c1 (gI s 0)).bind fun s3 =>
  f_closeCycle_52 k14 n v1 v2 s3
theorem ok16_32 (l : Launch) (Z : State) (a0 : Array Value) (hw : HW a0 Z) (n0 : Nat) (k14 : KT3) (hk14 : HK16_14 l Z n0 k14) (n : Nat) (v1 v2 : Int32) (s : St) (r : Int32 × St) (h : f_closeCycle_32 k14 n v1 v2 s = some r) : W16 l Z n0 (P16 r) 0 0 32 (vR 0 :: vI v1 :: vI v2 :: vU :: []) [] (Hb 0 s) := by
 unfold f_closeCycle_32 at h
 refine WP.aloadN d16_32 rfl ?_
 refine WP.iloadN d16_33 rfl ?_
 obtain ⟨c1, hc1, h⟩ := bd h
 refine WP.callP (i := 0) (y := y17) (as := [.int v2]) (S := []) d16_34 (hw _ m_146) (hw _ m_148) (hw _ m_8) (hw _ m_147) (hw _ m_149) (hw _ m_9) hy17 rfl (ok17 l Z a0 hw v2 s _ hc1) rfl (lenOf pd17 rfl) (leb rfl) (leb rfl) (leb rfl) (leb rfl) ?_
 rintro _ _ ⟨rfl, rfl⟩
 show W16 l Z n0 (P16 r) 0 0 37 (vR 0 :: vI v1 :: vI v2 :: vU :: []) [.int c1] (Hb 0 s)
 refine WP.istoreN (L' := (vR 0 :: vI v1 :: vI v2 :: vI c1 :: [])) d16_37 (leb rfl) rfl ?_
 refine WP.iloadN d16_38 rfl ?_
 rcases ite_e h with ⟨hc2, h⟩ | ⟨hc2, h⟩
 ·
  refine WP.ifY (pc' := 52) d16_39 (XT.i0_lt_t hc2) (by decide) rfl ?_
  exact WP.weak (L' := (vR 0 :: vI v1 :: vI v2 :: vU :: [])) ⟨rfl, rfl, rfl, trivial⟩ (ok16_52 l Z a0 hw n0 _ hk14 n v1 v2 s _ h)
 ·
  refine WP.ifN d16_39 (XT.i0_lt_f hc2) ?_
  refine WP.aloadN d16_42 rfl ?_
  refine WP.getfield (i := 0) (j := 15) d16_43 (hw _ m_41) rfl rfl rfl ?_
  refine WP.iloadN d16_46 rfl ?_
  refine WP.aloadN d16_47 rfl ?_
  refine WP.getfield (i := 0) (j := 0) d16_48 (hw _ m_70) rfl rfl rfl ?_
  obtain ⟨s3, hs3, h⟩ := bd h
  obtain ⟨ys3, gs3, es3⟩ := wrA_e hs3
  refine WP.iastore (i := 12) (xs := gA s 8) (H' := (Hb 0 s3)) d16_51 rfl (leb rfl) gs3 (by subst es3; rfl) ?_
  exact WP.weak (L' := (vR 0 :: vI v1 :: vI v2 :: vU :: [])) ⟨rfl, rfl, rfl, trivial⟩ (ok16_52 l Z a0 hw n0 _ hk14 n v1 v2 s3 _ h)
def g_closeCycle_14 (k14 : KT3) (n : Nat) (v1 v2 : Int32) (s : St) : Option (Int32 × St) :=
 if v2 < (16 : Int32) then
  (rd (gA s 6) v2).bind fun x2 =>
  if 0 < x2 then
   lt (v1 + (1 : Int32)) fun x4 =>
   f_closeCycle_32 k14 n x4 v2 s
  else
   f_closeCycle_32 k14 n v1 v2 s
 else
  lt (sI s 2 (0 : Int32)) fun s5 =>
  some (v1, s5)
theorem okg16_14 (l : Launch) (Z : State) (a0 : Array Value) (hw : HW a0 Z) (n0 : Nat) (k14 : KT3) (hk14 : HK16_14 l Z n0 k14) (n : Nat) (v1 v2 : Int32) (s : St) (r : Int32 × St) (h : g_closeCycle_14 k14 n v1 v2 s = some r) : W16 l Z n0 (P16 r) 0 0 14 (vR 0 :: vI v1 :: vI v2 :: vU :: []) [] (Hb 0 s) := by
 unfold g_closeCycle_14 at h
 refine WP.iloadN d16_14 rfl ?_
 refine WP.bipush (16 : Int32) d16_15 rfl ?_
 rcases ite_e h with ⟨hc1, h⟩ | ⟨hc1, h⟩
 ·
  refine WP.icmpN d16_17 (XT.ii_ge_f hc1) ?_
  refine WP.aloadN d16_20 rfl ?_
  refine WP.getfield (i := 0) (j := 10) d16_21 (hw _ m_30) rfl rfl rfl ?_
  refine WP.iloadN d16_24 rfl ?_
  obtain ⟨x2, hx2, h⟩ := bd h
  refine WP.iaload (i := 7) d16_25 rfl hx2 ?_
  rcases ite_e h with ⟨hc3, h⟩ | ⟨hc3, h⟩
  ·
   refine WP.ifN d16_26 (XT.i0_le_f hc3) ?_
   obtain ⟨x4, ex4, h⟩ := lt_e h
   refine WP.iinc (L' := (vR 0 :: vI x4 :: vI v2 :: vU :: [])) (1 : Int32) d16_29 rfl rfl (by subst ex4; rfl) ?_
   exact WP.weak (L' := (vR 0 :: vI x4 :: vI v2 :: vU :: [])) ⟨rfl, rfl, rfl, trivial⟩ (ok16_32 l Z a0 hw n0 _ hk14 n x4 v2 s _ h)
  ·
   refine WP.ifY (pc' := 32) d16_26 (XT.i0_le_t hc3) (by decide) rfl ?_
   exact WP.weak (L' := (vR 0 :: vI v1 :: vI v2 :: vU :: [])) ⟨rfl, rfl, rfl, trivial⟩ (ok16_32 l Z a0 hw n0 _ hk14 n v1 v2 s _ h)
 ·
  refine WP.icmpY (pc' := 91) d16_17 (XT.ii_ge_t hc1) (by decide) rfl ?_
  refine WP.aloadN d16_91 rfl ?_
  refine WP.iconst (0 : Int32) d16_92 rfl ?_
  obtain ⟨s5, es5, h⟩ := lt_e h
  refine WP.putI (i := 0) (j := 2) (H' := (Hb 0 s5)) d16_93 (hw _ m_110) (Or.inl (hw _ m_111)) (hw _ m_8) (hlay hw) rfl rfl rfl (leb rfl) (by subst es5; rfl) ?_
  refine WP.iloadN d16_96 rfl ?_
  cases h
  exact WP.ireturn d16_97 rfl (leb rfl) (leb rfl) ⟨rfl, rfl⟩
def f_closeCycle_14 : Nat → Int32 → Int32 → St → Option (Int32 × St)
 | 0 => fun _ _ _ => none
 | n + 1 => g_closeCycle_14 (f_closeCycle_14 n) n
theorem ok16_14 (l : Launch) (Z : State) (a0 : Array Value) (hw : HW a0 Z) (n0 : Nat) : ∀ (n : Nat) (v1 v2 : Int32) (s : St) (r : Int32 × St), f_closeCycle_14 n v1 v2 s = some r → W16 l Z n0 (P16 r) 0 0 14 (vR 0 :: vI v1 :: vI v2 :: vU :: []) [] (Hb 0 s)
 | 0, v1, v2, s, r, h => nomatch (show none = some r from h)
 | n + 1, v1, v2, s, r, h => okg16_14 l Z a0 hw n0 _ (ok16_14 l Z a0 hw n0 n) n v1 v2 s r h
def f_closeCycle (n : Nat) (s : St) : Option (Int32 × St) :=
 lt (sI s 3 ((gI s 3) + (1 : Int32))) fun s1 =>
 f_closeCycle_14 n (0 : Int32) (0 : Int32) s1
theorem ok16 (l : Launch) (Z : State) (a0 : Array Value) (hw : HW a0 Z) (n : Nat) (s : St) (r : Int32 × St) (h : f_closeCycle n s = some r) : CS l Z CN lay y16 prog_1_method_20_code 4 (some FieldType.int) R16 0 [.ref 0] (Hb 0 s) (P16 r) := by
 refine CS.of_wp pn_cls (leb rfl) fun n0 => ?_
 show W16 l Z n0 (P16 r) 0 0 0 (vR 0 :: vU :: vU :: vU :: []) [] (Hb 0 s)
 unfold f_closeCycle at h
 refine WP.aloadN d16_0 rfl ?_
 refine WP.dup d16_1 rfl ?_
 refine WP.getfield (i := 0) (j := 3) d16_2 (hw _ m_144) rfl rfl rfl ?_
 refine WP.iconst (1 : Int32) d16_5 rfl ?_
 refine WP.iadd d16_6 ?_
 obtain ⟨s1, es1, h⟩ := lt_e h
 refine WP.putI (i := 0) (j := 3) (H' := (Hb 0 s1)) d16_7 (hw _ m_144) (Or.inl (hw _ m_145)) (hw _ m_8) (hlay hw) rfl rfl rfl (leb rfl) (by subst es1; rfl) ?_
 refine WP.iconst (0 : Int32) d16_10 rfl ?_
 refine WP.istoreN (L' := (vR 0 :: vI (0 : Int32) :: vU :: vU :: [])) d16_11 (leb rfl) rfl ?_
 refine WP.iconst (0 : Int32) d16_12 rfl ?_
 refine WP.istoreN (L' := (vR 0 :: vI (0 : Int32) :: vI (0 : Int32) :: vU :: [])) d16_13 (leb rfl) rfl ?_
 exact WP.weak (L' := (vR 0 :: vI (0 : Int32) :: vI (0 : Int32) :: vU :: [])) ⟨rfl, rfl, rfl, trivial⟩ (ok16_14 l Z a0 hw n0 n (0 : Int32) (0 : Int32) s1 _ h)
theorem d25_0 : dc k22 0 (.aload_n 0) 1 := by decide +kernel
theorem d25_1 : dc k22 1 (.iload_n 1) 1 := by decide +kernel
theorem d25_2 : dc k22 2 (.invokevirtual 122) 3 := by decide +kernel
theorem d25_5 : dc k22 5 (.ifCond .eq 17) 3 := by decide +kernel
theorem d25_8 : dc k22 8 (.iload_n 2) 1 := by decide +kernel
theorem d25_9 : dc k22 9 (.ifCond .lt 13) 3 := by decide +kernel
theorem d25_12 : dc k22 12 (.iload_n 2) 1 := by decide +kernel
theorem d25_13 : dc k22 13 (.aload_n 0) 1 := by decide +kernel
theorem d25_14 : dc k22 14 (.getfield 54) 3 := by decide +kernel
theorem d25_17 : dc k22 17 (.iload_n 1) 1 := by decide +kernel
theorem d25_18 : dc k22 18 (.iaload) 1 := by decide +kernel
theorem d25_19 : dc k22 19 (.if_icmp .lt 5) 3 := by decide +kernel
theorem d25_22 : dc k22 22 (.lconst 0) 1 := by decide +kernel
theorem d25_23 : dc k22 23 (.lreturn) 1 := by decide +kernel
theorem d25_24 : dc k22 24 (.aload_n 0) 1 := by decide +kernel
theorem d25_25 : dc k22 25 (.getfield 72) 3 := by decide +kernel
theorem d25_28 : dc k22 28 (.iload_n 1) 1 := by decide +kernel
theorem d25_29 : dc k22 29 (.bipush 8) 2 := by decide +kernel
theorem d25_31 : dc k22 31 (.imul) 1 := by decide +kernel
theorem d25_32 : dc k22 32 (.iload_n 2) 1 := by decide +kernel
theorem d25_33 : dc k22 33 (.iadd) 1 := by decide +kernel
theorem d25_34 : dc k22 34 (.laload) 1 := by decide +kernel
theorem d25_35 : dc k22 35 (.lreturn) 1 := by decide +kernel
abbrev y25 : MethodName := ⟨"BillingRun", "getLine", "(II)J"⟩
theorem hy25 : y25.cls ≠ "java/lang/invoke/MethodHandle" ∧ y25.cls ≠ "java/lang/invoke/VarHandle" := by decide
theorem pd25 : parseMethodDescriptor y25.desc = some ⟨[.int, .int], some .long⟩ := by decide +kernel
abbrev R25 : Room := { frames := 1, cells := 0, slots := 0, locals := 13 }
abbrev P25 (s : St) (r : Int64) : Option Value → List OwnC → Prop := fun v H' => v = some (.long r) ∧ H' = (Hb 0 s)
abbrev W25 (l : Launch) (Z : State) (n0 : Nat) (Q : Option Value → List OwnC → Prop) (k n pc : Nat) (L : List Slot) (S : List Value) (H : List OwnC) : Prop := WP l Z CN lay "BillingRun" "getLine" prog_1_method_24_code 3 (some FieldType.long) R25 n0 0 Q k n pc L S H
def f_getLine_22 (s : St) : Option (Int64) :=
 some (0 : Int64)
theorem ok25_22 (l : Launch) (Z : State) (a0 : Array Value) (hw : HW a0 Z) (n0 : Nat) (s : St) (r : Int64) (h : f_getLine_22 s = some r) : W25 l Z n0 (P25 s r) 0 0 22 (vU :: vU :: vU :: []) [] (Hb 0 s) := by
 unfold f_getLine_22 at h
 refine WP.lconst (0 : Int64) d25_22 rfl ?_
 cases h
 exact WP.lreturn d25_23 rfl (leb rfl) (leb rfl) ⟨rfl, rfl⟩
def f_getLine (p1 p2 : Int32) (s : St) : Option (Int64) :=
 (f_validCustomer p1 s).bind fun c1 =>
 if c1 = 0 then
  f_getLine_22 s
 else
  if p2 < 0 then
   f_getLine_22 s
  else
   (rd (gA s 11) p1).bind fun x4 =>
   if p2 < x4 then
    (rd (gB s 7) ((p1 * (8 : Int32)) + p2)).bind fun x6 =>
    some x6
   else
    f_getLine_22 s
theorem ok25 (l : Launch) (Z : State) (a0 : Array Value) (hw : HW a0 Z) (p1 p2 : Int32) (s : St) (r : Int64) (h : f_getLine p1 p2 s = some r) : CS l Z CN lay y25 prog_1_method_24_code 3 (some FieldType.long) R25 0 [.ref 0, .int p1, .int p2] (Hb 0 s) (P25 s r) := by
 refine CS.of_wp pn_cls (leb rfl) fun n0 => ?_
 show W25 l Z n0 (P25 s r) 0 0 0 (vR 0 :: vI p1 :: vI p2 :: []) [] (Hb 0 s)
 unfold f_getLine at h
 refine WP.aloadN d25_0 rfl ?_
 refine WP.iloadN d25_1 rfl ?_
 obtain ⟨c1, hc1, h⟩ := bd h
 refine WP.callP (i := 0) (y := y8) (as := [.int p1]) (S := []) d25_2 (hw _ m_95) (hw _ m_97) (hw _ m_8) (hw _ m_96) (hw _ m_98) (hw _ m_9) hy8 rfl (ok8 l Z a0 hw p1 s _ hc1) rfl (lenOf pd8 rfl) (leb rfl) (leb rfl) (leb rfl) (leb rfl) ?_
 rintro _ _ ⟨rfl, rfl⟩
 show W25 l Z n0 (P25 s r) 0 0 5 (vR 0 :: vI p1 :: vI p2 :: []) [.int c1] (Hb 0 s)
 rcases ite_e h with ⟨hc2, h⟩ | ⟨hc2, h⟩
 ·
  refine WP.ifY (pc' := 22) d25_5 (XT.i0_eq_t hc2) (by decide) rfl ?_
  exact WP.weak (L' := (vU :: vU :: vU :: [])) trivial (ok25_22 l Z a0 hw n0 s _ h)
 ·
  refine WP.ifN d25_5 (XT.i0_eq_f hc2) ?_
  refine WP.iloadN d25_8 rfl ?_
  rcases ite_e h with ⟨hc3, h⟩ | ⟨hc3, h⟩
  ·
   refine WP.ifY (pc' := 22) d25_9 (XT.i0_lt_t hc3) (by decide) rfl ?_
   exact WP.weak (L' := (vU :: vU :: vU :: [])) trivial (ok25_22 l Z a0 hw n0 s _ h)
  ·
   refine WP.ifN d25_9 (XT.i0_lt_f hc3) ?_
   refine WP.iloadN d25_12 rfl ?_
   refine WP.aloadN d25_13 rfl ?_
   refine WP.getfield (i := 0) (j := 18) d25_14 (hw _ m_47) rfl rfl rfl ?_
   refine WP.iloadN d25_17 rfl ?_
   obtain ⟨x4, hx4, h⟩ := bd h
   refine WP.iaload (i := 15) d25_18 rfl hx4 ?_
   rcases ite_e h with ⟨hc5, h⟩ | ⟨hc5, h⟩
   ·
    refine WP.icmpY (pc' := 24) d25_19 (XT.ii_lt_t hc5) (by decide) rfl ?_
    refine WP.aloadN d25_24 rfl ?_
    refine WP.getfield (i := 0) (j := 24) d25_25 (hw _ m_59) rfl rfl rfl ?_
    refine WP.iloadN d25_28 rfl ?_
    refine WP.bipush (8 : Int32) d25_29 rfl ?_
    refine WP.imul d25_31 ?_
    refine WP.iloadN d25_32 rfl ?_
    refine WP.iadd d25_33 ?_
    obtain ⟨x6, hx6, h⟩ := bd h
    refine WP.laload (i := 21) d25_34 rfl hx6 ?_
    cases h
    exact WP.lreturn d25_35 rfl (leb rfl) (leb rfl) ⟨rfl, rfl⟩
   ·
    refine WP.icmpN d25_19 (XT.ii_lt_f hc5) ?_
    exact WP.weak (L' := (vU :: vU :: vU :: [])) trivial (ok25_22 l Z a0 hw n0 s _ h)
theorem d26_0 : dc method_4_code 0 (.iload_n 0) 1 := by decide +kernel
theorem d26_1 : dc method_4_code 1 (.ifCond .ne 5) 3 := by decide +kernel
theorem d26_4 : dc method_4_code 4 (.lload_n 1) 1 := by decide +kernel
theorem d26_5 : dc method_4_code 5 (.lreturn) 1 := by decide +kernel
theorem d26_6 : dc method_4_code 6 (.iload_n 0) 1 := by decide +kernel
theorem d26_7 : dc method_4_code 7 (.iconst 1) 1 := by decide +kernel
theorem d26_8 : dc method_4_code 8 (.if_icmp .ne 5) 3 := by decide +kernel
theorem d26_11 : dc method_4_code 11 (.lload_n 3) 1 := by decide +kernel
theorem d26_12 : dc method_4_code 12 (.lreturn) 1 := by decide +kernel
theorem d26_13 : dc method_4_code 13 (.iload_n 0) 1 := by decide +kernel
theorem d26_14 : dc method_4_code 14 (.iconst 2) 1 := by decide +kernel
theorem d26_15 : dc method_4_code 15 (.if_icmp .ne 6) 3 := by decide +kernel
theorem d26_18 : dc method_4_code 18 (.lload 5) 2 := by decide +kernel
theorem d26_20 : dc method_4_code 20 (.lreturn) 1 := by decide +kernel
theorem d26_21 : dc method_4_code 21 (.lconst 0) 1 := by decide +kernel
theorem d26_22 : dc method_4_code 22 (.lreturn) 1 := by decide +kernel
abbrev y26 : MethodName := ⟨"BillingRunOwnLaw", "pick", "(IJJJ)J"⟩
theorem hy26 : y26.cls ≠ "java/lang/invoke/MethodHandle" ∧ y26.cls ≠ "java/lang/invoke/VarHandle" := by decide
theorem pd26 : parseMethodDescriptor y26.desc = some ⟨[.int, .long, .long, .long], some .long⟩ := by decide +kernel
abbrev R26 : Room := { frames := 0, cells := 0, slots := 0, locals := 0 }
abbrev P26 (r : Int64) : Option Value → List OwnC → Prop := fun v H' => v = some (.long r) ∧ H' = ([] : List OwnC)
abbrev W26 (l : Launch) (Z : State) (n0 : Nat) (Q : Option Value → List OwnC → Prop) (k n pc : Nat) (L : List Slot) (S : List Value) (H : List OwnC) : Prop := WP l Z CN lay "BillingRunOwnLaw" "pick" method_4_code 7 (some FieldType.long) R26 n0 0 Q k n pc L S H
def f_L_pick (p0 : Int32) (p1 p2 p3 : Int64) : Option (Int64) :=
 if p0 = 0 then
  some p1
 else
  if p0 = (1 : Int32) then
   some p2
  else
   if p0 = (2 : Int32) then
    some p3
   else
    some (0 : Int64)
theorem ok26 (l : Launch) (Z : State) (a0 : Array Value) (hw : HW a0 Z) (p0 : Int32) (p1 p2 p3 r : Int64) (h : f_L_pick p0 p1 p2 p3 = some r) : CS l Z CN lay y26 method_4_code 7 (some FieldType.long) R26 0 [.int p0, .long p1, .long p2, .long p3] ([] : List OwnC) (P26 r) := by
 refine CS.of_wp pn_law (leb rfl) fun n0 => ?_
 show W26 l Z n0 (P26 r) 0 0 0 (vI p0 :: vJ p1 :: vS :: vJ p2 :: vS :: vJ p3 :: vS :: []) [] ([] : List OwnC)
 unfold f_L_pick at h
 refine WP.iloadN d26_0 rfl ?_
 rcases ite_e h with ⟨hc1, h⟩ | ⟨hc1, h⟩
 ·
  refine WP.ifN d26_1 (XT.i0_ne_f hc1) ?_
  refine WP.lloadN d26_4 rfl ?_
  cases h
  exact WP.lreturn d26_5 rfl (leb rfl) (leb rfl) ⟨rfl, rfl⟩
 ·
  refine WP.ifY (pc' := 6) d26_1 (XT.i0_ne_t hc1) (by decide) rfl ?_
  refine WP.iloadN d26_6 rfl ?_
  refine WP.iconst (1 : Int32) d26_7 rfl ?_
  rcases ite_e h with ⟨hc2, h⟩ | ⟨hc2, h⟩
  ·
   refine WP.icmpN d26_8 (XT.ii_ne_f hc2) ?_
   refine WP.lloadN d26_11 rfl ?_
   cases h
   exact WP.lreturn d26_12 rfl (leb rfl) (leb rfl) ⟨rfl, rfl⟩
  ·
   refine WP.icmpY (pc' := 13) d26_8 (XT.ii_ne_t hc2) (by decide) rfl ?_
   refine WP.iloadN d26_13 rfl ?_
   refine WP.iconst (2 : Int32) d26_14 rfl ?_
   rcases ite_e h with ⟨hc3, h⟩ | ⟨hc3, h⟩
   ·
    refine WP.icmpN d26_15 (XT.ii_ne_f hc3) ?_
    refine WP.lload d26_18 rfl ?_
    cases h
    exact WP.lreturn d26_20 rfl (leb rfl) (leb rfl) ⟨rfl, rfl⟩
   ·
    refine WP.icmpY (pc' := 21) d26_15 (XT.ii_ne_t hc3) (by decide) rfl ?_
    refine WP.lconst (0 : Int64) d26_21 rfl ?_
    cases h
    exact WP.lreturn d26_22 rfl (leb rfl) (leb rfl) ⟨rfl, rfl⟩
theorem d7_0 : dc k24 0 (.aload_n 0) 1 := by decide +kernel
theorem d7_1 : dc k24 1 (.iload_n 1) 1 := by decide +kernel
theorem d7_2 : dc k24 2 (.invokevirtual 122) 3 := by decide +kernel
theorem d7_5 : dc k24 5 (.ifCond .ne 5) 3 := by decide +kernel
theorem d7_8 : dc k24 8 (.lconst 0) 1 := by decide +kernel
theorem d7_9 : dc k24 9 (.lreturn) 1 := by decide +kernel
theorem d7_10 : dc k24 10 (.iload_n 2) 1 := by decide +kernel
theorem d7_11 : dc k24 11 (.ifCond .ne 11) 3 := by decide +kernel
theorem d7_14 : dc k24 14 (.aload_n 0) 1 := by decide +kernel
theorem d7_15 : dc k24 15 (.getfield 54) 3 := by decide +kernel
theorem d7_18 : dc k24 18 (.iload_n 1) 1 := by decide +kernel
theorem d7_19 : dc k24 19 (.iaload) 1 := by decide +kernel
theorem d7_20 : dc k24 20 (.i2l) 1 := by decide +kernel
theorem d7_21 : dc k24 21 (.lreturn) 1 := by decide +kernel
theorem d7_22 : dc k24 22 (.iload_n 2) 1 := by decide +kernel
theorem d7_23 : dc k24 23 (.iconst 1) 1 := by decide +kernel
theorem d7_24 : dc k24 24 (.if_icmp .ne 10) 3 := by decide +kernel
theorem d7_27 : dc k24 27 (.aload_n 0) 1 := by decide +kernel
theorem d7_28 : dc k24 28 (.getfield 57) 3 := by decide +kernel
theorem d7_31 : dc k24 31 (.iload_n 1) 1 := by decide +kernel
theorem d7_32 : dc k24 32 (.laload) 1 := by decide +kernel
theorem d7_33 : dc k24 33 (.lreturn) 1 := by decide +kernel
theorem d7_34 : dc k24 34 (.iload_n 2) 1 := by decide +kernel
theorem d7_35 : dc k24 35 (.iconst 2) 1 := by decide +kernel
theorem d7_36 : dc k24 36 (.if_icmp .ne 10) 3 := by decide +kernel
theorem d7_39 : dc k24 39 (.aload_n 0) 1 := by decide +kernel
theorem d7_40 : dc k24 40 (.getfield 60) 3 := by decide +kernel
theorem d7_43 : dc k24 43 (.iload_n 1) 1 := by decide +kernel
theorem d7_44 : dc k24 44 (.laload) 1 := by decide +kernel
theorem d7_45 : dc k24 45 (.lreturn) 1 := by decide +kernel
theorem d7_46 : dc k24 46 (.iload_n 2) 1 := by decide +kernel
theorem d7_47 : dc k24 47 (.iconst 3) 1 := by decide +kernel
theorem d7_48 : dc k24 48 (.if_icmp .ne 10) 3 := by decide +kernel
theorem d7_51 : dc k24 51 (.aload_n 0) 1 := by decide +kernel
theorem d7_52 : dc k24 52 (.getfield 63) 3 := by decide +kernel
theorem d7_55 : dc k24 55 (.iload_n 1) 1 := by decide +kernel
theorem d7_56 : dc k24 56 (.laload) 1 := by decide +kernel
theorem d7_57 : dc k24 57 (.lreturn) 1 := by decide +kernel
theorem d7_58 : dc k24 58 (.iload_n 2) 1 := by decide +kernel
theorem d7_59 : dc k24 59 (.iconst 4) 1 := by decide +kernel
theorem d7_60 : dc k24 60 (.if_icmp .ne 10) 3 := by decide +kernel
theorem d7_63 : dc k24 63 (.aload_n 0) 1 := by decide +kernel
theorem d7_64 : dc k24 64 (.getfield 66) 3 := by decide +kernel
theorem d7_67 : dc k24 67 (.iload_n 1) 1 := by decide +kernel
theorem d7_68 : dc k24 68 (.laload) 1 := by decide +kernel
theorem d7_69 : dc k24 69 (.lreturn) 1 := by decide +kernel
theorem d7_70 : dc k24 70 (.iload_n 2) 1 := by decide +kernel
theorem d7_71 : dc k24 71 (.iconst 5) 1 := by decide +kernel
theorem d7_72 : dc k24 72 (.if_icmp .ne 11) 3 := by decide +kernel
theorem d7_75 : dc k24 75 (.aload_n 0) 1 := by decide +kernel
theorem d7_76 : dc k24 76 (.getfield 69) 3 := by decide +kernel
theorem d7_79 : dc k24 79 (.iload_n 1) 1 := by decide +kernel
theorem d7_80 : dc k24 80 (.iaload) 1 := by decide +kernel
theorem d7_81 : dc k24 81 (.i2l) 1 := by decide +kernel
theorem d7_82 : dc k24 82 (.lreturn) 1 := by decide +kernel
theorem d7_83 : dc k24 83 (.lconst 0) 1 := by decide +kernel
theorem d7_84 : dc k24 84 (.lreturn) 1 := by decide +kernel
abbrev y7 : MethodName := ⟨"BillingRun", "getInvoice", "(II)J"⟩
theorem hy7 : y7.cls ≠ "java/lang/invoke/MethodHandle" ∧ y7.cls ≠ "java/lang/invoke/VarHandle" := by decide
theorem pd7 : parseMethodDescriptor y7.desc = some ⟨[.int, .int], some .long⟩ := by decide +kernel
abbrev R7 : Room := { frames := 1, cells := 0, slots := 0, locals := 13 }
abbrev P7 (s : St) (r : Int64) : Option Value → List OwnC → Prop := fun v H' => v = some (.long r) ∧ H' = (Hb 0 s)
abbrev W7 (l : Launch) (Z : State) (n0 : Nat) (Q : Option Value → List OwnC → Prop) (k n pc : Nat) (L : List Slot) (S : List Value) (H : List OwnC) : Prop := WP l Z CN lay "BillingRun" "getInvoice" prog_1_method_26_code 3 (some FieldType.long) R7 n0 0 Q k n pc L S H
def f_getInvoice (p1 p2 : Int32) (s : St) : Option (Int64) :=
 (f_validCustomer p1 s).bind fun c1 =>
 if c1 = 0 then
  some (0 : Int64)
 else
  if p2 = 0 then
   (rd (gA s 11) p1).bind fun x4 =>
   some x4.toInt64
  else
   if p2 = (1 : Int32) then
    (rd (gB s 3) p1).bind fun x6 =>
    some x6
   else
    if p2 = (2 : Int32) then
     (rd (gB s 4) p1).bind fun x8 =>
     some x8
    else
     if p2 = (3 : Int32) then
      (rd (gB s 5) p1).bind fun x10 =>
      some x10
     else
      if p2 = (4 : Int32) then
       (rd (gB s 6) p1).bind fun x12 =>
       some x12
      else
       if p2 = (5 : Int32) then
        (rd (gA s 12) p1).bind fun x14 =>
        some x14.toInt64
       else
        some (0 : Int64)
theorem ok7 (l : Launch) (Z : State) (a0 : Array Value) (hw : HW a0 Z) (p1 p2 : Int32) (s : St) (r : Int64) (h : f_getInvoice p1 p2 s = some r) : CS l Z CN lay y7 prog_1_method_26_code 3 (some FieldType.long) R7 0 [.ref 0, .int p1, .int p2] (Hb 0 s) (P7 s r) := by
 refine CS.of_wp pn_cls (leb rfl) fun n0 => ?_
 show W7 l Z n0 (P7 s r) 0 0 0 (vR 0 :: vI p1 :: vI p2 :: []) [] (Hb 0 s)
 unfold f_getInvoice at h
 refine WP.aloadN d7_0 rfl ?_
 refine WP.iloadN d7_1 rfl ?_
 obtain ⟨c1, hc1, h⟩ := bd h
 refine WP.callP (i := 0) (y := y8) (as := [.int p1]) (S := []) d7_2 (hw _ m_95) (hw _ m_97) (hw _ m_8) (hw _ m_96) (hw _ m_98) (hw _ m_9) hy8 rfl (ok8 l Z a0 hw p1 s _ hc1) rfl (lenOf pd8 rfl) (leb rfl) (leb rfl) (leb rfl) (leb rfl) ?_
 rintro _ _ ⟨rfl, rfl⟩
 show W7 l Z n0 (P7 s r) 0 0 5 (vR 0 :: vI p1 :: vI p2 :: []) [.int c1] (Hb 0 s)
 rcases ite_e h with ⟨hc2, h⟩ | ⟨hc2, h⟩
 ·
  refine WP.ifN d7_5 (XT.i0_ne_f hc2) ?_
  refine WP.lconst (0 : Int64) d7_8 rfl ?_
  cases h
  exact WP.lreturn d7_9 rfl (leb rfl) (leb rfl) ⟨rfl, rfl⟩
 ·
  refine WP.ifY (pc' := 10) d7_5 (XT.i0_ne_t hc2) (by decide) rfl ?_
  refine WP.iloadN d7_10 rfl ?_
  rcases ite_e h with ⟨hc3, h⟩ | ⟨hc3, h⟩
  ·
   refine WP.ifN d7_11 (XT.i0_ne_f hc3) ?_
   refine WP.aloadN d7_14 rfl ?_
   refine WP.getfield (i := 0) (j := 18) d7_15 (hw _ m_47) rfl rfl rfl ?_
   refine WP.iloadN d7_18 rfl ?_
   obtain ⟨x4, hx4, h⟩ := bd h
   refine WP.iaload (i := 15) d7_19 rfl hx4 ?_
   refine WP.i2l d7_20 ?_
   cases h
   exact WP.lreturn d7_21 rfl (leb rfl) (leb rfl) ⟨rfl, rfl⟩
  ·
   refine WP.ifY (pc' := 22) d7_11 (XT.i0_ne_t hc3) (by decide) rfl ?_
   refine WP.iloadN d7_22 rfl ?_
   refine WP.iconst (1 : Int32) d7_23 rfl ?_
   rcases ite_e h with ⟨hc5, h⟩ | ⟨hc5, h⟩
   ·
    refine WP.icmpN d7_24 (XT.ii_ne_f hc5) ?_
    refine WP.aloadN d7_27 rfl ?_
    refine WP.getfield (i := 0) (j := 19) d7_28 (hw _ m_49) rfl rfl rfl ?_
    refine WP.iloadN d7_31 rfl ?_
    obtain ⟨x6, hx6, h⟩ := bd h
    refine WP.laload (i := 16) d7_32 rfl hx6 ?_
    cases h
    exact WP.lreturn d7_33 rfl (leb rfl) (leb rfl) ⟨rfl, rfl⟩
   ·
    refine WP.icmpY (pc' := 34) d7_24 (XT.ii_ne_t hc5) (by decide) rfl ?_
    refine WP.iloadN d7_34 rfl ?_
    refine WP.iconst (2 : Int32) d7_35 rfl ?_
    rcases ite_e h with ⟨hc7, h⟩ | ⟨hc7, h⟩
    ·
     refine WP.icmpN d7_36 (XT.ii_ne_f hc7) ?_
     refine WP.aloadN d7_39 rfl ?_
     refine WP.getfield (i := 0) (j := 20) d7_40 (hw _ m_51) rfl rfl rfl ?_
     refine WP.iloadN d7_43 rfl ?_
     obtain ⟨x8, hx8, h⟩ := bd h
     refine WP.laload (i := 17) d7_44 rfl hx8 ?_
     cases h
     exact WP.lreturn d7_45 rfl (leb rfl) (leb rfl) ⟨rfl, rfl⟩
    ·
     refine WP.icmpY (pc' := 46) d7_36 (XT.ii_ne_t hc7) (by decide) rfl ?_
     refine WP.iloadN d7_46 rfl ?_
     refine WP.iconst (3 : Int32) d7_47 rfl ?_
     rcases ite_e h with ⟨hc9, h⟩ | ⟨hc9, h⟩
     ·
      refine WP.icmpN d7_48 (XT.ii_ne_f hc9) ?_
      refine WP.aloadN d7_51 rfl ?_
      refine WP.getfield (i := 0) (j := 21) d7_52 (hw _ m_53) rfl rfl rfl ?_
      refine WP.iloadN d7_55 rfl ?_
      obtain ⟨x10, hx10, h⟩ := bd h
      refine WP.laload (i := 18) d7_56 rfl hx10 ?_
      cases h
      exact WP.lreturn d7_57 rfl (leb rfl) (leb rfl) ⟨rfl, rfl⟩
     ·
      refine WP.icmpY (pc' := 58) d7_48 (XT.ii_ne_t hc9) (by decide) rfl ?_
      refine WP.iloadN d7_58 rfl ?_
      refine WP.iconst (4 : Int32) d7_59 rfl ?_
      rcases ite_e h with ⟨hc11, h⟩ | ⟨hc11, h⟩
      ·
       refine WP.icmpN d7_60 (XT.ii_ne_f hc11) ?_
       refine WP.aloadN d7_63 rfl ?_
       refine WP.getfield (i := 0) (j := 22) d7_64 (hw _ m_55) rfl rfl rfl ?_
       refine WP.iloadN d7_67 rfl ?_
       obtain ⟨x12, hx12, h⟩ := bd h
       refine WP.laload (i := 19) d7_68 rfl hx12 ?_
       cases h
       exact WP.lreturn d7_69 rfl (leb rfl) (leb rfl) ⟨rfl, rfl⟩
      ·
       refine WP.icmpY (pc' := 70) d7_60 (XT.ii_ne_t hc11) (by decide) rfl ?_
       refine WP.iloadN d7_70 rfl ?_
       refine WP.iconst (5 : Int32) d7_71 rfl ?_
       rcases ite_e h with ⟨hc13, h⟩ | ⟨hc13, h⟩
       ·
        refine WP.icmpN d7_72 (XT.ii_ne_f hc13) ?_
        refine WP.aloadN d7_75 rfl ?_
        refine WP.getfield (i := 0) (j := 23) d7_76 (hw _ m_57) rfl rfl rfl ?_
        refine WP.iloadN d7_79 rfl ?_
        obtain ⟨x14, hx14, h⟩ := bd h
        refine WP.iaload (i := 20) d7_80 rfl hx14 ?_
        refine WP.i2l d7_81 ?_
        cases h
        exact WP.lreturn d7_82 rfl (leb rfl) (leb rfl) ⟨rfl, rfl⟩
       ·
        refine WP.icmpY (pc' := 83) d7_72 (XT.ii_ne_t hc13) (by decide) rfl ?_
        refine WP.lconst (0 : Int64) d7_83 rfl ?_
        cases h
        exact WP.lreturn d7_84 rfl (leb rfl) (leb rfl) ⟨rfl, rfl⟩
theorem d27_0 : dc k23 0 (.aload_n 0) 1 := by decide +kernel
theorem d27_1 : dc k23 1 (.iload_n 1) 1 := by decide +kernel
theorem d27_2 : dc k23 2 (.invokevirtual 122) 3 := by decide +kernel
theorem d27_5 : dc k23 5 (.ifCond .eq 17) 3 := by decide +kernel
theorem d27_8 : dc k23 8 (.iload_n 2) 1 := by decide +kernel
theorem d27_9 : dc k23 9 (.ifCond .lt 13) 3 := by decide +kernel
theorem d27_12 : dc k23 12 (.iload_n 2) 1 := by decide +kernel
theorem d27_13 : dc k23 13 (.aload_n 0) 1 := by decide +kernel
theorem d27_14 : dc k23 14 (.getfield 54) 3 := by decide +kernel
theorem d27_17 : dc k23 17 (.iload_n 1) 1 := by decide +kernel
theorem d27_18 : dc k23 18 (.iaload) 1 := by decide +kernel
theorem d27_19 : dc k23 19 (.if_icmp .lt 5) 3 := by decide +kernel
theorem d27_22 : dc k23 22 (.lconst 0) 1 := by decide +kernel
theorem d27_23 : dc k23 23 (.lreturn) 1 := by decide +kernel
theorem d27_24 : dc k23 24 (.aload_n 0) 1 := by decide +kernel
theorem d27_25 : dc k23 25 (.getfield 75) 3 := by decide +kernel
theorem d27_28 : dc k23 28 (.iload_n 1) 1 := by decide +kernel
theorem d27_29 : dc k23 29 (.bipush 8) 2 := by decide +kernel
theorem d27_31 : dc k23 31 (.imul) 1 := by decide +kernel
theorem d27_32 : dc k23 32 (.iload_n 2) 1 := by decide +kernel
theorem d27_33 : dc k23 33 (.iadd) 1 := by decide +kernel
theorem d27_34 : dc k23 34 (.laload) 1 := by decide +kernel
theorem d27_35 : dc k23 35 (.lreturn) 1 := by decide +kernel
abbrev y27 : MethodName := ⟨"BillingRun", "getLineTax", "(II)J"⟩
theorem hy27 : y27.cls ≠ "java/lang/invoke/MethodHandle" ∧ y27.cls ≠ "java/lang/invoke/VarHandle" := by decide
theorem pd27 : parseMethodDescriptor y27.desc = some ⟨[.int, .int], some .long⟩ := by decide +kernel
abbrev R27 : Room := { frames := 1, cells := 0, slots := 0, locals := 13 }
abbrev P27 (s : St) (r : Int64) : Option Value → List OwnC → Prop := fun v H' => v = some (.long r) ∧ H' = (Hb 0 s)
abbrev W27 (l : Launch) (Z : State) (n0 : Nat) (Q : Option Value → List OwnC → Prop) (k n pc : Nat) (L : List Slot) (S : List Value) (H : List OwnC) : Prop := WP l Z CN lay "BillingRun" "getLineTax" prog_1_method_25_code 3 (some FieldType.long) R27 n0 0 Q k n pc L S H
def f_getLineTax_22 (s : St) : Option (Int64) :=
 some (0 : Int64)
theorem ok27_22 (l : Launch) (Z : State) (a0 : Array Value) (hw : HW a0 Z) (n0 : Nat) (s : St) (r : Int64) (h : f_getLineTax_22 s = some r) : W27 l Z n0 (P27 s r) 0 0 22 (vU :: vU :: vU :: []) [] (Hb 0 s) := by
 unfold f_getLineTax_22 at h
 refine WP.lconst (0 : Int64) d27_22 rfl ?_
 cases h
 exact WP.lreturn d27_23 rfl (leb rfl) (leb rfl) ⟨rfl, rfl⟩
def f_getLineTax (p1 p2 : Int32) (s : St) : Option (Int64) :=
 (f_validCustomer p1 s).bind fun c1 =>
 if c1 = 0 then
  f_getLineTax_22 s
 else
  if p2 < 0 then
   f_getLineTax_22 s
  else
   (rd (gA s 11) p1).bind fun x4 =>
   if p2 < x4 then
    (rd (gB s 8) ((p1 * (8 : Int32)) + p2)).bind fun x6 =>
    some x6
   else
    f_getLineTax_22 s
theorem ok27 (l : Launch) (Z : State) (a0 : Array Value) (hw : HW a0 Z) (p1 p2 : Int32) (s : St) (r : Int64) (h : f_getLineTax p1 p2 s = some r) : CS l Z CN lay y27 prog_1_method_25_code 3 (some FieldType.long) R27 0 [.ref 0, .int p1, .int p2] (Hb 0 s) (P27 s r) := by
 refine CS.of_wp pn_cls (leb rfl) fun n0 => ?_
 show W27 l Z n0 (P27 s r) 0 0 0 (vR 0 :: vI p1 :: vI p2 :: []) [] (Hb 0 s)
 unfold f_getLineTax at h
 refine WP.aloadN d27_0 rfl ?_
 refine WP.iloadN d27_1 rfl ?_
 obtain ⟨c1, hc1, h⟩ := bd h
 refine WP.callP (i := 0) (y := y8) (as := [.int p1]) (S := []) d27_2 (hw _ m_95) (hw _ m_97) (hw _ m_8) (hw _ m_96) (hw _ m_98) (hw _ m_9) hy8 rfl (ok8 l Z a0 hw p1 s _ hc1) rfl (lenOf pd8 rfl) (leb rfl) (leb rfl) (leb rfl) (leb rfl) ?_
 rintro _ _ ⟨rfl, rfl⟩
 show W27 l Z n0 (P27 s r) 0 0 5 (vR 0 :: vI p1 :: vI p2 :: []) [.int c1] (Hb 0 s)
 rcases ite_e h with ⟨hc2, h⟩ | ⟨hc2, h⟩
 ·
  refine WP.ifY (pc' := 22) d27_5 (XT.i0_eq_t hc2) (by decide) rfl ?_
  exact WP.weak (L' := (vU :: vU :: vU :: [])) trivial (ok27_22 l Z a0 hw n0 s _ h)
 ·
  refine WP.ifN d27_5 (XT.i0_eq_f hc2) ?_
  refine WP.iloadN d27_8 rfl ?_
  rcases ite_e h with ⟨hc3, h⟩ | ⟨hc3, h⟩
  ·
   refine WP.ifY (pc' := 22) d27_9 (XT.i0_lt_t hc3) (by decide) rfl ?_
   exact WP.weak (L' := (vU :: vU :: vU :: [])) trivial (ok27_22 l Z a0 hw n0 s _ h)
  ·
   refine WP.ifN d27_9 (XT.i0_lt_f hc3) ?_
   refine WP.iloadN d27_12 rfl ?_
   refine WP.aloadN d27_13 rfl ?_
   refine WP.getfield (i := 0) (j := 18) d27_14 (hw _ m_47) rfl rfl rfl ?_
   refine WP.iloadN d27_17 rfl ?_
   obtain ⟨x4, hx4, h⟩ := bd h
   refine WP.iaload (i := 15) d27_18 rfl hx4 ?_
   rcases ite_e h with ⟨hc5, h⟩ | ⟨hc5, h⟩
   ·
    refine WP.icmpY (pc' := 24) d27_19 (XT.ii_lt_t hc5) (by decide) rfl ?_
    refine WP.aloadN d27_24 rfl ?_
    refine WP.getfield (i := 0) (j := 25) d27_25 (hw _ m_61) rfl rfl rfl ?_
    refine WP.iloadN d27_28 rfl ?_
    refine WP.bipush (8 : Int32) d27_29 rfl ?_
    refine WP.imul d27_31 ?_
    refine WP.iloadN d27_32 rfl ?_
    refine WP.iadd d27_33 ?_
    obtain ⟨x6, hx6, h⟩ := bd h
    refine WP.laload (i := 22) d27_34 rfl hx6 ?_
    cases h
    exact WP.lreturn d27_35 rfl (leb rfl) (leb rfl) ⟨rfl, rfl⟩
   ·
    refine WP.icmpN d27_19 (XT.ii_lt_f hc5) ?_
    exact WP.weak (L' := (vU :: vU :: vU :: [])) trivial (ok27_22 l Z a0 hw n0 s _ h)
theorem d6_0 : dc method_5_code 0 (.iconst 0) 1 := by decide +kernel
theorem d6_1 : dc method_5_code 1 (.istore_n 1) 1 := by decide +kernel
theorem d6_2 : dc method_5_code 2 (.iload_n 1) 1 := by decide +kernel
theorem d6_3 : dc method_5_code 3 (.bipush 16) 2 := by decide +kernel
theorem d6_5 : dc method_5_code 5 (.if_icmp .ge 206) 3 := by decide +kernel
theorem d6_8 : dc method_5_code 8 (.aload_n 0) 1 := by decide +kernel
theorem d6_9 : dc method_5_code 9 (.iload_n 1) 1 := by decide +kernel
theorem d6_10 : dc method_5_code 10 (.iconst 0) 1 := by decide +kernel
theorem d6_11 : dc method_5_code 11 (.invokevirtual 9) 3 := by decide +kernel
theorem d6_14 : dc method_5_code 14 (.lstore_n 2) 1 := by decide +kernel
theorem d6_15 : dc method_5_code 15 (.lload_n 2) 1 := by decide +kernel
theorem d6_16 : dc method_5_code 16 (.lconst 0) 1 := by decide +kernel
theorem d6_17 : dc method_5_code 17 (.lcmp) 1 := by decide +kernel
theorem d6_18 : dc method_5_code 18 (.ifCond .lt 11) 3 := by decide +kernel
theorem d6_21 : dc method_5_code 21 (.lload_n 2) 1 := by decide +kernel
theorem d6_22 : dc method_5_code 22 (.ldc2_w 13) 3 := by decide +kernel
theorem d6_25 : dc method_5_code 25 (.lcmp) 1 := by decide +kernel
theorem d6_26 : dc method_5_code 26 (.ifCond .le 5) 3 := by decide +kernel
theorem d6_29 : dc method_5_code 29 (.iconst 0) 1 := by decide +kernel
theorem d6_30 : dc method_5_code 30 (.ireturn) 1 := by decide +kernel
theorem d6_31 : dc method_5_code 31 (.lconst 0) 1 := by decide +kernel
theorem d6_32 : dc method_5_code 32 (.lstore 4) 2 := by decide +kernel
theorem d6_34 : dc method_5_code 34 (.lconst 0) 1 := by decide +kernel
theorem d6_35 : dc method_5_code 35 (.lstore 6) 2 := by decide +kernel
theorem d6_37 : dc method_5_code 37 (.iconst 0) 1 := by decide +kernel
theorem d6_38 : dc method_5_code 38 (.istore 8) 2 := by decide +kernel
theorem d6_40 : dc method_5_code 40 (.iload 8) 2 := by decide +kernel
theorem d6_42 : dc method_5_code 42 (.i2l) 1 := by decide +kernel
theorem d6_43 : dc method_5_code 43 (.lload_n 2) 1 := by decide +kernel
theorem d6_44 : dc method_5_code 44 (.lcmp) 1 := by decide +kernel
theorem d6_45 : dc method_5_code 45 (.ifCond .ge 33) 3 := by decide +kernel
theorem d6_48 : dc method_5_code 48 (.lload 4) 2 := by decide +kernel
theorem d6_50 : dc method_5_code 50 (.aload_n 0) 1 := by decide +kernel
theorem d6_51 : dc method_5_code 51 (.iload_n 1) 1 := by decide +kernel
theorem d6_52 : dc method_5_code 52 (.iload 8) 2 := by decide +kernel
theorem d6_54 : dc method_5_code 54 (.invokevirtual 15) 3 := by decide +kernel
theorem d6_57 : dc method_5_code 57 (.ladd) 1 := by decide +kernel
theorem d6_58 : dc method_5_code 58 (.lstore 4) 2 := by decide +kernel
theorem d6_60 : dc method_5_code 60 (.lload 6) 2 := by decide +kernel
theorem d6_62 : dc method_5_code 62 (.aload_n 0) 1 := by decide +kernel
theorem d6_63 : dc method_5_code 63 (.iload_n 1) 1 := by decide +kernel
theorem d6_64 : dc method_5_code 64 (.iload 8) 2 := by decide +kernel
theorem d6_66 : dc method_5_code 66 (.invokevirtual 18) 3 := by decide +kernel
theorem d6_69 : dc method_5_code 69 (.ladd) 1 := by decide +kernel
theorem d6_70 : dc method_5_code 70 (.lstore 6) 2 := by decide +kernel
theorem d6_72 : dc method_5_code 72 (.iinc 8 1) 3 := by decide +kernel
theorem d6_75 : dc method_5_code 75 (.goto (-35)) 3 := by decide +kernel
theorem d6_78 : dc method_5_code 78 (.aload_n 0) 1 := by decide +kernel
theorem d6_79 : dc method_5_code 79 (.iload_n 1) 1 := by decide +kernel
theorem d6_80 : dc method_5_code 80 (.iconst 1) 1 := by decide +kernel
theorem d6_81 : dc method_5_code 81 (.invokevirtual 9) 3 := by decide +kernel
theorem d6_84 : dc method_5_code 84 (.lstore 8) 2 := by decide +kernel
theorem d6_86 : dc method_5_code 86 (.aload_n 0) 1 := by decide +kernel
theorem d6_87 : dc method_5_code 87 (.iload_n 1) 1 := by decide +kernel
theorem d6_88 : dc method_5_code 88 (.iconst 2) 1 := by decide +kernel
theorem d6_89 : dc method_5_code 89 (.invokevirtual 9) 3 := by decide +kernel
theorem d6_92 : dc method_5_code 92 (.lstore 10) 2 := by decide +kernel
theorem d6_94 : dc method_5_code 94 (.aload_n 0) 1 := by decide +kernel
theorem d6_95 : dc method_5_code 95 (.iload_n 1) 1 := by decide +kernel
theorem d6_96 : dc method_5_code 96 (.iconst 3) 1 := by decide +kernel
theorem d6_97 : dc method_5_code 97 (.invokevirtual 9) 3 := by decide +kernel
theorem d6_100 : dc method_5_code 100 (.lstore 12) 2 := by decide +kernel
theorem d6_102 : dc method_5_code 102 (.aload_n 0) 1 := by decide +kernel
theorem d6_103 : dc method_5_code 103 (.iload_n 1) 1 := by decide +kernel
theorem d6_104 : dc method_5_code 104 (.iconst 4) 1 := by decide +kernel
theorem d6_105 : dc method_5_code 105 (.invokevirtual 9) 3 := by decide +kernel
theorem d6_108 : dc method_5_code 108 (.lstore 14) 2 := by decide +kernel
theorem d6_110 : dc method_5_code 110 (.lload 4) 2 := by decide +kernel
theorem d6_112 : dc method_5_code 112 (.lload 10) 2 := by decide +kernel
theorem d6_114 : dc method_5_code 114 (.lcmp) 1 := by decide +kernel
theorem d6_115 : dc method_5_code 115 (.ifCond .ne 43) 3 := by decide +kernel
theorem d6_118 : dc method_5_code 118 (.lload 6) 2 := by decide +kernel
theorem d6_120 : dc method_5_code 120 (.lload 8) 2 := by decide +kernel
theorem d6_122 : dc method_5_code 122 (.lcmp) 1 := by decide +kernel
theorem d6_123 : dc method_5_code 123 (.ifCond .ne 35) 3 := by decide +kernel
theorem d6_126 : dc method_5_code 126 (.lload 14) 2 := by decide +kernel
theorem d6_128 : dc method_5_code 128 (.lload 8) 2 := by decide +kernel
theorem d6_130 : dc method_5_code 130 (.lload 10) 2 := by decide +kernel
theorem d6_132 : dc method_5_code 132 (.ladd) 1 := by decide +kernel
theorem d6_133 : dc method_5_code 133 (.lload 12) 2 := by decide +kernel
theorem d6_135 : dc method_5_code 135 (.lsub) 1 := by decide +kernel
theorem d6_136 : dc method_5_code 136 (.lcmp) 1 := by decide +kernel
theorem d6_137 : dc method_5_code 137 (.ifCond .ne 21) 3 := by decide +kernel
theorem d6_140 : dc method_5_code 140 (.lload 12) 2 := by decide +kernel
theorem d6_142 : dc method_5_code 142 (.lconst 0) 1 := by decide +kernel
theorem d6_143 : dc method_5_code 143 (.lcmp) 1 := by decide +kernel
theorem d6_144 : dc method_5_code 144 (.ifCond .lt 14) 3 := by decide +kernel
theorem d6_147 : dc method_5_code 147 (.lload 12) 2 := by decide +kernel
theorem d6_149 : dc method_5_code 149 (.lload 8) 2 := by decide +kernel
theorem d6_151 : dc method_5_code 151 (.lload 10) 2 := by decide +kernel
theorem d6_153 : dc method_5_code 153 (.ladd) 1 := by decide +kernel
theorem d6_154 : dc method_5_code 154 (.lcmp) 1 := by decide +kernel
theorem d6_155 : dc method_5_code 155 (.ifCond .le 5) 3 := by decide +kernel
theorem d6_158 : dc method_5_code 158 (.iconst 0) 1 := by decide +kernel
theorem d6_159 : dc method_5_code 159 (.ireturn) 1 := by decide +kernel
theorem d6_160 : dc method_5_code 160 (.aload_n 0) 1 := by decide +kernel
theorem d6_161 : dc method_5_code 161 (.iload_n 1) 1 := by decide +kernel
theorem d6_162 : dc method_5_code 162 (.iconst 5) 1 := by decide +kernel
theorem d6_163 : dc method_5_code 163 (.invokevirtual 21) 3 := by decide +kernel
theorem d6_166 : dc method_5_code 166 (.lstore 16) 2 := by decide +kernel
theorem d6_168 : dc method_5_code 168 (.aload_n 0) 1 := by decide +kernel
theorem d6_169 : dc method_5_code 169 (.iload_n 1) 1 := by decide +kernel
theorem d6_170 : dc method_5_code 170 (.iconst 3) 1 := by decide +kernel
theorem d6_171 : dc method_5_code 171 (.invokevirtual 21) 3 := by decide +kernel
theorem d6_174 : dc method_5_code 174 (.lstore 18) 2 := by decide +kernel
theorem d6_176 : dc method_5_code 176 (.aload_n 0) 1 := by decide +kernel
theorem d6_177 : dc method_5_code 177 (.iload_n 1) 1 := by decide +kernel
theorem d6_178 : dc method_5_code 178 (.iconst 4) 1 := by decide +kernel
theorem d6_179 : dc method_5_code 179 (.invokevirtual 21) 3 := by decide +kernel
theorem d6_182 : dc method_5_code 182 (.lstore 20) 2 := by decide +kernel
theorem d6_184 : dc method_5_code 184 (.lload 16) 2 := by decide +kernel
theorem d6_186 : dc method_5_code 186 (.lload 18) 2 := by decide +kernel
theorem d6_188 : dc method_5_code 188 (.ladd) 1 := by decide +kernel
theorem d6_189 : dc method_5_code 189 (.lload 20) 2 := by decide +kernel
theorem d6_191 : dc method_5_code 191 (.lcmp) 1 := by decide +kernel
theorem d6_192 : dc method_5_code 192 (.ifCond .ne 11) 3 := by decide +kernel
theorem d6_195 : dc method_5_code 195 (.lload 16) 2 := by decide +kernel
theorem d6_197 : dc method_5_code 197 (.lload 20) 2 := by decide +kernel
theorem d6_199 : dc method_5_code 199 (.lcmp) 1 := by decide +kernel
theorem d6_200 : dc method_5_code 200 (.ifCond .le 5) 3 := by decide +kernel
theorem d6_203 : dc method_5_code 203 (.iconst 0) 1 := by decide +kernel
theorem d6_204 : dc method_5_code 204 (.ireturn) 1 := by decide +kernel
theorem d6_205 : dc method_5_code 205 (.iinc 1 1) 3 := by decide +kernel
theorem d6_208 : dc method_5_code 208 (.goto (-206)) 3 := by decide +kernel
theorem d6_211 : dc method_5_code 211 (.iconst 1) 1 := by decide +kernel
theorem d6_212 : dc method_5_code 212 (.ireturn) 1 := by decide +kernel
abbrev y6 : MethodName := ⟨"BillingRunOwnLaw", "invariants", "(LBillingRun;)Z"⟩
theorem hy6 : y6.cls ≠ "java/lang/invoke/MethodHandle" ∧ y6.cls ≠ "java/lang/invoke/VarHandle" := by decide
theorem pd6 : parseMethodDescriptor y6.desc = some ⟨[.object "BillingRun"], some .boolean⟩ := by decide +kernel
abbrev R6 : Room := { frames := 2, cells := 0, slots := 0, locals := 29 }
abbrev P6 (s : St) (r : Int32) : Option Value → List OwnC → Prop := fun v H' => v = some (.int r) ∧ H' = (Hb 0 s)
abbrev W6 (l : Launch) (Z : State) (n0 : Nat) (Q : Option Value → List OwnC → Prop) (k n pc : Nat) (L : List Slot) (S : List Value) (H : List OwnC) : Prop := WP l Z CN lay "BillingRunOwnLaw" "invariants" method_5_code 22 (some FieldType.boolean) R6 n0 0 Q k n pc L S H
def f_L_invariants_29 (n : Nat) (s : St) : Option (Int32) :=
 some (0 : Int32)
theorem ok6_29 (l : Launch) (Z : State) (a0 : Array Value) (hw : HW a0 Z) (n0 n : Nat) (s : St) (r : Int32) (h : f_L_invariants_29 n s = some r) : W6 l Z n0 (P6 s r) 0 0 29 (vU :: vU :: vU :: vU :: vU :: vU :: vU :: vU :: vU :: vU :: vU :: vU :: vU :: vU :: vU :: vU :: vU :: vU :: vU :: vU :: vU :: vU :: []) [] (Hb 0 s) := by
 unfold f_L_invariants_29 at h
 refine WP.iconst (0 : Int32) d6_29 rfl ?_
 cases h
 exact WP.zreturn d6_30 rfl (leb rfl) (leb rfl) ⟨rfl, rfl⟩
def f_L_invariants_158 (n : Nat) (s : St) : Option (Int32) :=
 some (0 : Int32)
theorem ok6_158 (l : Launch) (Z : State) (a0 : Array Value) (hw : HW a0 Z) (n0 n : Nat) (s : St) (r : Int32) (h : f_L_invariants_158 n s = some r) : W6 l Z n0 (P6 s r) 0 0 158 (vU :: vU :: vU :: vU :: vU :: vU :: vU :: vU :: vU :: vU :: vU :: vU :: vU :: vU :: vU :: vU :: vU :: vU :: vU :: vU :: vU :: vU :: []) [] (Hb 0 s) := by
 unfold f_L_invariants_158 at h
 refine WP.iconst (0 : Int32) d6_158 rfl ?_
 cases h
 exact WP.zreturn d6_159 rfl (leb rfl) (leb rfl) ⟨rfl, rfl⟩
def f_L_invariants_203 (n : Nat) (s : St) : Option (Int32) :=
 some (0 : Int32)
theorem ok6_203 (l : Launch) (Z : State) (a0 : Array Value) (hw : HW a0 Z) (n0 n : Nat) (s : St) (r : Int32) (h : f_L_invariants_203 n s = some r) : W6 l Z n0 (P6 s r) 0 0 203 (vU :: vU :: vU :: vU :: vU :: vU :: vU :: vU :: vU :: vU :: vU :: vU :: vU :: vU :: vU :: vU :: vU :: vU :: vU :: vU :: vU :: vU :: []) [] (Hb 0 s) := by
 unfold f_L_invariants_203 at h
 refine WP.iconst (0 : Int32) d6_203 rfl ?_
 cases h
 exact WP.zreturn d6_204 rfl (leb rfl) (leb rfl) ⟨rfl, rfl⟩
def g_L_invariants_40 (k2 : KT7) (k40 : KT14) (n : Nat) (v1 : Int32) (v2 v4 v6 : Int64) (v8 : Int32) (s : St) : Option (Int32) :=
 if v8.toInt64 < v2 then
  (f_getLineTax v1 v8 s).bind fun c2 =>
  lt (v4 + c2) fun x3 =>
  (f_getLine v1 v8 s).bind fun c4 =>
  lt (v6 + c4) fun x5 =>
  lt (v8 + (1 : Int32)) fun x6 =>
  k40 v1 v2 x3 x5 x6 s
 else
  (f_getInvoice v1 (1 : Int32) s).bind fun c7 =>
  (f_getInvoice v1 (2 : Int32) s).bind fun c8 =>
  (f_getInvoice v1 (3 : Int32) s).bind fun c9 =>
  (f_getInvoice v1 (4 : Int32) s).bind fun c10 =>
  if v4 = c8 then
   if v6 = c7 then
    if c10 = ((c7 + c8) - c9) then
     if c9 < (0 : Int64) then
      f_L_invariants_158 n s
     else
      if (c7 + c8) < c9 then
       f_L_invariants_158 n s
      else
       (f_getCustomer v1 (5 : Int32) s).bind fun c16 =>
       (f_getCustomer v1 (3 : Int32) s).bind fun c17 =>
       (f_getCustomer v1 (4 : Int32) s).bind fun c18 =>
       if (c16 + c17) = c18 then
        if c18 < c16 then
         f_L_invariants_203 n s
        else
         lt (v1 + (1 : Int32)) fun x21 =>
         k2 x21 s
       else
        f_L_invariants_203 n s
    else
     f_L_invariants_158 n s
   else
    f_L_invariants_158 n s
  else
   f_L_invariants_158 n s
abbrev HK6_2 (l : Launch) (Z : State) (n0 : Nat) (k2 : KT7) : Prop := ∀ (v1 : Int32) (s : St) (r : Int32), k2 v1 s = some r → W6 l Z n0 (P6 s r) 0 0 2 (vR 0 :: vI v1 :: vU :: vU :: vU :: vU :: vU :: vU :: vU :: vU :: vU :: vU :: vU :: vU :: vU :: vU :: vU :: vU :: vU :: vU :: vU :: vU :: []) [] (Hb 0 s)
abbrev HK6_40 (l : Launch) (Z : State) (n0 : Nat) (k40 : KT14) : Prop := ∀ (v1 : Int32) (v2 v4 v6 : Int64) (v8 : Int32) (s : St) (r : Int32), k40 v1 v2 v4 v6 v8 s = some r → W6 l Z n0 (P6 s r) 0 0 40 (vR 0 :: vI v1 :: vJ v2 :: vS :: vJ v4 :: vS :: vJ v6 :: vS :: vI v8 :: vU :: vU :: vU :: vU :: vU :: vU :: vU :: vU :: vU :: vU :: vU :: vU :: vU :: []) [] (Hb 0 s)
theorem okg6_40 (l : Launch) (Z : State) (a0 : Array Value) (hw : HW a0 Z) (n0 : Nat) (k2 : KT7) (hk2 : HK6_2 l Z n0 k2) (k40 : KT14) (hk40 : HK6_40 l Z n0 k40) (n : Nat) (v1 : Int32) (v2 v4 v6 : Int64) (v8 : Int32) (s : St) (r : Int32) (h : g_L_invariants_40 k2 k40 n v1 v2 v4 v6 v8 s = some r) : W6 l Z n0 (P6 s r) 0 0 40 (vR 0 :: vI v1 :: vJ v2 :: vS :: vJ v4 :: vS :: vJ v6 :: vS :: vI v8 :: vU :: vU :: vU :: vU :: vU :: vU :: vU :: vU :: vU :: vU :: vU :: vU :: vU :: []) [] (Hb 0 s) := by
 unfold g_L_invariants_40 at h
 refine WP.iload d6_40 rfl ?_
 refine WP.i2l d6_42 ?_
 refine WP.lloadN d6_43 rfl ?_
 refine WP.lcmp d6_44 ?_
 rcases ite_e h with ⟨hc1, h⟩ | ⟨hc1, h⟩
 ·
  refine WP.ifN d6_45 (XT.ll_ge_f hc1) ?_
  refine WP.lload d6_48 rfl ?_
  refine WP.aloadN d6_50 rfl ?_
  refine WP.iloadN d6_51 rfl ?_
  refine WP.iload d6_52 rfl ?_
  obtain ⟨c2, hc2, h⟩ := bd h
  refine WP.callV (i := 0) (y := y27) (as := [.int v1, .int v8]) (S := [.long v4]) d6_54 (hw _ m_189) (hw _ m_190) (hw _ m_192) (hw _ m_191) (hw _ m_193) (hw _ m_9) hy27 rfl (ok27 l Z a0 hw v1 v8 s _ hc2) rfl (lenOf pd27 rfl) (leb rfl) (leb rfl) (leb rfl) (leb rfl) ?_
  rintro _ _ ⟨rfl, rfl⟩
  show W6 l Z n0 (P6 s r) 0 0 57 (vR 0 :: vI v1 :: vJ v2 :: vS :: vJ v4 :: vS :: vJ v6 :: vS :: vI v8 :: vU :: vU :: vU :: vU :: vU :: vU :: vU :: vU :: vU :: vU :: vU :: vU :: vU :: []) [.long c2, .long v4] (Hb 0 s)
  refine WP.ladd d6_57 ?_
  obtain ⟨x3, ex3, h⟩ := lt_e h
  refine WP.lstore (L' := (vR 0 :: vI v1 :: vJ v2 :: vS :: vJ x3 :: vS :: vJ v6 :: vS :: vI v8 :: vU :: vU :: vU :: vU :: vU :: vU :: vU :: vU :: vU :: vU :: vU :: vU :: vU :: [])) d6_58 (leb rfl) (by subst ex3; rfl) ?_
  refine WP.lload d6_60 rfl ?_
  refine WP.aloadN d6_62 rfl ?_
  refine WP.iloadN d6_63 rfl ?_
  refine WP.iload d6_64 rfl ?_
  obtain ⟨c4, hc4, h⟩ := bd h
  refine WP.callV (i := 0) (y := y25) (as := [.int v1, .int v8]) (S := [.long v6]) d6_66 (hw _ m_180) (hw _ m_181) (hw _ m_183) (hw _ m_182) (hw _ m_184) (hw _ m_9) hy25 rfl (ok25 l Z a0 hw v1 v8 s _ hc4) rfl (lenOf pd25 rfl) (leb rfl) (leb rfl) (leb rfl) (leb rfl) ?_
  rintro _ _ ⟨rfl, rfl⟩
  show W6 l Z n0 (P6 s r) 0 0 69 (vR 0 :: vI v1 :: vJ v2 :: vS :: vJ x3 :: vS :: vJ v6 :: vS :: vI v8 :: vU :: vU :: vU :: vU :: vU :: vU :: vU :: vU :: vU :: vU :: vU :: vU :: vU :: []) [.long c4, .long v6] (Hb 0 s)
  refine WP.ladd d6_69 ?_
  obtain ⟨x5, ex5, h⟩ := lt_e h
  refine WP.lstore (L' := (vR 0 :: vI v1 :: vJ v2 :: vS :: vJ x3 :: vS :: vJ x5 :: vS :: vI v8 :: vU :: vU :: vU :: vU :: vU :: vU :: vU :: vU :: vU :: vU :: vU :: vU :: vU :: [])) d6_70 (leb rfl) (by subst ex5; rfl) ?_
  obtain ⟨x6, ex6, h⟩ := lt_e h
  refine WP.iinc (L' := (vR 0 :: vI v1 :: vJ v2 :: vS :: vJ x3 :: vS :: vJ x5 :: vS :: vI x6 :: vU :: vU :: vU :: vU :: vU :: vU :: vU :: vU :: vU :: vU :: vU :: vU :: vU :: [])) (1 : Int32) d6_72 rfl rfl (by subst ex6; rfl) ?_
  refine WP.goto (pc' := 40) d6_75 (by decide) rfl ?_
  exact WP.weak (L' := (vR 0 :: vI v1 :: vJ v2 :: vS :: vJ x3 :: vS :: vJ x5 :: vS :: vI x6 :: vU :: vU :: vU :: vU :: vU :: vU :: vU :: vU :: vU :: vU :: vU :: vU :: vU :: [])) ⟨rfl, rfl, rfl, rfl, rfl, rfl, rfl, rfl, rfl, trivial⟩ (hk40 v1 v2 x3 x5 x6 s _ h)
 ·
  refine WP.ifY (pc' := 78) d6_45 (XT.ll_ge_t hc1) (by decide) rfl ?_
  refine WP.aloadN d6_78 rfl ?_
  refine WP.iloadN d6_79 rfl ?_
  refine WP.iconst (1 : Int32) d6_80 rfl ?_
  obtain ⟨c7, hc7, h⟩ := bd h
  refine WP.callV (i := 0) (y := y7) (as := [.int v1, .int (1 : Int32)]) (S := []) d6_81 (hw _ m_90) (hw _ m_91) (hw _ m_93) (hw _ m_92) (hw _ m_94) (hw _ m_9) hy7 rfl (ok7 l Z a0 hw v1 (1 : Int32) s _ hc7) rfl (lenOf pd7 rfl) (leb rfl) (leb rfl) (leb rfl) (leb rfl) ?_
  rintro _ _ ⟨rfl, rfl⟩
  show W6 l Z n0 (P6 s r) 0 0 84 (vR 0 :: vI v1 :: vJ v2 :: vS :: vJ v4 :: vS :: vJ v6 :: vS :: vI v8 :: vU :: vU :: vU :: vU :: vU :: vU :: vU :: vU :: vU :: vU :: vU :: vU :: vU :: []) [.long c7] (Hb 0 s)
  refine WP.lstore (L' := (vR 0 :: vI v1 :: vJ v2 :: vS :: vJ v4 :: vS :: vJ v6 :: vS :: vJ c7 :: vS :: vU :: vU :: vU :: vU :: vU :: vU :: vU :: vU :: vU :: vU :: vU :: vU :: [])) d6_84 (leb rfl) rfl ?_
  refine WP.aloadN d6_86 rfl ?_
  refine WP.iloadN d6_87 rfl ?_
  refine WP.iconst (2 : Int32) d6_88 rfl ?_
  obtain ⟨c8, hc8, h⟩ := bd h
  refine WP.callV (i := 0) (y := y7) (as := [.int v1, .int (2 : Int32)]) (S := []) d6_89 (hw _ m_90) (hw _ m_91) (hw _ m_93) (hw _ m_92) (hw _ m_94) (hw _ m_9) hy7 rfl (ok7 l Z a0 hw v1 (2 : Int32) s _ hc8) rfl (lenOf pd7 rfl) (leb rfl) (leb rfl) (leb rfl) (leb rfl) ?_
  rintro _ _ ⟨rfl, rfl⟩
  show W6 l Z n0 (P6 s r) 0 0 92 (vR 0 :: vI v1 :: vJ v2 :: vS :: vJ v4 :: vS :: vJ v6 :: vS :: vJ c7 :: vS :: vU :: vU :: vU :: vU :: vU :: vU :: vU :: vU :: vU :: vU :: vU :: vU :: []) [.long c8] (Hb 0 s)
  refine WP.lstore (L' := (vR 0 :: vI v1 :: vJ v2 :: vS :: vJ v4 :: vS :: vJ v6 :: vS :: vJ c7 :: vS :: vJ c8 :: vS :: vU :: vU :: vU :: vU :: vU :: vU :: vU :: vU :: vU :: vU :: [])) d6_92 (leb rfl) rfl ?_
  refine WP.aloadN d6_94 rfl ?_
  refine WP.iloadN d6_95 rfl ?_
  refine WP.iconst (3 : Int32) d6_96 rfl ?_
  obtain ⟨c9, hc9, h⟩ := bd h
  refine WP.callV (i := 0) (y := y7) (as := [.int v1, .int (3 : Int32)]) (S := []) d6_97 (hw _ m_90) (hw _ m_91) (hw _ m_93) (hw _ m_92) (hw _ m_94) (hw _ m_9) hy7 rfl (ok7 l Z a0 hw v1 (3 : Int32) s _ hc9) rfl (lenOf pd7 rfl) (leb rfl) (leb rfl) (leb rfl) (leb rfl) ?_
  rintro _ _ ⟨rfl, rfl⟩
  show W6 l Z n0 (P6 s r) 0 0 100 (vR 0 :: vI v1 :: vJ v2 :: vS :: vJ v4 :: vS :: vJ v6 :: vS :: vJ c7 :: vS :: vJ c8 :: vS :: vU :: vU :: vU :: vU :: vU :: vU :: vU :: vU :: vU :: vU :: []) [.long c9] (Hb 0 s)
  refine WP.lstore (L' := (vR 0 :: vI v1 :: vJ v2 :: vS :: vJ v4 :: vS :: vJ v6 :: vS :: vJ c7 :: vS :: vJ c8 :: vS :: vJ c9 :: vS :: vU :: vU :: vU :: vU :: vU :: vU :: vU :: vU :: [])) d6_100 (leb rfl) rfl ?_
  refine WP.aloadN d6_102 rfl ?_
  refine WP.iloadN d6_103 rfl ?_
  refine WP.iconst (4 : Int32) d6_104 rfl ?_
  obtain ⟨c10, hc10, h⟩ := bd h
  refine WP.callV (i := 0) (y := y7) (as := [.int v1, .int (4 : Int32)]) (S := []) d6_105 (hw _ m_90) (hw _ m_91) (hw _ m_93) (hw _ m_92) (hw _ m_94) (hw _ m_9) hy7 rfl (ok7 l Z a0 hw v1 (4 : Int32) s _ hc10) rfl (lenOf pd7 rfl) (leb rfl) (leb rfl) (leb rfl) (leb rfl) ?_
  rintro _ _ ⟨rfl, rfl⟩
  show W6 l Z n0 (P6 s r) 0 0 108 (vR 0 :: vI v1 :: vJ v2 :: vS :: vJ v4 :: vS :: vJ v6 :: vS :: vJ c7 :: vS :: vJ c8 :: vS :: vJ c9 :: vS :: vU :: vU :: vU :: vU :: vU :: vU :: vU :: vU :: []) [.long c10] (Hb 0 s)
  refine WP.lstore (L' := (vR 0 :: vI v1 :: vJ v2 :: vS :: vJ v4 :: vS :: vJ v6 :: vS :: vJ c7 :: vS :: vJ c8 :: vS :: vJ c9 :: vS :: vJ c10 :: vS :: vU :: vU :: vU :: vU :: vU :: vU :: [])) d6_108 (leb rfl) rfl ?_
  refine WP.lload d6_110 rfl ?_
  refine WP.lload d6_112 rfl ?_
  refine WP.lcmp d6_114 ?_
  rcases ite_e h with ⟨hc11, h⟩ | ⟨hc11, h⟩
  ·
   refine WP.ifN d6_115 (XT.ll_ne_f hc11) ?_
   refine WP.lload d6_118 rfl ?_
   refine WP.lload d6_120 rfl ?_
   refine WP.lcmp d6_122 ?_
   rcases ite_e h with ⟨hc12, h⟩ | ⟨hc12, h⟩
   ·
    refine WP.ifN d6_123 (XT.ll_ne_f hc12) ?_
    refine WP.lload d6_126 rfl ?_
    refine WP.lload d6_128 rfl ?_
    refine WP.lload d6_130 rfl ?_
    refine WP.ladd d6_132 ?_
    refine WP.lload d6_133 rfl ?_
    refine WP.lsub d6_135 ?_
    refine WP.lcmp d6_136 ?_
    rcases ite_e h with ⟨hc13, h⟩ | ⟨hc13, h⟩
    ·
     refine WP.ifN d6_137 (XT.ll_ne_f hc13) ?_
     refine WP.lload d6_140 rfl ?_
     refine WP.lconst (0 : Int64) d6_142 rfl ?_
     refine WP.lcmp d6_143 ?_
     rcases ite_e h with ⟨hc14, h⟩ | ⟨hc14, h⟩
     ·
      refine WP.ifY (pc' := 158) d6_144 (XT.ll_lt_t hc14) (by decide) rfl ?_
      exact WP.weak (L' := (vU :: vU :: vU :: vU :: vU :: vU :: vU :: vU :: vU :: vU :: vU :: vU :: vU :: vU :: vU :: vU :: vU :: vU :: vU :: vU :: vU :: vU :: [])) trivial (ok6_158 l Z a0 hw n0 n s _ h)
     ·
      refine WP.ifN d6_144 (XT.ll_lt_f hc14) ?_
      refine WP.lload d6_147 rfl ?_
      refine WP.lload d6_149 rfl ?_
      refine WP.lload d6_151 rfl ?_
      refine WP.ladd d6_153 ?_
      refine WP.lcmp d6_154 ?_
      rcases ite_e h with ⟨hc15, h⟩ | ⟨hc15, h⟩
      ·
       refine WP.ifN d6_155 (XT.ll_le_f hc15) ?_
       exact WP.weak (L' := (vU :: vU :: vU :: vU :: vU :: vU :: vU :: vU :: vU :: vU :: vU :: vU :: vU :: vU :: vU :: vU :: vU :: vU :: vU :: vU :: vU :: vU :: [])) trivial (ok6_158 l Z a0 hw n0 n s _ h)
      ·
       refine WP.ifY (pc' := 160) d6_155 (XT.ll_le_t hc15) (by decide) rfl ?_
       refine WP.aloadN d6_160 rfl ?_
       refine WP.iloadN d6_161 rfl ?_
       refine WP.iconst (5 : Int32) d6_162 rfl ?_
       obtain ⟨c16, hc16, h⟩ := bd h
       refine WP.callV (i := 0) (y := y9) (as := [.int v1, .int (5 : Int32)]) (S := []) d6_163 (hw _ m_100) (hw _ m_101) (hw _ m_103) (hw _ m_102) (hw _ m_104) (hw _ m_9) hy9 rfl (ok9 l Z a0 hw v1 (5 : Int32) s _ hc16) rfl (lenOf pd9 rfl) (leb rfl) (leb rfl) (leb rfl) (leb rfl) ?_
       rintro _ _ ⟨rfl, rfl⟩
       show W6 l Z n0 (P6 s r) 0 0 166 (vR 0 :: vI v1 :: vJ v2 :: vS :: vJ v4 :: vS :: vJ v6 :: vS :: vJ c7 :: vS :: vJ c8 :: vS :: vJ c9 :: vS :: vJ c10 :: vS :: vU :: vU :: vU :: vU :: vU :: vU :: []) [.long c16] (Hb 0 s)
       refine WP.lstore (L' := (vR 0 :: vI v1 :: vJ v2 :: vS :: vJ v4 :: vS :: vJ v6 :: vS :: vJ c7 :: vS :: vJ c8 :: vS :: vJ c9 :: vS :: vJ c10 :: vS :: vJ c16 :: vS :: vU :: vU :: vU :: vU :: [])) d6_166 (leb rfl) rfl ?_
       refine WP.aloadN d6_168 rfl ?_
       refine WP.iloadN d6_169 rfl ?_
       refine WP.iconst (3 : Int32) d6_170 rfl ?_
       obtain ⟨c17, hc17, h⟩ := bd h
       refine WP.callV (i := 0) (y := y9) (as := [.int v1, .int (3 : Int32)]) (S := []) d6_171 (hw _ m_100) (hw _ m_101) (hw _ m_103) (hw _ m_102) (hw _ m_104) (hw _ m_9) hy9 rfl (ok9 l Z a0 hw v1 (3 : Int32) s _ hc17) rfl (lenOf pd9 rfl) (leb rfl) (leb rfl) (leb rfl) (leb rfl) ?_
       rintro _ _ ⟨rfl, rfl⟩
       show W6 l Z n0 (P6 s r) 0 0 174 (vR 0 :: vI v1 :: vJ v2 :: vS :: vJ v4 :: vS :: vJ v6 :: vS :: vJ c7 :: vS :: vJ c8 :: vS :: vJ c9 :: vS :: vJ c10 :: vS :: vJ c16 :: vS :: vU :: vU :: vU :: vU :: []) [.long c17] (Hb 0 s)
       refine WP.lstore (L' := (vR 0 :: vI v1 :: vJ v2 :: vS :: vJ v4 :: vS :: vJ v6 :: vS :: vJ c7 :: vS :: vJ c8 :: vS :: vJ c9 :: vS :: vJ c10 :: vS :: vJ c16 :: vS :: vJ c17 :: vS :: vU :: vU :: [])) d6_174 (leb rfl) rfl ?_
       refine WP.aloadN d6_176 rfl ?_
       refine WP.iloadN d6_177 rfl ?_
       refine WP.iconst (4 : Int32) d6_178 rfl ?_
       obtain ⟨c18, hc18, h⟩ := bd h
       refine WP.callV (i := 0) (y := y9) (as := [.int v1, .int (4 : Int32)]) (S := []) d6_179 (hw _ m_100) (hw _ m_101) (hw _ m_103) (hw _ m_102) (hw _ m_104) (hw _ m_9) hy9 rfl (ok9 l Z a0 hw v1 (4 : Int32) s _ hc18) rfl (lenOf pd9 rfl) (leb rfl) (leb rfl) (leb rfl) (leb rfl) ?_
       rintro _ _ ⟨rfl, rfl⟩
       show W6 l Z n0 (P6 s r) 0 0 182 (vR 0 :: vI v1 :: vJ v2 :: vS :: vJ v4 :: vS :: vJ v6 :: vS :: vJ c7 :: vS :: vJ c8 :: vS :: vJ c9 :: vS :: vJ c10 :: vS :: vJ c16 :: vS :: vJ c17 :: vS :: vU :: vU :: []) [.long c18] (Hb 0 s)
       refine WP.lstore (L' := (vR 0 :: vI v1 :: vJ v2 :: vS :: vJ v4 :: vS :: vJ v6 :: vS :: vJ c7 :: vS :: vJ c8 :: vS :: vJ c9 :: vS :: vJ c10 :: vS :: vJ c16 :: vS :: vJ c17 :: vS :: vJ c18 :: vS :: [])) d6_182 (leb rfl) rfl ?_
       refine WP.lload d6_184 rfl ?_
       refine WP.lload d6_186 rfl ?_
       refine WP.ladd d6_188 ?_
       refine WP.lload d6_189 rfl ?_
       refine WP.lcmp d6_191 ?_
       rcases ite_e h with ⟨hc19, h⟩ | ⟨hc19, h⟩
       ·
        refine WP.ifN d6_192 (XT.ll_ne_f hc19) ?_
        refine WP.lload d6_195 rfl ?_
        refine WP.lload d6_197 rfl ?_
        refine WP.lcmp d6_199 ?_
        rcases ite_e h with ⟨hc20, h⟩ | ⟨hc20, h⟩
        ·
         refine WP.ifN d6_200 (XT.ll_le_f hc20) ?_
         exact WP.weak (L' := (vU :: vU :: vU :: vU :: vU :: vU :: vU :: vU :: vU :: vU :: vU :: vU :: vU :: vU :: vU :: vU :: vU :: vU :: vU :: vU :: vU :: vU :: [])) trivial (ok6_203 l Z a0 hw n0 n s _ h)
        ·
         refine WP.ifY (pc' := 205) d6_200 (XT.ll_le_t hc20) (by decide) rfl ?_
         obtain ⟨x21, ex21, h⟩ := lt_e h
         refine WP.iinc (L' := (vR 0 :: vI x21 :: vJ v2 :: vS :: vJ v4 :: vS :: vJ v6 :: vS :: vJ c7 :: vS :: vJ c8 :: vS :: vJ c9 :: vS :: vJ c10 :: vS :: vJ c16 :: vS :: vJ c17 :: vS :: vJ c18 :: vS :: [])) (1 : Int32) d6_205 rfl rfl (by subst ex21; rfl) ?_
         refine WP.goto (pc' := 2) d6_208 (by decide) rfl ?_
         exact WP.weak (L' := (vR 0 :: vI x21 :: vU :: vU :: vU :: vU :: vU :: vU :: vU :: vU :: vU :: vU :: vU :: vU :: vU :: vU :: vU :: vU :: vU :: vU :: vU :: vU :: [])) ⟨rfl, rfl, trivial⟩ (hk2 x21 s _ h)
       ·
        refine WP.ifY (pc' := 203) d6_192 (XT.ll_ne_t hc19) (by decide) rfl ?_
        exact WP.weak (L' := (vU :: vU :: vU :: vU :: vU :: vU :: vU :: vU :: vU :: vU :: vU :: vU :: vU :: vU :: vU :: vU :: vU :: vU :: vU :: vU :: vU :: vU :: [])) trivial (ok6_203 l Z a0 hw n0 n s _ h)
    ·
     refine WP.ifY (pc' := 158) d6_137 (XT.ll_ne_t hc13) (by decide) rfl ?_
     exact WP.weak (L' := (vU :: vU :: vU :: vU :: vU :: vU :: vU :: vU :: vU :: vU :: vU :: vU :: vU :: vU :: vU :: vU :: vU :: vU :: vU :: vU :: vU :: vU :: [])) trivial (ok6_158 l Z a0 hw n0 n s _ h)
   ·
    refine WP.ifY (pc' := 158) d6_123 (XT.ll_ne_t hc12) (by decide) rfl ?_
    exact WP.weak (L' := (vU :: vU :: vU :: vU :: vU :: vU :: vU :: vU :: vU :: vU :: vU :: vU :: vU :: vU :: vU :: vU :: vU :: vU :: vU :: vU :: vU :: vU :: [])) trivial (ok6_158 l Z a0 hw n0 n s _ h)
  ·
   refine WP.ifY (pc' := 158) d6_115 (XT.ll_ne_t hc11) (by decide) rfl ?_
   exact WP.weak (L' := (vU :: vU :: vU :: vU :: vU :: vU :: vU :: vU :: vU :: vU :: vU :: vU :: vU :: vU :: vU :: vU :: vU :: vU :: vU :: vU :: vU :: vU :: [])) trivial (ok6_158 l Z a0 hw n0 n s _ h)
def f_L_invariants_40 (k2 : KT7) : Nat → Int32 → Int64 → Int64 → Int64 → Int32 → St → Option (Int32)
 | 0 => fun _ _ _ _ _ _ => none
 | n + 1 => g_L_invariants_40 k2 (f_L_invariants_40 k2 n) n
theorem ok6_40 (l : Launch) (Z : State) (a0 : Array Value) (hw : HW a0 Z) (n0 : Nat) (k2 : KT7) (hk2 : HK6_2 l Z n0 k2) : ∀ (n : Nat) (v1 : Int32) (v2 v4 v6 : Int64) (v8 : Int32) (s : St) (r : Int32), f_L_invariants_40 k2 n v1 v2 v4 v6 v8 s = some r → W6 l Z n0 (P6 s r) 0 0 40 (vR 0 :: vI v1 :: vJ v2 :: vS :: vJ v4 :: vS :: vJ v6 :: vS :: vI v8 :: vU :: vU :: vU :: vU :: vU :: vU :: vU :: vU :: vU :: vU :: vU :: vU :: vU :: []) [] (Hb 0 s)
 | 0, v1, v2, v4, v6, v8, s, r, h => nomatch (show none = some r from h)
 | n + 1, v1, v2, v4, v6, v8, s, r, h => okg6_40 l Z a0 hw n0 _ hk2 _ (ok6_40 l Z a0 hw n0 k2 hk2 n) n v1 v2 v4 v6 v8 s r h
def g_L_invariants_2 (k2 : KT7) (n : Nat) (v1 : Int32) (s : St) : Option (Int32) :=
 if v1 < (16 : Int32) then
  (f_getInvoice v1 (0 : Int32) s).bind fun c2 =>
  if c2 < (0 : Int64) then
   f_L_invariants_29 n s
  else
   if (8 : Int64) < c2 then
    f_L_invariants_29 n s
   else
    f_L_invariants_40 k2 n v1 c2 (0 : Int64) (0 : Int64) (0 : Int32) s
 else
  some (1 : Int32)
theorem okg6_2 (l : Launch) (Z : State) (a0 : Array Value) (hw : HW a0 Z) (n0 : Nat) (k2 : KT7) (hk2 : HK6_2 l Z n0 k2) (n : Nat) (v1 : Int32) (s : St) (r : Int32) (h : g_L_invariants_2 k2 n v1 s = some r) : W6 l Z n0 (P6 s r) 0 0 2 (vR 0 :: vI v1 :: vU :: vU :: vU :: vU :: vU :: vU :: vU :: vU :: vU :: vU :: vU :: vU :: vU :: vU :: vU :: vU :: vU :: vU :: vU :: vU :: []) [] (Hb 0 s) := by
 unfold g_L_invariants_2 at h
 refine WP.iloadN d6_2 rfl ?_
 refine WP.bipush (16 : Int32) d6_3 rfl ?_
 rcases ite_e h with ⟨hc1, h⟩ | ⟨hc1, h⟩
 ·
  refine WP.icmpN d6_5 (XT.ii_ge_f hc1) ?_
  refine WP.aloadN d6_8 rfl ?_
  refine WP.iloadN d6_9 rfl ?_
  refine WP.iconst (0 : Int32) d6_10 rfl ?_
  obtain ⟨c2, hc2, h⟩ := bd h
  refine WP.callV (i := 0) (y := y7) (as := [.int v1, .int (0 : Int32)]) (S := []) d6_11 (hw _ m_90) (hw _ m_91) (hw _ m_93) (hw _ m_92) (hw _ m_94) (hw _ m_9) hy7 rfl (ok7 l Z a0 hw v1 (0 : Int32) s _ hc2) rfl (lenOf pd7 rfl) (leb rfl) (leb rfl) (leb rfl) (leb rfl) ?_
  rintro _ _ ⟨rfl, rfl⟩
  show W6 l Z n0 (P6 s r) 0 0 14 (vR 0 :: vI v1 :: vU :: vU :: vU :: vU :: vU :: vU :: vU :: vU :: vU :: vU :: vU :: vU :: vU :: vU :: vU :: vU :: vU :: vU :: vU :: vU :: []) [.long c2] (Hb 0 s)
  refine WP.lstoreN (L' := (vR 0 :: vI v1 :: vJ c2 :: vS :: vU :: vU :: vU :: vU :: vU :: vU :: vU :: vU :: vU :: vU :: vU :: vU :: vU :: vU :: vU :: vU :: vU :: vU :: [])) d6_14 (leb rfl) rfl ?_
  refine WP.lloadN d6_15 rfl ?_
  refine WP.lconst (0 : Int64) d6_16 rfl ?_
  refine WP.lcmp d6_17 ?_
  rcases ite_e h with ⟨hc3, h⟩ | ⟨hc3, h⟩
  ·
   refine WP.ifY (pc' := 29) d6_18 (XT.ll_lt_t hc3) (by decide) rfl ?_
   exact WP.weak (L' := (vU :: vU :: vU :: vU :: vU :: vU :: vU :: vU :: vU :: vU :: vU :: vU :: vU :: vU :: vU :: vU :: vU :: vU :: vU :: vU :: vU :: vU :: [])) trivial (ok6_29 l Z a0 hw n0 n s _ h)
  ·
   refine WP.ifN d6_18 (XT.ll_lt_f hc3) ?_
   refine WP.lloadN d6_21 rfl ?_
   refine WP.ldc2 d6_22 (hw _ m_99) ?_
   refine WP.lcmp d6_25 ?_
   rcases ite_e h with ⟨hc4, h⟩ | ⟨hc4, h⟩
   ·
    refine WP.ifN d6_26 (XT.ll_le_f hc4) ?_
    exact WP.weak (L' := (vU :: vU :: vU :: vU :: vU :: vU :: vU :: vU :: vU :: vU :: vU :: vU :: vU :: vU :: vU :: vU :: vU :: vU :: vU :: vU :: vU :: vU :: [])) trivial (ok6_29 l Z a0 hw n0 n s _ h)
   ·
    refine WP.ifY (pc' := 31) d6_26 (XT.ll_le_t hc4) (by decide) rfl ?_
    refine WP.lconst (0 : Int64) d6_31 rfl ?_
    refine WP.lstore (L' := (vR 0 :: vI v1 :: vJ c2 :: vS :: vJ (0 : Int64) :: vS :: vU :: vU :: vU :: vU :: vU :: vU :: vU :: vU :: vU :: vU :: vU :: vU :: vU :: vU :: vU :: vU :: [])) d6_32 (leb rfl) rfl ?_
    refine WP.lconst (0 : Int64) d6_34 rfl ?_
    refine WP.lstore (L' := (vR 0 :: vI v1 :: vJ c2 :: vS :: vJ (0 : Int64) :: vS :: vJ (0 : Int64) :: vS :: vU :: vU :: vU :: vU :: vU :: vU :: vU :: vU :: vU :: vU :: vU :: vU :: vU :: vU :: [])) d6_35 (leb rfl) rfl ?_
    refine WP.iconst (0 : Int32) d6_37 rfl ?_
    refine WP.istore (L' := (vR 0 :: vI v1 :: vJ c2 :: vS :: vJ (0 : Int64) :: vS :: vJ (0 : Int64) :: vS :: vI (0 : Int32) :: vU :: vU :: vU :: vU :: vU :: vU :: vU :: vU :: vU :: vU :: vU :: vU :: vU :: [])) d6_38 (leb rfl) rfl ?_
    exact WP.weak (L' := (vR 0 :: vI v1 :: vJ c2 :: vS :: vJ (0 : Int64) :: vS :: vJ (0 : Int64) :: vS :: vI (0 : Int32) :: vU :: vU :: vU :: vU :: vU :: vU :: vU :: vU :: vU :: vU :: vU :: vU :: vU :: [])) ⟨rfl, rfl, rfl, rfl, rfl, rfl, rfl, rfl, rfl, trivial⟩ (ok6_40 l Z a0 hw n0 _ hk2 n v1 c2 (0 : Int64) (0 : Int64) (0 : Int32) s _ h)
 ·
  refine WP.icmpY (pc' := 211) d6_5 (XT.ii_ge_t hc1) (by decide) rfl ?_
  refine WP.iconst (1 : Int32) d6_211 rfl ?_
  cases h
  exact WP.zreturn d6_212 rfl (leb rfl) (leb rfl) ⟨rfl, rfl⟩
def f_L_invariants_2 : Nat → Int32 → St → Option (Int32)
 | 0 => fun _ _ => none
 | n + 1 => g_L_invariants_2 (f_L_invariants_2 n) n
theorem ok6_2 (l : Launch) (Z : State) (a0 : Array Value) (hw : HW a0 Z) (n0 : Nat) : ∀ (n : Nat) (v1 : Int32) (s : St) (r : Int32), f_L_invariants_2 n v1 s = some r → W6 l Z n0 (P6 s r) 0 0 2 (vR 0 :: vI v1 :: vU :: vU :: vU :: vU :: vU :: vU :: vU :: vU :: vU :: vU :: vU :: vU :: vU :: vU :: vU :: vU :: vU :: vU :: vU :: vU :: []) [] (Hb 0 s)
 | 0, v1, s, r, h => nomatch (show none = some r from h)
 | n + 1, v1, s, r, h => okg6_2 l Z a0 hw n0 _ (ok6_2 l Z a0 hw n0 n) n v1 s r h
def f_L_invariants (n : Nat) (s : St) : Option (Int32) :=
 f_L_invariants_2 n (0 : Int32) s
theorem ok6 (l : Launch) (Z : State) (a0 : Array Value) (hw : HW a0 Z) (n : Nat) (s : St) (r : Int32) (h : f_L_invariants n s = some r) : CS l Z CN lay y6 method_5_code 22 (some FieldType.boolean) R6 0 [.ref 0] (Hb 0 s) (P6 s r) := by
 refine CS.of_wp pn_law (leb rfl) fun n0 => ?_
 show W6 l Z n0 (P6 s r) 0 0 0 (vR 0 :: vU :: vU :: vU :: vU :: vU :: vU :: vU :: vU :: vU :: vU :: vU :: vU :: vU :: vU :: vU :: vU :: vU :: vU :: vU :: vU :: vU :: []) [] (Hb 0 s)
 unfold f_L_invariants at h
 refine WP.iconst (0 : Int32) d6_0 rfl ?_
 refine WP.istoreN (L' := (vR 0 :: vI (0 : Int32) :: vU :: vU :: vU :: vU :: vU :: vU :: vU :: vU :: vU :: vU :: vU :: vU :: vU :: vU :: vU :: vU :: vU :: vU :: vU :: vU :: [])) d6_1 (leb rfl) rfl ?_
 exact WP.weak (L' := (vR 0 :: vI (0 : Int32) :: vU :: vU :: vU :: vU :: vU :: vU :: vU :: vU :: vU :: vU :: vU :: vU :: vU :: vU :: vU :: vU :: vU :: vU :: vU :: vU :: [])) ⟨rfl, rfl, trivial⟩ (ok6_2 l Z a0 hw n0 n (0 : Int32) s _ h)
def fr1_f : List Nat := [0]
theorem fr1_c (x0 : List Int32) (x1 : St) : fr1_f.map (fun i => ([cI x0] ++ Hb 1 x1)[i]?) = ([cI x0]).map (fun c => some (rnC (ro1 fr1_f ([cI x0] ++ Hb 1 x1).length) c)) := rfl
theorem fr1_l (x0 : List Int32) (x1 : St) : ∀ x ∈ fr1_f, x < ([cI x0] ++ Hb 1 x1).length := by show ∀ x ∈ fr1_f, x < 26; decide
theorem fr1_p (x0 : List Int32) (x1 : St) : patch (ro1 fr1_f ([cI x0] ++ Hb 1 x1).length) fr1_f ([cI x0]) ([cI x0] ++ Hb 1 x1) = ([cI x0] ++ Hb 1 x1) := by
 have h := patch_seg (ro1 fr1_f ([cI x0] ++ Hb 1 x1).length) ([cI x0]) ([cI x0]) ([] : List OwnC) (Hb 1 x1) rfl
 rw [show List.range' ([] : List OwnC).length ([cI x0]).length = fr1_f from rfl, show ([cI x0]).map (rnC (ro1 fr1_f ([cI x0] ++ Hb 1 x1).length)) = ([cI x0]) from rfl] at h
 simpa only [List.append_assoc, List.append_nil, List.nil_append] using h
def fr2_f : List Nat := []
theorem fr2_c (x0 : List Int32) (x1 : St) : fr2_f.map (fun i => ([cI x0] ++ Hb 1 x1)[i]?) = ([] : List OwnC).map (fun c => some (rnC (ro1 fr2_f ([cI x0] ++ Hb 1 x1).length) c)) := rfl
theorem fr2_l (x0 : List Int32) (x1 : St) : ∀ x ∈ fr2_f, x < ([cI x0] ++ Hb 1 x1).length := by show ∀ x ∈ fr2_f, x < 26; decide
theorem fr2_p (x0 : List Int32) (x1 : St) : patch (ro1 fr2_f ([cI x0] ++ Hb 1 x1).length) fr2_f ([] : List OwnC) ([cI x0] ++ Hb 1 x1) = ([cI x0] ++ Hb 1 x1) := rfl
def fr3_f : List Nat := [1, 2, 3, 4, 5, 6, 7, 8, 9, 10, 11, 12, 13, 14, 15, 16, 17, 18, 19, 20, 21, 22, 23, 24, 25]
theorem fr3_c (x0 : List Int32) (x1 : St) : fr3_f.map (fun i => ([cI x0] ++ Hb 1 x1)[i]?) = (Hb 0 x1).map (fun c => some (rnC (ro1 fr3_f ([cI x0] ++ Hb 1 x1).length) c)) := rfl
theorem fr3_l (x0 : List Int32) (x1 : St) : ∀ x ∈ fr3_f, x < ([cI x0] ++ Hb 1 x1).length := by show ∀ x ∈ fr3_f, x < 26; decide
theorem fr3_p (x0 : List Int32) (x1 y1 : St) : patch (ro1 fr3_f ([cI x0] ++ Hb 1 x1).length) fr3_f (Hb 0 y1) ([cI x0] ++ Hb 1 x1) = ([cI x0] ++ Hb 1 y1) := by
 have h := patch_seg (ro1 fr3_f ([cI x0] ++ Hb 1 x1).length) (Hb 0 y1) (Hb 1 x1) ([cI x0]) ([] : List OwnC) rfl
 rw [show List.range' ([cI x0]).length (Hb 0 y1).length = fr3_f from rfl, show (Hb 0 y1).map (rnC (ro1 fr3_f ([cI x0] ++ Hb 1 x1).length)) = (Hb 1 y1) from rfl] at h
 simpa only [List.append_assoc, List.append_nil, List.nil_append] using h
def fr4_f : List Nat := []
theorem fr4_c (x0 : List Int32) : fr4_f.map (fun i => ([cI x0])[i]?) = ([] : List OwnC).map (fun c => some (rnC (ro1 fr4_f ([cI x0]).length) c)) := rfl
theorem fr4_l (x0 : List Int32) : ∀ x ∈ fr4_f, x < ([cI x0]).length := by show ∀ x ∈ fr4_f, x < 1; decide
theorem fr4_p (x0 : List Int32) : patch (ro1 fr4_f ([cI x0]).length) fr4_f ([] : List OwnC) ([cI x0]) = ([cI x0]) := rfl
def fr5_f : List Nat := [0]
theorem fr5_c (x0 : List Int32) : fr5_f.map (fun i => ([cI x0] ++ [cO vs0])[i]?) = ([cI x0]).map (fun c => some (rnC (ro1 fr5_f ([cI x0] ++ [cO vs0]).length) c)) := rfl
theorem fr5_l (x0 : List Int32) : ∀ x ∈ fr5_f, x < ([cI x0] ++ [cO vs0]).length := by show ∀ x ∈ fr5_f, x < 2; decide
theorem fr5_p (x0 : List Int32) : patch (ro1 fr5_f ([cI x0] ++ [cO vs0]).length) fr5_f ([cI x0]) ([cI x0] ++ [cO vs0]) = ([cI x0] ++ [cO vs0]) := rfl
def fr6_f : List Nat := []
theorem fr6_c (x0 : List Int32) : fr6_f.map (fun i => ([cI x0] ++ [cO vs0])[i]?) = ([] : List OwnC).map (fun c => some (rnC (ro1 fr6_f ([cI x0] ++ [cO vs0]).length) c)) := rfl
theorem fr6_l (x0 : List Int32) : ∀ x ∈ fr6_f, x < ([cI x0] ++ [cO vs0]).length := by show ∀ x ∈ fr6_f, x < 2; decide
theorem fr6_p (x0 : List Int32) : patch (ro1 fr6_f ([cI x0] ++ [cO vs0]).length) fr6_f ([] : List OwnC) ([cI x0] ++ [cO vs0]) = ([cI x0] ++ [cO vs0]) := rfl
def fr7_f : List Nat := [1]
theorem fr7_c (x0 : List Int32) : fr7_f.map (fun i => ([cI x0] ++ [cO vs0])[i]?) = ([cO vs0]).map (fun c => some (rnC (ro1 fr7_f ([cI x0] ++ [cO vs0]).length) c)) := rfl
theorem fr7_l (x0 : List Int32) : ∀ x ∈ fr7_f, x < ([cI x0] ++ [cO vs0]).length := by show ∀ x ∈ fr7_f, x < 2; decide
theorem fr7_p (x0 : List Int32) (y1 : St) : patch (ro1 fr7_f ([cI x0] ++ [cO vs0]).length) fr7_f (Hb 0 y1) ([cI x0] ++ [cO vs0]) = ([cI x0] ++ Hb 1 y1) := rfl
abbrev PLAW (r : Int32) : Option Value → List OwnC → Prop := fun v _ => v = some (.int r)
abbrev WLAW (l : Launch) (Z : State) (n0 : Nat) (Q : Option Value → List OwnC → Prop) (k n pc : Nat) (L : List Slot) (S : List Value) (H : List OwnC) : Prop := WP l Z CN lay "BillingRunOwnLaw" "law" code maxLocals ret room_1 n0 1 Q k n pc L S H
def f_law_796 (k67 : KT0) (n : Nat) (v1 : Int32) (v3 v5 v7 : Int64) (v9 v10 : Int32) (a : List Int32) (s0 : St) : Option (Int32) :=
 (f_L_invariants n s0).bind fun c1 =>
 if c1 = 0 then
  some (0 : Int32)
 else
  lt (v10 + (1 : Int32)) fun x3 =>
  k67 v1 v3 v5 v7 v9 x3 a s0
abbrev HKLAW_67 (l : Launch) (Z : State) (n0 : Nat) (k67 : KT0) : Prop := ∀ (v1 : Int32) (v3 v5 v7 : Int64) (v9 v10 : Int32) (a : List Int32) (s0 : St) (r : Int32), k67 v1 v3 v5 v7 v9 v10 a s0 = some r → WLAW l Z n0 (PLAW r) 25 828 67 (vR 0 :: vI v1 :: vR 1 :: vJ v3 :: vS :: vJ v5 :: vS :: vJ v7 :: vS :: vI v9 :: vI v10 :: vU :: vU :: vU :: vU :: vU :: vU :: vU :: vU :: vU :: vU :: vU :: vU :: vU :: vU :: vU :: vU :: vU :: vU :: vU :: vU :: vU :: []) [] ([cI a] ++ Hb 1 s0)
theorem okLAW_796 (l : Launch) (Z : State) (a0 : Array Value) (hw : HW a0 Z) (n0 : Nat) (k67 : KT0) (hk67 : HKLAW_67 l Z n0 k67) (n : Nat) (v1 : Int32) (v3 v5 v7 : Int64) (v9 v10 : Int32) (a : List Int32) (s0 : St) (r : Int32) (h : f_law_796 k67 n v1 v3 v5 v7 v9 v10 a s0 = some r) : WLAW l Z n0 (PLAW r) 25 828 796 (vR 0 :: vI v1 :: vR 1 :: vJ v3 :: vS :: vJ v5 :: vS :: vJ v7 :: vS :: vI v9 :: vI v10 :: vU :: vU :: vU :: vU :: vU :: vU :: vU :: vU :: vU :: vU :: vU :: vU :: vU :: vU :: vU :: vU :: vU :: vU :: vU :: vU :: vU :: []) [] ([cI a] ++ Hb 1 s0) := by
 unfold f_law_796 at h
 refine WP.aloadN at_796 rfl ?_
 obtain ⟨c1, hc1, h⟩ := bd h
 refine WP.callS (y := y6) (as := [.ref 1]) (S := []) at_797 (hw _ m_87) (hw _ m_88) (hw _ m_2) (hw _ m_89) hy6 (CS.frame (ro := 1) (H := ([cI a] ++ Hb 1 s0)) (as := [.ref 1]) fr3_f (ok6 l Z a0 hw n s0 _ hc1) rfl (by decide) (fr3_l a s0) (fr3_c a s0) (by decide) rfl) rfl (lenOf pd6 rfl) (leb rfl) (leb rfl) (leb rfl) (leb rfl) ?_
 rintro _ _ ⟨_, _, ⟨rfl, rfl⟩, e1_, e2_⟩
 rw [fr3_p a s0 s0] at e2_
 subst e1_ e2_
 show WLAW l Z n0 (PLAW r) 25 828 800 (vR 0 :: vI v1 :: vR 1 :: vJ v3 :: vS :: vJ v5 :: vS :: vJ v7 :: vS :: vI v9 :: vI v10 :: vU :: vU :: vU :: vU :: vU :: vU :: vU :: vU :: vU :: vU :: vU :: vU :: vU :: vU :: vU :: vU :: vU :: vU :: vU :: vU :: vU :: []) [.int c1] ([cI a] ++ Hb 1 s0)
 rcases ite_e h with ⟨hc2, h⟩ | ⟨hc2, h⟩
 ·
  refine WP.ifN at_800 (XT.i0_ne_f hc2) ?_
  refine WP.iconst (0 : Int32) at_803 rfl ?_
  cases h
  exact WP.zreturn at_804 rfl (leb rfl) (leb rfl) rfl
 ·
  refine WP.ifY (pc' := 805) at_800 (XT.i0_ne_t hc2) (by decide) rfl ?_
  obtain ⟨x3, ex3, h⟩ := lt_e h
  refine WP.iinc (L' := (vR 0 :: vI v1 :: vR 1 :: vJ v3 :: vS :: vJ v5 :: vS :: vJ v7 :: vS :: vI v9 :: vI x3 :: vU :: vU :: vU :: vU :: vU :: vU :: vU :: vU :: vU :: vU :: vU :: vU :: vU :: vU :: vU :: vU :: vU :: vU :: vU :: vU :: vU :: [])) (1 : Int32) at_805 rfl rfl (by subst ex3; rfl) ?_
  refine WP.goto (pc' := 67) at_808 (by decide) rfl ?_
  exact WP.weak (L' := (vR 0 :: vI v1 :: vR 1 :: vJ v3 :: vS :: vJ v5 :: vS :: vJ v7 :: vS :: vI v9 :: vI x3 :: vU :: vU :: vU :: vU :: vU :: vU :: vU :: vU :: vU :: vU :: vU :: vU :: vU :: vU :: vU :: vU :: vU :: vU :: vU :: vU :: vU :: [])) ⟨rfl, rfl, rfl, rfl, rfl, rfl, rfl, rfl, rfl, rfl, rfl, trivial⟩ (hk67 v1 v3 v5 v7 v9 x3 a s0 _ h)
def f_law_220 (k67 : KT0) (n : Nat) (v1 : Int32) (v3 v5 v7 : Int64) (v9 v10 : Int32) (a : List Int32) (s0 : St) : Option (Int32) :=
 f_law_796 k67 n v1 v3 v5 v7 v9 v10 a s0
theorem okLAW_220 (l : Launch) (Z : State) (a0 : Array Value) (hw : HW a0 Z) (n0 : Nat) (k67 : KT0) (hk67 : HKLAW_67 l Z n0 k67) (n : Nat) (v1 : Int32) (v3 v5 v7 : Int64) (v9 v10 : Int32) (a : List Int32) (s0 : St) (r : Int32) (h : f_law_220 k67 n v1 v3 v5 v7 v9 v10 a s0 = some r) : WLAW l Z n0 (PLAW r) 25 828 220 (vR 0 :: vI v1 :: vR 1 :: vJ v3 :: vS :: vJ v5 :: vS :: vJ v7 :: vS :: vI v9 :: vI v10 :: vU :: vU :: vU :: vU :: vU :: vU :: vU :: vU :: vU :: vU :: vU :: vU :: vU :: vU :: vU :: vU :: vU :: vU :: vU :: vU :: vU :: []) [] ([cI a] ++ Hb 1 s0) := by
 unfold f_law_220 at h
 refine WP.goto (pc' := 796) at_220 (by decide) rfl ?_
 exact WP.weak (L' := (vR 0 :: vI v1 :: vR 1 :: vJ v3 :: vS :: vJ v5 :: vS :: vJ v7 :: vS :: vI v9 :: vI v10 :: vU :: vU :: vU :: vU :: vU :: vU :: vU :: vU :: vU :: vU :: vU :: vU :: vU :: vU :: vU :: vU :: vU :: vU :: vU :: vU :: vU :: [])) ⟨rfl, rfl, rfl, rfl, rfl, rfl, rfl, rfl, rfl, rfl, rfl, trivial⟩ (okLAW_796 l Z a0 hw n0 _ hk67 n v1 v3 v5 v7 v9 v10 a s0 _ h)
def f_law_288 (k67 : KT0) (n : Nat) (v1 : Int32) (v3 v5 v7 : Int64) (v9 v10 v14 v15 v16 : Int32) (a : List Int32) (s0 : St) : Option (Int32) :=
 (f_L_m v15.toInt64 (3 : Int32)).bind fun c1 =>
 (f_today s0).bind fun c2 =>
 (f_L_m v14.toInt64 (3 : Int32)).bind fun c3 =>
 (f_subscribe v16 c1 (c2 + c3) s0).bind fun c4 =>
 f_law_796 k67 n v1 v3 v5 v7 v9 v10 a c4.2
theorem okLAW_288 (l : Launch) (Z : State) (a0 : Array Value) (hw : HW a0 Z) (n0 : Nat) (k67 : KT0) (hk67 : HKLAW_67 l Z n0 k67) (n : Nat) (v1 : Int32) (v3 v5 v7 : Int64) (v9 v10 v14 v15 v16 : Int32) (a : List Int32) (s0 : St) (r : Int32) (h : f_law_288 k67 n v1 v3 v5 v7 v9 v10 v14 v15 v16 a s0 = some r) : WLAW l Z n0 (PLAW r) 25 828 288 (vR 0 :: vI v1 :: vR 1 :: vJ v3 :: vS :: vJ v5 :: vS :: vJ v7 :: vS :: vI v9 :: vI v10 :: vU :: vU :: vU :: vI v14 :: vI v15 :: vI v16 :: vU :: vU :: vU :: vU :: vU :: vU :: vU :: vU :: vU :: vU :: vU :: vU :: vU :: vU :: vU :: []) [] ([cI a] ++ Hb 1 s0) := by
 unfold f_law_288 at h
 refine WP.aloadN at_288 rfl ?_
 refine WP.iload at_289 rfl ?_
 refine WP.iload at_291 rfl ?_
 refine WP.i2l at_293 ?_
 refine WP.iconst (3 : Int32) at_294 rfl ?_
 obtain ⟨c1, hc1, h⟩ := bd h
 refine WP.callS (y := y1) (as := [.long v15.toInt64, .int (3 : Int32)]) (S := [.int v16, .ref 1]) at_295 (hw _ m_4) (hw _ m_5) (hw _ m_2) (hw _ m_6) hy1 (CS.frame (ro := 1) (H := ([cI a] ++ Hb 1 s0)) (as := [.long v15.toInt64, .int (3 : Int32)]) fr2_f (ok1 l Z a0 hw v15.toInt64 (3 : Int32) _ hc1) rfl (by decide) (fr2_l a s0) (fr2_c a s0) (by decide) rfl) rfl (lenOf pd1 rfl) (leb rfl) (leb rfl) (leb rfl) (leb rfl) ?_
 rintro _ _ ⟨_, _, ⟨rfl, rfl⟩, e1_, e2_⟩
 rw [fr2_p a s0] at e2_
 subst e1_ e2_
 show WLAW l Z n0 (PLAW r) 25 828 298 (vR 0 :: vI v1 :: vR 1 :: vJ v3 :: vS :: vJ v5 :: vS :: vJ v7 :: vS :: vI v9 :: vI v10 :: vU :: vU :: vU :: vI v14 :: vI v15 :: vI v16 :: vU :: vU :: vU :: vU :: vU :: vU :: vU :: vU :: vU :: vU :: vU :: vU :: vU :: vU :: vU :: []) [.int c1, .int v16, .ref 1] ([cI a] ++ Hb 1 s0)
 refine WP.aloadN at_298 rfl ?_
 obtain ⟨c2, hc2, h⟩ := bd h
 refine WP.callV (i := 1) (y := y10) (as := []) (S := [.int c1, .int v16, .ref 1]) at_299 (hw _ m_105) (hw _ m_106) (hw _ m_108) (hw _ m_107) (hw _ m_109) (hw _ m_9) hy10 rfl (CS.frame (ro := 1) (H := ([cI a] ++ Hb 1 s0)) (as := [.ref 1]) fr3_f (ok10 l Z a0 hw s0 _ hc2) rfl (by decide) (fr3_l a s0) (fr3_c a s0) (by decide) rfl) rfl (lenOf pd10 rfl) (leb rfl) (leb rfl) (leb rfl) (leb rfl) ?_
 rintro _ _ ⟨_, _, ⟨rfl, rfl⟩, e1_, e2_⟩
 rw [fr3_p a s0 s0] at e2_
 subst e1_ e2_
 show WLAW l Z n0 (PLAW r) 25 828 302 (vR 0 :: vI v1 :: vR 1 :: vJ v3 :: vS :: vJ v5 :: vS :: vJ v7 :: vS :: vI v9 :: vI v10 :: vU :: vU :: vU :: vI v14 :: vI v15 :: vI v16 :: vU :: vU :: vU :: vU :: vU :: vU :: vU :: vU :: vU :: vU :: vU :: vU :: vU :: vU :: vU :: []) [.int c2, .int c1, .int v16, .ref 1] ([cI a] ++ Hb 1 s0)
 refine WP.iload at_302 rfl ?_
 refine WP.i2l at_304 ?_
 refine WP.iconst (3 : Int32) at_305 rfl ?_
 obtain ⟨c3, hc3, h⟩ := bd h
 refine WP.callS (y := y1) (as := [.long v14.toInt64, .int (3 : Int32)]) (S := [.int c2, .int c1, .int v16, .ref 1]) at_306 (hw _ m_4) (hw _ m_5) (hw _ m_2) (hw _ m_6) hy1 (CS.frame (ro := 1) (H := ([cI a] ++ Hb 1 s0)) (as := [.long v14.toInt64, .int (3 : Int32)]) fr2_f (ok1 l Z a0 hw v14.toInt64 (3 : Int32) _ hc3) rfl (by decide) (fr2_l a s0) (fr2_c a s0) (by decide) rfl) rfl (lenOf pd1 rfl) (leb rfl) (leb rfl) (leb rfl) (leb rfl) ?_
 rintro _ _ ⟨_, _, ⟨rfl, rfl⟩, e1_, e2_⟩
 rw [fr2_p a s0] at e2_
 subst e1_ e2_
 show WLAW l Z n0 (PLAW r) 25 828 309 (vR 0 :: vI v1 :: vR 1 :: vJ v3 :: vS :: vJ v5 :: vS :: vJ v7 :: vS :: vI v9 :: vI v10 :: vU :: vU :: vU :: vI v14 :: vI v15 :: vI v16 :: vU :: vU :: vU :: vU :: vU :: vU :: vU :: vU :: vU :: vU :: vU :: vU :: vU :: vU :: vU :: []) [.int c3, .int c2, .int c1, .int v16, .ref 1] ([cI a] ++ Hb 1 s0)
 refine WP.iadd at_309 ?_
 obtain ⟨c4, hc4, h⟩ := bd h
 refine WP.callV (i := 1) (y := y11) (as := [.int v16, .int c1, .int (c2 + c3)]) (S := []) at_310 (hw _ m_112) (hw _ m_113) (hw _ m_115) (hw _ m_114) (hw _ m_116) (hw _ m_9) hy11 rfl (CS.frame (ro := 1) (H := ([cI a] ++ Hb 1 s0)) (as := [.ref 1, .int v16, .int c1, .int (c2 + c3)]) fr3_f (ok11 l Z a0 hw v16 c1 (c2 + c3) s0 _ hc4) rfl (by decide) (fr3_l a s0) (fr3_c a s0) (by decide) rfl) rfl (lenOf pd11 rfl) (leb rfl) (leb rfl) (leb rfl) (leb rfl) ?_
 rintro _ _ ⟨_, _, ⟨rfl, rfl⟩, e1_, e2_⟩
 rw [fr3_p a s0 c4.2] at e2_
 subst e1_ e2_
 show WLAW l Z n0 (PLAW r) 25 828 313 (vR 0 :: vI v1 :: vR 1 :: vJ v3 :: vS :: vJ v5 :: vS :: vJ v7 :: vS :: vI v9 :: vI v10 :: vU :: vU :: vU :: vI v14 :: vI v15 :: vI v16 :: vU :: vU :: vU :: vU :: vU :: vU :: vU :: vU :: vU :: vU :: vU :: vU :: vU :: vU :: vU :: []) [.int c4.1] ([cI a] ++ Hb 1 c4.2)
 refine WP.pop at_313 rfl ?_
 refine WP.goto (pc' := 796) at_314 (by decide) rfl ?_
 exact WP.weak (L' := (vR 0 :: vI v1 :: vR 1 :: vJ v3 :: vS :: vJ v5 :: vS :: vJ v7 :: vS :: vI v9 :: vI v10 :: vU :: vU :: vU :: vU :: vU :: vU :: vU :: vU :: vU :: vU :: vU :: vU :: vU :: vU :: vU :: vU :: vU :: vU :: vU :: vU :: vU :: [])) ⟨rfl, rfl, rfl, rfl, rfl, rfl, rfl, rfl, rfl, rfl, rfl, trivial⟩ (okLAW_796 l Z a0 hw n0 _ hk67 n v1 v3 v5 v7 v9 v10 a c4.2 _ h)
def f_law_394 (k67 : KT0) (n : Nat) (v1 : Int32) (v3 v5 v7 : Int64) (v9 v10 v14 v15 v16 : Int32) (a : List Int32) (s0 : St) : Option (Int32) :=
 (f_today s0).bind fun c1 =>
 (f_L_m v14.toInt64 (3 : Int32)).bind fun c2 =>
 (f_L_m v15.toInt64 (10000 : Int32)).bind fun c3 =>
 (f_recordUsage v16 (c1 + c2) ((1 : Int32) + c3) s0).bind fun c4 =>
 f_law_796 k67 n v1 v3 v5 v7 v9 v10 a c4.2
theorem okLAW_394 (l : Launch) (Z : State) (a0 : Array Value) (hw : HW a0 Z) (n0 : Nat) (k67 : KT0) (hk67 : HKLAW_67 l Z n0 k67) (n : Nat) (v1 : Int32) (v3 v5 v7 : Int64) (v9 v10 v14 v15 v16 : Int32) (a : List Int32) (s0 : St) (r : Int32) (h : f_law_394 k67 n v1 v3 v5 v7 v9 v10 v14 v15 v16 a s0 = some r) : WLAW l Z n0 (PLAW r) 25 828 394 (vR 0 :: vI v1 :: vR 1 :: vJ v3 :: vS :: vJ v5 :: vS :: vJ v7 :: vS :: vI v9 :: vI v10 :: vU :: vU :: vU :: vI v14 :: vI v15 :: vI v16 :: vU :: vU :: vU :: vU :: vU :: vU :: vU :: vU :: vU :: vU :: vU :: vU :: vU :: vU :: vU :: []) [] ([cI a] ++ Hb 1 s0) := by
 unfold f_law_394 at h
 refine WP.aloadN at_394 rfl ?_
 refine WP.iload at_395 rfl ?_
 refine WP.aloadN at_397 rfl ?_
 obtain ⟨c1, hc1, h⟩ := bd h
 refine WP.callV (i := 1) (y := y10) (as := []) (S := [.int v16, .ref 1]) at_398 (hw _ m_105) (hw _ m_106) (hw _ m_108) (hw _ m_107) (hw _ m_109) (hw _ m_9) hy10 rfl (CS.frame (ro := 1) (H := ([cI a] ++ Hb 1 s0)) (as := [.ref 1]) fr3_f (ok10 l Z a0 hw s0 _ hc1) rfl (by decide) (fr3_l a s0) (fr3_c a s0) (by decide) rfl) rfl (lenOf pd10 rfl) (leb rfl) (leb rfl) (leb rfl) (leb rfl) ?_
 rintro _ _ ⟨_, _, ⟨rfl, rfl⟩, e1_, e2_⟩
 rw [fr3_p a s0 s0] at e2_
 subst e1_ e2_
 show WLAW l Z n0 (PLAW r) 25 828 401 (vR 0 :: vI v1 :: vR 1 :: vJ v3 :: vS :: vJ v5 :: vS :: vJ v7 :: vS :: vI v9 :: vI v10 :: vU :: vU :: vU :: vI v14 :: vI v15 :: vI v16 :: vU :: vU :: vU :: vU :: vU :: vU :: vU :: vU :: vU :: vU :: vU :: vU :: vU :: vU :: vU :: []) [.int c1, .int v16, .ref 1] ([cI a] ++ Hb 1 s0)
 refine WP.iload at_401 rfl ?_
 refine WP.i2l at_403 ?_
 refine WP.iconst (3 : Int32) at_404 rfl ?_
 obtain ⟨c2, hc2, h⟩ := bd h
 refine WP.callS (y := y1) (as := [.long v14.toInt64, .int (3 : Int32)]) (S := [.int c1, .int v16, .ref 1]) at_405 (hw _ m_4) (hw _ m_5) (hw _ m_2) (hw _ m_6) hy1 (CS.frame (ro := 1) (H := ([cI a] ++ Hb 1 s0)) (as := [.long v14.toInt64, .int (3 : Int32)]) fr2_f (ok1 l Z a0 hw v14.toInt64 (3 : Int32) _ hc2) rfl (by decide) (fr2_l a s0) (fr2_c a s0) (by decide) rfl) rfl (lenOf pd1 rfl) (leb rfl) (leb rfl) (leb rfl) (leb rfl) ?_
 rintro _ _ ⟨_, _, ⟨rfl, rfl⟩, e1_, e2_⟩
 rw [fr2_p a s0] at e2_
 subst e1_ e2_
 show WLAW l Z n0 (PLAW r) 25 828 408 (vR 0 :: vI v1 :: vR 1 :: vJ v3 :: vS :: vJ v5 :: vS :: vJ v7 :: vS :: vI v9 :: vI v10 :: vU :: vU :: vU :: vI v14 :: vI v15 :: vI v16 :: vU :: vU :: vU :: vU :: vU :: vU :: vU :: vU :: vU :: vU :: vU :: vU :: vU :: vU :: vU :: []) [.int c2, .int c1, .int v16, .ref 1] ([cI a] ++ Hb 1 s0)
 refine WP.iadd at_408 ?_
 refine WP.iconst (1 : Int32) at_409 rfl ?_
 refine WP.iload at_410 rfl ?_
 refine WP.i2l at_412 ?_
 refine WP.sipush (10000 : Int32) at_413 rfl ?_
 obtain ⟨c3, hc3, h⟩ := bd h
 refine WP.callS (y := y1) (as := [.long v15.toInt64, .int (10000 : Int32)]) (S := [.int (1 : Int32), .int (c1 + c2), .int v16, .ref 1]) at_416 (hw _ m_4) (hw _ m_5) (hw _ m_2) (hw _ m_6) hy1 (CS.frame (ro := 1) (H := ([cI a] ++ Hb 1 s0)) (as := [.long v15.toInt64, .int (10000 : Int32)]) fr2_f (ok1 l Z a0 hw v15.toInt64 (10000 : Int32) _ hc3) rfl (by decide) (fr2_l a s0) (fr2_c a s0) (by decide) rfl) rfl (lenOf pd1 rfl) (leb rfl) (leb rfl) (leb rfl) (leb rfl) ?_
 rintro _ _ ⟨_, _, ⟨rfl, rfl⟩, e1_, e2_⟩
 rw [fr2_p a s0] at e2_
 subst e1_ e2_
 show WLAW l Z n0 (PLAW r) 25 828 419 (vR 0 :: vI v1 :: vR 1 :: vJ v3 :: vS :: vJ v5 :: vS :: vJ v7 :: vS :: vI v9 :: vI v10 :: vU :: vU :: vU :: vI v14 :: vI v15 :: vI v16 :: vU :: vU :: vU :: vU :: vU :: vU :: vU :: vU :: vU :: vU :: vU :: vU :: vU :: vU :: vU :: []) [.int c3, .int (1 : Int32), .int (c1 + c2), .int v16, .ref 1] ([cI a] ++ Hb 1 s0)
 refine WP.iadd at_419 ?_
 obtain ⟨c4, hc4, h⟩ := bd h
 refine WP.callV (i := 1) (y := y28) (as := [.int v16, .int (c1 + c2), .int ((1 : Int32) + c3)]) (S := []) at_420 (hw _ m_194) (hw _ m_195) (hw _ m_197) (hw _ m_196) (hw _ m_198) (hw _ m_9) hy28 rfl (CS.frame (ro := 1) (H := ([cI a] ++ Hb 1 s0)) (as := [.ref 1, .int v16, .int (c1 + c2), .int ((1 : Int32) + c3)]) fr3_f (ok28 l Z a0 hw v16 (c1 + c2) ((1 : Int32) + c3) s0 _ hc4) rfl (by decide) (fr3_l a s0) (fr3_c a s0) (by decide) rfl) rfl (lenOf pd28 rfl) (leb rfl) (leb rfl) (leb rfl) (leb rfl) ?_
 rintro _ _ ⟨_, _, ⟨rfl, rfl⟩, e1_, e2_⟩
 rw [fr3_p a s0 c4.2] at e2_
 subst e1_ e2_
 show WLAW l Z n0 (PLAW r) 25 828 423 (vR 0 :: vI v1 :: vR 1 :: vJ v3 :: vS :: vJ v5 :: vS :: vJ v7 :: vS :: vI v9 :: vI v10 :: vU :: vU :: vU :: vI v14 :: vI v15 :: vI v16 :: vU :: vU :: vU :: vU :: vU :: vU :: vU :: vU :: vU :: vU :: vU :: vU :: vU :: vU :: vU :: []) [.int c4.1] ([cI a] ++ Hb 1 c4.2)
 refine WP.pop at_423 rfl ?_
 refine WP.goto (pc' := 796) at_424 (by decide) rfl ?_
 exact WP.weak (L' := (vR 0 :: vI v1 :: vR 1 :: vJ v3 :: vS :: vJ v5 :: vS :: vJ v7 :: vS :: vI v9 :: vI v10 :: vU :: vU :: vU :: vU :: vU :: vU :: vU :: vU :: vU :: vU :: vU :: vU :: vU :: vU :: vU :: vU :: vU :: vU :: vU :: vU :: vU :: [])) ⟨rfl, rfl, rfl, rfl, rfl, rfl, rfl, rfl, rfl, rfl, rfl, trivial⟩ (okLAW_796 l Z a0 hw n0 _ hk67 n v1 v3 v5 v7 v9 v10 a c4.2 _ h)
def f_law_642 (k67 : KT0) (k463 : KT1) (k537 : KT4) (n : Nat) (v1 : Int32) (v3 v5 v7 : Int64) (v9 v10 : Int32) (v17 v19 : Int64) (v21 : Int32) (v22 : Int64) (v24 : Int32) (v25 v27 : Int64) (v29 : Int32) (a : List Int32) (s0 : St) : Option (Int32) :=
 lt (v29 + (1 : Int32)) fun x1 =>
 k537 v1 v3 v5 v7 v9 v10 v17 v19 v21 v22 v24 v25 v27 x1 a s0
abbrev HKLAW_463 (l : Launch) (Z : State) (n0 : Nat) (k463 : KT1) : Prop := ∀ (v1 : Int32) (v3 v5 v7 : Int64) (v9 v10 : Int32) (v17 v19 : Int64) (v21 : Int32) (a : List Int32) (s0 : St) (r : Int32), k463 v1 v3 v5 v7 v9 v10 v17 v19 v21 a s0 = some r → WLAW l Z n0 (PLAW r) 25 828 463 (vR 0 :: vI v1 :: vR 1 :: vJ v3 :: vS :: vJ v5 :: vS :: vJ v7 :: vS :: vI v9 :: vI v10 :: vU :: vU :: vU :: vU :: vU :: vU :: vJ v17 :: vS :: vJ v19 :: vS :: vI v21 :: vU :: vU :: vU :: vU :: vU :: vU :: vU :: vU :: vU :: vU :: []) [] ([cI a] ++ Hb 1 s0)
abbrev HKLAW_537 (l : Launch) (Z : State) (n0 : Nat) (k537 : KT4) : Prop := ∀ (v1 : Int32) (v3 v5 v7 : Int64) (v9 v10 : Int32) (v17 v19 : Int64) (v21 : Int32) (v22 : Int64) (v24 : Int32) (v25 v27 : Int64) (v29 : Int32) (a : List Int32) (s0 : St) (r : Int32), k537 v1 v3 v5 v7 v9 v10 v17 v19 v21 v22 v24 v25 v27 v29 a s0 = some r → WLAW l Z n0 (PLAW r) 25 828 537 (vR 0 :: vI v1 :: vR 1 :: vJ v3 :: vS :: vJ v5 :: vS :: vJ v7 :: vS :: vI v9 :: vI v10 :: vU :: vU :: vU :: vU :: vU :: vU :: vJ v17 :: vS :: vJ v19 :: vS :: vI v21 :: vJ v22 :: vS :: vI v24 :: vJ v25 :: vS :: vJ v27 :: vS :: vI v29 :: vU :: vU :: []) [] ([cI a] ++ Hb 1 s0)
theorem okLAW_642 (l : Launch) (Z : State) (a0 : Array Value) (hw : HW a0 Z) (n0 : Nat) (k67 : KT0) (hk67 : HKLAW_67 l Z n0 k67) (k463 : KT1) (hk463 : HKLAW_463 l Z n0 k463) (k537 : KT4) (hk537 : HKLAW_537 l Z n0 k537) (n : Nat) (v1 : Int32) (v3 v5 v7 : Int64) (v9 v10 : Int32) (v17 v19 : Int64) (v21 : Int32) (v22 : Int64) (v24 : Int32) (v25 v27 : Int64) (v29 : Int32) (a : List Int32) (s0 : St) (r : Int32) (h : f_law_642 k67 k463 k537 n v1 v3 v5 v7 v9 v10 v17 v19 v21 v22 v24 v25 v27 v29 a s0 = some r) : WLAW l Z n0 (PLAW r) 25 828 642 (vR 0 :: vI v1 :: vR 1 :: vJ v3 :: vS :: vJ v5 :: vS :: vJ v7 :: vS :: vI v9 :: vI v10 :: vU :: vU :: vU :: vU :: vU :: vU :: vJ v17 :: vS :: vJ v19 :: vS :: vI v21 :: vJ v22 :: vS :: vI v24 :: vJ v25 :: vS :: vJ v27 :: vS :: vI v29 :: vU :: vU :: []) [] ([cI a] ++ Hb 1 s0) := by
 unfold f_law_642 at h
 obtain ⟨x1, ex1, h⟩ := lt_e h
 refine WP.iinc (L' := (vR 0 :: vI v1 :: vR 1 :: vJ v3 :: vS :: vJ v5 :: vS :: vJ v7 :: vS :: vI v9 :: vI v10 :: vU :: vU :: vU :: vU :: vU :: vU :: vJ v17 :: vS :: vJ v19 :: vS :: vI v21 :: vJ v22 :: vS :: vI v24 :: vJ v25 :: vS :: vJ v27 :: vS :: vI x1 :: vU :: vU :: [])) (1 : Int32) at_642 rfl rfl (by subst ex1; rfl) ?_
 refine WP.goto (pc' := 537) at_645 (by decide) rfl ?_
 exact WP.weak (L' := (vR 0 :: vI v1 :: vR 1 :: vJ v3 :: vS :: vJ v5 :: vS :: vJ v7 :: vS :: vI v9 :: vI v10 :: vU :: vU :: vU :: vU :: vU :: vU :: vJ v17 :: vS :: vJ v19 :: vS :: vI v21 :: vJ v22 :: vS :: vI v24 :: vJ v25 :: vS :: vJ v27 :: vS :: vI x1 :: vU :: vU :: [])) ⟨rfl, rfl, rfl, rfl, rfl, rfl, rfl, rfl, rfl, rfl, rfl, rfl, rfl, rfl, rfl, rfl, rfl, rfl, rfl, rfl, rfl, rfl, rfl, rfl, trivial⟩ (hk537 v1 v3 v5 v7 v9 v10 v17 v19 v21 v22 v24 v25 v27 x1 a s0 _ h)
def f_law_593 (k67 : KT0) (k463 : KT1) (k537 : KT4) (n : Nat) (v1 : Int32) (v3 v5 v7 : Int64) (v9 v10 : Int32) (v17 v19 : Int64) (v21 : Int32) (v22 : Int64) (v24 : Int32) (v25 v27 : Int64) (v29 : Int32) (a : List Int32) (s0 : St) : Option (Int32) :=
 (f_getSegment v21 v29 (1 : Int32) s0).bind fun c1 =>
 if v29.toInt64 < (v22 - (1 : Int64)) then
  f_law_642 k67 k463 k537 n v1 v3 v5 v7 v9 v10 v17 v19 v21 v22 v24 v25 c1 v29 a s0
 else
  if c1 = (-1 : Int64) then
   f_law_642 k67 k463 k537 n v1 v3 v5 v7 v9 v10 v17 v19 v21 v22 v24 v25 v27 v29 a s0
  else
   if c1 = v1.toInt64 then
    f_law_642 k67 k463 k537 n v1 v3 v5 v7 v9 v10 v17 v19 v21 v22 v24 v25 v27 v29 a s0
   else
    f_law_642 k67 k463 k537 n v1 v3 v5 v7 v9 v10 v17 v19 v21 v22 (0 : Int32) v25 v27 v29 a s0
theorem okLAW_593 (l : Launch) (Z : State) (a0 : Array Value) (hw : HW a0 Z) (n0 : Nat) (k67 : KT0) (hk67 : HKLAW_67 l Z n0 k67) (k463 : KT1) (hk463 : HKLAW_463 l Z n0 k463) (k537 : KT4) (hk537 : HKLAW_537 l Z n0 k537) (n : Nat) (v1 : Int32) (v3 v5 v7 : Int64) (v9 v10 : Int32) (v17 v19 : Int64) (v21 : Int32) (v22 : Int64) (v24 : Int32) (v25 v27 : Int64) (v29 : Int32) (a : List Int32) (s0 : St) (r : Int32) (h : f_law_593 k67 k463 k537 n v1 v3 v5 v7 v9 v10 v17 v19 v21 v22 v24 v25 v27 v29 a s0 = some r) : WLAW l Z n0 (PLAW r) 25 828 593 (vR 0 :: vI v1 :: vR 1 :: vJ v3 :: vS :: vJ v5 :: vS :: vJ v7 :: vS :: vI v9 :: vI v10 :: vU :: vU :: vU :: vU :: vU :: vU :: vJ v17 :: vS :: vJ v19 :: vS :: vI v21 :: vJ v22 :: vS :: vI v24 :: vJ v25 :: vS :: vJ v27 :: vS :: vI v29 :: vU :: vU :: []) [] ([cI a] ++ Hb 1 s0) := by
 unfold f_law_593 at h
 refine WP.aloadN at_593 rfl ?_
 refine WP.iload at_594 rfl ?_
 refine WP.iload at_596 rfl ?_
 refine WP.iconst (1 : Int32) at_598 rfl ?_
 obtain ⟨c1, hc1, h⟩ := bd h
 refine WP.callV (i := 1) (y := y15) (as := [.int v21, .int v29, .int (1 : Int32)]) (S := []) at_599 (hw _ m_132) (hw _ m_133) (hw _ m_135) (hw _ m_134) (hw _ m_136) (hw _ m_9) hy15 rfl (CS.frame (ro := 1) (H := ([cI a] ++ Hb 1 s0)) (as := [.ref 1, .int v21, .int v29, .int (1 : Int32)]) fr3_f (ok15 l Z a0 hw v21 v29 (1 : Int32) s0 _ hc1) rfl (by decide) (fr3_l a s0) (fr3_c a s0) (by decide) rfl) rfl (lenOf pd15 rfl) (leb rfl) (leb rfl) (leb rfl) (leb rfl) ?_
 rintro _ _ ⟨_, _, ⟨rfl, rfl⟩, e1_, e2_⟩
 rw [fr3_p a s0 s0] at e2_
 subst e1_ e2_
 show WLAW l Z n0 (PLAW r) 25 828 602 (vR 0 :: vI v1 :: vR 1 :: vJ v3 :: vS :: vJ v5 :: vS :: vJ v7 :: vS :: vI v9 :: vI v10 :: vU :: vU :: vU :: vU :: vU :: vU :: vJ v17 :: vS :: vJ v19 :: vS :: vI v21 :: vJ v22 :: vS :: vI v24 :: vJ v25 :: vS :: vJ v27 :: vS :: vI v29 :: vU :: vU :: []) [.long c1] ([cI a] ++ Hb 1 s0)
 refine WP.lstore (L' := (vR 0 :: vI v1 :: vR 1 :: vJ v3 :: vS :: vJ v5 :: vS :: vJ v7 :: vS :: vI v9 :: vI v10 :: vU :: vU :: vU :: vU :: vU :: vU :: vJ v17 :: vS :: vJ v19 :: vS :: vI v21 :: vJ v22 :: vS :: vI v24 :: vJ v25 :: vS :: vJ v27 :: vS :: vI v29 :: vJ c1 :: vS :: [])) at_602 (leb rfl) rfl ?_
 refine WP.iload at_604 rfl ?_
 refine WP.i2l at_606 ?_
 refine WP.lload at_607 rfl ?_
 refine WP.lconst (1 : Int64) at_609 rfl ?_
 refine WP.lsub at_610 ?_
 refine WP.lcmp at_611 ?_
 rcases ite_e h with ⟨hc2, h⟩ | ⟨hc2, h⟩
 ·
  refine WP.ifN at_612 (XT.ll_ge_f hc2) ?_
  refine WP.lload at_615 rfl ?_
  refine WP.lstore (L' := (vR 0 :: vI v1 :: vR 1 :: vJ v3 :: vS :: vJ v5 :: vS :: vJ v7 :: vS :: vI v9 :: vI v10 :: vU :: vU :: vU :: vU :: vU :: vU :: vJ v17 :: vS :: vJ v19 :: vS :: vI v21 :: vJ v22 :: vS :: vI v24 :: vJ v25 :: vS :: vJ c1 :: vS :: vI v29 :: vJ c1 :: vS :: [])) at_617 (leb rfl) rfl ?_
  refine WP.goto (pc' := 642) at_619 (by decide) rfl ?_
  exact WP.weak (L' := (vR 0 :: vI v1 :: vR 1 :: vJ v3 :: vS :: vJ v5 :: vS :: vJ v7 :: vS :: vI v9 :: vI v10 :: vU :: vU :: vU :: vU :: vU :: vU :: vJ v17 :: vS :: vJ v19 :: vS :: vI v21 :: vJ v22 :: vS :: vI v24 :: vJ v25 :: vS :: vJ c1 :: vS :: vI v29 :: vU :: vU :: [])) ⟨rfl, rfl, rfl, rfl, rfl, rfl, rfl, rfl, rfl, rfl, rfl, rfl, rfl, rfl, rfl, rfl, rfl, rfl, rfl, rfl, rfl, rfl, rfl, rfl, trivial⟩ (okLAW_642 l Z a0 hw n0 _ hk67 _ hk463 _ hk537 n v1 v3 v5 v7 v9 v10 v17 v19 v21 v22 v24 v25 c1 v29 a s0 _ h)
 ·
  refine WP.ifY (pc' := 622) at_612 (XT.ll_ge_t hc2) (by decide) rfl ?_
  refine WP.lload at_622 rfl ?_
  refine WP.ldc2 at_624 (hw _ m_138) ?_
  refine WP.lcmp at_627 ?_
  rcases ite_e h with ⟨hc3, h⟩ | ⟨hc3, h⟩
  ·
   refine WP.ifY (pc' := 642) at_628 (XT.ll_eq_t hc3) (by decide) rfl ?_
   exact WP.weak (L' := (vR 0 :: vI v1 :: vR 1 :: vJ v3 :: vS :: vJ v5 :: vS :: vJ v7 :: vS :: vI v9 :: vI v10 :: vU :: vU :: vU :: vU :: vU :: vU :: vJ v17 :: vS :: vJ v19 :: vS :: vI v21 :: vJ v22 :: vS :: vI v24 :: vJ v25 :: vS :: vJ v27 :: vS :: vI v29 :: vU :: vU :: [])) ⟨rfl, rfl, rfl, rfl, rfl, rfl, rfl, rfl, rfl, rfl, rfl, rfl, rfl, rfl, rfl, rfl, rfl, rfl, rfl, rfl, rfl, rfl, rfl, rfl, trivial⟩ (okLAW_642 l Z a0 hw n0 _ hk67 _ hk463 _ hk537 n v1 v3 v5 v7 v9 v10 v17 v19 v21 v22 v24 v25 v27 v29 a s0 _ h)
  ·
   refine WP.ifN at_628 (XT.ll_eq_f hc3) ?_
   refine WP.lload at_631 rfl ?_
   refine WP.iloadN at_633 rfl ?_
   refine WP.i2l at_634 ?_
   refine WP.lcmp at_635 ?_
   rcases ite_e h with ⟨hc4, h⟩ | ⟨hc4, h⟩
   ·
    refine WP.ifY (pc' := 642) at_636 (XT.ll_eq_t hc4) (by decide) rfl ?_
    exact WP.weak (L' := (vR 0 :: vI v1 :: vR 1 :: vJ v3 :: vS :: vJ v5 :: vS :: vJ v7 :: vS :: vI v9 :: vI v10 :: vU :: vU :: vU :: vU :: vU :: vU :: vJ v17 :: vS :: vJ v19 :: vS :: vI v21 :: vJ v22 :: vS :: vI v24 :: vJ v25 :: vS :: vJ v27 :: vS :: vI v29 :: vU :: vU :: [])) ⟨rfl, rfl, rfl, rfl, rfl, rfl, rfl, rfl, rfl, rfl, rfl, rfl, rfl, rfl, rfl, rfl, rfl, rfl, rfl, rfl, rfl, rfl, rfl, rfl, trivial⟩ (okLAW_642 l Z a0 hw n0 _ hk67 _ hk463 _ hk537 n v1 v3 v5 v7 v9 v10 v17 v19 v21 v22 v24 v25 v27 v29 a s0 _ h)
   ·
    refine WP.ifN at_636 (XT.ll_eq_f hc4) ?_
    refine WP.iconst (0 : Int32) at_639 rfl ?_
    refine WP.istore (L' := (vR 0 :: vI v1 :: vR 1 :: vJ v3 :: vS :: vJ v5 :: vS :: vJ v7 :: vS :: vI v9 :: vI v10 :: vU :: vU :: vU :: vU :: vU :: vU :: vJ v17 :: vS :: vJ v19 :: vS :: vI v21 :: vJ v22 :: vS :: vI (0 : Int32) :: vJ v25 :: vS :: vJ v27 :: vS :: vI v29 :: vJ c1 :: vS :: [])) at_640 (leb rfl) rfl ?_
    exact WP.weak (L' := (vR 0 :: vI v1 :: vR 1 :: vJ v3 :: vS :: vJ v5 :: vS :: vJ v7 :: vS :: vI v9 :: vI v10 :: vU :: vU :: vU :: vU :: vU :: vU :: vJ v17 :: vS :: vJ v19 :: vS :: vI v21 :: vJ v22 :: vS :: vI (0 : Int32) :: vJ v25 :: vS :: vJ v27 :: vS :: vI v29 :: vU :: vU :: [])) ⟨rfl, rfl, rfl, rfl, rfl, rfl, rfl, rfl, rfl, rfl, rfl, rfl, rfl, rfl, rfl, rfl, rfl, rfl, rfl, rfl, rfl, rfl, rfl, rfl, trivial⟩ (okLAW_642 l Z a0 hw n0 _ hk67 _ hk463 _ hk537 n v1 v3 v5 v7 v9 v10 v17 v19 v21 v22 (0 : Int32) v25 v27 v29 a s0 _ h)
def f_law_575 (k67 : KT0) (k463 : KT1) (k537 : KT4) (n : Nat) (v1 : Int32) (v3 v5 v7 : Int64) (v9 v10 : Int32) (v17 v19 : Int64) (v21 : Int32) (v22 : Int64) (v24 : Int32) (v25 v27 : Int64) (v29 : Int32) (a : List Int32) (s0 : St) : Option (Int32) :=
 (f_getSegment v21 v29 (2 : Int32) s0).bind fun c1 =>
 if c1 = v25 then
  f_law_593 k67 k463 k537 n v1 v3 v5 v7 v9 v10 v17 v19 v21 v22 v24 v25 v27 v29 a s0
 else
  f_law_593 k67 k463 k537 n v1 v3 v5 v7 v9 v10 v17 v19 v21 v22 (0 : Int32) v25 v27 v29 a s0
theorem okLAW_575 (l : Launch) (Z : State) (a0 : Array Value) (hw : HW a0 Z) (n0 : Nat) (k67 : KT0) (hk67 : HKLAW_67 l Z n0 k67) (k463 : KT1) (hk463 : HKLAW_463 l Z n0 k463) (k537 : KT4) (hk537 : HKLAW_537 l Z n0 k537) (n : Nat) (v1 : Int32) (v3 v5 v7 : Int64) (v9 v10 : Int32) (v17 v19 : Int64) (v21 : Int32) (v22 : Int64) (v24 : Int32) (v25 v27 : Int64) (v29 : Int32) (a : List Int32) (s0 : St) (r : Int32) (h : f_law_575 k67 k463 k537 n v1 v3 v5 v7 v9 v10 v17 v19 v21 v22 v24 v25 v27 v29 a s0 = some r) : WLAW l Z n0 (PLAW r) 25 828 575 (vR 0 :: vI v1 :: vR 1 :: vJ v3 :: vS :: vJ v5 :: vS :: vJ v7 :: vS :: vI v9 :: vI v10 :: vU :: vU :: vU :: vU :: vU :: vU :: vJ v17 :: vS :: vJ v19 :: vS :: vI v21 :: vJ v22 :: vS :: vI v24 :: vJ v25 :: vS :: vJ v27 :: vS :: vI v29 :: vU :: vU :: []) [] ([cI a] ++ Hb 1 s0) := by
 unfold f_law_575 at h
 refine WP.aloadN at_575 rfl ?_
 refine WP.iload at_576 rfl ?_
 refine WP.iload at_578 rfl ?_
 refine WP.iconst (2 : Int32) at_580 rfl ?_
 obtain ⟨c1, hc1, h⟩ := bd h
 refine WP.callV (i := 1) (y := y15) (as := [.int v21, .int v29, .int (2 : Int32)]) (S := []) at_581 (hw _ m_132) (hw _ m_133) (hw _ m_135) (hw _ m_134) (hw _ m_136) (hw _ m_9) hy15 rfl (CS.frame (ro := 1) (H := ([cI a] ++ Hb 1 s0)) (as := [.ref 1, .int v21, .int v29, .int (2 : Int32)]) fr3_f (ok15 l Z a0 hw v21 v29 (2 : Int32) s0 _ hc1) rfl (by decide) (fr3_l a s0) (fr3_c a s0) (by decide) rfl) rfl (lenOf pd15 rfl) (leb rfl) (leb rfl) (leb rfl) (leb rfl) ?_
 rintro _ _ ⟨_, _, ⟨rfl, rfl⟩, e1_, e2_⟩
 rw [fr3_p a s0 s0] at e2_
 subst e1_ e2_
 show WLAW l Z n0 (PLAW r) 25 828 584 (vR 0 :: vI v1 :: vR 1 :: vJ v3 :: vS :: vJ v5 :: vS :: vJ v7 :: vS :: vI v9 :: vI v10 :: vU :: vU :: vU :: vU :: vU :: vU :: vJ v17 :: vS :: vJ v19 :: vS :: vI v21 :: vJ v22 :: vS :: vI v24 :: vJ v25 :: vS :: vJ v27 :: vS :: vI v29 :: vU :: vU :: []) [.long c1] ([cI a] ++ Hb 1 s0)
 refine WP.lload at_584 rfl ?_
 refine WP.lcmp at_586 ?_
 rcases ite_e h with ⟨hc2, h⟩ | ⟨hc2, h⟩
 ·
  refine WP.ifY (pc' := 593) at_587 (XT.ll_eq_t hc2) (by decide) rfl ?_
  exact WP.weak (L' := (vR 0 :: vI v1 :: vR 1 :: vJ v3 :: vS :: vJ v5 :: vS :: vJ v7 :: vS :: vI v9 :: vI v10 :: vU :: vU :: vU :: vU :: vU :: vU :: vJ v17 :: vS :: vJ v19 :: vS :: vI v21 :: vJ v22 :: vS :: vI v24 :: vJ v25 :: vS :: vJ v27 :: vS :: vI v29 :: vU :: vU :: [])) ⟨rfl, rfl, rfl, rfl, rfl, rfl, rfl, rfl, rfl, rfl, rfl, rfl, rfl, rfl, rfl, rfl, rfl, rfl, rfl, rfl, rfl, rfl, rfl, rfl, trivial⟩ (okLAW_593 l Z a0 hw n0 _ hk67 _ hk463 _ hk537 n v1 v3 v5 v7 v9 v10 v17 v19 v21 v22 v24 v25 v27 v29 a s0 _ h)
 ·
  refine WP.ifN at_587 (XT.ll_eq_f hc2) ?_
  refine WP.iconst (0 : Int32) at_590 rfl ?_
  refine WP.istore (L' := (vR 0 :: vI v1 :: vR 1 :: vJ v3 :: vS :: vJ v5 :: vS :: vJ v7 :: vS :: vI v9 :: vI v10 :: vU :: vU :: vU :: vU :: vU :: vU :: vJ v17 :: vS :: vJ v19 :: vS :: vI v21 :: vJ v22 :: vS :: vI (0 : Int32) :: vJ v25 :: vS :: vJ v27 :: vS :: vI v29 :: vU :: vU :: [])) at_591 (leb rfl) rfl ?_
  exact WP.weak (L' := (vR 0 :: vI v1 :: vR 1 :: vJ v3 :: vS :: vJ v5 :: vS :: vJ v7 :: vS :: vI v9 :: vI v10 :: vU :: vU :: vU :: vU :: vU :: vU :: vJ v17 :: vS :: vJ v19 :: vS :: vI v21 :: vJ v22 :: vS :: vI (0 : Int32) :: vJ v25 :: vS :: vJ v27 :: vS :: vI v29 :: vU :: vU :: [])) ⟨rfl, rfl, rfl, rfl, rfl, rfl, rfl, rfl, rfl, rfl, rfl, rfl, rfl, rfl, rfl, rfl, rfl, rfl, rfl, rfl, rfl, rfl, rfl, rfl, trivial⟩ (okLAW_593 l Z a0 hw n0 _ hk67 _ hk463 _ hk537 n v1 v3 v5 v7 v9 v10 v17 v19 v21 v22 (0 : Int32) v25 v27 v29 a s0 _ h)
def f_law_677 (k67 : KT0) (k463 : KT1) (n : Nat) (v1 : Int32) (v3 v5 v7 : Int64) (v9 v10 : Int32) (v17 v19 : Int64) (v21 : Int32) (a : List Int32) (s0 : St) : Option (Int32) :=
 lt (v21 + (1 : Int32)) fun x1 =>
 k463 v1 v3 v5 v7 v9 v10 v17 v19 x1 a s0
theorem okLAW_677 (l : Launch) (Z : State) (a0 : Array Value) (hw : HW a0 Z) (n0 : Nat) (k67 : KT0) (hk67 : HKLAW_67 l Z n0 k67) (k463 : KT1) (hk463 : HKLAW_463 l Z n0 k463) (n : Nat) (v1 : Int32) (v3 v5 v7 : Int64) (v9 v10 : Int32) (v17 v19 : Int64) (v21 : Int32) (a : List Int32) (s0 : St) (r : Int32) (h : f_law_677 k67 k463 n v1 v3 v5 v7 v9 v10 v17 v19 v21 a s0 = some r) : WLAW l Z n0 (PLAW r) 25 828 677 (vR 0 :: vI v1 :: vR 1 :: vJ v3 :: vS :: vJ v5 :: vS :: vJ v7 :: vS :: vI v9 :: vI v10 :: vU :: vU :: vU :: vU :: vU :: vU :: vJ v17 :: vS :: vJ v19 :: vS :: vI v21 :: vU :: vU :: vU :: vU :: vU :: vU :: vU :: vU :: vU :: vU :: []) [] ([cI a] ++ Hb 1 s0) := by
 unfold f_law_677 at h
 obtain ⟨x1, ex1, h⟩ := lt_e h
 refine WP.iinc (L' := (vR 0 :: vI v1 :: vR 1 :: vJ v3 :: vS :: vJ v5 :: vS :: vJ v7 :: vS :: vI v9 :: vI v10 :: vU :: vU :: vU :: vU :: vU :: vU :: vJ v17 :: vS :: vJ v19 :: vS :: vI x1 :: vU :: vU :: vU :: vU :: vU :: vU :: vU :: vU :: vU :: vU :: [])) (1 : Int32) at_677 rfl rfl (by subst ex1; rfl) ?_
 refine WP.goto (pc' := 463) at_680 (by decide) rfl ?_
 exact WP.weak (L' := (vR 0 :: vI v1 :: vR 1 :: vJ v3 :: vS :: vJ v5 :: vS :: vJ v7 :: vS :: vI v9 :: vI v10 :: vU :: vU :: vU :: vU :: vU :: vU :: vJ v17 :: vS :: vJ v19 :: vS :: vI x1 :: vU :: vU :: vU :: vU :: vU :: vU :: vU :: vU :: vU :: vU :: [])) ⟨rfl, rfl, rfl, rfl, rfl, rfl, rfl, rfl, rfl, rfl, rfl, rfl, rfl, rfl, rfl, rfl, trivial⟩ (hk463 v1 v3 v5 v7 v9 v10 v17 v19 x1 a s0 _ h)
def f_law_648 (k67 : KT0) (k463 : KT1) (n : Nat) (v1 : Int32) (v3 v5 v7 : Int64) (v9 v10 : Int32) (v17 v19 : Int64) (v21 : Int32) (v22 : Int64) (v24 : Int32) (v25 : Int64) (a : List Int32) (s0 : St) : Option (Int32) :=
 if v24 = 0 then
  f_law_677 k67 k463 n v1 v3 v5 v7 v9 v10 v17 v19 v21 a s0
 else
  lt (v17 ||| (v25 <<< (((3 : Int32) * v21).toInt64 &&& 63))) fun x2 =>
  lt (v19 ||| (v22 <<< (((3 : Int32) * v21).toInt64 &&& 63))) fun x3 =>
  f_law_677 k67 k463 n v1 v3 v5 v7 v9 v10 x2 x3 v21 a s0
theorem okLAW_648 (l : Launch) (Z : State) (a0 : Array Value) (hw : HW a0 Z) (n0 : Nat) (k67 : KT0) (hk67 : HKLAW_67 l Z n0 k67) (k463 : KT1) (hk463 : HKLAW_463 l Z n0 k463) (n : Nat) (v1 : Int32) (v3 v5 v7 : Int64) (v9 v10 : Int32) (v17 v19 : Int64) (v21 : Int32) (v22 : Int64) (v24 : Int32) (v25 : Int64) (a : List Int32) (s0 : St) (r : Int32) (h : f_law_648 k67 k463 n v1 v3 v5 v7 v9 v10 v17 v19 v21 v22 v24 v25 a s0 = some r) : WLAW l Z n0 (PLAW r) 25 828 648 (vR 0 :: vI v1 :: vR 1 :: vJ v3 :: vS :: vJ v5 :: vS :: vJ v7 :: vS :: vI v9 :: vI v10 :: vU :: vU :: vU :: vU :: vU :: vU :: vJ v17 :: vS :: vJ v19 :: vS :: vI v21 :: vJ v22 :: vS :: vI v24 :: vJ v25 :: vS :: vU :: vU :: vU :: vU :: vU :: []) [] ([cI a] ++ Hb 1 s0) := by
 unfold f_law_648 at h
 refine WP.iload at_648 rfl ?_
 rcases ite_e h with ⟨hc1, h⟩ | ⟨hc1, h⟩
 ·
  refine WP.ifY (pc' := 677) at_650 (XT.i0_eq_t hc1) (by decide) rfl ?_
  exact WP.weak (L' := (vR 0 :: vI v1 :: vR 1 :: vJ v3 :: vS :: vJ v5 :: vS :: vJ v7 :: vS :: vI v9 :: vI v10 :: vU :: vU :: vU :: vU :: vU :: vU :: vJ v17 :: vS :: vJ v19 :: vS :: vI v21 :: vU :: vU :: vU :: vU :: vU :: vU :: vU :: vU :: vU :: vU :: [])) ⟨rfl, rfl, rfl, rfl, rfl, rfl, rfl, rfl, rfl, rfl, rfl, rfl, rfl, rfl, rfl, rfl, trivial⟩ (okLAW_677 l Z a0 hw n0 _ hk67 _ hk463 n v1 v3 v5 v7 v9 v10 v17 v19 v21 a s0 _ h)
 ·
  refine WP.ifN at_650 (XT.i0_eq_f hc1) ?_
  refine WP.lload at_653 rfl ?_
  refine WP.lload at_655 rfl ?_
  refine WP.iconst (3 : Int32) at_657 rfl ?_
  refine WP.iload at_658 rfl ?_
  refine WP.imul at_660 ?_
  refine WP.lshl at_661 ?_
  refine WP.lor at_662 ?_
  obtain ⟨x2, ex2, h⟩ := lt_e h
  refine WP.lstore (L' := (vR 0 :: vI v1 :: vR 1 :: vJ v3 :: vS :: vJ v5 :: vS :: vJ v7 :: vS :: vI v9 :: vI v10 :: vU :: vU :: vU :: vU :: vU :: vU :: vJ x2 :: vS :: vJ v19 :: vS :: vI v21 :: vJ v22 :: vS :: vI v24 :: vJ v25 :: vS :: vU :: vU :: vU :: vU :: vU :: [])) at_663 (leb rfl) (by subst ex2; rfl) ?_
  refine WP.lload at_665 rfl ?_
  refine WP.lload at_667 rfl ?_
  refine WP.iconst (3 : Int32) at_669 rfl ?_
  refine WP.iload at_670 rfl ?_
  refine WP.imul at_672 ?_
  refine WP.lshl at_673 ?_
  refine WP.lor at_674 ?_
  obtain ⟨x3, ex3, h⟩ := lt_e h
  refine WP.lstore (L' := (vR 0 :: vI v1 :: vR 1 :: vJ v3 :: vS :: vJ v5 :: vS :: vJ v7 :: vS :: vI v9 :: vI v10 :: vU :: vU :: vU :: vU :: vU :: vU :: vJ x2 :: vS :: vJ x3 :: vS :: vI v21 :: vJ v22 :: vS :: vI v24 :: vJ v25 :: vS :: vU :: vU :: vU :: vU :: vU :: [])) at_675 (leb rfl) (by subst ex3; rfl) ?_
  exact WP.weak (L' := (vR 0 :: vI v1 :: vR 1 :: vJ v3 :: vS :: vJ v5 :: vS :: vJ v7 :: vS :: vI v9 :: vI v10 :: vU :: vU :: vU :: vU :: vU :: vU :: vJ x2 :: vS :: vJ x3 :: vS :: vI v21 :: vU :: vU :: vU :: vU :: vU :: vU :: vU :: vU :: vU :: vU :: [])) ⟨rfl, rfl, rfl, rfl, rfl, rfl, rfl, rfl, rfl, rfl, rfl, rfl, rfl, rfl, rfl, rfl, trivial⟩ (okLAW_677 l Z a0 hw n0 _ hk67 _ hk463 n v1 v3 v5 v7 v9 v10 x2 x3 v21 a s0 _ h)
def g_law_537 (k67 : KT0) (k463 : KT1) (k537 : KT4) (n : Nat) (v1 : Int32) (v3 v5 v7 : Int64) (v9 v10 : Int32) (v17 v19 : Int64) (v21 : Int32) (v22 : Int64) (v24 : Int32) (v25 v27 : Int64) (v29 : Int32) (a : List Int32) (s0 : St) : Option (Int32) :=
 if v24 = 0 then
  f_law_648 k67 k463 n v1 v3 v5 v7 v9 v10 v17 v19 v21 v22 v24 v25 a s0
 else
  if v29.toInt64 < v22 then
   if v29 < (4 : Int32) then
    (f_getSegment v21 v29 (0 : Int32) s0).bind fun c4 =>
    if c4 = v27 then
     f_law_575 k67 k463 k537 n v1 v3 v5 v7 v9 v10 v17 v19 v21 v22 v24 v25 v27 v29 a s0
    else
     f_law_575 k67 k463 k537 n v1 v3 v5 v7 v9 v10 v17 v19 v21 v22 (0 : Int32) v25 v27 v29 a s0
   else
    f_law_648 k67 k463 n v1 v3 v5 v7 v9 v10 v17 v19 v21 v22 v24 v25 a s0
  else
   f_law_648 k67 k463 n v1 v3 v5 v7 v9 v10 v17 v19 v21 v22 v24 v25 a s0
theorem okgLAW_537 (l : Launch) (Z : State) (a0 : Array Value) (hw : HW a0 Z) (n0 : Nat) (k67 : KT0) (hk67 : HKLAW_67 l Z n0 k67) (k463 : KT1) (hk463 : HKLAW_463 l Z n0 k463) (k537 : KT4) (hk537 : HKLAW_537 l Z n0 k537) (n : Nat) (v1 : Int32) (v3 v5 v7 : Int64) (v9 v10 : Int32) (v17 v19 : Int64) (v21 : Int32) (v22 : Int64) (v24 : Int32) (v25 v27 : Int64) (v29 : Int32) (a : List Int32) (s0 : St) (r : Int32) (h : g_law_537 k67 k463 k537 n v1 v3 v5 v7 v9 v10 v17 v19 v21 v22 v24 v25 v27 v29 a s0 = some r) : WLAW l Z n0 (PLAW r) 25 828 537 (vR 0 :: vI v1 :: vR 1 :: vJ v3 :: vS :: vJ v5 :: vS :: vJ v7 :: vS :: vI v9 :: vI v10 :: vU :: vU :: vU :: vU :: vU :: vU :: vJ v17 :: vS :: vJ v19 :: vS :: vI v21 :: vJ v22 :: vS :: vI v24 :: vJ v25 :: vS :: vJ v27 :: vS :: vI v29 :: vU :: vU :: []) [] ([cI a] ++ Hb 1 s0) := by
 unfold g_law_537 at h
 refine WP.iload at_537 rfl ?_
 rcases ite_e h with ⟨hc1, h⟩ | ⟨hc1, h⟩
 ·
  refine WP.ifY (pc' := 648) at_539 (XT.i0_eq_t hc1) (by decide) rfl ?_
  exact WP.weak (L' := (vR 0 :: vI v1 :: vR 1 :: vJ v3 :: vS :: vJ v5 :: vS :: vJ v7 :: vS :: vI v9 :: vI v10 :: vU :: vU :: vU :: vU :: vU :: vU :: vJ v17 :: vS :: vJ v19 :: vS :: vI v21 :: vJ v22 :: vS :: vI v24 :: vJ v25 :: vS :: vU :: vU :: vU :: vU :: vU :: [])) ⟨rfl, rfl, rfl, rfl, rfl, rfl, rfl, rfl, rfl, rfl, rfl, rfl, rfl, rfl, rfl, rfl, rfl, rfl, rfl, rfl, rfl, trivial⟩ (okLAW_648 l Z a0 hw n0 _ hk67 _ hk463 n v1 v3 v5 v7 v9 v10 v17 v19 v21 v22 v24 v25 a s0 _ h)
 ·
  refine WP.ifN at_539 (XT.i0_eq_f hc1) ?_
  refine WP.iload at_542 rfl ?_
  refine WP.i2l at_544 ?_
  refine WP.lload at_545 rfl ?_
  refine WP.lcmp at_547 ?_
  rcases ite_e h with ⟨hc2, h⟩ | ⟨hc2, h⟩
  ·
   refine WP.ifN at_548 (XT.ll_ge_f hc2) ?_
   refine WP.iload at_551 rfl ?_
   refine WP.iconst (4 : Int32) at_553 rfl ?_
   rcases ite_e h with ⟨hc3, h⟩ | ⟨hc3, h⟩
   ·
    refine WP.icmpN at_554 (XT.ii_ge_f hc3) ?_
    refine WP.aloadN at_557 rfl ?_
    refine WP.iload at_558 rfl ?_
    refine WP.iload at_560 rfl ?_
    refine WP.iconst (0 : Int32) at_562 rfl ?_
    obtain ⟨c4, hc4, h⟩ := bd h
    refine WP.callV (i := 1) (y := y15) (as := [.int v21, .int v29, .int (0 : Int32)]) (S := []) at_563 (hw _ m_132) (hw _ m_133) (hw _ m_135) (hw _ m_134) (hw _ m_136) (hw _ m_9) hy15 rfl (CS.frame (ro := 1) (H := ([cI a] ++ Hb 1 s0)) (as := [.ref 1, .int v21, .int v29, .int (0 : Int32)]) fr3_f (ok15 l Z a0 hw v21 v29 (0 : Int32) s0 _ hc4) rfl (by decide) (fr3_l a s0) (fr3_c a s0) (by decide) rfl) rfl (lenOf pd15 rfl) (leb rfl) (leb rfl) (leb rfl) (leb rfl) ?_
    rintro _ _ ⟨_, _, ⟨rfl, rfl⟩, e1_, e2_⟩
    rw [fr3_p a s0 s0] at e2_
    subst e1_ e2_
    show WLAW l Z n0 (PLAW r) 25 828 566 (vR 0 :: vI v1 :: vR 1 :: vJ v3 :: vS :: vJ v5 :: vS :: vJ v7 :: vS :: vI v9 :: vI v10 :: vU :: vU :: vU :: vU :: vU :: vU :: vJ v17 :: vS :: vJ v19 :: vS :: vI v21 :: vJ v22 :: vS :: vI v24 :: vJ v25 :: vS :: vJ v27 :: vS :: vI v29 :: vU :: vU :: []) [.long c4] ([cI a] ++ Hb 1 s0)
    refine WP.lload at_566 rfl ?_
    refine WP.lcmp at_568 ?_
    rcases ite_e h with ⟨hc5, h⟩ | ⟨hc5, h⟩
    ·
     refine WP.ifY (pc' := 575) at_569 (XT.ll_eq_t hc5) (by decide) rfl ?_
     exact WP.weak (L' := (vR 0 :: vI v1 :: vR 1 :: vJ v3 :: vS :: vJ v5 :: vS :: vJ v7 :: vS :: vI v9 :: vI v10 :: vU :: vU :: vU :: vU :: vU :: vU :: vJ v17 :: vS :: vJ v19 :: vS :: vI v21 :: vJ v22 :: vS :: vI v24 :: vJ v25 :: vS :: vJ v27 :: vS :: vI v29 :: vU :: vU :: [])) ⟨rfl, rfl, rfl, rfl, rfl, rfl, rfl, rfl, rfl, rfl, rfl, rfl, rfl, rfl, rfl, rfl, rfl, rfl, rfl, rfl, rfl, rfl, rfl, rfl, trivial⟩ (okLAW_575 l Z a0 hw n0 _ hk67 _ hk463 _ hk537 n v1 v3 v5 v7 v9 v10 v17 v19 v21 v22 v24 v25 v27 v29 a s0 _ h)
    ·
     refine WP.ifN at_569 (XT.ll_eq_f hc5) ?_
     refine WP.iconst (0 : Int32) at_572 rfl ?_
     refine WP.istore (L' := (vR 0 :: vI v1 :: vR 1 :: vJ v3 :: vS :: vJ v5 :: vS :: vJ v7 :: vS :: vI v9 :: vI v10 :: vU :: vU :: vU :: vU :: vU :: vU :: vJ v17 :: vS :: vJ v19 :: vS :: vI v21 :: vJ v22 :: vS :: vI (0 : Int32) :: vJ v25 :: vS :: vJ v27 :: vS :: vI v29 :: vU :: vU :: [])) at_573 (leb rfl) rfl ?_
     exact WP.weak (L' := (vR 0 :: vI v1 :: vR 1 :: vJ v3 :: vS :: vJ v5 :: vS :: vJ v7 :: vS :: vI v9 :: vI v10 :: vU :: vU :: vU :: vU :: vU :: vU :: vJ v17 :: vS :: vJ v19 :: vS :: vI v21 :: vJ v22 :: vS :: vI (0 : Int32) :: vJ v25 :: vS :: vJ v27 :: vS :: vI v29 :: vU :: vU :: [])) ⟨rfl, rfl, rfl, rfl, rfl, rfl, rfl, rfl, rfl, rfl, rfl, rfl, rfl, rfl, rfl, rfl, rfl, rfl, rfl, rfl, rfl, rfl, rfl, rfl, trivial⟩ (okLAW_575 l Z a0 hw n0 _ hk67 _ hk463 _ hk537 n v1 v3 v5 v7 v9 v10 v17 v19 v21 v22 (0 : Int32) v25 v27 v29 a s0 _ h)
   ·
    refine WP.icmpY (pc' := 648) at_554 (XT.ii_ge_t hc3) (by decide) rfl ?_
    exact WP.weak (L' := (vR 0 :: vI v1 :: vR 1 :: vJ v3 :: vS :: vJ v5 :: vS :: vJ v7 :: vS :: vI v9 :: vI v10 :: vU :: vU :: vU :: vU :: vU :: vU :: vJ v17 :: vS :: vJ v19 :: vS :: vI v21 :: vJ v22 :: vS :: vI v24 :: vJ v25 :: vS :: vU :: vU :: vU :: vU :: vU :: [])) ⟨rfl, rfl, rfl, rfl, rfl, rfl, rfl, rfl, rfl, rfl, rfl, rfl, rfl, rfl, rfl, rfl, rfl, rfl, rfl, rfl, rfl, trivial⟩ (okLAW_648 l Z a0 hw n0 _ hk67 _ hk463 n v1 v3 v5 v7 v9 v10 v17 v19 v21 v22 v24 v25 a s0 _ h)
  ·
   refine WP.ifY (pc' := 648) at_548 (XT.ll_ge_t hc2) (by decide) rfl ?_
   exact WP.weak (L' := (vR 0 :: vI v1 :: vR 1 :: vJ v3 :: vS :: vJ v5 :: vS :: vJ v7 :: vS :: vI v9 :: vI v10 :: vU :: vU :: vU :: vU :: vU :: vU :: vJ v17 :: vS :: vJ v19 :: vS :: vI v21 :: vJ v22 :: vS :: vI v24 :: vJ v25 :: vS :: vU :: vU :: vU :: vU :: vU :: [])) ⟨rfl, rfl, rfl, rfl, rfl, rfl, rfl, rfl, rfl, rfl, rfl, rfl, rfl, rfl, rfl, rfl, rfl, rfl, rfl, rfl, rfl, trivial⟩ (okLAW_648 l Z a0 hw n0 _ hk67 _ hk463 n v1 v3 v5 v7 v9 v10 v17 v19 v21 v22 v24 v25 a s0 _ h)
def f_law_537 (k67 : KT0) (k463 : KT1) : Nat → Int32 → Int64 → Int64 → Int64 → Int32 → Int32 → Int64 → Int64 → Int32 → Int64 → Int32 → Int64 → Int64 → Int32 → List Int32 → St → Option (Int32)
 | 0 => fun _ _ _ _ _ _ _ _ _ _ _ _ _ _ _ _ => none
 | n + 1 => g_law_537 k67 k463 (f_law_537 k67 k463 n) n
theorem okLAW_537 (l : Launch) (Z : State) (a0 : Array Value) (hw : HW a0 Z) (n0 : Nat) (k67 : KT0) (hk67 : HKLAW_67 l Z n0 k67) (k463 : KT1) (hk463 : HKLAW_463 l Z n0 k463) : ∀ (n : Nat) (v1 : Int32) (v3 v5 v7 : Int64) (v9 v10 : Int32) (v17 v19 : Int64) (v21 : Int32) (v22 : Int64) (v24 : Int32) (v25 v27 : Int64) (v29 : Int32) (a : List Int32) (s0 : St) (r : Int32), f_law_537 k67 k463 n v1 v3 v5 v7 v9 v10 v17 v19 v21 v22 v24 v25 v27 v29 a s0 = some r → WLAW l Z n0 (PLAW r) 25 828 537 (vR 0 :: vI v1 :: vR 1 :: vJ v3 :: vS :: vJ v5 :: vS :: vJ v7 :: vS :: vI v9 :: vI v10 :: vU :: vU :: vU :: vU :: vU :: vU :: vJ v17 :: vS :: vJ v19 :: vS :: vI v21 :: vJ v22 :: vS :: vI v24 :: vJ v25 :: vS :: vJ v27 :: vS :: vI v29 :: vU :: vU :: []) [] ([cI a] ++ Hb 1 s0)
 | 0, v1, v3, v5, v7, v9, v10, v17, v19, v21, v22, v24, v25, v27, v29, a, s0, r, h => nomatch (show none = some r from h)
 | n + 1, v1, v3, v5, v7, v9, v10, v17, v19, v21, v22, v24, v25, v27, v29, a, s0, r, h => okgLAW_537 l Z a0 hw n0 _ hk67 _ hk463 _ (okLAW_537 l Z a0 hw n0 k67 hk67 k463 hk463 n) n v1 v3 v5 v7 v9 v10 v17 v19 v21 v22 v24 v25 v27 v29 a s0 r h
def f_law_531 (k67 : KT0) (k463 : KT1) (n : Nat) (v1 : Int32) (v3 v5 v7 : Int64) (v9 v10 : Int32) (v17 v19 : Int64) (v21 : Int32) (v22 : Int64) (v24 : Int32) (v25 : Int64) (a : List Int32) (s0 : St) : Option (Int32) :=
 f_law_537 k67 k463 n v1 v3 v5 v7 v9 v10 v17 v19 v21 v22 v24 v25 (0 : Int64) (0 : Int32) a s0
theorem okLAW_531 (l : Launch) (Z : State) (a0 : Array Value) (hw : HW a0 Z) (n0 : Nat) (k67 : KT0) (hk67 : HKLAW_67 l Z n0 k67) (k463 : KT1) (hk463 : HKLAW_463 l Z n0 k463) (n : Nat) (v1 : Int32) (v3 v5 v7 : Int64) (v9 v10 : Int32) (v17 v19 : Int64) (v21 : Int32) (v22 : Int64) (v24 : Int32) (v25 : Int64) (a : List Int32) (s0 : St) (r : Int32) (h : f_law_531 k67 k463 n v1 v3 v5 v7 v9 v10 v17 v19 v21 v22 v24 v25 a s0 = some r) : WLAW l Z n0 (PLAW r) 25 828 531 (vR 0 :: vI v1 :: vR 1 :: vJ v3 :: vS :: vJ v5 :: vS :: vJ v7 :: vS :: vI v9 :: vI v10 :: vU :: vU :: vU :: vU :: vU :: vU :: vJ v17 :: vS :: vJ v19 :: vS :: vI v21 :: vJ v22 :: vS :: vI v24 :: vJ v25 :: vS :: vU :: vU :: vU :: vU :: vU :: []) [] ([cI a] ++ Hb 1 s0) := by
 unfold f_law_531 at h
 refine WP.lconst (0 : Int64) at_531 rfl ?_
 refine WP.lstore (L' := (vR 0 :: vI v1 :: vR 1 :: vJ v3 :: vS :: vJ v5 :: vS :: vJ v7 :: vS :: vI v9 :: vI v10 :: vU :: vU :: vU :: vU :: vU :: vU :: vJ v17 :: vS :: vJ v19 :: vS :: vI v21 :: vJ v22 :: vS :: vI v24 :: vJ v25 :: vS :: vJ (0 : Int64) :: vS :: vU :: vU :: vU :: [])) at_532 (leb rfl) rfl ?_
 refine WP.iconst (0 : Int32) at_534 rfl ?_
 refine WP.istore (L' := (vR 0 :: vI v1 :: vR 1 :: vJ v3 :: vS :: vJ v5 :: vS :: vJ v7 :: vS :: vI v9 :: vI v10 :: vU :: vU :: vU :: vU :: vU :: vU :: vJ v17 :: vS :: vJ v19 :: vS :: vI v21 :: vJ v22 :: vS :: vI v24 :: vJ v25 :: vS :: vJ (0 : Int64) :: vS :: vI (0 : Int32) :: vU :: vU :: [])) at_535 (leb rfl) rfl ?_
 exact WP.weak (L' := (vR 0 :: vI v1 :: vR 1 :: vJ v3 :: vS :: vJ v5 :: vS :: vJ v7 :: vS :: vI v9 :: vI v10 :: vU :: vU :: vU :: vU :: vU :: vU :: vJ v17 :: vS :: vJ v19 :: vS :: vI v21 :: vJ v22 :: vS :: vI v24 :: vJ v25 :: vS :: vJ (0 : Int64) :: vS :: vI (0 : Int32) :: vU :: vU :: [])) ⟨rfl, rfl, rfl, rfl, rfl, rfl, rfl, rfl, rfl, rfl, rfl, rfl, rfl, rfl, rfl, rfl, rfl, rfl, rfl, rfl, rfl, rfl, rfl, rfl, trivial⟩ (okLAW_537 l Z a0 hw n0 _ hk67 _ hk463 n v1 v3 v5 v7 v9 v10 v17 v19 v21 v22 v24 v25 (0 : Int64) (0 : Int32) a s0 _ h)
def f_law_528 (k67 : KT0) (k463 : KT1) (n : Nat) (v1 : Int32) (v3 v5 v7 : Int64) (v9 v10 : Int32) (v17 v19 : Int64) (v21 : Int32) (v22 v25 : Int64) (a : List Int32) (s0 : St) : Option (Int32) :=
 f_law_531 k67 k463 n v1 v3 v5 v7 v9 v10 v17 v19 v21 v22 (0 : Int32) v25 a s0
theorem okLAW_528 (l : Launch) (Z : State) (a0 : Array Value) (hw : HW a0 Z) (n0 : Nat) (k67 : KT0) (hk67 : HKLAW_67 l Z n0 k67) (k463 : KT1) (hk463 : HKLAW_463 l Z n0 k463) (n : Nat) (v1 : Int32) (v3 v5 v7 : Int64) (v9 v10 : Int32) (v17 v19 : Int64) (v21 : Int32) (v22 v25 : Int64) (a : List Int32) (s0 : St) (r : Int32) (h : f_law_528 k67 k463 n v1 v3 v5 v7 v9 v10 v17 v19 v21 v22 v25 a s0 = some r) : WLAW l Z n0 (PLAW r) 25 828 528 (vR 0 :: vI v1 :: vR 1 :: vJ v3 :: vS :: vJ v5 :: vS :: vJ v7 :: vS :: vI v9 :: vI v10 :: vU :: vU :: vU :: vU :: vU :: vU :: vJ v17 :: vS :: vJ v19 :: vS :: vI v21 :: vJ v22 :: vS :: vU :: vJ v25 :: vS :: vU :: vU :: vU :: vU :: vU :: []) [] ([cI a] ++ Hb 1 s0) := by
 unfold f_law_528 at h
 refine WP.iconst (0 : Int32) at_528 rfl ?_
 refine WP.istore (L' := (vR 0 :: vI v1 :: vR 1 :: vJ v3 :: vS :: vJ v5 :: vS :: vJ v7 :: vS :: vI v9 :: vI v10 :: vU :: vU :: vU :: vU :: vU :: vU :: vJ v17 :: vS :: vJ v19 :: vS :: vI v21 :: vJ v22 :: vS :: vI (0 : Int32) :: vJ v25 :: vS :: vU :: vU :: vU :: vU :: vU :: [])) at_529 (leb rfl) rfl ?_
 exact WP.weak (L' := (vR 0 :: vI v1 :: vR 1 :: vJ v3 :: vS :: vJ v5 :: vS :: vJ v7 :: vS :: vI v9 :: vI v10 :: vU :: vU :: vU :: vU :: vU :: vU :: vJ v17 :: vS :: vJ v19 :: vS :: vI v21 :: vJ v22 :: vS :: vI (0 : Int32) :: vJ v25 :: vS :: vU :: vU :: vU :: vU :: vU :: [])) ⟨rfl, rfl, rfl, rfl, rfl, rfl, rfl, rfl, rfl, rfl, rfl, rfl, rfl, rfl, rfl, rfl, rfl, rfl, rfl, rfl, rfl, trivial⟩ (okLAW_531 l Z a0 hw n0 _ hk67 _ hk463 n v1 v3 v5 v7 v9 v10 v17 v19 v21 v22 (0 : Int32) v25 a s0 _ h)
def f_law_500 (k67 : KT0) (k463 : KT1) (n : Nat) (v1 : Int32) (v3 v5 v7 : Int64) (v9 v10 : Int32) (v17 v19 : Int64) (v21 : Int32) (v22 : Int64) (t0 : Int32) (a : List Int32) (s0 : St) : Option (Int32) :=
 (f_getSegment v21 (0 : Int32) (2 : Int32) s0).bind fun c1 =>
 if c1 < (0 : Int64) then
  f_law_528 k67 k463 n v1 v3 v5 v7 v9 v10 v17 v19 v21 v22 c1 a s0
 else
  if (7 : Int64) < c1 then
   f_law_528 k67 k463 n v1 v3 v5 v7 v9 v10 v17 v19 v21 v22 c1 a s0
  else
   f_law_531 k67 k463 n v1 v3 v5 v7 v9 v10 v17 v19 v21 v22 t0 c1 a s0
theorem okLAW_500 (l : Launch) (Z : State) (a0 : Array Value) (hw : HW a0 Z) (n0 : Nat) (k67 : KT0) (hk67 : HKLAW_67 l Z n0 k67) (k463 : KT1) (hk463 : HKLAW_463 l Z n0 k463) (n : Nat) (v1 : Int32) (v3 v5 v7 : Int64) (v9 v10 : Int32) (v17 v19 : Int64) (v21 : Int32) (v22 : Int64) (t0 : Int32) (a : List Int32) (s0 : St) (r : Int32) (h : f_law_500 k67 k463 n v1 v3 v5 v7 v9 v10 v17 v19 v21 v22 t0 a s0 = some r) : WLAW l Z n0 (PLAW r) 25 828 500 (vR 0 :: vI v1 :: vR 1 :: vJ v3 :: vS :: vJ v5 :: vS :: vJ v7 :: vS :: vI v9 :: vI v10 :: vU :: vU :: vU :: vU :: vU :: vU :: vJ v17 :: vS :: vJ v19 :: vS :: vI v21 :: vJ v22 :: vS :: vU :: vU :: vU :: vU :: vU :: vU :: vU :: vU :: []) [.int t0] ([cI a] ++ Hb 1 s0) := by
 unfold f_law_500 at h
 refine WP.istore (L' := (vR 0 :: vI v1 :: vR 1 :: vJ v3 :: vS :: vJ v5 :: vS :: vJ v7 :: vS :: vI v9 :: vI v10 :: vU :: vU :: vU :: vU :: vU :: vU :: vJ v17 :: vS :: vJ v19 :: vS :: vI v21 :: vJ v22 :: vS :: vI t0 :: vU :: vU :: vU :: vU :: vU :: vU :: vU :: [])) at_500 (leb rfl) rfl ?_
 refine WP.aloadN at_502 rfl ?_
 refine WP.iload at_503 rfl ?_
 refine WP.iconst (0 : Int32) at_505 rfl ?_
 refine WP.iconst (2 : Int32) at_506 rfl ?_
 obtain ⟨c1, hc1, h⟩ := bd h
 refine WP.callV (i := 1) (y := y15) (as := [.int v21, .int (0 : Int32), .int (2 : Int32)]) (S := []) at_507 (hw _ m_132) (hw _ m_133) (hw _ m_135) (hw _ m_134) (hw _ m_136) (hw _ m_9) hy15 rfl (CS.frame (ro := 1) (H := ([cI a] ++ Hb 1 s0)) (as := [.ref 1, .int v21, .int (0 : Int32), .int (2 : Int32)]) fr3_f (ok15 l Z a0 hw v21 (0 : Int32) (2 : Int32) s0 _ hc1) rfl (by decide) (fr3_l a s0) (fr3_c a s0) (by decide) rfl) rfl (lenOf pd15 rfl) (leb rfl) (leb rfl) (leb rfl) (leb rfl) ?_
 rintro _ _ ⟨_, _, ⟨rfl, rfl⟩, e1_, e2_⟩
 rw [fr3_p a s0 s0] at e2_
 subst e1_ e2_
 show WLAW l Z n0 (PLAW r) 25 828 510 (vR 0 :: vI v1 :: vR 1 :: vJ v3 :: vS :: vJ v5 :: vS :: vJ v7 :: vS :: vI v9 :: vI v10 :: vU :: vU :: vU :: vU :: vU :: vU :: vJ v17 :: vS :: vJ v19 :: vS :: vI v21 :: vJ v22 :: vS :: vI t0 :: vU :: vU :: vU :: vU :: vU :: vU :: vU :: []) [.long c1] ([cI a] ++ Hb 1 s0)
 refine WP.lstore (L' := (vR 0 :: vI v1 :: vR 1 :: vJ v3 :: vS :: vJ v5 :: vS :: vJ v7 :: vS :: vI v9 :: vI v10 :: vU :: vU :: vU :: vU :: vU :: vU :: vJ v17 :: vS :: vJ v19 :: vS :: vI v21 :: vJ v22 :: vS :: vI t0 :: vJ c1 :: vS :: vU :: vU :: vU :: vU :: vU :: [])) at_510 (leb rfl) rfl ?_
 refine WP.lload at_512 rfl ?_
 refine WP.lconst (0 : Int64) at_514 rfl ?_
 refine WP.lcmp at_515 ?_
 rcases ite_e h with ⟨hc2, h⟩ | ⟨hc2, h⟩
 ·
  refine WP.ifY (pc' := 528) at_516 (XT.ll_lt_t hc2) (by decide) rfl ?_
  exact WP.weak (L' := (vR 0 :: vI v1 :: vR 1 :: vJ v3 :: vS :: vJ v5 :: vS :: vJ v7 :: vS :: vI v9 :: vI v10 :: vU :: vU :: vU :: vU :: vU :: vU :: vJ v17 :: vS :: vJ v19 :: vS :: vI v21 :: vJ v22 :: vS :: vU :: vJ c1 :: vS :: vU :: vU :: vU :: vU :: vU :: [])) ⟨rfl, rfl, rfl, rfl, rfl, rfl, rfl, rfl, rfl, rfl, rfl, rfl, rfl, rfl, rfl, rfl, rfl, rfl, rfl, rfl, trivial⟩ (okLAW_528 l Z a0 hw n0 _ hk67 _ hk463 n v1 v3 v5 v7 v9 v10 v17 v19 v21 v22 c1 a s0 _ h)
 ·
  refine WP.ifN at_516 (XT.ll_lt_f hc2) ?_
  refine WP.lload at_519 rfl ?_
  refine WP.ldc2 at_521 (hw _ m_137) ?_
  refine WP.lcmp at_524 ?_
  rcases ite_e h with ⟨hc3, h⟩ | ⟨hc3, h⟩
  ·
   refine WP.ifN at_525 (XT.ll_le_f hc3) ?_
   exact WP.weak (L' := (vR 0 :: vI v1 :: vR 1 :: vJ v3 :: vS :: vJ v5 :: vS :: vJ v7 :: vS :: vI v9 :: vI v10 :: vU :: vU :: vU :: vU :: vU :: vU :: vJ v17 :: vS :: vJ v19 :: vS :: vI v21 :: vJ v22 :: vS :: vU :: vJ c1 :: vS :: vU :: vU :: vU :: vU :: vU :: [])) ⟨rfl, rfl, rfl, rfl, rfl, rfl, rfl, rfl, rfl, rfl, rfl, rfl, rfl, rfl, rfl, rfl, rfl, rfl, rfl, rfl, trivial⟩ (okLAW_528 l Z a0 hw n0 _ hk67 _ hk463 n v1 v3 v5 v7 v9 v10 v17 v19 v21 v22 c1 a s0 _ h)
  ·
   refine WP.ifY (pc' := 531) at_525 (XT.ll_le_t hc3) (by decide) rfl ?_
   exact WP.weak (L' := (vR 0 :: vI v1 :: vR 1 :: vJ v3 :: vS :: vJ v5 :: vS :: vJ v7 :: vS :: vI v9 :: vI v10 :: vU :: vU :: vU :: vU :: vU :: vU :: vJ v17 :: vS :: vJ v19 :: vS :: vI v21 :: vJ v22 :: vS :: vI t0 :: vJ c1 :: vS :: vU :: vU :: vU :: vU :: vU :: [])) ⟨rfl, rfl, rfl, rfl, rfl, rfl, rfl, rfl, rfl, rfl, rfl, rfl, rfl, rfl, rfl, rfl, rfl, rfl, rfl, rfl, rfl, trivial⟩ (okLAW_531 l Z a0 hw n0 _ hk67 _ hk463 n v1 v3 v5 v7 v9 v10 v17 v19 v21 v22 t0 c1 a s0 _ h)
def f_law_499 (k67 : KT0) (k463 : KT1) (n : Nat) (v1 : Int32) (v3 v5 v7 : Int64) (v9 v10 : Int32) (v17 v19 : Int64) (v21 : Int32) (v22 : Int64) (a : List Int32) (s0 : St) : Option (Int32) :=
 f_law_500 k67 k463 n v1 v3 v5 v7 v9 v10 v17 v19 v21 v22 (0 : Int32) a s0
theorem okLAW_499 (l : Launch) (Z : State) (a0 : Array Value) (hw : HW a0 Z) (n0 : Nat) (k67 : KT0) (hk67 : HKLAW_67 l Z n0 k67) (k463 : KT1) (hk463 : HKLAW_463 l Z n0 k463) (n : Nat) (v1 : Int32) (v3 v5 v7 : Int64) (v9 v10 : Int32) (v17 v19 : Int64) (v21 : Int32) (v22 : Int64) (a : List Int32) (s0 : St) (r : Int32) (h : f_law_499 k67 k463 n v1 v3 v5 v7 v9 v10 v17 v19 v21 v22 a s0 = some r) : WLAW l Z n0 (PLAW r) 25 828 499 (vR 0 :: vI v1 :: vR 1 :: vJ v3 :: vS :: vJ v5 :: vS :: vJ v7 :: vS :: vI v9 :: vI v10 :: vU :: vU :: vU :: vU :: vU :: vU :: vJ v17 :: vS :: vJ v19 :: vS :: vI v21 :: vJ v22 :: vS :: vU :: vU :: vU :: vU :: vU :: vU :: vU :: vU :: []) [] ([cI a] ++ Hb 1 s0) := by
 unfold f_law_499 at h
 refine WP.iconst (0 : Int32) at_499 rfl ?_
 exact WP.weak (L' := (vR 0 :: vI v1 :: vR 1 :: vJ v3 :: vS :: vJ v5 :: vS :: vJ v7 :: vS :: vI v9 :: vI v10 :: vU :: vU :: vU :: vU :: vU :: vU :: vJ v17 :: vS :: vJ v19 :: vS :: vI v21 :: vJ v22 :: vS :: vU :: vU :: vU :: vU :: vU :: vU :: vU :: vU :: [])) ⟨rfl, rfl, rfl, rfl, rfl, rfl, rfl, rfl, rfl, rfl, rfl, rfl, rfl, rfl, rfl, rfl, rfl, rfl, trivial⟩ (okLAW_500 l Z a0 hw n0 _ hk67 _ hk463 n v1 v3 v5 v7 v9 v10 v17 v19 v21 v22 (0 : Int32) a s0 _ h)
def f_law_790 (k67 : KT0) (k691 : KT1) (n : Nat) (v1 : Int32) (v3 v5 v7 : Int64) (v9 v10 : Int32) (v17 v19 : Int64) (v21 : Int32) (a : List Int32) (s0 : St) : Option (Int32) :=
 lt (v21 + (1 : Int32)) fun x1 =>
 k691 v1 v3 v5 v7 v9 v10 v17 v19 x1 a s0
abbrev HKLAW_691 (l : Launch) (Z : State) (n0 : Nat) (k691 : KT1) : Prop := ∀ (v1 : Int32) (v3 v5 v7 : Int64) (v9 v10 : Int32) (v17 v19 : Int64) (v21 : Int32) (a : List Int32) (s0 : St) (r : Int32), k691 v1 v3 v5 v7 v9 v10 v17 v19 v21 a s0 = some r → WLAW l Z n0 (PLAW r) 25 828 691 (vR 0 :: vI v1 :: vR 1 :: vJ v3 :: vS :: vJ v5 :: vS :: vJ v7 :: vS :: vI v9 :: vI v10 :: vU :: vU :: vU :: vU :: vU :: vU :: vJ v17 :: vS :: vJ v19 :: vS :: vI v21 :: vU :: vU :: vU :: vU :: vU :: vU :: vU :: vU :: vU :: vU :: []) [] ([cI a] ++ Hb 1 s0)
theorem okLAW_790 (l : Launch) (Z : State) (a0 : Array Value) (hw : HW a0 Z) (n0 : Nat) (k67 : KT0) (hk67 : HKLAW_67 l Z n0 k67) (k691 : KT1) (hk691 : HKLAW_691 l Z n0 k691) (n : Nat) (v1 : Int32) (v3 v5 v7 : Int64) (v9 v10 : Int32) (v17 v19 : Int64) (v21 : Int32) (a : List Int32) (s0 : St) (r : Int32) (h : f_law_790 k67 k691 n v1 v3 v5 v7 v9 v10 v17 v19 v21 a s0 = some r) : WLAW l Z n0 (PLAW r) 25 828 790 (vR 0 :: vI v1 :: vR 1 :: vJ v3 :: vS :: vJ v5 :: vS :: vJ v7 :: vS :: vI v9 :: vI v10 :: vU :: vU :: vU :: vU :: vU :: vU :: vJ v17 :: vS :: vJ v19 :: vS :: vI v21 :: vU :: vU :: vU :: vU :: vU :: vU :: vU :: vU :: vU :: vU :: []) [] ([cI a] ++ Hb 1 s0) := by
 unfold f_law_790 at h
 obtain ⟨x1, ex1, h⟩ := lt_e h
 refine WP.iinc (L' := (vR 0 :: vI v1 :: vR 1 :: vJ v3 :: vS :: vJ v5 :: vS :: vJ v7 :: vS :: vI v9 :: vI v10 :: vU :: vU :: vU :: vU :: vU :: vU :: vJ v17 :: vS :: vJ v19 :: vS :: vI x1 :: vU :: vU :: vU :: vU :: vU :: vU :: vU :: vU :: vU :: vU :: [])) (1 : Int32) at_790 rfl rfl (by subst ex1; rfl) ?_
 refine WP.goto (pc' := 691) at_793 (by decide) rfl ?_
 exact WP.weak (L' := (vR 0 :: vI v1 :: vR 1 :: vJ v3 :: vS :: vJ v5 :: vS :: vJ v7 :: vS :: vI v9 :: vI v10 :: vU :: vU :: vU :: vU :: vU :: vU :: vJ v17 :: vS :: vJ v19 :: vS :: vI x1 :: vU :: vU :: vU :: vU :: vU :: vU :: vU :: vU :: vU :: vU :: [])) ⟨rfl, rfl, rfl, rfl, rfl, rfl, rfl, rfl, rfl, rfl, rfl, rfl, rfl, rfl, rfl, rfl, trivial⟩ (hk691 v1 v3 v5 v7 v9 v10 v17 v19 x1 a s0 _ h)
def g_law_740 (k67 : KT0) (k691 : KT1) (k740 : KT15) (n : Nat) (v1 : Int32) (v3 v5 v7 : Int64) (v9 v10 : Int32) (v17 v19 : Int64) (v21 v22 v23 : Int32) (v24 : Int64) (v26 : Int32) (a : List Int32) (s0 : St) : Option (Int32) :=
 if v26 < v22 then
  (f_getLine v21 ((2 : Int32) * v26) s0).bind fun c2 =>
  lt (v24 + c2) fun x3 =>
  lt (v26 + (1 : Int32)) fun x4 =>
  k740 v1 v3 v5 v7 v9 v10 v17 v19 v21 v22 v23 x3 x4 a s0
 else
  (f_L_pick v23 v3 v5 v7).bind fun c5 =>
  if v24 = (c5 * (1000000 : Int64)) then
   f_law_790 k67 k691 n v1 v3 v5 v7 v9 v10 v17 v19 v21 a s0
  else
   some (0 : Int32)
abbrev HKLAW_740 (l : Launch) (Z : State) (n0 : Nat) (k740 : KT15) : Prop := ∀ (v1 : Int32) (v3 v5 v7 : Int64) (v9 v10 : Int32) (v17 v19 : Int64) (v21 v22 v23 : Int32) (v24 : Int64) (v26 : Int32) (a : List Int32) (s0 : St) (r : Int32), k740 v1 v3 v5 v7 v9 v10 v17 v19 v21 v22 v23 v24 v26 a s0 = some r → WLAW l Z n0 (PLAW r) 25 828 740 (vR 0 :: vI v1 :: vR 1 :: vJ v3 :: vS :: vJ v5 :: vS :: vJ v7 :: vS :: vI v9 :: vI v10 :: vU :: vU :: vU :: vU :: vU :: vU :: vJ v17 :: vS :: vJ v19 :: vS :: vI v21 :: vI v22 :: vI v23 :: vJ v24 :: vS :: vI v26 :: vU :: vU :: vU :: vU :: vU :: []) [] ([cI a] ++ Hb 1 s0)
theorem okgLAW_740 (l : Launch) (Z : State) (a0 : Array Value) (hw : HW a0 Z) (n0 : Nat) (k67 : KT0) (hk67 : HKLAW_67 l Z n0 k67) (k691 : KT1) (hk691 : HKLAW_691 l Z n0 k691) (k740 : KT15) (hk740 : HKLAW_740 l Z n0 k740) (n : Nat) (v1 : Int32) (v3 v5 v7 : Int64) (v9 v10 : Int32) (v17 v19 : Int64) (v21 v22 v23 : Int32) (v24 : Int64) (v26 : Int32) (a : List Int32) (s0 : St) (r : Int32) (h : g_law_740 k67 k691 k740 n v1 v3 v5 v7 v9 v10 v17 v19 v21 v22 v23 v24 v26 a s0 = some r) : WLAW l Z n0 (PLAW r) 25 828 740 (vR 0 :: vI v1 :: vR 1 :: vJ v3 :: vS :: vJ v5 :: vS :: vJ v7 :: vS :: vI v9 :: vI v10 :: vU :: vU :: vU :: vU :: vU :: vU :: vJ v17 :: vS :: vJ v19 :: vS :: vI v21 :: vI v22 :: vI v23 :: vJ v24 :: vS :: vI v26 :: vU :: vU :: vU :: vU :: vU :: []) [] ([cI a] ++ Hb 1 s0) := by
 unfold g_law_740 at h
 refine WP.iload at_740 rfl ?_
 refine WP.iload at_742 rfl ?_
 rcases ite_e h with ⟨hc1, h⟩ | ⟨hc1, h⟩
 ·
  refine WP.icmpN at_744 (XT.ii_ge_f hc1) ?_
  refine WP.lload at_747 rfl ?_
  refine WP.aloadN at_749 rfl ?_
  refine WP.iload at_750 rfl ?_
  refine WP.iconst (2 : Int32) at_752 rfl ?_
  refine WP.iload at_753 rfl ?_
  refine WP.imul at_755 ?_
  obtain ⟨c2, hc2, h⟩ := bd h
  refine WP.callV (i := 1) (y := y25) (as := [.int v21, .int ((2 : Int32) * v26)]) (S := [.long v24]) at_756 (hw _ m_180) (hw _ m_181) (hw _ m_183) (hw _ m_182) (hw _ m_184) (hw _ m_9) hy25 rfl (CS.frame (ro := 1) (H := ([cI a] ++ Hb 1 s0)) (as := [.ref 1, .int v21, .int ((2 : Int32) * v26)]) fr3_f (ok25 l Z a0 hw v21 ((2 : Int32) * v26) s0 _ hc2) rfl (by decide) (fr3_l a s0) (fr3_c a s0) (by decide) rfl) rfl (lenOf pd25 rfl) (leb rfl) (leb rfl) (leb rfl) (leb rfl) ?_
  rintro _ _ ⟨_, _, ⟨rfl, rfl⟩, e1_, e2_⟩
  rw [fr3_p a s0 s0] at e2_
  subst e1_ e2_
  show WLAW l Z n0 (PLAW r) 25 828 759 (vR 0 :: vI v1 :: vR 1 :: vJ v3 :: vS :: vJ v5 :: vS :: vJ v7 :: vS :: vI v9 :: vI v10 :: vU :: vU :: vU :: vU :: vU :: vU :: vJ v17 :: vS :: vJ v19 :: vS :: vI v21 :: vI v22 :: vI v23 :: vJ v24 :: vS :: vI v26 :: vU :: vU :: vU :: vU :: vU :: []) [.long c2, .long v24] ([cI a] ++ Hb 1 s0)
  refine WP.ladd at_759 ?_
  obtain ⟨x3, ex3, h⟩ := lt_e h
  refine WP.lstore (L' := (vR 0 :: vI v1 :: vR 1 :: vJ v3 :: vS :: vJ v5 :: vS :: vJ v7 :: vS :: vI v9 :: vI v10 :: vU :: vU :: vU :: vU :: vU :: vU :: vJ v17 :: vS :: vJ v19 :: vS :: vI v21 :: vI v22 :: vI v23 :: vJ x3 :: vS :: vI v26 :: vU :: vU :: vU :: vU :: vU :: [])) at_760 (leb rfl) (by subst ex3; rfl) ?_
  obtain ⟨x4, ex4, h⟩ := lt_e h
  refine WP.iinc (L' := (vR 0 :: vI v1 :: vR 1 :: vJ v3 :: vS :: vJ v5 :: vS :: vJ v7 :: vS :: vI v9 :: vI v10 :: vU :: vU :: vU :: vU :: vU :: vU :: vJ v17 :: vS :: vJ v19 :: vS :: vI v21 :: vI v22 :: vI v23 :: vJ x3 :: vS :: vI x4 :: vU :: vU :: vU :: vU :: vU :: [])) (1 : Int32) at_762 rfl rfl (by subst ex4; rfl) ?_
  refine WP.goto (pc' := 740) at_765 (by decide) rfl ?_
  exact WP.weak (L' := (vR 0 :: vI v1 :: vR 1 :: vJ v3 :: vS :: vJ v5 :: vS :: vJ v7 :: vS :: vI v9 :: vI v10 :: vU :: vU :: vU :: vU :: vU :: vU :: vJ v17 :: vS :: vJ v19 :: vS :: vI v21 :: vI v22 :: vI v23 :: vJ x3 :: vS :: vI x4 :: vU :: vU :: vU :: vU :: vU :: [])) ⟨rfl, rfl, rfl, rfl, rfl, rfl, rfl, rfl, rfl, rfl, rfl, rfl, rfl, rfl, rfl, rfl, rfl, rfl, rfl, rfl, rfl, trivial⟩ (hk740 v1 v3 v5 v7 v9 v10 v17 v19 v21 v22 v23 x3 x4 a s0 _ h)
 ·
  refine WP.icmpY (pc' := 768) at_744 (XT.ii_ge_t hc1) (by decide) rfl ?_
  refine WP.lload at_768 rfl ?_
  refine WP.iload at_770 rfl ?_
  refine WP.lloadN at_772 rfl ?_
  refine WP.lload at_773 rfl ?_
  refine WP.lload at_775 rfl ?_
  obtain ⟨c5, hc5, h⟩ := bd h
  refine WP.callS (y := y26) (as := [.int v23, .long v3, .long v5, .long v7]) (S := [.long v24]) at_777 (hw _ m_185) (hw _ m_186) (hw _ m_2) (hw _ m_187) hy26 (CS.frame (ro := 1) (H := ([cI a] ++ Hb 1 s0)) (as := [.int v23, .long v3, .long v5, .long v7]) fr2_f (ok26 l Z a0 hw v23 v3 v5 v7 _ hc5) rfl (by decide) (fr2_l a s0) (fr2_c a s0) (by decide) rfl) rfl (lenOf pd26 rfl) (leb rfl) (leb rfl) (leb rfl) (leb rfl) ?_
  rintro _ _ ⟨_, _, ⟨rfl, rfl⟩, e1_, e2_⟩
  rw [fr2_p a s0] at e2_
  subst e1_ e2_
  show WLAW l Z n0 (PLAW r) 25 828 780 (vR 0 :: vI v1 :: vR 1 :: vJ v3 :: vS :: vJ v5 :: vS :: vJ v7 :: vS :: vI v9 :: vI v10 :: vU :: vU :: vU :: vU :: vU :: vU :: vJ v17 :: vS :: vJ v19 :: vS :: vI v21 :: vI v22 :: vI v23 :: vJ v24 :: vS :: vI v26 :: vU :: vU :: vU :: vU :: vU :: []) [.long c5, .long v24] ([cI a] ++ Hb 1 s0)
  refine WP.ldc2 at_780 (hw _ m_188) ?_
  refine WP.lmul at_783 ?_
  refine WP.lcmp at_784 ?_
  rcases ite_e h with ⟨hc6, h⟩ | ⟨hc6, h⟩
  ·
   refine WP.ifY (pc' := 790) at_785 (XT.ll_eq_t hc6) (by decide) rfl ?_
   exact WP.weak (L' := (vR 0 :: vI v1 :: vR 1 :: vJ v3 :: vS :: vJ v5 :: vS :: vJ v7 :: vS :: vI v9 :: vI v10 :: vU :: vU :: vU :: vU :: vU :: vU :: vJ v17 :: vS :: vJ v19 :: vS :: vI v21 :: vU :: vU :: vU :: vU :: vU :: vU :: vU :: vU :: vU :: vU :: [])) ⟨rfl, rfl, rfl, rfl, rfl, rfl, rfl, rfl, rfl, rfl, rfl, rfl, rfl, rfl, rfl, rfl, trivial⟩ (okLAW_790 l Z a0 hw n0 _ hk67 _ hk691 n v1 v3 v5 v7 v9 v10 v17 v19 v21 a s0 _ h)
  ·
   refine WP.ifN at_785 (XT.ll_eq_f hc6) ?_
   refine WP.iconst (0 : Int32) at_788 rfl ?_
   cases h
   exact WP.zreturn at_789 rfl (leb rfl) (leb rfl) rfl
def f_law_740 (k67 : KT0) (k691 : KT1) : Nat → Int32 → Int64 → Int64 → Int64 → Int32 → Int32 → Int64 → Int64 → Int32 → Int32 → Int32 → Int64 → Int32 → List Int32 → St → Option (Int32)
 | 0 => fun _ _ _ _ _ _ _ _ _ _ _ _ _ _ _ => none
 | n + 1 => g_law_740 k67 k691 (f_law_740 k67 k691 n) n
theorem okLAW_740 (l : Launch) (Z : State) (a0 : Array Value) (hw : HW a0 Z) (n0 : Nat) (k67 : KT0) (hk67 : HKLAW_67 l Z n0 k67) (k691 : KT1) (hk691 : HKLAW_691 l Z n0 k691) : ∀ (n : Nat) (v1 : Int32) (v3 v5 v7 : Int64) (v9 v10 : Int32) (v17 v19 : Int64) (v21 v22 v23 : Int32) (v24 : Int64) (v26 : Int32) (a : List Int32) (s0 : St) (r : Int32), f_law_740 k67 k691 n v1 v3 v5 v7 v9 v10 v17 v19 v21 v22 v23 v24 v26 a s0 = some r → WLAW l Z n0 (PLAW r) 25 828 740 (vR 0 :: vI v1 :: vR 1 :: vJ v3 :: vS :: vJ v5 :: vS :: vJ v7 :: vS :: vI v9 :: vI v10 :: vU :: vU :: vU :: vU :: vU :: vU :: vJ v17 :: vS :: vJ v19 :: vS :: vI v21 :: vI v22 :: vI v23 :: vJ v24 :: vS :: vI v26 :: vU :: vU :: vU :: vU :: vU :: []) [] ([cI a] ++ Hb 1 s0)
 | 0, v1, v3, v5, v7, v9, v10, v17, v19, v21, v22, v23, v24, v26, a, s0, r, h => nomatch (show none = some r from h)
 | n + 1, v1, v3, v5, v7, v9, v10, v17, v19, v21, v22, v23, v24, v26, a, s0, r, h => okgLAW_740 l Z a0 hw n0 _ hk67 _ hk691 _ (okLAW_740 l Z a0 hw n0 k67 hk67 k691 hk691 n) n v1 v3 v5 v7 v9 v10 v17 v19 v21 v22 v23 v24 v26 a s0 r h
def g_law_691 (k67 : KT0) (k691 : KT1) (n : Nat) (v1 : Int32) (v3 v5 v7 : Int64) (v9 v10 : Int32) (v17 v19 : Int64) (v21 : Int32) (a : List Int32) (s0 : St) : Option (Int32) :=
 if v21 < (16 : Int32) then
  lt (((XT.ushrL v19 ((3 : Int32) * v21)) &&& (7 : Int64)).toInt32) fun x2 =>
  if x2 = 0 then
   f_law_790 k67 k691 n v1 v3 v5 v7 v9 v10 v17 v19 v21 a s0
  else
   lt (((XT.ushrL v17 ((3 : Int32) * v21)) &&& (7 : Int64)).toInt32) fun x4 =>
   f_law_740 k67 k691 n v1 v3 v5 v7 v9 v10 v17 v19 v21 x2 x4 (0 : Int64) (0 : Int32) a s0
 else
  f_law_796 k67 n v1 v3 v5 v7 v9 v10 a s0
theorem okgLAW_691 (l : Launch) (Z : State) (a0 : Array Value) (hw : HW a0 Z) (n0 : Nat) (k67 : KT0) (hk67 : HKLAW_67 l Z n0 k67) (k691 : KT1) (hk691 : HKLAW_691 l Z n0 k691) (n : Nat) (v1 : Int32) (v3 v5 v7 : Int64) (v9 v10 : Int32) (v17 v19 : Int64) (v21 : Int32) (a : List Int32) (s0 : St) (r : Int32) (h : g_law_691 k67 k691 n v1 v3 v5 v7 v9 v10 v17 v19 v21 a s0 = some r) : WLAW l Z n0 (PLAW r) 25 828 691 (vR 0 :: vI v1 :: vR 1 :: vJ v3 :: vS :: vJ v5 :: vS :: vJ v7 :: vS :: vI v9 :: vI v10 :: vU :: vU :: vU :: vU :: vU :: vU :: vJ v17 :: vS :: vJ v19 :: vS :: vI v21 :: vU :: vU :: vU :: vU :: vU :: vU :: vU :: vU :: vU :: vU :: []) [] ([cI a] ++ Hb 1 s0) := by
 unfold g_law_691 at h
 refine WP.iload at_691 rfl ?_
 refine WP.bipush (16 : Int32) at_693 rfl ?_
 rcases ite_e h with ⟨hc1, h⟩ | ⟨hc1, h⟩
 ·
  refine WP.icmpN at_695 (XT.ii_ge_f hc1) ?_
  refine WP.lload at_698 rfl ?_
  refine WP.iconst (3 : Int32) at_700 rfl ?_
  refine WP.iload at_701 rfl ?_
  refine WP.imul at_703 ?_
  refine WP.lushr at_704 ?_
  refine WP.ldc2 at_705 (hw _ m_137) ?_
  refine WP.land at_708 ?_
  refine WP.l2i at_709 ?_
  obtain ⟨x2, ex2, h⟩ := lt_e h
  refine WP.istore (L' := (vR 0 :: vI v1 :: vR 1 :: vJ v3 :: vS :: vJ v5 :: vS :: vJ v7 :: vS :: vI v9 :: vI v10 :: vU :: vU :: vU :: vU :: vU :: vU :: vJ v17 :: vS :: vJ v19 :: vS :: vI v21 :: vI x2 :: vU :: vU :: vU :: vU :: vU :: vU :: vU :: vU :: vU :: [])) at_710 (leb rfl) (by subst ex2; rfl) ?_
  refine WP.iload at_712 rfl ?_
  rcases ite_e h with ⟨hc3, h⟩ | ⟨hc3, h⟩
  ·
   refine WP.ifN at_714 (XT.i0_ne_f hc3) ?_
   refine WP.goto (pc' := 790) at_717 (by decide) rfl ?_
   exact WP.weak (L' := (vR 0 :: vI v1 :: vR 1 :: vJ v3 :: vS :: vJ v5 :: vS :: vJ v7 :: vS :: vI v9 :: vI v10 :: vU :: vU :: vU :: vU :: vU :: vU :: vJ v17 :: vS :: vJ v19 :: vS :: vI v21 :: vU :: vU :: vU :: vU :: vU :: vU :: vU :: vU :: vU :: vU :: [])) ⟨rfl, rfl, rfl, rfl, rfl, rfl, rfl, rfl, rfl, rfl, rfl, rfl, rfl, rfl, rfl, rfl, trivial⟩ (okLAW_790 l Z a0 hw n0 _ hk67 _ hk691 n v1 v3 v5 v7 v9 v10 v17 v19 v21 a s0 _ h)
  ·
   refine WP.ifY (pc' := 720) at_714 (XT.i0_ne_t hc3) (by decide) rfl ?_
   refine WP.lload at_720 rfl ?_
   refine WP.iconst (3 : Int32) at_722 rfl ?_
   refine WP.iload at_723 rfl ?_
   refine WP.imul at_725 ?_
   refine WP.lushr at_726 ?_
   refine WP.ldc2 at_727 (hw _ m_137) ?_
   refine WP.land at_730 ?_
   refine WP.l2i at_731 ?_
   obtain ⟨x4, ex4, h⟩ := lt_e h
   refine WP.istore (L' := (vR 0 :: vI v1 :: vR 1 :: vJ v3 :: vS :: vJ v5 :: vS :: vJ v7 :: vS :: vI v9 :: vI v10 :: vU :: vU :: vU :: vU :: vU :: vU :: vJ v17 :: vS :: vJ v19 :: vS :: vI v21 :: vI x2 :: vI x4 :: vU :: vU :: vU :: vU :: vU :: vU :: vU :: vU :: [])) at_732 (leb rfl) (by subst ex4; rfl) ?_
   refine WP.lconst (0 : Int64) at_734 rfl ?_
   refine WP.lstore (L' := (vR 0 :: vI v1 :: vR 1 :: vJ v3 :: vS :: vJ v5 :: vS :: vJ v7 :: vS :: vI v9 :: vI v10 :: vU :: vU :: vU :: vU :: vU :: vU :: vJ v17 :: vS :: vJ v19 :: vS :: vI v21 :: vI x2 :: vI x4 :: vJ (0 : Int64) :: vS :: vU :: vU :: vU :: vU :: vU :: vU :: [])) at_735 (leb rfl) rfl ?_
   refine WP.iconst (0 : Int32) at_737 rfl ?_
   refine WP.istore (L' := (vR 0 :: vI v1 :: vR 1 :: vJ v3 :: vS :: vJ v5 :: vS :: vJ v7 :: vS :: vI v9 :: vI v10 :: vU :: vU :: vU :: vU :: vU :: vU :: vJ v17 :: vS :: vJ v19 :: vS :: vI v21 :: vI x2 :: vI x4 :: vJ (0 : Int64) :: vS :: vI (0 : Int32) :: vU :: vU :: vU :: vU :: vU :: [])) at_738 (leb rfl) rfl ?_
   exact WP.weak (L' := (vR 0 :: vI v1 :: vR 1 :: vJ v3 :: vS :: vJ v5 :: vS :: vJ v7 :: vS :: vI v9 :: vI v10 :: vU :: vU :: vU :: vU :: vU :: vU :: vJ v17 :: vS :: vJ v19 :: vS :: vI v21 :: vI x2 :: vI x4 :: vJ (0 : Int64) :: vS :: vI (0 : Int32) :: vU :: vU :: vU :: vU :: vU :: [])) ⟨rfl, rfl, rfl, rfl, rfl, rfl, rfl, rfl, rfl, rfl, rfl, rfl, rfl, rfl, rfl, rfl, rfl, rfl, rfl, rfl, rfl, trivial⟩ (okLAW_740 l Z a0 hw n0 _ hk67 _ hk691 n v1 v3 v5 v7 v9 v10 v17 v19 v21 x2 x4 (0 : Int64) (0 : Int32) a s0 _ h)
 ·
  refine WP.icmpY (pc' := 796) at_695 (XT.ii_ge_t hc1) (by decide) rfl ?_
  exact WP.weak (L' := (vR 0 :: vI v1 :: vR 1 :: vJ v3 :: vS :: vJ v5 :: vS :: vJ v7 :: vS :: vI v9 :: vI v10 :: vU :: vU :: vU :: vU :: vU :: vU :: vU :: vU :: vU :: vU :: vU :: vU :: vU :: vU :: vU :: vU :: vU :: vU :: vU :: vU :: vU :: [])) ⟨rfl, rfl, rfl, rfl, rfl, rfl, rfl, rfl, rfl, rfl, rfl, trivial⟩ (okLAW_796 l Z a0 hw n0 _ hk67 n v1 v3 v5 v7 v9 v10 a s0 _ h)
def f_law_691 (k67 : KT0) : Nat → Int32 → Int64 → Int64 → Int64 → Int32 → Int32 → Int64 → Int64 → Int32 → List Int32 → St → Option (Int32)
 | 0 => fun _ _ _ _ _ _ _ _ _ _ _ => none
 | n + 1 => g_law_691 k67 (f_law_691 k67 n) n
theorem okLAW_691 (l : Launch) (Z : State) (a0 : Array Value) (hw : HW a0 Z) (n0 : Nat) (k67 : KT0) (hk67 : HKLAW_67 l Z n0 k67) : ∀ (n : Nat) (v1 : Int32) (v3 v5 v7 : Int64) (v9 v10 : Int32) (v17 v19 : Int64) (v21 : Int32) (a : List Int32) (s0 : St) (r : Int32), f_law_691 k67 n v1 v3 v5 v7 v9 v10 v17 v19 v21 a s0 = some r → WLAW l Z n0 (PLAW r) 25 828 691 (vR 0 :: vI v1 :: vR 1 :: vJ v3 :: vS :: vJ v5 :: vS :: vJ v7 :: vS :: vI v9 :: vI v10 :: vU :: vU :: vU :: vU :: vU :: vU :: vJ v17 :: vS :: vJ v19 :: vS :: vI v21 :: vU :: vU :: vU :: vU :: vU :: vU :: vU :: vU :: vU :: vU :: []) [] ([cI a] ++ Hb 1 s0)
 | 0, v1, v3, v5, v7, v9, v10, v17, v19, v21, a, s0, r, h => nomatch (show none = some r from h)
 | n + 1, v1, v3, v5, v7, v9, v10, v17, v19, v21, a, s0, r, h => okgLAW_691 l Z a0 hw n0 _ hk67 _ (okLAW_691 l Z a0 hw n0 k67 hk67 n) n v1 v3 v5 v7 v9 v10 v17 v19 v21 a s0 r h
def g_law_463 (k67 : KT0) (k463 : KT1) (n : Nat) (v1 : Int32) (v3 v5 v7 : Int64) (v9 v10 : Int32) (v17 v19 : Int64) (v21 : Int32) (a : List Int32) (s0 : St) : Option (Int32) :=
 if v21 < (16 : Int32) then
  (f_getCustomer v21 (2 : Int32) s0).bind fun c2 =>
  if c2 < (1 : Int64) then
   f_law_499 k67 k463 n v1 v3 v5 v7 v9 v10 v17 v19 v21 c2 a s0
  else
   if (4 : Int64) < c2 then
    f_law_499 k67 k463 n v1 v3 v5 v7 v9 v10 v17 v19 v21 c2 a s0
   else
    f_law_500 k67 k463 n v1 v3 v5 v7 v9 v10 v17 v19 v21 c2 (1 : Int32) a s0
 else
  (f_closeCycle n s0).bind fun c5 =>
  f_law_691 k67 n v1 v3 v5 v7 v9 v10 v17 v19 (0 : Int32) a c5.2
theorem okgLAW_463 (l : Launch) (Z : State) (a0 : Array Value) (hw : HW a0 Z) (n0 : Nat) (k67 : KT0) (hk67 : HKLAW_67 l Z n0 k67) (k463 : KT1) (hk463 : HKLAW_463 l Z n0 k463) (n : Nat) (v1 : Int32) (v3 v5 v7 : Int64) (v9 v10 : Int32) (v17 v19 : Int64) (v21 : Int32) (a : List Int32) (s0 : St) (r : Int32) (h : g_law_463 k67 k463 n v1 v3 v5 v7 v9 v10 v17 v19 v21 a s0 = some r) : WLAW l Z n0 (PLAW r) 25 828 463 (vR 0 :: vI v1 :: vR 1 :: vJ v3 :: vS :: vJ v5 :: vS :: vJ v7 :: vS :: vI v9 :: vI v10 :: vU :: vU :: vU :: vU :: vU :: vU :: vJ v17 :: vS :: vJ v19 :: vS :: vI v21 :: vU :: vU :: vU :: vU :: vU :: vU :: vU :: vU :: vU :: vU :: []) [] ([cI a] ++ Hb 1 s0) := by
 unfold g_law_463 at h
 refine WP.iload at_463 rfl ?_
 refine WP.bipush (16 : Int32) at_465 rfl ?_
 rcases ite_e h with ⟨hc1, h⟩ | ⟨hc1, h⟩
 ·
  refine WP.icmpN at_467 (XT.ii_ge_f hc1) ?_
  refine WP.aloadN at_470 rfl ?_
  refine WP.iload at_471 rfl ?_
  refine WP.iconst (2 : Int32) at_473 rfl ?_
  obtain ⟨c2, hc2, h⟩ := bd h
  refine WP.callV (i := 1) (y := y9) (as := [.int v21, .int (2 : Int32)]) (S := []) at_474 (hw _ m_100) (hw _ m_101) (hw _ m_103) (hw _ m_102) (hw _ m_104) (hw _ m_9) hy9 rfl (CS.frame (ro := 1) (H := ([cI a] ++ Hb 1 s0)) (as := [.ref 1, .int v21, .int (2 : Int32)]) fr3_f (ok9 l Z a0 hw v21 (2 : Int32) s0 _ hc2) rfl (by decide) (fr3_l a s0) (fr3_c a s0) (by decide) rfl) rfl (lenOf pd9 rfl) (leb rfl) (leb rfl) (leb rfl) (leb rfl) ?_
  rintro _ _ ⟨_, _, ⟨rfl, rfl⟩, e1_, e2_⟩
  rw [fr3_p a s0 s0] at e2_
  subst e1_ e2_
  show WLAW l Z n0 (PLAW r) 25 828 477 (vR 0 :: vI v1 :: vR 1 :: vJ v3 :: vS :: vJ v5 :: vS :: vJ v7 :: vS :: vI v9 :: vI v10 :: vU :: vU :: vU :: vU :: vU :: vU :: vJ v17 :: vS :: vJ v19 :: vS :: vI v21 :: vU :: vU :: vU :: vU :: vU :: vU :: vU :: vU :: vU :: vU :: []) [.long c2] ([cI a] ++ Hb 1 s0)
  refine WP.lstore (L' := (vR 0 :: vI v1 :: vR 1 :: vJ v3 :: vS :: vJ v5 :: vS :: vJ v7 :: vS :: vI v9 :: vI v10 :: vU :: vU :: vU :: vU :: vU :: vU :: vJ v17 :: vS :: vJ v19 :: vS :: vI v21 :: vJ c2 :: vS :: vU :: vU :: vU :: vU :: vU :: vU :: vU :: vU :: [])) at_477 (leb rfl) rfl ?_
  refine WP.lload at_479 rfl ?_
  refine WP.lconst (1 : Int64) at_481 rfl ?_
  refine WP.lcmp at_482 ?_
  rcases ite_e h with ⟨hc3, h⟩ | ⟨hc3, h⟩
  ·
   refine WP.ifY (pc' := 499) at_483 (XT.ll_lt_t hc3) (by decide) rfl ?_
   exact WP.weak (L' := (vR 0 :: vI v1 :: vR 1 :: vJ v3 :: vS :: vJ v5 :: vS :: vJ v7 :: vS :: vI v9 :: vI v10 :: vU :: vU :: vU :: vU :: vU :: vU :: vJ v17 :: vS :: vJ v19 :: vS :: vI v21 :: vJ c2 :: vS :: vU :: vU :: vU :: vU :: vU :: vU :: vU :: vU :: [])) ⟨rfl, rfl, rfl, rfl, rfl, rfl, rfl, rfl, rfl, rfl, rfl, rfl, rfl, rfl, rfl, rfl, rfl, rfl, trivial⟩ (okLAW_499 l Z a0 hw n0 _ hk67 _ hk463 n v1 v3 v5 v7 v9 v10 v17 v19 v21 c2 a s0 _ h)
  ·
   refine WP.ifN at_483 (XT.ll_lt_f hc3) ?_
   refine WP.lload at_486 rfl ?_
   refine WP.ldc2 at_488 (hw _ m_131) ?_
   refine WP.lcmp at_491 ?_
   rcases ite_e h with ⟨hc4, h⟩ | ⟨hc4, h⟩
   ·
    refine WP.ifY (pc' := 499) at_492 (XT.ll_gt_t hc4) (by decide) rfl ?_
    exact WP.weak (L' := (vR 0 :: vI v1 :: vR 1 :: vJ v3 :: vS :: vJ v5 :: vS :: vJ v7 :: vS :: vI v9 :: vI v10 :: vU :: vU :: vU :: vU :: vU :: vU :: vJ v17 :: vS :: vJ v19 :: vS :: vI v21 :: vJ c2 :: vS :: vU :: vU :: vU :: vU :: vU :: vU :: vU :: vU :: [])) ⟨rfl, rfl, rfl, rfl, rfl, rfl, rfl, rfl, rfl, rfl, rfl, rfl, rfl, rfl, rfl, rfl, rfl, rfl, trivial⟩ (okLAW_499 l Z a0 hw n0 _ hk67 _ hk463 n v1 v3 v5 v7 v9 v10 v17 v19 v21 c2 a s0 _ h)
   ·
    refine WP.ifN at_492 (XT.ll_gt_f hc4) ?_
    refine WP.iconst (1 : Int32) at_495 rfl ?_
    refine WP.goto (pc' := 500) at_496 (by decide) rfl ?_
    exact WP.weak (L' := (vR 0 :: vI v1 :: vR 1 :: vJ v3 :: vS :: vJ v5 :: vS :: vJ v7 :: vS :: vI v9 :: vI v10 :: vU :: vU :: vU :: vU :: vU :: vU :: vJ v17 :: vS :: vJ v19 :: vS :: vI v21 :: vJ c2 :: vS :: vU :: vU :: vU :: vU :: vU :: vU :: vU :: vU :: [])) ⟨rfl, rfl, rfl, rfl, rfl, rfl, rfl, rfl, rfl, rfl, rfl, rfl, rfl, rfl, rfl, rfl, rfl, rfl, trivial⟩ (okLAW_500 l Z a0 hw n0 _ hk67 _ hk463 n v1 v3 v5 v7 v9 v10 v17 v19 v21 c2 (1 : Int32) a s0 _ h)
 ·
  refine WP.icmpY (pc' := 683) at_467 (XT.ii_ge_t hc1) (by decide) rfl ?_
  refine WP.aloadN at_683 rfl ?_
  obtain ⟨c5, hc5, h⟩ := bd h
  refine WP.callV (i := 1) (y := y16) (as := []) (S := []) at_684 (hw _ m_139) (hw _ m_140) (hw _ m_142) (hw _ m_141) (hw _ m_143) (hw _ m_9) hy16 rfl (CS.frame (ro := 1) (H := ([cI a] ++ Hb 1 s0)) (as := [.ref 1]) fr3_f (ok16 l Z a0 hw n s0 _ hc5) rfl (by decide) (fr3_l a s0) (fr3_c a s0) (by decide) rfl) rfl (lenOf pd16 rfl) (leb rfl) (leb rfl) (leb rfl) (leb rfl) ?_
  rintro _ _ ⟨_, _, ⟨rfl, rfl⟩, e1_, e2_⟩
  rw [fr3_p a s0 c5.2] at e2_
  subst e1_ e2_
  show WLAW l Z n0 (PLAW r) 25 828 687 (vR 0 :: vI v1 :: vR 1 :: vJ v3 :: vS :: vJ v5 :: vS :: vJ v7 :: vS :: vI v9 :: vI v10 :: vU :: vU :: vU :: vU :: vU :: vU :: vJ v17 :: vS :: vJ v19 :: vS :: vI v21 :: vU :: vU :: vU :: vU :: vU :: vU :: vU :: vU :: vU :: vU :: []) [.int c5.1] ([cI a] ++ Hb 1 c5.2)
  refine WP.pop at_687 rfl ?_
  refine WP.iconst (0 : Int32) at_688 rfl ?_
  refine WP.istore (L' := (vR 0 :: vI v1 :: vR 1 :: vJ v3 :: vS :: vJ v5 :: vS :: vJ v7 :: vS :: vI v9 :: vI v10 :: vU :: vU :: vU :: vU :: vU :: vU :: vJ v17 :: vS :: vJ v19 :: vS :: vI (0 : Int32) :: vU :: vU :: vU :: vU :: vU :: vU :: vU :: vU :: vU :: vU :: [])) at_689 (leb rfl) rfl ?_
  exact WP.weak (L' := (vR 0 :: vI v1 :: vR 1 :: vJ v3 :: vS :: vJ v5 :: vS :: vJ v7 :: vS :: vI v9 :: vI v10 :: vU :: vU :: vU :: vU :: vU :: vU :: vJ v17 :: vS :: vJ v19 :: vS :: vI (0 : Int32) :: vU :: vU :: vU :: vU :: vU :: vU :: vU :: vU :: vU :: vU :: [])) ⟨rfl, rfl, rfl, rfl, rfl, rfl, rfl, rfl, rfl, rfl, rfl, rfl, rfl, rfl, rfl, rfl, trivial⟩ (okLAW_691 l Z a0 hw n0 _ hk67 n v1 v3 v5 v7 v9 v10 v17 v19 (0 : Int32) a c5.2 _ h)
def f_law_463 (k67 : KT0) : Nat → Int32 → Int64 → Int64 → Int64 → Int32 → Int32 → Int64 → Int64 → Int32 → List Int32 → St → Option (Int32)
 | 0 => fun _ _ _ _ _ _ _ _ _ _ _ => none
 | n + 1 => g_law_463 k67 (f_law_463 k67 n) n
theorem okLAW_463 (l : Launch) (Z : State) (a0 : Array Value) (hw : HW a0 Z) (n0 : Nat) (k67 : KT0) (hk67 : HKLAW_67 l Z n0 k67) : ∀ (n : Nat) (v1 : Int32) (v3 v5 v7 : Int64) (v9 v10 : Int32) (v17 v19 : Int64) (v21 : Int32) (a : List Int32) (s0 : St) (r : Int32), f_law_463 k67 n v1 v3 v5 v7 v9 v10 v17 v19 v21 a s0 = some r → WLAW l Z n0 (PLAW r) 25 828 463 (vR 0 :: vI v1 :: vR 1 :: vJ v3 :: vS :: vJ v5 :: vS :: vJ v7 :: vS :: vI v9 :: vI v10 :: vU :: vU :: vU :: vU :: vU :: vU :: vJ v17 :: vS :: vJ v19 :: vS :: vI v21 :: vU :: vU :: vU :: vU :: vU :: vU :: vU :: vU :: vU :: vU :: []) [] ([cI a] ++ Hb 1 s0)
 | 0, v1, v3, v5, v7, v9, v10, v17, v19, v21, a, s0, r, h => nomatch (show none = some r from h)
 | n + 1, v1, v3, v5, v7, v9, v10, v17, v19, v21, a, s0, r, h => okgLAW_463 l Z a0 hw n0 _ hk67 _ (okLAW_463 l Z a0 hw n0 k67 hk67 n) n v1 v3 v5 v7 v9 v10 v17 v19 v21 a s0 r h
def f_law_106 (k67 : KT0) (n : Nat) (v1 : Int32) (v3 v5 v7 : Int64) (v9 v10 v11 t0 : Int32) (a : List Int32) (s0 : St) : Option (Int32) :=
 (f_L_cell (v11 + (1 : Int32)) a).bind fun c1 =>
 (f_L_cell (v11 + (2 : Int32)) a).bind fun c2 =>
 (f_L_cell (v11 + (3 : Int32)) a).bind fun c3 =>
 (f_L_m c1.toInt64 (4 : Int32)).bind fun c4 =>
 if t0 = 0 then
  (f_L_m c1.toInt64 (3 : Int32)).bind fun c6 =>
  (f_L_m c2.toInt64 (1000001 : Int32)).bind fun c7 =>
  (f_L_m c3.toInt64 (2 : Int32)).bind fun c8 =>
  (f_setPlan c6 c7 c8 s0).bind fun c9 =>
  if c9.1 = 0 then
   f_law_220 k67 n v1 v3 v5 v7 v9 v10 a c9.2
  else
   if c6 = 0 then
    lt (c7.toInt64) fun x12 =>
    f_law_220 k67 n v1 x12 v5 v7 v9 v10 a c9.2
   else
    if c6 = (1 : Int32) then
     lt (c7.toInt64) fun x14 =>
     f_law_220 k67 n v1 v3 x14 v7 v9 v10 a c9.2
    else
     lt (c7.toInt64) fun x15 =>
     f_law_220 k67 n v1 v3 v5 x15 v9 v10 a c9.2
 else
  if t0 = (1 : Int32) then
   (f_L_m c1.toInt64 (3 : Int32)).bind fun c17 =>
   (f_L_m c2.toInt64 (4 : Int32)).bind fun c18 =>
   (f_L_m c3.toInt64 (20001 : Int32)).bind fun c19 =>
   (f_L_m ((c2.toInt64 * (31 : Int64)) + c3.toInt64) (100000001 : Int32)).bind fun c20 =>
   (f_setTier c17 c18 c19 c20 s0).bind fun c21 =>
   f_law_796 k67 n v1 v3 v5 v7 v9 v10 a c21.2
  else
   if t0 = (2 : Int32) then
    f_law_288 k67 n v1 v3 v5 v7 v9 v10 c2 c3 c4 a s0
   else
    if t0 = (3 : Int32) then
     f_law_288 k67 n v1 v3 v5 v7 v9 v10 c2 c3 c4 a s0
    else
     if t0 = (4 : Int32) then
      (f_L_m c3.toInt64 (3 : Int32)).bind fun c25 =>
      (f_today s0).bind fun c26 =>
      (f_L_m c2.toInt64 (3 : Int32)).bind fun c27 =>
      (f_changePlan c4 c25 (c26 + c27) s0).bind fun c28 =>
      f_law_796 k67 n v1 v3 v5 v7 v9 v10 a c28.2
     else
      if t0 = (5 : Int32) then
       (f_today s0).bind fun c30 =>
       (f_L_m c2.toInt64 (3 : Int32)).bind fun c31 =>
       (f_cancel c4 (c30 + c31) s0).bind fun c32 =>
       f_law_796 k67 n v1 v3 v5 v7 v9 v10 a c32.2
      else
       if t0 = (6 : Int32) then
        f_law_394 k67 n v1 v3 v5 v7 v9 v10 c2 c3 c4 a s0
       else
        if t0 = (7 : Int32) then
         f_law_394 k67 n v1 v3 v5 v7 v9 v10 c2 c3 c4 a s0
        else
         if t0 = (8 : Int32) then
          (f_L_m c2.toInt64 (1000000 : Int32)).bind fun c36 =>
          (f_issueCredit c4 ((1 : Int32) + c36) s0).bind fun c37 =>
          f_law_796 k67 n v1 v3 v5 v7 v9 v10 a c37.2
         else
          f_law_463 k67 n v1 v3 v5 v7 v9 v10 (0 : Int64) (0 : Int64) (0 : Int32) a s0
theorem okLAW_106 (l : Launch) (Z : State) (a0 : Array Value) (hw : HW a0 Z) (n0 : Nat) (k67 : KT0) (hk67 : HKLAW_67 l Z n0 k67) (n : Nat) (v1 : Int32) (v3 v5 v7 : Int64) (v9 v10 v11 t0 : Int32) (a : List Int32) (s0 : St) (r : Int32) (h : f_law_106 k67 n v1 v3 v5 v7 v9 v10 v11 t0 a s0 = some r) : WLAW l Z n0 (PLAW r) 25 828 106 (vR 0 :: vI v1 :: vR 1 :: vJ v3 :: vS :: vJ v5 :: vS :: vJ v7 :: vS :: vI v9 :: vI v10 :: vI v11 :: vU :: vU :: vU :: vU :: vU :: vU :: vU :: vU :: vU :: vU :: vU :: vU :: vU :: vU :: vU :: vU :: vU :: vU :: vU :: vU :: []) [.int t0] ([cI a] ++ Hb 1 s0) := by
 unfold f_law_106 at h
 refine WP.istore (L' := (vR 0 :: vI v1 :: vR 1 :: vJ v3 :: vS :: vJ v5 :: vS :: vJ v7 :: vS :: vI v9 :: vI v10 :: vI v11 :: vI t0 :: vU :: vU :: vU :: vU :: vU :: vU :: vU :: vU :: vU :: vU :: vU :: vU :: vU :: vU :: vU :: vU :: vU :: vU :: vU :: [])) at_106 (leb rfl) rfl ?_
 refine WP.aloadN at_108 rfl ?_
 refine WP.iload at_109 rfl ?_
 refine WP.iconst (1 : Int32) at_111 rfl ?_
 refine WP.iadd at_112 ?_
 obtain ⟨c1, hc1, h⟩ := bd h
 refine WP.callS (y := y0) (as := [.ref 0, .int (v11 + (1 : Int32))]) (S := []) at_113 (hw _ m_0) (hw _ m_1) (hw _ m_2) (hw _ m_3) hy0 (CS.frame (ro := 1) (H := ([cI a] ++ Hb 1 s0)) (as := [.ref 0, .int (v11 + (1 : Int32))]) fr1_f (ok0 l Z a0 hw (v11 + (1 : Int32)) a _ hc1) rfl (by decide) (fr1_l a s0) (fr1_c a s0) (by decide) rfl) rfl (lenOf pd0 rfl) (leb rfl) (leb rfl) (leb rfl) (leb rfl) ?_
 rintro _ _ ⟨_, _, ⟨rfl, rfl⟩, e1_, e2_⟩
 rw [fr1_p a s0] at e2_
 subst e1_ e2_
 show WLAW l Z n0 (PLAW r) 25 828 116 (vR 0 :: vI v1 :: vR 1 :: vJ v3 :: vS :: vJ v5 :: vS :: vJ v7 :: vS :: vI v9 :: vI v10 :: vI v11 :: vI t0 :: vU :: vU :: vU :: vU :: vU :: vU :: vU :: vU :: vU :: vU :: vU :: vU :: vU :: vU :: vU :: vU :: vU :: vU :: vU :: []) [.int c1] ([cI a] ++ Hb 1 s0)
 refine WP.istore (L' := (vR 0 :: vI v1 :: vR 1 :: vJ v3 :: vS :: vJ v5 :: vS :: vJ v7 :: vS :: vI v9 :: vI v10 :: vI v11 :: vI t0 :: vI c1 :: vU :: vU :: vU :: vU :: vU :: vU :: vU :: vU :: vU :: vU :: vU :: vU :: vU :: vU :: vU :: vU :: vU :: vU :: [])) at_116 (leb rfl) rfl ?_
 refine WP.aloadN at_118 rfl ?_
 refine WP.iload at_119 rfl ?_
 refine WP.iconst (2 : Int32) at_121 rfl ?_
 refine WP.iadd at_122 ?_
 obtain ⟨c2, hc2, h⟩ := bd h
 refine WP.callS (y := y0) (as := [.ref 0, .int (v11 + (2 : Int32))]) (S := []) at_123 (hw _ m_0) (hw _ m_1) (hw _ m_2) (hw _ m_3) hy0 (CS.frame (ro := 1) (H := ([cI a] ++ Hb 1 s0)) (as := [.ref 0, .int (v11 + (2 : Int32))]) fr1_f (ok0 l Z a0 hw (v11 + (2 : Int32)) a _ hc2) rfl (by decide) (fr1_l a s0) (fr1_c a s0) (by decide) rfl) rfl (lenOf pd0 rfl) (leb rfl) (leb rfl) (leb rfl) (leb rfl) ?_
 rintro _ _ ⟨_, _, ⟨rfl, rfl⟩, e1_, e2_⟩
 rw [fr1_p a s0] at e2_
 subst e1_ e2_
 show WLAW l Z n0 (PLAW r) 25 828 126 (vR 0 :: vI v1 :: vR 1 :: vJ v3 :: vS :: vJ v5 :: vS :: vJ v7 :: vS :: vI v9 :: vI v10 :: vI v11 :: vI t0 :: vI c1 :: vU :: vU :: vU :: vU :: vU :: vU :: vU :: vU :: vU :: vU :: vU :: vU :: vU :: vU :: vU :: vU :: vU :: vU :: []) [.int c2] ([cI a] ++ Hb 1 s0)
 refine WP.istore (L' := (vR 0 :: vI v1 :: vR 1 :: vJ v3 :: vS :: vJ v5 :: vS :: vJ v7 :: vS :: vI v9 :: vI v10 :: vI v11 :: vI t0 :: vI c1 :: vI c2 :: vU :: vU :: vU :: vU :: vU :: vU :: vU :: vU :: vU :: vU :: vU :: vU :: vU :: vU :: vU :: vU :: vU :: [])) at_126 (leb rfl) rfl ?_
 refine WP.aloadN at_128 rfl ?_
 refine WP.iload at_129 rfl ?_
 refine WP.iconst (3 : Int32) at_131 rfl ?_
 refine WP.iadd at_132 ?_
 obtain ⟨c3, hc3, h⟩ := bd h
 refine WP.callS (y := y0) (as := [.ref 0, .int (v11 + (3 : Int32))]) (S := []) at_133 (hw _ m_0) (hw _ m_1) (hw _ m_2) (hw _ m_3) hy0 (CS.frame (ro := 1) (H := ([cI a] ++ Hb 1 s0)) (as := [.ref 0, .int (v11 + (3 : Int32))]) fr1_f (ok0 l Z a0 hw (v11 + (3 : Int32)) a _ hc3) rfl (by decide) (fr1_l a s0) (fr1_c a s0) (by decide) rfl) rfl (lenOf pd0 rfl) (leb rfl) (leb rfl) (leb rfl) (leb rfl) ?_
 rintro _ _ ⟨_, _, ⟨rfl, rfl⟩, e1_, e2_⟩
 rw [fr1_p a s0] at e2_
 subst e1_ e2_
 show WLAW l Z n0 (PLAW r) 25 828 136 (vR 0 :: vI v1 :: vR 1 :: vJ v3 :: vS :: vJ v5 :: vS :: vJ v7 :: vS :: vI v9 :: vI v10 :: vI v11 :: vI t0 :: vI c1 :: vI c2 :: vU :: vU :: vU :: vU :: vU :: vU :: vU :: vU :: vU :: vU :: vU :: vU :: vU :: vU :: vU :: vU :: vU :: []) [.int c3] ([cI a] ++ Hb 1 s0)
 refine WP.istore (L' := (vR 0 :: vI v1 :: vR 1 :: vJ v3 :: vS :: vJ v5 :: vS :: vJ v7 :: vS :: vI v9 :: vI v10 :: vI v11 :: vI t0 :: vI c1 :: vI c2 :: vI c3 :: vU :: vU :: vU :: vU :: vU :: vU :: vU :: vU :: vU :: vU :: vU :: vU :: vU :: vU :: vU :: vU :: [])) at_136 (leb rfl) rfl ?_
 refine WP.iload at_138 rfl ?_
 refine WP.i2l at_140 ?_
 refine WP.iconst (4 : Int32) at_141 rfl ?_
 obtain ⟨c4, hc4, h⟩ := bd h
 refine WP.callS (y := y1) (as := [.long c1.toInt64, .int (4 : Int32)]) (S := []) at_142 (hw _ m_4) (hw _ m_5) (hw _ m_2) (hw _ m_6) hy1 (CS.frame (ro := 1) (H := ([cI a] ++ Hb 1 s0)) (as := [.long c1.toInt64, .int (4 : Int32)]) fr2_f (ok1 l Z a0 hw c1.toInt64 (4 : Int32) _ hc4) rfl (by decide) (fr2_l a s0) (fr2_c a s0) (by decide) rfl) rfl (lenOf pd1 rfl) (leb rfl) (leb rfl) (leb rfl) (leb rfl) ?_
 rintro _ _ ⟨_, _, ⟨rfl, rfl⟩, e1_, e2_⟩
 rw [fr2_p a s0] at e2_
 subst e1_ e2_
 show WLAW l Z n0 (PLAW r) 25 828 145 (vR 0 :: vI v1 :: vR 1 :: vJ v3 :: vS :: vJ v5 :: vS :: vJ v7 :: vS :: vI v9 :: vI v10 :: vI v11 :: vI t0 :: vI c1 :: vI c2 :: vI c3 :: vU :: vU :: vU :: vU :: vU :: vU :: vU :: vU :: vU :: vU :: vU :: vU :: vU :: vU :: vU :: vU :: []) [.int c4] ([cI a] ++ Hb 1 s0)
 refine WP.istore (L' := (vR 0 :: vI v1 :: vR 1 :: vJ v3 :: vS :: vJ v5 :: vS :: vJ v7 :: vS :: vI v9 :: vI v10 :: vI v11 :: vI t0 :: vI c1 :: vI c2 :: vI c3 :: vI c4 :: vU :: vU :: vU :: vU :: vU :: vU :: vU :: vU :: vU :: vU :: vU :: vU :: vU :: vU :: vU :: [])) at_145 (leb rfl) rfl ?_
 refine WP.iload at_147 rfl ?_
 rcases ite_e h with ⟨hc5, h⟩ | ⟨hc5, h⟩
 ·
  refine WP.ifN at_149 (XT.i0_ne_f hc5) ?_
  refine WP.iload at_152 rfl ?_
  refine WP.i2l at_154 ?_
  refine WP.iconst (3 : Int32) at_155 rfl ?_
  obtain ⟨c6, hc6, h⟩ := bd h
  refine WP.callS (y := y1) (as := [.long c1.toInt64, .int (3 : Int32)]) (S := []) at_156 (hw _ m_4) (hw _ m_5) (hw _ m_2) (hw _ m_6) hy1 (CS.frame (ro := 1) (H := ([cI a] ++ Hb 1 s0)) (as := [.long c1.toInt64, .int (3 : Int32)]) fr2_f (ok1 l Z a0 hw c1.toInt64 (3 : Int32) _ hc6) rfl (by decide) (fr2_l a s0) (fr2_c a s0) (by decide) rfl) rfl (lenOf pd1 rfl) (leb rfl) (leb rfl) (leb rfl) (leb rfl) ?_
  rintro _ _ ⟨_, _, ⟨rfl, rfl⟩, e1_, e2_⟩
  rw [fr2_p a s0] at e2_
  subst e1_ e2_
  show WLAW l Z n0 (PLAW r) 25 828 159 (vR 0 :: vI v1 :: vR 1 :: vJ v3 :: vS :: vJ v5 :: vS :: vJ v7 :: vS :: vI v9 :: vI v10 :: vI v11 :: vI t0 :: vI c1 :: vI c2 :: vI c3 :: vI c4 :: vU :: vU :: vU :: vU :: vU :: vU :: vU :: vU :: vU :: vU :: vU :: vU :: vU :: vU :: vU :: []) [.int c6] ([cI a] ++ Hb 1 s0)
  refine WP.istore (L' := (vR 0 :: vI v1 :: vR 1 :: vJ v3 :: vS :: vJ v5 :: vS :: vJ v7 :: vS :: vI v9 :: vI v10 :: vI v11 :: vI t0 :: vI c1 :: vI c2 :: vI c3 :: vI c4 :: vI c6 :: vU :: vU :: vU :: vU :: vU :: vU :: vU :: vU :: vU :: vU :: vU :: vU :: vU :: vU :: [])) at_159 (leb rfl) rfl ?_
  refine WP.iload at_161 rfl ?_
  refine WP.i2l at_163 ?_
  refine WP.ldc at_164 (hw _ m_125) ?_
  obtain ⟨c7, hc7, h⟩ := bd h
  refine WP.callS (y := y1) (as := [.long c2.toInt64, .int (1000001 : Int32)]) (S := []) at_166 (hw _ m_4) (hw _ m_5) (hw _ m_2) (hw _ m_6) hy1 (CS.frame (ro := 1) (H := ([cI a] ++ Hb 1 s0)) (as := [.long c2.toInt64, .int (1000001 : Int32)]) fr2_f (ok1 l Z a0 hw c2.toInt64 (1000001 : Int32) _ hc7) rfl (by decide) (fr2_l a s0) (fr2_c a s0) (by decide) rfl) rfl (lenOf pd1 rfl) (leb rfl) (leb rfl) (leb rfl) (leb rfl) ?_
  rintro _ _ ⟨_, _, ⟨rfl, rfl⟩, e1_, e2_⟩
  rw [fr2_p a s0] at e2_
  subst e1_ e2_
  show WLAW l Z n0 (PLAW r) 25 828 169 (vR 0 :: vI v1 :: vR 1 :: vJ v3 :: vS :: vJ v5 :: vS :: vJ v7 :: vS :: vI v9 :: vI v10 :: vI v11 :: vI t0 :: vI c1 :: vI c2 :: vI c3 :: vI c4 :: vI c6 :: vU :: vU :: vU :: vU :: vU :: vU :: vU :: vU :: vU :: vU :: vU :: vU :: vU :: vU :: []) [.int c7] ([cI a] ++ Hb 1 s0)
  refine WP.istore (L' := (vR 0 :: vI v1 :: vR 1 :: vJ v3 :: vS :: vJ v5 :: vS :: vJ v7 :: vS :: vI v9 :: vI v10 :: vI v11 :: vI t0 :: vI c1 :: vI c2 :: vI c3 :: vI c4 :: vI c6 :: vI c7 :: vU :: vU :: vU :: vU :: vU :: vU :: vU :: vU :: vU :: vU :: vU :: vU :: vU :: [])) at_169 (leb rfl) rfl ?_
  refine WP.aloadN at_171 rfl ?_
  refine WP.iload at_172 rfl ?_
  refine WP.iload at_174 rfl ?_
  refine WP.iload at_176 rfl ?_
  refine WP.i2l at_178 ?_
  refine WP.iconst (2 : Int32) at_179 rfl ?_
  obtain ⟨c8, hc8, h⟩ := bd h
  refine WP.callS (y := y1) (as := [.long c3.toInt64, .int (2 : Int32)]) (S := [.int c7, .int c6, .ref 1]) at_180 (hw _ m_4) (hw _ m_5) (hw _ m_2) (hw _ m_6) hy1 (CS.frame (ro := 1) (H := ([cI a] ++ Hb 1 s0)) (as := [.long c3.toInt64, .int (2 : Int32)]) fr2_f (ok1 l Z a0 hw c3.toInt64 (2 : Int32) _ hc8) rfl (by decide) (fr2_l a s0) (fr2_c a s0) (by decide) rfl) rfl (lenOf pd1 rfl) (leb rfl) (leb rfl) (leb rfl) (leb rfl) ?_
  rintro _ _ ⟨_, _, ⟨rfl, rfl⟩, e1_, e2_⟩
  rw [fr2_p a s0] at e2_
  subst e1_ e2_
  show WLAW l Z n0 (PLAW r) 25 828 183 (vR 0 :: vI v1 :: vR 1 :: vJ v3 :: vS :: vJ v5 :: vS :: vJ v7 :: vS :: vI v9 :: vI v10 :: vI v11 :: vI t0 :: vI c1 :: vI c2 :: vI c3 :: vI c4 :: vI c6 :: vI c7 :: vU :: vU :: vU :: vU :: vU :: vU :: vU :: vU :: vU :: vU :: vU :: vU :: vU :: []) [.int c8, .int c7, .int c6, .ref 1] ([cI a] ++ Hb 1 s0)
  obtain ⟨c9, hc9, h⟩ := bd h
  refine WP.callV (i := 1) (y := y14) (as := [.int c6, .int c7, .int c8]) (S := []) at_183 (hw _ m_126) (hw _ m_127) (hw _ m_129) (hw _ m_128) (hw _ m_130) (hw _ m_9) hy14 rfl (CS.frame (ro := 1) (H := ([cI a] ++ Hb 1 s0)) (as := [.ref 1, .int c6, .int c7, .int c8]) fr3_f (ok14 l Z a0 hw c6 c7 c8 s0 _ hc9) rfl (by decide) (fr3_l a s0) (fr3_c a s0) (by decide) rfl) rfl (lenOf pd14 rfl) (leb rfl) (leb rfl) (leb rfl) (leb rfl) ?_
  rintro _ _ ⟨_, _, ⟨rfl, rfl⟩, e1_, e2_⟩
  rw [fr3_p a s0 c9.2] at e2_
  subst e1_ e2_
  show WLAW l Z n0 (PLAW r) 25 828 186 (vR 0 :: vI v1 :: vR 1 :: vJ v3 :: vS :: vJ v5 :: vS :: vJ v7 :: vS :: vI v9 :: vI v10 :: vI v11 :: vI t0 :: vI c1 :: vI c2 :: vI c3 :: vI c4 :: vI c6 :: vI c7 :: vU :: vU :: vU :: vU :: vU :: vU :: vU :: vU :: vU :: vU :: vU :: vU :: vU :: []) [.int c9.1] ([cI a] ++ Hb 1 c9.2)
  rcases ite_e h with ⟨hc10, h⟩ | ⟨hc10, h⟩
  ·
   refine WP.ifY (pc' := 220) at_186 (XT.i0_eq_t hc10) (by decide) rfl ?_
   exact WP.weak (L' := (vR 0 :: vI v1 :: vR 1 :: vJ v3 :: vS :: vJ v5 :: vS :: vJ v7 :: vS :: vI v9 :: vI v10 :: vU :: vU :: vU :: vU :: vU :: vU :: vU :: vU :: vU :: vU :: vU :: vU :: vU :: vU :: vU :: vU :: vU :: vU :: vU :: vU :: vU :: [])) ⟨rfl, rfl, rfl, rfl, rfl, rfl, rfl, rfl, rfl, rfl, rfl, trivial⟩ (okLAW_220 l Z a0 hw n0 _ hk67 n v1 v3 v5 v7 v9 v10 a c9.2 _ h)
  ·
   refine WP.ifN at_186 (XT.i0_eq_f hc10) ?_
   refine WP.iload at_189 rfl ?_
   rcases ite_e h with ⟨hc11, h⟩ | ⟨hc11, h⟩
   ·
    refine WP.ifN at_191 (XT.i0_ne_f hc11) ?_
    refine WP.iload at_194 rfl ?_
    refine WP.i2l at_196 ?_
    obtain ⟨x12, ex12, h⟩ := lt_e h
    refine WP.lstoreN (L' := (vR 0 :: vI v1 :: vR 1 :: vJ x12 :: vS :: vJ v5 :: vS :: vJ v7 :: vS :: vI v9 :: vI v10 :: vI v11 :: vI t0 :: vI c1 :: vI c2 :: vI c3 :: vI c4 :: vI c6 :: vI c7 :: vU :: vU :: vU :: vU :: vU :: vU :: vU :: vU :: vU :: vU :: vU :: vU :: vU :: [])) at_197 (leb rfl) (by subst ex12; rfl) ?_
    refine WP.goto (pc' := 220) at_198 (by decide) rfl ?_
    exact WP.weak (L' := (vR 0 :: vI v1 :: vR 1 :: vJ x12 :: vS :: vJ v5 :: vS :: vJ v7 :: vS :: vI v9 :: vI v10 :: vU :: vU :: vU :: vU :: vU :: vU :: vU :: vU :: vU :: vU :: vU :: vU :: vU :: vU :: vU :: vU :: vU :: vU :: vU :: vU :: vU :: [])) ⟨rfl, rfl, rfl, rfl, rfl, rfl, rfl, rfl, rfl, rfl, rfl, trivial⟩ (okLAW_220 l Z a0 hw n0 _ hk67 n v1 x12 v5 v7 v9 v10 a c9.2 _ h)
   ·
    refine WP.ifY (pc' := 201) at_191 (XT.i0_ne_t hc11) (by decide) rfl ?_
    refine WP.iload at_201 rfl ?_
    refine WP.iconst (1 : Int32) at_203 rfl ?_
    rcases ite_e h with ⟨hc13, h⟩ | ⟨hc13, h⟩
    ·
     refine WP.icmpN at_204 (XT.ii_ne_f hc13) ?_
     refine WP.iload at_207 rfl ?_
     refine WP.i2l at_209 ?_
     obtain ⟨x14, ex14, h⟩ := lt_e h
     refine WP.lstore (L' := (vR 0 :: vI v1 :: vR 1 :: vJ v3 :: vS :: vJ x14 :: vS :: vJ v7 :: vS :: vI v9 :: vI v10 :: vI v11 :: vI t0 :: vI c1 :: vI c2 :: vI c3 :: vI c4 :: vI c6 :: vI c7 :: vU :: vU :: vU :: vU :: vU :: vU :: vU :: vU :: vU :: vU :: vU :: vU :: vU :: [])) at_210 (leb rfl) (by subst ex14; rfl) ?_
     refine WP.goto (pc' := 220) at_212 (by decide) rfl ?_
     exact WP.weak (L' := (vR 0 :: vI v1 :: vR 1 :: vJ v3 :: vS :: vJ x14 :: vS :: vJ v7 :: vS :: vI v9 :: vI v10 :: vU :: vU :: vU :: vU :: vU :: vU :: vU :: vU :: vU :: vU :: vU :: vU :: vU :: vU :: vU :: vU :: vU :: vU :: vU :: vU :: vU :: [])) ⟨rfl, rfl, rfl, rfl, rfl, rfl, rfl, rfl, rfl, rfl, rfl, trivial⟩ (okLAW_220 l Z a0 hw n0 _ hk67 n v1 v3 x14 v7 v9 v10 a c9.2 _ h)
    ·
     refine WP.icmpY (pc' := 215) at_204 (XT.ii_ne_t hc13) (by decide) rfl ?_
     refine WP.iload at_215 rfl ?_
     refine WP.i2l at_217 ?_
     obtain ⟨x15, ex15, h⟩ := lt_e h
     refine WP.lstore (L' := (vR 0 :: vI v1 :: vR 1 :: vJ v3 :: vS :: vJ v5 :: vS :: vJ x15 :: vS :: vI v9 :: vI v10 :: vI v11 :: vI t0 :: vI c1 :: vI c2 :: vI c3 :: vI c4 :: vI c6 :: vI c7 :: vU :: vU :: vU :: vU :: vU :: vU :: vU :: vU :: vU :: vU :: vU :: vU :: vU :: [])) at_218 (leb rfl) (by subst ex15; rfl) ?_
     exact WP.weak (L' := (vR 0 :: vI v1 :: vR 1 :: vJ v3 :: vS :: vJ v5 :: vS :: vJ x15 :: vS :: vI v9 :: vI v10 :: vU :: vU :: vU :: vU :: vU :: vU :: vU :: vU :: vU :: vU :: vU :: vU :: vU :: vU :: vU :: vU :: vU :: vU :: vU :: vU :: vU :: [])) ⟨rfl, rfl, rfl, rfl, rfl, rfl, rfl, rfl, rfl, rfl, rfl, trivial⟩ (okLAW_220 l Z a0 hw n0 _ hk67 n v1 v3 v5 x15 v9 v10 a c9.2 _ h)
 ·
  refine WP.ifY (pc' := 223) at_149 (XT.i0_ne_t hc5) (by decide) rfl ?_
  refine WP.iload at_223 rfl ?_
  refine WP.iconst (1 : Int32) at_225 rfl ?_
  rcases ite_e h with ⟨hc16, h⟩ | ⟨hc16, h⟩
  ·
   refine WP.icmpN at_226 (XT.ii_ne_f hc16) ?_
   refine WP.aloadN at_229 rfl ?_
   refine WP.iload at_230 rfl ?_
   refine WP.i2l at_232 ?_
   refine WP.iconst (3 : Int32) at_233 rfl ?_
   obtain ⟨c17, hc17, h⟩ := bd h
   refine WP.callS (y := y1) (as := [.long c1.toInt64, .int (3 : Int32)]) (S := [.ref 1]) at_234 (hw _ m_4) (hw _ m_5) (hw _ m_2) (hw _ m_6) hy1 (CS.frame (ro := 1) (H := ([cI a] ++ Hb 1 s0)) (as := [.long c1.toInt64, .int (3 : Int32)]) fr2_f (ok1 l Z a0 hw c1.toInt64 (3 : Int32) _ hc17) rfl (by decide) (fr2_l a s0) (fr2_c a s0) (by decide) rfl) rfl (lenOf pd1 rfl) (leb rfl) (leb rfl) (leb rfl) (leb rfl) ?_
   rintro _ _ ⟨_, _, ⟨rfl, rfl⟩, e1_, e2_⟩
   rw [fr2_p a s0] at e2_
   subst e1_ e2_
   show WLAW l Z n0 (PLAW r) 25 828 237 (vR 0 :: vI v1 :: vR 1 :: vJ v3 :: vS :: vJ v5 :: vS :: vJ v7 :: vS :: vI v9 :: vI v10 :: vI v11 :: vI t0 :: vI c1 :: vI c2 :: vI c3 :: vI c4 :: vU :: vU :: vU :: vU :: vU :: vU :: vU :: vU :: vU :: vU :: vU :: vU :: vU :: vU :: vU :: []) [.int c17, .ref 1] ([cI a] ++ Hb 1 s0)
   refine WP.iload at_237 rfl ?_
   refine WP.i2l at_239 ?_
   refine WP.iconst (4 : Int32) at_240 rfl ?_
   obtain ⟨c18, hc18, h⟩ := bd h
   refine WP.callS (y := y1) (as := [.long c2.toInt64, .int (4 : Int32)]) (S := [.int c17, .ref 1]) at_241 (hw _ m_4) (hw _ m_5) (hw _ m_2) (hw _ m_6) hy1 (CS.frame (ro := 1) (H := ([cI a] ++ Hb 1 s0)) (as := [.long c2.toInt64, .int (4 : Int32)]) fr2_f (ok1 l Z a0 hw c2.toInt64 (4 : Int32) _ hc18) rfl (by decide) (fr2_l a s0) (fr2_c a s0) (by decide) rfl) rfl (lenOf pd1 rfl) (leb rfl) (leb rfl) (leb rfl) (leb rfl) ?_
   rintro _ _ ⟨_, _, ⟨rfl, rfl⟩, e1_, e2_⟩
   rw [fr2_p a s0] at e2_
   subst e1_ e2_
   show WLAW l Z n0 (PLAW r) 25 828 244 (vR 0 :: vI v1 :: vR 1 :: vJ v3 :: vS :: vJ v5 :: vS :: vJ v7 :: vS :: vI v9 :: vI v10 :: vI v11 :: vI t0 :: vI c1 :: vI c2 :: vI c3 :: vI c4 :: vU :: vU :: vU :: vU :: vU :: vU :: vU :: vU :: vU :: vU :: vU :: vU :: vU :: vU :: vU :: []) [.int c18, .int c17, .ref 1] ([cI a] ++ Hb 1 s0)
   refine WP.iload at_244 rfl ?_
   refine WP.i2l at_246 ?_
   refine WP.sipush (20001 : Int32) at_247 rfl ?_
   obtain ⟨c19, hc19, h⟩ := bd h
   refine WP.callS (y := y1) (as := [.long c3.toInt64, .int (20001 : Int32)]) (S := [.int c18, .int c17, .ref 1]) at_250 (hw _ m_4) (hw _ m_5) (hw _ m_2) (hw _ m_6) hy1 (CS.frame (ro := 1) (H := ([cI a] ++ Hb 1 s0)) (as := [.long c3.toInt64, .int (20001 : Int32)]) fr2_f (ok1 l Z a0 hw c3.toInt64 (20001 : Int32) _ hc19) rfl (by decide) (fr2_l a s0) (fr2_c a s0) (by decide) rfl) rfl (lenOf pd1 rfl) (leb rfl) (leb rfl) (leb rfl) (leb rfl) ?_
   rintro _ _ ⟨_, _, ⟨rfl, rfl⟩, e1_, e2_⟩
   rw [fr2_p a s0] at e2_
   subst e1_ e2_
   show WLAW l Z n0 (PLAW r) 25 828 253 (vR 0 :: vI v1 :: vR 1 :: vJ v3 :: vS :: vJ v5 :: vS :: vJ v7 :: vS :: vI v9 :: vI v10 :: vI v11 :: vI t0 :: vI c1 :: vI c2 :: vI c3 :: vI c4 :: vU :: vU :: vU :: vU :: vU :: vU :: vU :: vU :: vU :: vU :: vU :: vU :: vU :: vU :: vU :: []) [.int c19, .int c18, .int c17, .ref 1] ([cI a] ++ Hb 1 s0)
   refine WP.iload at_253 rfl ?_
   refine WP.i2l at_255 ?_
   refine WP.ldc2 at_256 (hw _ m_75) ?_
   refine WP.lmul at_259 ?_
   refine WP.iload at_260 rfl ?_
   refine WP.i2l at_262 ?_
   refine WP.ladd at_263 ?_
   refine WP.ldc at_264 (hw _ m_76) ?_
   obtain ⟨c20, hc20, h⟩ := bd h
   refine WP.callS (y := y1) (as := [.long ((c2.toInt64 * (31 : Int64)) + c3.toInt64), .int (100000001 : Int32)]) (S := [.int c19, .int c18, .int c17, .ref 1]) at_266 (hw _ m_4) (hw _ m_5) (hw _ m_2) (hw _ m_6) hy1 (CS.frame (ro := 1) (H := ([cI a] ++ Hb 1 s0)) (as := [.long ((c2.toInt64 * (31 : Int64)) + c3.toInt64), .int (100000001 : Int32)]) fr2_f (ok1 l Z a0 hw ((c2.toInt64 * (31 : Int64)) + c3.toInt64) (100000001 : Int32) _ hc20) rfl (by decide) (fr2_l a s0) (fr2_c a s0) (by decide) rfl) rfl (lenOf pd1 rfl) (leb rfl) (leb rfl) (leb rfl) (leb rfl) ?_
   rintro _ _ ⟨_, _, ⟨rfl, rfl⟩, e1_, e2_⟩
   rw [fr2_p a s0] at e2_
   subst e1_ e2_
   show WLAW l Z n0 (PLAW r) 25 828 269 (vR 0 :: vI v1 :: vR 1 :: vJ v3 :: vS :: vJ v5 :: vS :: vJ v7 :: vS :: vI v9 :: vI v10 :: vI v11 :: vI t0 :: vI c1 :: vI c2 :: vI c3 :: vI c4 :: vU :: vU :: vU :: vU :: vU :: vU :: vU :: vU :: vU :: vU :: vU :: vU :: vU :: vU :: vU :: []) [.int c20, .int c19, .int c18, .int c17, .ref 1] ([cI a] ++ Hb 1 s0)
   obtain ⟨c21, hc21, h⟩ := bd h
   refine WP.callV (i := 1) (y := y4) (as := [.int c17, .int c18, .int c19, .int c20]) (S := []) at_269 (hw _ m_77) (hw _ m_78) (hw _ m_80) (hw _ m_79) (hw _ m_81) (hw _ m_9) hy4 rfl (CS.frame (ro := 1) (H := ([cI a] ++ Hb 1 s0)) (as := [.ref 1, .int c17, .int c18, .int c19, .int c20]) fr3_f (ok4 l Z a0 hw c17 c18 c19 c20 s0 _ hc21) rfl (by decide) (fr3_l a s0) (fr3_c a s0) (by decide) rfl) rfl (lenOf pd4 rfl) (leb rfl) (leb rfl) (leb rfl) (leb rfl) ?_
   rintro _ _ ⟨_, _, ⟨rfl, rfl⟩, e1_, e2_⟩
   rw [fr3_p a s0 c21.2] at e2_
   subst e1_ e2_
   show WLAW l Z n0 (PLAW r) 25 828 272 (vR 0 :: vI v1 :: vR 1 :: vJ v3 :: vS :: vJ v5 :: vS :: vJ v7 :: vS :: vI v9 :: vI v10 :: vI v11 :: vI t0 :: vI c1 :: vI c2 :: vI c3 :: vI c4 :: vU :: vU :: vU :: vU :: vU :: vU :: vU :: vU :: vU :: vU :: vU :: vU :: vU :: vU :: vU :: []) [.int c21.1] ([cI a] ++ Hb 1 c21.2)
   refine WP.pop at_272 rfl ?_
   refine WP.goto (pc' := 796) at_273 (by decide) rfl ?_
   exact WP.weak (L' := (vR 0 :: vI v1 :: vR 1 :: vJ v3 :: vS :: vJ v5 :: vS :: vJ v7 :: vS :: vI v9 :: vI v10 :: vU :: vU :: vU :: vU :: vU :: vU :: vU :: vU :: vU :: vU :: vU :: vU :: vU :: vU :: vU :: vU :: vU :: vU :: vU :: vU :: vU :: [])) ⟨rfl, rfl, rfl, rfl, rfl, rfl, rfl, rfl, rfl, rfl, rfl, trivial⟩ (okLAW_796 l Z a0 hw n0 _ hk67 n v1 v3 v5 v7 v9 v10 a c21.2 _ h)
  ·
   refine WP.icmpY (pc' := 276) at_226 (XT.ii_ne_t hc16) (by decide) rfl ?_
   refine WP.iload at_276 rfl ?_
   refine WP.iconst (2 : Int32) at_278 rfl ?_
   rcases ite_e h with ⟨hc22, h⟩ | ⟨hc22, h⟩
   ·
    refine WP.icmpY (pc' := 288) at_279 (XT.ii_eq_t hc22) (by decide) rfl ?_
    exact WP.weak (L' := (vR 0 :: vI v1 :: vR 1 :: vJ v3 :: vS :: vJ v5 :: vS :: vJ v7 :: vS :: vI v9 :: vI v10 :: vU :: vU :: vU :: vI c2 :: vI c3 :: vI c4 :: vU :: vU :: vU :: vU :: vU :: vU :: vU :: vU :: vU :: vU :: vU :: vU :: vU :: vU :: vU :: [])) ⟨rfl, rfl, rfl, rfl, rfl, rfl, rfl, rfl, rfl, rfl, rfl, rfl, rfl, rfl, trivial⟩ (okLAW_288 l Z a0 hw n0 _ hk67 n v1 v3 v5 v7 v9 v10 c2 c3 c4 a s0 _ h)
   ·
    refine WP.icmpN at_279 (XT.ii_eq_f hc22) ?_
    refine WP.iload at_282 rfl ?_
    refine WP.iconst (3 : Int32) at_284 rfl ?_
    rcases ite_e h with ⟨hc23, h⟩ | ⟨hc23, h⟩
    ·
     refine WP.icmpN at_285 (XT.ii_ne_f hc23) ?_
     exact WP.weak (L' := (vR 0 :: vI v1 :: vR 1 :: vJ v3 :: vS :: vJ v5 :: vS :: vJ v7 :: vS :: vI v9 :: vI v10 :: vU :: vU :: vU :: vI c2 :: vI c3 :: vI c4 :: vU :: vU :: vU :: vU :: vU :: vU :: vU :: vU :: vU :: vU :: vU :: vU :: vU :: vU :: vU :: [])) ⟨rfl, rfl, rfl, rfl, rfl, rfl, rfl, rfl, rfl, rfl, rfl, rfl, rfl, rfl, trivial⟩ (okLAW_288 l Z a0 hw n0 _ hk67 n v1 v3 v5 v7 v9 v10 c2 c3 c4 a s0 _ h)
    ·
     refine WP.icmpY (pc' := 317) at_285 (XT.ii_ne_t hc23) (by decide) rfl ?_
     refine WP.iload at_317 rfl ?_
     refine WP.iconst (4 : Int32) at_319 rfl ?_
     rcases ite_e h with ⟨hc24, h⟩ | ⟨hc24, h⟩
     ·
      refine WP.icmpN at_320 (XT.ii_ne_f hc24) ?_
      refine WP.aloadN at_323 rfl ?_
      refine WP.iload at_324 rfl ?_
      refine WP.iload at_326 rfl ?_
      refine WP.i2l at_328 ?_
      refine WP.iconst (3 : Int32) at_329 rfl ?_
      obtain ⟨c25, hc25, h⟩ := bd h
      refine WP.callS (y := y1) (as := [.long c3.toInt64, .int (3 : Int32)]) (S := [.int c4, .ref 1]) at_330 (hw _ m_4) (hw _ m_5) (hw _ m_2) (hw _ m_6) hy1 (CS.frame (ro := 1) (H := ([cI a] ++ Hb 1 s0)) (as := [.long c3.toInt64, .int (3 : Int32)]) fr2_f (ok1 l Z a0 hw c3.toInt64 (3 : Int32) _ hc25) rfl (by decide) (fr2_l a s0) (fr2_c a s0) (by decide) rfl) rfl (lenOf pd1 rfl) (leb rfl) (leb rfl) (leb rfl) (leb rfl) ?_
      rintro _ _ ⟨_, _, ⟨rfl, rfl⟩, e1_, e2_⟩
      rw [fr2_p a s0] at e2_
      subst e1_ e2_
      show WLAW l Z n0 (PLAW r) 25 828 333 (vR 0 :: vI v1 :: vR 1 :: vJ v3 :: vS :: vJ v5 :: vS :: vJ v7 :: vS :: vI v9 :: vI v10 :: vI v11 :: vI t0 :: vI c1 :: vI c2 :: vI c3 :: vI c4 :: vU :: vU :: vU :: vU :: vU :: vU :: vU :: vU :: vU :: vU :: vU :: vU :: vU :: vU :: vU :: []) [.int c25, .int c4, .ref 1] ([cI a] ++ Hb 1 s0)
      refine WP.aloadN at_333 rfl ?_
      obtain ⟨c26, hc26, h⟩ := bd h
      refine WP.callV (i := 1) (y := y10) (as := []) (S := [.int c25, .int c4, .ref 1]) at_334 (hw _ m_105) (hw _ m_106) (hw _ m_108) (hw _ m_107) (hw _ m_109) (hw _ m_9) hy10 rfl (CS.frame (ro := 1) (H := ([cI a] ++ Hb 1 s0)) (as := [.ref 1]) fr3_f (ok10 l Z a0 hw s0 _ hc26) rfl (by decide) (fr3_l a s0) (fr3_c a s0) (by decide) rfl) rfl (lenOf pd10 rfl) (leb rfl) (leb rfl) (leb rfl) (leb rfl) ?_
      rintro _ _ ⟨_, _, ⟨rfl, rfl⟩, e1_, e2_⟩
      rw [fr3_p a s0 s0] at e2_
      subst e1_ e2_
      show WLAW l Z n0 (PLAW r) 25 828 337 (vR 0 :: vI v1 :: vR 1 :: vJ v3 :: vS :: vJ v5 :: vS :: vJ v7 :: vS :: vI v9 :: vI v10 :: vI v11 :: vI t0 :: vI c1 :: vI c2 :: vI c3 :: vI c4 :: vU :: vU :: vU :: vU :: vU :: vU :: vU :: vU :: vU :: vU :: vU :: vU :: vU :: vU :: vU :: []) [.int c26, .int c25, .int c4, .ref 1] ([cI a] ++ Hb 1 s0)
      refine WP.iload at_337 rfl ?_
      refine WP.i2l at_339 ?_
      refine WP.iconst (3 : Int32) at_340 rfl ?_
      obtain ⟨c27, hc27, h⟩ := bd h
      refine WP.callS (y := y1) (as := [.long c2.toInt64, .int (3 : Int32)]) (S := [.int c26, .int c25, .int c4, .ref 1]) at_341 (hw _ m_4) (hw _ m_5) (hw _ m_2) (hw _ m_6) hy1 (CS.frame (ro := 1) (H := ([cI a] ++ Hb 1 s0)) (as := [.long c2.toInt64, .int (3 : Int32)]) fr2_f (ok1 l Z a0 hw c2.toInt64 (3 : Int32) _ hc27) rfl (by decide) (fr2_l a s0) (fr2_c a s0) (by decide) rfl) rfl (lenOf pd1 rfl) (leb rfl) (leb rfl) (leb rfl) (leb rfl) ?_
      rintro _ _ ⟨_, _, ⟨rfl, rfl⟩, e1_, e2_⟩
      rw [fr2_p a s0] at e2_
      subst e1_ e2_
      show WLAW l Z n0 (PLAW r) 25 828 344 (vR 0 :: vI v1 :: vR 1 :: vJ v3 :: vS :: vJ v5 :: vS :: vJ v7 :: vS :: vI v9 :: vI v10 :: vI v11 :: vI t0 :: vI c1 :: vI c2 :: vI c3 :: vI c4 :: vU :: vU :: vU :: vU :: vU :: vU :: vU :: vU :: vU :: vU :: vU :: vU :: vU :: vU :: vU :: []) [.int c27, .int c26, .int c25, .int c4, .ref 1] ([cI a] ++ Hb 1 s0)
      refine WP.iadd at_344 ?_
      obtain ⟨c28, hc28, h⟩ := bd h
      refine WP.callV (i := 1) (y := y30) (as := [.int c4, .int c25, .int (c26 + c27)]) (S := []) at_345 (hw _ m_205) (hw _ m_206) (hw _ m_208) (hw _ m_207) (hw _ m_209) (hw _ m_9) hy30 rfl (CS.frame (ro := 1) (H := ([cI a] ++ Hb 1 s0)) (as := [.ref 1, .int c4, .int c25, .int (c26 + c27)]) fr3_f (ok30 l Z a0 hw c4 c25 (c26 + c27) s0 _ hc28) rfl (by decide) (fr3_l a s0) (fr3_c a s0) (by decide) rfl) rfl (lenOf pd30 rfl) (leb rfl) (leb rfl) (leb rfl) (leb rfl) ?_
      rintro _ _ ⟨_, _, ⟨rfl, rfl⟩, e1_, e2_⟩
      rw [fr3_p a s0 c28.2] at e2_
      subst e1_ e2_
      show WLAW l Z n0 (PLAW r) 25 828 348 (vR 0 :: vI v1 :: vR 1 :: vJ v3 :: vS :: vJ v5 :: vS :: vJ v7 :: vS :: vI v9 :: vI v10 :: vI v11 :: vI t0 :: vI c1 :: vI c2 :: vI c3 :: vI c4 :: vU :: vU :: vU :: vU :: vU :: vU :: vU :: vU :: vU :: vU :: vU :: vU :: vU :: vU :: vU :: []) [.int c28.1] ([cI a] ++ Hb 1 c28.2)
      refine WP.pop at_348 rfl ?_
      refine WP.goto (pc' := 796) at_349 (by decide) rfl ?_
      exact WP.weak (L' := (vR 0 :: vI v1 :: vR 1 :: vJ v3 :: vS :: vJ v5 :: vS :: vJ v7 :: vS :: vI v9 :: vI v10 :: vU :: vU :: vU :: vU :: vU :: vU :: vU :: vU :: vU :: vU :: vU :: vU :: vU :: vU :: vU :: vU :: vU :: vU :: vU :: vU :: vU :: [])) ⟨rfl, rfl, rfl, rfl, rfl, rfl, rfl, rfl, rfl, rfl, rfl, trivial⟩ (okLAW_796 l Z a0 hw n0 _ hk67 n v1 v3 v5 v7 v9 v10 a c28.2 _ h)
     ·
      refine WP.icmpY (pc' := 352) at_320 (XT.ii_ne_t hc24) (by decide) rfl ?_
      refine WP.iload at_352 rfl ?_
      refine WP.iconst (5 : Int32) at_354 rfl ?_
      rcases ite_e h with ⟨hc29, h⟩ | ⟨hc29, h⟩
      ·
       refine WP.icmpN at_355 (XT.ii_ne_f hc29) ?_
       refine WP.aloadN at_358 rfl ?_
       refine WP.iload at_359 rfl ?_
       refine WP.aloadN at_361 rfl ?_
       obtain ⟨c30, hc30, h⟩ := bd h
       refine WP.callV (i := 1) (y := y10) (as := []) (S := [.int c4, .ref 1]) at_362 (hw _ m_105) (hw _ m_106) (hw _ m_108) (hw _ m_107) (hw _ m_109) (hw _ m_9) hy10 rfl (CS.frame (ro := 1) (H := ([cI a] ++ Hb 1 s0)) (as := [.ref 1]) fr3_f (ok10 l Z a0 hw s0 _ hc30) rfl (by decide) (fr3_l a s0) (fr3_c a s0) (by decide) rfl) rfl (lenOf pd10 rfl) (leb rfl) (leb rfl) (leb rfl) (leb rfl) ?_
       rintro _ _ ⟨_, _, ⟨rfl, rfl⟩, e1_, e2_⟩
       rw [fr3_p a s0 s0] at e2_
       subst e1_ e2_
       show WLAW l Z n0 (PLAW r) 25 828 365 (vR 0 :: vI v1 :: vR 1 :: vJ v3 :: vS :: vJ v5 :: vS :: vJ v7 :: vS :: vI v9 :: vI v10 :: vI v11 :: vI t0 :: vI c1 :: vI c2 :: vI c3 :: vI c4 :: vU :: vU :: vU :: vU :: vU :: vU :: vU :: vU :: vU :: vU :: vU :: vU :: vU :: vU :: vU :: []) [.int c30, .int c4, .ref 1] ([cI a] ++ Hb 1 s0)
       refine WP.iload at_365 rfl ?_
       refine WP.i2l at_367 ?_
       refine WP.iconst (3 : Int32) at_368 rfl ?_
       obtain ⟨c31, hc31, h⟩ := bd h
       refine WP.callS (y := y1) (as := [.long c2.toInt64, .int (3 : Int32)]) (S := [.int c30, .int c4, .ref 1]) at_369 (hw _ m_4) (hw _ m_5) (hw _ m_2) (hw _ m_6) hy1 (CS.frame (ro := 1) (H := ([cI a] ++ Hb 1 s0)) (as := [.long c2.toInt64, .int (3 : Int32)]) fr2_f (ok1 l Z a0 hw c2.toInt64 (3 : Int32) _ hc31) rfl (by decide) (fr2_l a s0) (fr2_c a s0) (by decide) rfl) rfl (lenOf pd1 rfl) (leb rfl) (leb rfl) (leb rfl) (leb rfl) ?_
       rintro _ _ ⟨_, _, ⟨rfl, rfl⟩, e1_, e2_⟩
       rw [fr2_p a s0] at e2_
       subst e1_ e2_
       show WLAW l Z n0 (PLAW r) 25 828 372 (vR 0 :: vI v1 :: vR 1 :: vJ v3 :: vS :: vJ v5 :: vS :: vJ v7 :: vS :: vI v9 :: vI v10 :: vI v11 :: vI t0 :: vI c1 :: vI c2 :: vI c3 :: vI c4 :: vU :: vU :: vU :: vU :: vU :: vU :: vU :: vU :: vU :: vU :: vU :: vU :: vU :: vU :: vU :: []) [.int c31, .int c30, .int c4, .ref 1] ([cI a] ++ Hb 1 s0)
       refine WP.iadd at_372 ?_
       obtain ⟨c32, hc32, h⟩ := bd h
       refine WP.callV (i := 1) (y := y31) (as := [.int c4, .int (c30 + c31)]) (S := []) at_373 (hw _ m_210) (hw _ m_211) (hw _ m_213) (hw _ m_212) (hw _ m_214) (hw _ m_9) hy31 rfl (CS.frame (ro := 1) (H := ([cI a] ++ Hb 1 s0)) (as := [.ref 1, .int c4, .int (c30 + c31)]) fr3_f (ok31 l Z a0 hw c4 (c30 + c31) s0 _ hc32) rfl (by decide) (fr3_l a s0) (fr3_c a s0) (by decide) rfl) rfl (lenOf pd31 rfl) (leb rfl) (leb rfl) (leb rfl) (leb rfl) ?_
       rintro _ _ ⟨_, _, ⟨rfl, rfl⟩, e1_, e2_⟩
       rw [fr3_p a s0 c32.2] at e2_
       subst e1_ e2_
       show WLAW l Z n0 (PLAW r) 25 828 376 (vR 0 :: vI v1 :: vR 1 :: vJ v3 :: vS :: vJ v5 :: vS :: vJ v7 :: vS :: vI v9 :: vI v10 :: vI v11 :: vI t0 :: vI c1 :: vI c2 :: vI c3 :: vI c4 :: vU :: vU :: vU :: vU :: vU :: vU :: vU :: vU :: vU :: vU :: vU :: vU :: vU :: vU :: vU :: []) [.int c32.1] ([cI a] ++ Hb 1 c32.2)
       refine WP.pop at_376 rfl ?_
       refine WP.goto (pc' := 796) at_377 (by decide) rfl ?_
       exact WP.weak (L' := (vR 0 :: vI v1 :: vR 1 :: vJ v3 :: vS :: vJ v5 :: vS :: vJ v7 :: vS :: vI v9 :: vI v10 :: vU :: vU :: vU :: vU :: vU :: vU :: vU :: vU :: vU :: vU :: vU :: vU :: vU :: vU :: vU :: vU :: vU :: vU :: vU :: vU :: vU :: [])) ⟨rfl, rfl, rfl, rfl, rfl, rfl, rfl, rfl, rfl, rfl, rfl, trivial⟩ (okLAW_796 l Z a0 hw n0 _ hk67 n v1 v3 v5 v7 v9 v10 a c32.2 _ h)
      ·
       refine WP.icmpY (pc' := 380) at_355 (XT.ii_ne_t hc29) (by decide) rfl ?_
       refine WP.iload at_380 rfl ?_
       refine WP.bipush (6 : Int32) at_382 rfl ?_
       rcases ite_e h with ⟨hc33, h⟩ | ⟨hc33, h⟩
       ·
        refine WP.icmpY (pc' := 394) at_384 (XT.ii_eq_t hc33) (by decide) rfl ?_
        exact WP.weak (L' := (vR 0 :: vI v1 :: vR 1 :: vJ v3 :: vS :: vJ v5 :: vS :: vJ v7 :: vS :: vI v9 :: vI v10 :: vU :: vU :: vU :: vI c2 :: vI c3 :: vI c4 :: vU :: vU :: vU :: vU :: vU :: vU :: vU :: vU :: vU :: vU :: vU :: vU :: vU :: vU :: vU :: [])) ⟨rfl, rfl, rfl, rfl, rfl, rfl, rfl, rfl, rfl, rfl, rfl, rfl, rfl, rfl, trivial⟩ (okLAW_394 l Z a0 hw n0 _ hk67 n v1 v3 v5 v7 v9 v10 c2 c3 c4 a s0 _ h)
       ·
        refine WP.icmpN at_384 (XT.ii_eq_f hc33) ?_
        refine WP.iload at_387 rfl ?_
        refine WP.bipush (7 : Int32) at_389 rfl ?_
        rcases ite_e h with ⟨hc34, h⟩ | ⟨hc34, h⟩
        ·
         refine WP.icmpN at_391 (XT.ii_ne_f hc34) ?_
         exact WP.weak (L' := (vR 0 :: vI v1 :: vR 1 :: vJ v3 :: vS :: vJ v5 :: vS :: vJ v7 :: vS :: vI v9 :: vI v10 :: vU :: vU :: vU :: vI c2 :: vI c3 :: vI c4 :: vU :: vU :: vU :: vU :: vU :: vU :: vU :: vU :: vU :: vU :: vU :: vU :: vU :: vU :: vU :: [])) ⟨rfl, rfl, rfl, rfl, rfl, rfl, rfl, rfl, rfl, rfl, rfl, rfl, rfl, rfl, trivial⟩ (okLAW_394 l Z a0 hw n0 _ hk67 n v1 v3 v5 v7 v9 v10 c2 c3 c4 a s0 _ h)
        ·
         refine WP.icmpY (pc' := 427) at_391 (XT.ii_ne_t hc34) (by decide) rfl ?_
         refine WP.iload at_427 rfl ?_
         refine WP.bipush (8 : Int32) at_429 rfl ?_
         rcases ite_e h with ⟨hc35, h⟩ | ⟨hc35, h⟩
         ·
          refine WP.icmpN at_431 (XT.ii_ne_f hc35) ?_
          refine WP.aloadN at_434 rfl ?_
          refine WP.iload at_435 rfl ?_
          refine WP.iconst (1 : Int32) at_437 rfl ?_
          refine WP.iload at_438 rfl ?_
          refine WP.i2l at_440 ?_
          refine WP.ldc at_441 (hw _ m_199) ?_
          obtain ⟨c36, hc36, h⟩ := bd h
          refine WP.callS (y := y1) (as := [.long c2.toInt64, .int (1000000 : Int32)]) (S := [.int (1 : Int32), .int c4, .ref 1]) at_443 (hw _ m_4) (hw _ m_5) (hw _ m_2) (hw _ m_6) hy1 (CS.frame (ro := 1) (H := ([cI a] ++ Hb 1 s0)) (as := [.long c2.toInt64, .int (1000000 : Int32)]) fr2_f (ok1 l Z a0 hw c2.toInt64 (1000000 : Int32) _ hc36) rfl (by decide) (fr2_l a s0) (fr2_c a s0) (by decide) rfl) rfl (lenOf pd1 rfl) (leb rfl) (leb rfl) (leb rfl) (leb rfl) ?_
          rintro _ _ ⟨_, _, ⟨rfl, rfl⟩, e1_, e2_⟩
          rw [fr2_p a s0] at e2_
          subst e1_ e2_
          show WLAW l Z n0 (PLAW r) 25 828 446 (vR 0 :: vI v1 :: vR 1 :: vJ v3 :: vS :: vJ v5 :: vS :: vJ v7 :: vS :: vI v9 :: vI v10 :: vI v11 :: vI t0 :: vI c1 :: vI c2 :: vI c3 :: vI c4 :: vU :: vU :: vU :: vU :: vU :: vU :: vU :: vU :: vU :: vU :: vU :: vU :: vU :: vU :: vU :: []) [.int c36, .int (1 : Int32), .int c4, .ref 1] ([cI a] ++ Hb 1 s0)
          refine WP.iadd at_446 ?_
          obtain ⟨c37, hc37, h⟩ := bd h
          refine WP.callV (i := 1) (y := y29) (as := [.int c4, .int ((1 : Int32) + c36)]) (S := []) at_447 (hw _ m_200) (hw _ m_201) (hw _ m_203) (hw _ m_202) (hw _ m_204) (hw _ m_9) hy29 rfl (CS.frame (ro := 1) (H := ([cI a] ++ Hb 1 s0)) (as := [.ref 1, .int c4, .int ((1 : Int32) + c36)]) fr3_f (ok29 l Z a0 hw c4 ((1 : Int32) + c36) s0 _ hc37) rfl (by decide) (fr3_l a s0) (fr3_c a s0) (by decide) rfl) rfl (lenOf pd29 rfl) (leb rfl) (leb rfl) (leb rfl) (leb rfl) ?_
          rintro _ _ ⟨_, _, ⟨rfl, rfl⟩, e1_, e2_⟩
          rw [fr3_p a s0 c37.2] at e2_
          subst e1_ e2_
          show WLAW l Z n0 (PLAW r) 25 828 450 (vR 0 :: vI v1 :: vR 1 :: vJ v3 :: vS :: vJ v5 :: vS :: vJ v7 :: vS :: vI v9 :: vI v10 :: vI v11 :: vI t0 :: vI c1 :: vI c2 :: vI c3 :: vI c4 :: vU :: vU :: vU :: vU :: vU :: vU :: vU :: vU :: vU :: vU :: vU :: vU :: vU :: vU :: vU :: []) [.int c37.1] ([cI a] ++ Hb 1 c37.2)
          refine WP.pop at_450 rfl ?_
          refine WP.goto (pc' := 796) at_451 (by decide) rfl ?_
          exact WP.weak (L' := (vR 0 :: vI v1 :: vR 1 :: vJ v3 :: vS :: vJ v5 :: vS :: vJ v7 :: vS :: vI v9 :: vI v10 :: vU :: vU :: vU :: vU :: vU :: vU :: vU :: vU :: vU :: vU :: vU :: vU :: vU :: vU :: vU :: vU :: vU :: vU :: vU :: vU :: vU :: [])) ⟨rfl, rfl, rfl, rfl, rfl, rfl, rfl, rfl, rfl, rfl, rfl, trivial⟩ (okLAW_796 l Z a0 hw n0 _ hk67 n v1 v3 v5 v7 v9 v10 a c37.2 _ h)
         ·
          refine WP.icmpY (pc' := 454) at_431 (XT.ii_ne_t hc35) (by decide) rfl ?_
          refine WP.lconst (0 : Int64) at_454 rfl ?_
          refine WP.lstore (L' := (vR 0 :: vI v1 :: vR 1 :: vJ v3 :: vS :: vJ v5 :: vS :: vJ v7 :: vS :: vI v9 :: vI v10 :: vI v11 :: vI t0 :: vI c1 :: vI c2 :: vI c3 :: vI c4 :: vJ (0 : Int64) :: vS :: vU :: vU :: vU :: vU :: vU :: vU :: vU :: vU :: vU :: vU :: vU :: vU :: vU :: [])) at_455 (leb rfl) rfl ?_
          refine WP.lconst (0 : Int64) at_457 rfl ?_
          refine WP.lstore (L' := (vR 0 :: vI v1 :: vR 1 :: vJ v3 :: vS :: vJ v5 :: vS :: vJ v7 :: vS :: vI v9 :: vI v10 :: vI v11 :: vI t0 :: vI c1 :: vI c2 :: vI c3 :: vI c4 :: vJ (0 : Int64) :: vS :: vJ (0 : Int64) :: vS :: vU :: vU :: vU :: vU :: vU :: vU :: vU :: vU :: vU :: vU :: vU :: [])) at_458 (leb rfl) rfl ?_
          refine WP.iconst (0 : Int32) at_460 rfl ?_
          refine WP.istore (L' := (vR 0 :: vI v1 :: vR 1 :: vJ v3 :: vS :: vJ v5 :: vS :: vJ v7 :: vS :: vI v9 :: vI v10 :: vI v11 :: vI t0 :: vI c1 :: vI c2 :: vI c3 :: vI c4 :: vJ (0 : Int64) :: vS :: vJ (0 : Int64) :: vS :: vI (0 : Int32) :: vU :: vU :: vU :: vU :: vU :: vU :: vU :: vU :: vU :: vU :: [])) at_461 (leb rfl) rfl ?_
          exact WP.weak (L' := (vR 0 :: vI v1 :: vR 1 :: vJ v3 :: vS :: vJ v5 :: vS :: vJ v7 :: vS :: vI v9 :: vI v10 :: vU :: vU :: vU :: vU :: vU :: vU :: vJ (0 : Int64) :: vS :: vJ (0 : Int64) :: vS :: vI (0 : Int32) :: vU :: vU :: vU :: vU :: vU :: vU :: vU :: vU :: vU :: vU :: [])) ⟨rfl, rfl, rfl, rfl, rfl, rfl, rfl, rfl, rfl, rfl, rfl, rfl, rfl, rfl, rfl, rfl, trivial⟩ (okLAW_463 l Z a0 hw n0 _ hk67 n v1 v3 v5 v7 v9 v10 (0 : Int64) (0 : Int64) (0 : Int32) a s0 _ h)
def g_law_67 (k67 : KT0) (n : Nat) (v1 : Int32) (v3 v5 v7 : Int64) (v9 v10 : Int32) (a : List Int32) (s0 : St) : Option (Int32) :=
 if v9 < v10 then
  some (1 : Int32)
 else
  lt ((2 : Int32) + ((4 : Int32) * v10)) fun x2 =>
  if v10 = v9 then
   f_law_106 k67 n v1 v3 v5 v7 v9 v10 x2 (9 : Int32) a s0
  else
   (f_L_cell x2 a).bind fun c4 =>
   (f_L_m c4.toInt64 (10 : Int32)).bind fun c5 =>
   f_law_106 k67 n v1 v3 v5 v7 v9 v10 x2 c5 a s0
theorem okgLAW_67 (l : Launch) (Z : State) (a0 : Array Value) (hw : HW a0 Z) (n0 : Nat) (k67 : KT0) (hk67 : HKLAW_67 l Z n0 k67) (n : Nat) (v1 : Int32) (v3 v5 v7 : Int64) (v9 v10 : Int32) (a : List Int32) (s0 : St) (r : Int32) (h : g_law_67 k67 n v1 v3 v5 v7 v9 v10 a s0 = some r) : WLAW l Z n0 (PLAW r) 25 828 67 (vR 0 :: vI v1 :: vR 1 :: vJ v3 :: vS :: vJ v5 :: vS :: vJ v7 :: vS :: vI v9 :: vI v10 :: vU :: vU :: vU :: vU :: vU :: vU :: vU :: vU :: vU :: vU :: vU :: vU :: vU :: vU :: vU :: vU :: vU :: vU :: vU :: vU :: vU :: []) [] ([cI a] ++ Hb 1 s0) := by
 unfold g_law_67 at h
 refine WP.iload at_67 rfl ?_
 refine WP.iload at_69 rfl ?_
 rcases ite_e h with ⟨hc1, h⟩ | ⟨hc1, h⟩
 ·
  refine WP.icmpY (pc' := 811) at_71 (XT.ii_gt_t hc1) (by decide) rfl ?_
  refine WP.iconst (1 : Int32) at_811 rfl ?_
  cases h
  exact WP.zreturn at_812 rfl (leb rfl) (leb rfl) rfl
 ·
  refine WP.icmpN at_71 (XT.ii_gt_f hc1) ?_
  refine WP.iconst (2 : Int32) at_74 rfl ?_
  refine WP.iconst (4 : Int32) at_75 rfl ?_
  refine WP.iload at_76 rfl ?_
  refine WP.imul at_78 ?_
  refine WP.iadd at_79 ?_
  obtain ⟨x2, ex2, h⟩ := lt_e h
  refine WP.istore (L' := (vR 0 :: vI v1 :: vR 1 :: vJ v3 :: vS :: vJ v5 :: vS :: vJ v7 :: vS :: vI v9 :: vI v10 :: vI x2 :: vU :: vU :: vU :: vU :: vU :: vU :: vU :: vU :: vU :: vU :: vU :: vU :: vU :: vU :: vU :: vU :: vU :: vU :: vU :: vU :: [])) at_80 (leb rfl) (by subst ex2; rfl) ?_
  refine WP.iload at_82 rfl ?_
  refine WP.iload at_84 rfl ?_
  rcases ite_e h with ⟨hc3, h⟩ | ⟨hc3, h⟩
  ·
   refine WP.icmpN at_86 (XT.ii_ne_f hc3) ?_
   refine WP.bipush (9 : Int32) at_89 rfl ?_
   refine WP.goto (pc' := 106) at_91 (by decide) rfl ?_
   exact WP.weak (L' := (vR 0 :: vI v1 :: vR 1 :: vJ v3 :: vS :: vJ v5 :: vS :: vJ v7 :: vS :: vI v9 :: vI v10 :: vI x2 :: vU :: vU :: vU :: vU :: vU :: vU :: vU :: vU :: vU :: vU :: vU :: vU :: vU :: vU :: vU :: vU :: vU :: vU :: vU :: vU :: [])) ⟨rfl, rfl, rfl, rfl, rfl, rfl, rfl, rfl, rfl, rfl, rfl, rfl, trivial⟩ (okLAW_106 l Z a0 hw n0 _ hk67 n v1 v3 v5 v7 v9 v10 x2 (9 : Int32) a s0 _ h)
  ·
   refine WP.icmpY (pc' := 94) at_86 (XT.ii_ne_t hc3) (by decide) rfl ?_
   refine WP.aloadN at_94 rfl ?_
   refine WP.iload at_95 rfl ?_
   obtain ⟨c4, hc4, h⟩ := bd h
   refine WP.callS (y := y0) (as := [.ref 0, .int x2]) (S := []) at_97 (hw _ m_0) (hw _ m_1) (hw _ m_2) (hw _ m_3) hy0 (CS.frame (ro := 1) (H := ([cI a] ++ Hb 1 s0)) (as := [.ref 0, .int x2]) fr1_f (ok0 l Z a0 hw x2 a _ hc4) rfl (by decide) (fr1_l a s0) (fr1_c a s0) (by decide) rfl) rfl (lenOf pd0 rfl) (leb rfl) (leb rfl) (leb rfl) (leb rfl) ?_
   rintro _ _ ⟨_, _, ⟨rfl, rfl⟩, e1_, e2_⟩
   rw [fr1_p a s0] at e2_
   subst e1_ e2_
   show WLAW l Z n0 (PLAW r) 25 828 100 (vR 0 :: vI v1 :: vR 1 :: vJ v3 :: vS :: vJ v5 :: vS :: vJ v7 :: vS :: vI v9 :: vI v10 :: vI x2 :: vU :: vU :: vU :: vU :: vU :: vU :: vU :: vU :: vU :: vU :: vU :: vU :: vU :: vU :: vU :: vU :: vU :: vU :: vU :: vU :: []) [.int c4] ([cI a] ++ Hb 1 s0)
   refine WP.i2l at_100 ?_
   refine WP.bipush (10 : Int32) at_101 rfl ?_
   obtain ⟨c5, hc5, h⟩ := bd h
   refine WP.callS (y := y1) (as := [.long c4.toInt64, .int (10 : Int32)]) (S := []) at_103 (hw _ m_4) (hw _ m_5) (hw _ m_2) (hw _ m_6) hy1 (CS.frame (ro := 1) (H := ([cI a] ++ Hb 1 s0)) (as := [.long c4.toInt64, .int (10 : Int32)]) fr2_f (ok1 l Z a0 hw c4.toInt64 (10 : Int32) _ hc5) rfl (by decide) (fr2_l a s0) (fr2_c a s0) (by decide) rfl) rfl (lenOf pd1 rfl) (leb rfl) (leb rfl) (leb rfl) (leb rfl) ?_
   rintro _ _ ⟨_, _, ⟨rfl, rfl⟩, e1_, e2_⟩
   rw [fr2_p a s0] at e2_
   subst e1_ e2_
   show WLAW l Z n0 (PLAW r) 25 828 106 (vR 0 :: vI v1 :: vR 1 :: vJ v3 :: vS :: vJ v5 :: vS :: vJ v7 :: vS :: vI v9 :: vI v10 :: vI x2 :: vU :: vU :: vU :: vU :: vU :: vU :: vU :: vU :: vU :: vU :: vU :: vU :: vU :: vU :: vU :: vU :: vU :: vU :: vU :: vU :: []) [.int c5] ([cI a] ++ Hb 1 s0)
   exact WP.weak (L' := (vR 0 :: vI v1 :: vR 1 :: vJ v3 :: vS :: vJ v5 :: vS :: vJ v7 :: vS :: vI v9 :: vI v10 :: vI x2 :: vU :: vU :: vU :: vU :: vU :: vU :: vU :: vU :: vU :: vU :: vU :: vU :: vU :: vU :: vU :: vU :: vU :: vU :: vU :: vU :: [])) ⟨rfl, rfl, rfl, rfl, rfl, rfl, rfl, rfl, rfl, rfl, rfl, rfl, trivial⟩ (okLAW_106 l Z a0 hw n0 _ hk67 n v1 v3 v5 v7 v9 v10 x2 c5 a s0 _ h)
def f_law_67 : Nat → Int32 → Int64 → Int64 → Int64 → Int32 → Int32 → List Int32 → St → Option (Int32)
 | 0 => fun _ _ _ _ _ _ _ _ => none
 | n + 1 => g_law_67 (f_law_67 n) n
theorem okLAW_67 (l : Launch) (Z : State) (a0 : Array Value) (hw : HW a0 Z) (n0 : Nat) : ∀ (n : Nat) (v1 : Int32) (v3 v5 v7 : Int64) (v9 v10 : Int32) (a : List Int32) (s0 : St) (r : Int32), f_law_67 n v1 v3 v5 v7 v9 v10 a s0 = some r → WLAW l Z n0 (PLAW r) 25 828 67 (vR 0 :: vI v1 :: vR 1 :: vJ v3 :: vS :: vJ v5 :: vS :: vJ v7 :: vS :: vI v9 :: vI v10 :: vU :: vU :: vU :: vU :: vU :: vU :: vU :: vU :: vU :: vU :: vU :: vU :: vU :: vU :: vU :: vU :: vU :: vU :: vU :: vU :: vU :: []) [] ([cI a] ++ Hb 1 s0)
 | 0, v1, v3, v5, v7, v9, v10, a, s0, r, h => nomatch (show none = some r from h)
 | n + 1, v1, v3, v5, v7, v9, v10, a, s0, r, h => okgLAW_67 l Z a0 hw n0 _ (okLAW_67 l Z a0 hw n0 n) n v1 v3 v5 v7 v9 v10 a s0 r h
def f_law_62 (n : Nat) (v1 : Int32) (v3 v5 v7 : Int64) (t0 : Int32) (a : List Int32) (s0 : St) : Option (Int32) :=
 f_law_67 n v1 v3 v5 v7 t0 (0 : Int32) a s0
theorem okLAW_62 (l : Launch) (Z : State) (a0 : Array Value) (hw : HW a0 Z) (n0 n : Nat) (v1 : Int32) (v3 v5 v7 : Int64) (t0 : Int32) (a : List Int32) (s0 : St) (r : Int32) (h : f_law_62 n v1 v3 v5 v7 t0 a s0 = some r) : WLAW l Z n0 (PLAW r) 25 828 62 (vR 0 :: vI v1 :: vR 1 :: vJ v3 :: vS :: vJ v5 :: vS :: vJ v7 :: vS :: vU :: vU :: vU :: vU :: vU :: vU :: vU :: vU :: vU :: vU :: vU :: vU :: vU :: vU :: vU :: vU :: vU :: vU :: vU :: vU :: vU :: vU :: vU :: []) [.int t0] ([cI a] ++ Hb 1 s0) := by
 unfold f_law_62 at h
 refine WP.istore (L' := (vR 0 :: vI v1 :: vR 1 :: vJ v3 :: vS :: vJ v5 :: vS :: vJ v7 :: vS :: vI t0 :: vU :: vU :: vU :: vU :: vU :: vU :: vU :: vU :: vU :: vU :: vU :: vU :: vU :: vU :: vU :: vU :: vU :: vU :: vU :: vU :: vU :: vU :: [])) at_62 (leb rfl) rfl ?_
 refine WP.iconst (0 : Int32) at_64 rfl ?_
 refine WP.istore (L' := (vR 0 :: vI v1 :: vR 1 :: vJ v3 :: vS :: vJ v5 :: vS :: vJ v7 :: vS :: vI t0 :: vI (0 : Int32) :: vU :: vU :: vU :: vU :: vU :: vU :: vU :: vU :: vU :: vU :: vU :: vU :: vU :: vU :: vU :: vU :: vU :: vU :: vU :: vU :: vU :: [])) at_65 (leb rfl) rfl ?_
 exact WP.weak (L' := (vR 0 :: vI v1 :: vR 1 :: vJ v3 :: vS :: vJ v5 :: vS :: vJ v7 :: vS :: vI t0 :: vI (0 : Int32) :: vU :: vU :: vU :: vU :: vU :: vU :: vU :: vU :: vU :: vU :: vU :: vU :: vU :: vU :: vU :: vU :: vU :: vU :: vU :: vU :: vU :: [])) ⟨rfl, rfl, rfl, rfl, rfl, rfl, rfl, rfl, rfl, rfl, rfl, trivial⟩ (okLAW_67 l Z a0 hw n0 n v1 v3 v5 v7 t0 (0 : Int32) a s0 _ h)
def f_law (n : Nat) (a : List Int32) : Option (Int32) :=
 (f_L_cell (0 : Int32) a).bind fun c1 =>
 (f_L_m c1.toInt64 (25 : Int32)).bind fun c2 =>
 lt ((7 : Int32) + c2) fun x3 =>
 (f_L_cell (1 : Int32) a).bind fun c4 =>
 (f_L_m c4.toInt64 (3001 : Int32)).bind fun c5 =>
 (f_init n x3 c5).bind fun c6 =>
 if (2 : Int32) < a.length.toInt32 then
  f_law_62 n x3 (0 : Int64) (0 : Int64) (0 : Int64) (((a.length.toInt32 - (2 : Int32)) + (3 : Int32)) / (4 : Int32)) a c6
 else
  f_law_62 n x3 (0 : Int64) (0 : Int64) (0 : Int64) (0 : Int32) a c6
theorem okLAW (l : Launch) (Z : State) (a0 : Array Value) (hw : HW a0 Z) (n : Nat) (a : List Int32) (r : Int32) (h : f_law n a = some r) : CS l Z CN lay x code maxLocals ret room_1 1 [.ref 0] ([cI a]) (PLAW r) := by
 refine CS.of_wp pn_law (leb rfl) fun n0 => ?_
 show WLAW l Z n0 (PLAW r) 0 0 0 (vR 0 :: vU :: vU :: vU :: vU :: vU :: vU :: vU :: vU :: vU :: vU :: vU :: vU :: vU :: vU :: vU :: vU :: vU :: vU :: vU :: vU :: vU :: vU :: vU :: vU :: vU :: vU :: vU :: vU :: vU :: vU :: vU :: []) [] ([cI a])
 unfold f_law at h
 refine WP.bipush (7 : Int32) at_0 rfl ?_
 refine WP.aloadN at_2 rfl ?_
 refine WP.iconst (0 : Int32) at_3 rfl ?_
 obtain ⟨c1, hc1, h⟩ := bd h
 refine WP.callS (y := y0) (as := [.ref 0, .int (0 : Int32)]) (S := [.int (7 : Int32)]) at_4 (hw _ m_0) (hw _ m_1) (hw _ m_2) (hw _ m_3) hy0 (ok0 l Z a0 hw (0 : Int32) a _ hc1) rfl (lenOf pd0 rfl) (leb rfl) (leb rfl) (leb rfl) (leb rfl) ?_
 rintro _ _ ⟨rfl, rfl⟩
 show WLAW l Z n0 (PLAW r) 0 0 7 (vR 0 :: vU :: vU :: vU :: vU :: vU :: vU :: vU :: vU :: vU :: vU :: vU :: vU :: vU :: vU :: vU :: vU :: vU :: vU :: vU :: vU :: vU :: vU :: vU :: vU :: vU :: vU :: vU :: vU :: vU :: vU :: vU :: []) [.int c1, .int (7 : Int32)] ([cI a])
 refine WP.i2l at_7 ?_
 refine WP.bipush (25 : Int32) at_8 rfl ?_
 obtain ⟨c2, hc2, h⟩ := bd h
 refine WP.callS (y := y1) (as := [.long c1.toInt64, .int (25 : Int32)]) (S := [.int (7 : Int32)]) at_10 (hw _ m_4) (hw _ m_5) (hw _ m_2) (hw _ m_6) hy1 (CS.frame (ro := 1) (H := ([cI a])) (as := [.long c1.toInt64, .int (25 : Int32)]) fr4_f (ok1 l Z a0 hw c1.toInt64 (25 : Int32) _ hc2) rfl (by decide) (fr4_l a) (fr4_c a) (by decide) rfl) rfl (lenOf pd1 rfl) (leb rfl) (leb rfl) (leb rfl) (leb rfl) ?_
 rintro _ _ ⟨_, _, ⟨rfl, rfl⟩, rfl, rfl⟩
 rw [fr4_p a]
 show WLAW l Z n0 (PLAW r) 0 0 13 (vR 0 :: vU :: vU :: vU :: vU :: vU :: vU :: vU :: vU :: vU :: vU :: vU :: vU :: vU :: vU :: vU :: vU :: vU :: vU :: vU :: vU :: vU :: vU :: vU :: vU :: vU :: vU :: vU :: vU :: vU :: vU :: vU :: []) [.int c2, .int (7 : Int32)] ([cI a])
 refine WP.iadd at_13 ?_
 obtain ⟨x3, ex3, h⟩ := lt_e h
 refine WP.istoreN (L' := (vR 0 :: vI x3 :: vU :: vU :: vU :: vU :: vU :: vU :: vU :: vU :: vU :: vU :: vU :: vU :: vU :: vU :: vU :: vU :: vU :: vU :: vU :: vU :: vU :: vU :: vU :: vU :: vU :: vU :: vU :: vU :: vU :: vU :: [])) at_14 (leb rfl) (by subst ex3; rfl) ?_
 refine WP.new (vs := vs0) at_15 (hw _ m_7) (hw _ m_8) (hw _ m_9) (leb rfl) (leb rfl) (vs0_ok hw) ?_
 show WLAW l Z n0 (PLAW r) 1 28 18 (vR 0 :: vI x3 :: vU :: vU :: vU :: vU :: vU :: vU :: vU :: vU :: vU :: vU :: vU :: vU :: vU :: vU :: vU :: vU :: vU :: vU :: vU :: vU :: vU :: vU :: vU :: vU :: vU :: vU :: vU :: vU :: vU :: vU :: []) [.ref 1] ([cI a] ++ [cO vs0])
 refine WP.dup at_18 rfl ?_
 refine WP.iloadN at_19 rfl ?_
 refine WP.aloadN at_20 rfl ?_
 refine WP.iconst (1 : Int32) at_21 rfl ?_
 obtain ⟨c4, hc4, h⟩ := bd h
 refine WP.callS (y := y0) (as := [.ref 0, .int (1 : Int32)]) (S := [.int x3, .ref 1, .ref 1]) at_22 (hw _ m_0) (hw _ m_1) (hw _ m_2) (hw _ m_3) hy0 (CS.frame (ro := 1) (H := ([cI a] ++ [cO vs0])) (as := [.ref 0, .int (1 : Int32)]) fr5_f (ok0 l Z a0 hw (1 : Int32) a _ hc4) rfl (by decide) (fr5_l a) (fr5_c a) (by decide) rfl) rfl (lenOf pd0 rfl) (leb rfl) (leb rfl) (leb rfl) (leb rfl) ?_
 rintro _ _ ⟨_, _, ⟨rfl, rfl⟩, rfl, rfl⟩
 rw [fr5_p a]
 show WLAW l Z n0 (PLAW r) 1 28 25 (vR 0 :: vI x3 :: vU :: vU :: vU :: vU :: vU :: vU :: vU :: vU :: vU :: vU :: vU :: vU :: vU :: vU :: vU :: vU :: vU :: vU :: vU :: vU :: vU :: vU :: vU :: vU :: vU :: vU :: vU :: vU :: vU :: vU :: []) [.int c4, .int x3, .ref 1, .ref 1] ([cI a] ++ [cO vs0])
 refine WP.i2l at_25 ?_
 refine WP.sipush (3001 : Int32) at_26 rfl ?_
 obtain ⟨c5, hc5, h⟩ := bd h
 refine WP.callS (y := y1) (as := [.long c4.toInt64, .int (3001 : Int32)]) (S := [.int x3, .ref 1, .ref 1]) at_29 (hw _ m_4) (hw _ m_5) (hw _ m_2) (hw _ m_6) hy1 (CS.frame (ro := 1) (H := ([cI a] ++ [cO vs0])) (as := [.long c4.toInt64, .int (3001 : Int32)]) fr6_f (ok1 l Z a0 hw c4.toInt64 (3001 : Int32) _ hc5) rfl (by decide) (fr6_l a) (fr6_c a) (by decide) rfl) rfl (lenOf pd1 rfl) (leb rfl) (leb rfl) (leb rfl) (leb rfl) ?_
 rintro _ _ ⟨_, _, ⟨rfl, rfl⟩, rfl, rfl⟩
 rw [fr6_p a]
 show WLAW l Z n0 (PLAW r) 1 28 32 (vR 0 :: vI x3 :: vU :: vU :: vU :: vU :: vU :: vU :: vU :: vU :: vU :: vU :: vU :: vU :: vU :: vU :: vU :: vU :: vU :: vU :: vU :: vU :: vU :: vU :: vU :: vU :: vU :: vU :: vU :: vU :: vU :: vU :: []) [.int c5, .int x3, .ref 1, .ref 1] ([cI a] ++ [cO vs0])
 obtain ⟨c6, hc6, h⟩ := bd h
 refine WP.callI (i := 1) (y := y2) (as := [.int x3, .int c5]) (S := [.ref 1]) at_32 rfl (hw _ m_10) (hw _ m_11) (hw _ m_12) (hw _ m_9) hy2 (CS.frame (ro := 1) (H := ([cI a] ++ [cO vs0])) (as := [.ref 1, .int x3, .int c5]) fr7_f (ok2 l Z a0 hw n x3 c5 _ hc6) rfl (by decide) (fr7_l a) (fr7_c a) (by decide) rfl) rfl (lenOf pd2 rfl) (leb rfl) (leb rfl) (leb rfl) (leb rfl) ?_
 rintro _ _ ⟨_, _, ⟨rfl, rfl⟩, e1_, e2_⟩
 rw [fr7_p a c6] at e2_
 subst e1_ e2_
 show WLAW l Z n0 (PLAW r) 25 828 35 (vR 0 :: vI x3 :: vU :: vU :: vU :: vU :: vU :: vU :: vU :: vU :: vU :: vU :: vU :: vU :: vU :: vU :: vU :: vU :: vU :: vU :: vU :: vU :: vU :: vU :: vU :: vU :: vU :: vU :: vU :: vU :: vU :: vU :: []) [.ref 1] ([cI a] ++ Hb 1 c6)
 refine WP.astoreN (L' := (vR 0 :: vI x3 :: vR 1 :: vU :: vU :: vU :: vU :: vU :: vU :: vU :: vU :: vU :: vU :: vU :: vU :: vU :: vU :: vU :: vU :: vU :: vU :: vU :: vU :: vU :: vU :: vU :: vU :: vU :: vU :: vU :: vU :: vU :: [])) at_35 (leb rfl) rfl ?_
 refine WP.lconst (0 : Int64) at_36 rfl ?_
 refine WP.lstoreN (L' := (vR 0 :: vI x3 :: vR 1 :: vJ (0 : Int64) :: vS :: vU :: vU :: vU :: vU :: vU :: vU :: vU :: vU :: vU :: vU :: vU :: vU :: vU :: vU :: vU :: vU :: vU :: vU :: vU :: vU :: vU :: vU :: vU :: vU :: vU :: vU :: vU :: [])) at_37 (leb rfl) rfl ?_
 refine WP.lconst (0 : Int64) at_38 rfl ?_
 refine WP.lstore (L' := (vR 0 :: vI x3 :: vR 1 :: vJ (0 : Int64) :: vS :: vJ (0 : Int64) :: vS :: vU :: vU :: vU :: vU :: vU :: vU :: vU :: vU :: vU :: vU :: vU :: vU :: vU :: vU :: vU :: vU :: vU :: vU :: vU :: vU :: vU :: vU :: vU :: vU :: vU :: [])) at_39 (leb rfl) rfl ?_
 refine WP.lconst (0 : Int64) at_41 rfl ?_
 refine WP.lstore (L' := (vR 0 :: vI x3 :: vR 1 :: vJ (0 : Int64) :: vS :: vJ (0 : Int64) :: vS :: vJ (0 : Int64) :: vS :: vU :: vU :: vU :: vU :: vU :: vU :: vU :: vU :: vU :: vU :: vU :: vU :: vU :: vU :: vU :: vU :: vU :: vU :: vU :: vU :: vU :: vU :: vU :: [])) at_42 (leb rfl) rfl ?_
 refine WP.aloadN at_44 rfl ?_
 refine WP.arraylength (i := 0) (xs := a) at_45 rfl ?_
 refine WP.iconst (2 : Int32) at_46 rfl ?_
 rcases ite_e h with ⟨hc7, h⟩ | ⟨hc7, h⟩
 ·
  refine WP.icmpN at_47 (XT.ii_le_f hc7) ?_
  refine WP.aloadN at_50 rfl ?_
  refine WP.arraylength (i := 0) (xs := a) at_51 rfl ?_
  refine WP.iconst (2 : Int32) at_52 rfl ?_
  refine WP.isub at_53 ?_
  refine WP.iconst (3 : Int32) at_54 rfl ?_
  refine WP.iadd at_55 ?_
  refine WP.iconst (4 : Int32) at_56 rfl ?_
  refine WP.idiv at_57 (by decide) ?_
  refine WP.goto (pc' := 62) at_58 (by decide) rfl ?_
  exact WP.weak (L' := (vR 0 :: vI x3 :: vR 1 :: vJ (0 : Int64) :: vS :: vJ (0 : Int64) :: vS :: vJ (0 : Int64) :: vS :: vU :: vU :: vU :: vU :: vU :: vU :: vU :: vU :: vU :: vU :: vU :: vU :: vU :: vU :: vU :: vU :: vU :: vU :: vU :: vU :: vU :: vU :: vU :: [])) ⟨rfl, rfl, rfl, rfl, rfl, rfl, rfl, rfl, rfl, trivial⟩ (okLAW_62 l Z a0 hw n0 n x3 (0 : Int64) (0 : Int64) (0 : Int64) (((a.length.toInt32 - (2 : Int32)) + (3 : Int32)) / (4 : Int32)) a c6 _ h)
 ·
  refine WP.icmpY (pc' := 61) at_47 (XT.ii_le_t hc7) (by decide) rfl ?_
  refine WP.iconst (0 : Int32) at_61 rfl ?_
  exact WP.weak (L' := (vR 0 :: vI x3 :: vR 1 :: vJ (0 : Int64) :: vS :: vJ (0 : Int64) :: vS :: vJ (0 : Int64) :: vS :: vU :: vU :: vU :: vU :: vU :: vU :: vU :: vU :: vU :: vU :: vU :: vU :: vU :: vU :: vU :: vU :: vU :: vU :: vU :: vU :: vU :: vU :: vU :: [])) ⟨rfl, rfl, rfl, rfl, rfl, rfl, rfl, rfl, rfl, trivial⟩ (okLAW_62 l Z a0 hw n0 n x3 (0 : Int64) (0 : Int64) (0 : Int64) (0 : Int32) a c6 _ h)
/-! a call that comes to an end, and what it leaves -/
def own_Ok {α : Type} (f : Nat → Option α) (P : α → Prop) : Prop := ∃ r, Ev f r ∧ P r
theorem own_Ok.step {α : Type} {f g : Nat → Option α} {P : α → Prop} (e : ∀ n, f (n + 1) = g n) (h : own_Ok g P) : own_Ok f P := by
  obtain ⟨r, h1, h2⟩ := h
  exact ⟨r, Ev.step e h1, h2⟩
theorem own_Ok.congr {α : Type} {f g : Nat → Option α} {P : α → Prop} (e : ∀ n, f n = g n) (h : own_Ok g P) : own_Ok f P := by
  obtain ⟨r, h1, h2⟩ := h
  exact ⟨r, Ev.congr e h1, h2⟩
theorem own_Ok.ret {α : Type} {r : α} {P : α → Prop} (h : P r) : own_Ok (fun _ => some r) P := ⟨r, Ev.const rfl, h⟩
theorem own_Ok.mono {α : Type} {f : Nat → Option α} {P Q : α → Prop} (h : own_Ok f P) (k : ∀ r, P r → Q r) : own_Ok f Q := by
  obtain ⟨r, h1, h2⟩ := h
  exact ⟨r, h1, k r h2⟩
theorem own_Ok.bind {α β : Type} {f : Nat → Option β} {g : Nat → β → Option α} {Q : β → Prop} {P : α → Prop} (h : own_Ok f Q) (k : ∀ c, Q c → own_Ok (fun n => g n c) P) : own_Ok (fun n => (f n).bind (g n)) P := by
  obtain ⟨c, h1, h2⟩ := h
  obtain ⟨r, k1, k2⟩ := k c h2
  exact ⟨r, Ev.bind h1 k1, k2⟩
theorem own_Ok.ite {α : Type} {c : Prop} [Decidable c] {f g : Nat → Option α} {P : α → Prop} (h : c → own_Ok f P) (k : ¬ c → own_Ok g P) : own_Ok (fun n => if c then f n else g n) P := by
  by_cases q : c
  · exact own_Ok.congr (fun n => if_pos q) (h q)
  · exact own_Ok.congr (fun n => if_neg q) (k q)
theorem own_Ok.some_bind {α β : Type} {x : β} {g : Nat → β → Option α} {P : α → Prop} (h : own_Ok (fun n => g n x) P) : own_Ok (fun n => (some x).bind (g n)) P := own_Ok.congr (fun _ => rfl) h

/-! the cells of the arrays -/
def own_lA : List Nat := [8, 8, 32, 32, 16, 16, 16, 64, 64, 64, 64, 16, 16, 8]
def own_lB : List Nat := [16, 16, 16, 16, 16, 16, 16, 128, 128, 8]
def own_Sh (s : St) : Prop := (∀ f, (gA s f).length = own_lA.getD f 0) ∧ ∀ f, (gB s f).length = own_lB.getD f 0
def own_A (s : St) (f k : Nat) : Int32 := (gA s f).getD k 0
def own_Bv (s : St) (f k : Nat) : Int64 := (gB s f).getD k 0
def own_u {α : Type} (a : Nat → Nat → α) (f k : Nat) (x : α) (g j : Nat) : α := if g = f ∧ j = k then x else a g j
theorem own_u0 {α : Type} (a : Nat → Nat → α) (f k : Nat) (x : α) : own_u a f k x f k = x := if_pos ⟨rfl, rfl⟩
theorem own_u1 {α : Type} (a : Nat → Nat → α) {f g : Nat} (k : Nat) (x : α) (j : Nat) (h : g ≠ f) : own_u a f k x g j = a g j := if_neg fun q => h q.1
theorem own_u2 {α : Type} (a : Nat → Nat → α) {k j : Nat} (f : Nat) (x : α) (g : Nat) (h : j ≠ k) : own_u a f k x g j = a g j := if_neg fun q => h q.2
theorem own_ShA {s : St} (h : own_Sh s) (f k : Nat) (x : Int32) : own_Sh (sA s f ((gA s f).set k x)) := by
  refine ⟨fun g => ?_, h.2⟩
  rw [gA_sA]
  split
  · rename_i e; rw [List.length_set, e]; exact h.1 f
  · exact h.1 g
theorem own_ShB {s : St} (h : own_Sh s) (f k : Nat) (x : Int64) : own_Sh (sB s f ((gB s f).set k x)) := by
  refine ⟨h.1, fun g => ?_⟩
  rw [gB_sB]
  split
  · rename_i e; rw [List.length_set, e]; exact h.2 f
  · exact h.2 g
theorem own_AwA {s : St} (f k : Nat) (x : Int32) (hk : k < (gA s f).length) : own_A (sA s f ((gA s f).set k x)) = own_u (own_A s) f k x := by
  funext g j
  unfold own_A own_u
  rw [gA_sA]
  by_cases c : g = f
  · rw [if_pos c]
    by_cases d : j = k
    · rw [if_pos ⟨c, d⟩, d, List.getD_eq_getElem?_getD, get_set_self _ hk]; rfl
    · rw [if_neg fun q => d q.2, List.getD_eq_getElem?_getD, get_set_ne _ (Ne.symm d), c]; exact List.getD_eq_getElem?_getD.symm
  · rw [if_neg c, if_neg fun q => c q.1]
theorem own_BwB {s : St} (f k : Nat) (x : Int64) (hk : k < (gB s f).length) : own_Bv (sB s f ((gB s f).set k x)) = own_u (own_Bv s) f k x := by
  funext g j
  unfold own_Bv own_u
  rw [gB_sB]
  by_cases c : g = f
  · rw [if_pos c]
    by_cases d : j = k
    · rw [if_pos ⟨c, d⟩, d, List.getD_eq_getElem?_getD, get_set_self _ hk]; rfl
    · rw [if_neg fun q => d q.2, List.getD_eq_getElem?_getD, get_set_ne _ (Ne.symm d), c]; exact List.getD_eq_getElem?_getD.symm
  · rw [if_neg c, if_neg fun q => c q.1]
theorem own_rdA {s : St} (h : own_Sh s) {f k : Nat} {i : Int32} (hi : i.toInt = k) (hk : k < own_lA.getD f 0) : rd (gA s f) i = some (own_A s f k) := by
  have hl := h.1 f
  have hx : (gA s f)[k]? = some ((gA s f)[k]'(by omega)) := List.getElem?_eq_getElem _
  rw [rd_of hi hx]
  unfold own_A
  rw [List.getD_eq_getElem?_getD, hx]; rfl
theorem own_rdB {s : St} (h : own_Sh s) {f k : Nat} {i : Int32} (hi : i.toInt = k) (hk : k < own_lB.getD f 0) : rd (gB s f) i = some (own_Bv s f k) := by
  have hl := h.2 f
  have hx : (gB s f)[k]? = some ((gB s f)[k]'(by omega)) := List.getElem?_eq_getElem _
  rw [rd_of hi hx]
  unfold own_Bv
  rw [List.getD_eq_getElem?_getD, hx]; rfl
/-- t is s with a cell written -/
def own_M (s : St) (a : Nat → Nat → Int32) (b : Nat → Nat → Int64) (t : St) : Prop := own_Sh t ∧ (∀ j, gI t j = gI s j) ∧ own_A t = a ∧ own_Bv t = b
theorem own_wrA {s : St} (h : own_Sh s) {f k : Nat} {i : Int32} (x : Int32) (hi : i.toInt = k) (hk : k < own_lA.getD f 0) : ∃ t, wrA s f i x = some t ∧ own_M s (own_u (own_A s) f k x) (own_Bv s) t := by
  have hl := h.1 f
  exact ⟨_, wrA_of x hi (by omega), own_ShA h f k x, fun _ => rfl, own_AwA f k x (by omega), rfl⟩
theorem own_wrB {s : St} (h : own_Sh s) {f k : Nat} {i : Int32} (x : Int64) (hi : i.toInt = k) (hk : k < own_lB.getD f 0) : ∃ t, wrB s f i x = some t ∧ own_M s (own_A s) (own_u (own_Bv s) f k x) t := by
  have hl := h.2 f
  exact ⟨_, wrB_of x hi (by omega), own_ShB h f k x, fun _ => rfl, rfl, own_BwB f k x (by omega)⟩
theorem own_Ok.rA {α : Type} {s : St} {f : Nat} {i : Int32} {G : Nat → Int32 → Option α} {P : α → Prop} (h : own_Sh s) (k : Nat) (hi : i.toInt = k) (hk : k < own_lA.getD f 0) (q : own_Ok (fun n => G n (own_A s f k)) P) : own_Ok (fun n => (rd (gA s f) i).bind (G n)) P := by
  rw [own_rdA h hi hk]; exact own_Ok.some_bind q
theorem own_Ok.rB {α : Type} {s : St} {f : Nat} {i : Int32} {G : Nat → Int64 → Option α} {P : α → Prop} (h : own_Sh s) (k : Nat) (hi : i.toInt = k) (hk : k < own_lB.getD f 0) (q : own_Ok (fun n => G n (own_Bv s f k)) P) : own_Ok (fun n => (rd (gB s f) i).bind (G n)) P := by
  rw [own_rdB h hi hk]; exact own_Ok.some_bind q
theorem own_Ok.wA {α : Type} {s : St} {f : Nat} {i : Int32} {x : Int32} {G : Nat → St → Option α} {P : α → Prop} (h : own_Sh s) (k : Nat) (hi : i.toInt = k) (hk : k < own_lA.getD f 0) (q : ∀ t, own_M s (own_u (own_A s) f k x) (own_Bv s) t → own_Ok (fun n => G n t) P) : own_Ok (fun n => (wrA s f i x).bind (G n)) P := by
  obtain ⟨t, e, ht⟩ := own_wrA h x hi hk
  rw [e]; exact own_Ok.some_bind (q t ht)
theorem own_Ok.wB {α : Type} {s : St} {f : Nat} {i : Int32} {x : Int64} {G : Nat → St → Option α} {P : α → Prop} (h : own_Sh s) (k : Nat) (hi : i.toInt = k) (hk : k < own_lB.getD f 0) (q : ∀ t, own_M s (own_A s) (own_u (own_Bv s) f k x) t → own_Ok (fun n => G n t) P) : own_Ok (fun n => (wrB s f i x).bind (G n)) P := by
  obtain ⟨t, e, ht⟩ := own_wrB h x hi hk
  rw [e]; exact own_Ok.some_bind (q t ht)
theorem own_M.trans {s t u : St} {a a' : Nat → Nat → Int32} {b b' : Nat → Nat → Int64} (h : own_M s a b t) (k : own_M t a' b' u) : own_M s a' b' u := ⟨k.1, fun j => (k.2.1 j).trans (h.2.1 j), k.2.2⟩
theorem own_x (a b c : Nat) (h : c * b + a < 2147483648) (hb : b < 2147483648) : (Int32.ofNat c * (OfNat.ofNat b : Int32) + Int32.ofNat a).toInt = ((c * b + a : Nat) : Int) := by
  have e : Int32.ofNat c * (OfNat.ofNat b : Int32) + Int32.ofNat a = Int32.ofNat (c * b + a) := by
    rw [Int32.ofNat_add, Int32.ofNat_mul]; rfl
  rw [e]; exact ofN_int h
/-! tiers -/
def own_mx (a : Nat → Nat → Int32) (p : Nat) : Nat → Int
  | 0 => 0
  | i + 1 => max (own_mx a p i) (a 2 (p * 4 + i)).toInt
def own_Tier (a : Nat → Nat → Int32) : Prop := ∀ i, i < 32 → (0 ≤ (a 2 i).toInt ∧ (a 2 i).toInt ≤ 1000000) ∧ 0 ≤ (a 3 i).toInt ∧ (a 3 i).toInt ≤ 100000000
theorem own_mxb {a : Nat → Nat → Int32} (h : own_Tier a) {p : Nat} (hp : p < 8) : ∀ i, i ≤ 4 → 0 ≤ own_mx a p i ∧ own_mx a p i ≤ 1000000
  | 0, _ => by unfold own_mx; omega
  | i + 1, hi => by
    have h1 := own_mxb h hp i (by omega)
    have h2 := (h (p * 4 + i) (by omega)).1
    unfold own_mx; omega
def own_eb (a : Nat → Nat → Int32) (p t : Nat) : Int := if t < 3 then own_mx a p (t + 1) else 1000000
theorem own_ebb {a : Nat → Nat → Int32} (h : own_Tier a) {p : Nat} (hp : p < 8) (t : Nat) : 0 ≤ own_eb a p t ∧ own_eb a p t ≤ 1000000 := by
  unfold own_eb
  split
  · exact own_mxb h hp _ (by omega)
  · omega
theorem own_ebm {a : Nat → Nat → Int32} (h : own_Tier a) {p : Nat} (hp : p < 8) (t : Nat) : own_eb a p t ≤ own_eb a p (t + 1) := by
  unfold own_eb
  by_cases c : t + 1 < 3
  · rw [if_pos c, if_pos (by omega)]
    show _ ≤ max (own_mx a p (t + 1)) _
    omega
  · rw [if_neg c]
    split
    · exact (own_mxb h hp _ (by omega)).2
    · omega
theorem own_eff {s : St} (hS : own_Sh s) (p t : Nat) (hp : p < 8) (ht : t < 4) : own_Ok (fun n => f_effBound n (Int32.ofNat p) (Int32.ofNat t) s) (fun r => r.toInt = own_eb (own_A s) p t) := by
  have key : ∀ k i (v : Int64), i + k = 3 → i ≤ t + 1 → t < 3 → v.toInt = own_mx (own_A s) p i → own_Ok (fun n => f_effBound_20 n (Int32.ofNat p) (Int32.ofNat t) v (Int32.ofNat i) s) (fun r => r.toInt = own_eb (own_A s) p t) := by
    intro k
    induction k with
    | zero =>
      intro i v hi h1 h2 hv
      obtain rfl : i = 3 := by omega
      obtain rfl : t = 2 := by omega
      refine own_Ok.step (g := fun n => g_effBound_20 (f_effBound_20 n) n (Int32.ofNat p) (Int32.ofNat 2) v (Int32.ofNat 3) s) (fun n => rfl) ?_
      unfold g_effBound_20 f_effBound_65
      exact own_Ok.ite (fun q => absurd q (by decide)) fun _ => own_Ok.ret hv
    | succ k ih =>
      intro i v hi h1 h2 hv
      refine own_Ok.step (g := fun n => g_effBound_20 (f_effBound_20 n) n (Int32.ofNat p) (Int32.ofNat t) v (Int32.ofNat i) s) (fun n => rfl) ?_
      unfold g_effBound_20 f_effBound_65 f_effBound_59 lt
      refine own_Ok.ite (fun _ => ?_) fun q => absurd ((ofN_ltL (m := 3) (by omega) (by decide)).mpr (by omega)) q
      refine own_Ok.ite (fun q => ?_) fun q => ?_
      · have q := (ofN_lt (by omega) (by omega)).mp q
        obtain rfl : i = t + 1 := by omega
        refine own_Ok.ret ?_
        unfold own_eb; rw [if_pos h2]; exact hv
      · have q : ¬ t < i := fun h => q ((ofN_lt (by omega) (by omega)).mpr h)
        refine own_Ok.rA (f := 2) hS (p * 4 + i) (own_x i 4 p (by omega) (by decide)) (by show _ < 32; omega) ?_
        have e := Int32.toInt_toInt64 (own_A s 2 (p * 4 + i))
        refine own_Ok.ite (fun c => ?_) fun c => ?_
        · rw [x64_lt, e, hv] at c
          rw [ofN_succ]
          refine ih (i + 1) _ (by omega) (by omega) h2 ?_
          show _ = max (own_mx (own_A s) p i) _
          rw [e]; omega
        · rw [x64_lt, e, hv] at c
          rw [ofN_succ]
          refine ih (i + 1) _ (by omega) (by omega) h2 ?_
          show _ = max (own_mx (own_A s) p i) _
          rw [hv]; omega
  unfold f_effBound
  refine own_Ok.ite (fun q => absurd q (ofN_nn (by omega))) fun _ => ?_
  refine own_Ok.ite (fun q => ?_) fun q => ?_
  · have q := (ofN_ltL (m := 3) (by omega) (by decide)).mp q
    exact key 3 0 0 rfl (by omega) q rfl
  · have q : ¬ t < 3 := fun h => q ((ofN_ltL (m := 3) (by omega) (by decide)).mpr h)
    refine own_Ok.ret ?_
    unfold own_eb; rw [if_neg q]; rfl
theorem own_mB {x y : Int64} {A B : Int} (hx : 0 ≤ x.toInt ∧ x.toInt ≤ A) (hy : 0 ≤ y.toInt ∧ y.toInt ≤ B) (h : A * B < 9223372036854775808) : (x * y).toInt = x.toInt * y.toInt ∧ 0 ≤ x.toInt * y.toInt ∧ x.toInt * y.toInt ≤ A * B := by
  have h1 : 0 ≤ x.toInt * y.toInt := Int.mul_nonneg hx.1 hy.1
  have h2 : x.toInt * y.toInt ≤ A * B := Int.mul_le_mul hx.2 hy.2 hy.1 (Int.le_trans hx.1 hx.2)
  exact ⟨x64_mul (by omega) (by omega), h1, h2⟩
theorem own_dB {x y : Int64} (hx : 0 ≤ x.toInt) (hy : 0 < y.toInt) : (x / y).toInt = x.toInt / y.toInt := by
  have : y ≠ -1 := fun e => by
    rw [e] at hy
    have : (-1 : Int64).toInt = -1 := by decide
    omega
  rw [Int64.toInt_div_of_ne_right _ _ this, Int.tdiv_eq_ediv_of_nonneg hx]
theorem own_vol {s : St} (hS : own_Sh s) (hT : own_Tier (own_A s)) (p : Nat) (hp : p < 8) (q : Int64) (hq : 0 ≤ q.toInt ∧ q.toInt ≤ 1000000) : own_Ok (fun n => f_chargeVolume n (Int32.ofNat p) q s) (fun r => 0 ≤ r.toInt ∧ r.toInt ≤ 100000000000000) := by
  have key : ∀ k i, i + k = 4 → own_Ok (fun n => f_chargeVolume_3 n (Int32.ofNat p) q (Int32.ofNat i) s) (fun r => 0 ≤ r.toInt ∧ r.toInt ≤ 100000000000000) := by
    intro k
    induction k with
    | zero =>
      intro i hi
      obtain rfl : i = 4 := by omega
      refine own_Ok.step (g := fun n => g_chargeVolume_3 (f_chargeVolume_3 n) n (Int32.ofNat p) q (Int32.ofNat 4) s) (fun n => rfl) ?_
      unfold g_chargeVolume_3
      exact own_Ok.ite (fun q => absurd q (by decide)) fun _ => own_Ok.ret (by decide)
    | succ k ih =>
      intro i hi
      refine own_Ok.step (g := fun n => g_chargeVolume_3 (f_chargeVolume_3 n) n (Int32.ofNat p) q (Int32.ofNat i) s) (fun n => rfl) ?_
      unfold g_chargeVolume_3 lt
      refine own_Ok.ite (fun _ => ?_) fun q => absurd ((ofN_ltL (m := 4) (by omega) (by decide)).mpr (by omega)) q
      refine own_Ok.bind (own_eff hS p i hp (by omega)) fun c hc => ?_
      refine own_Ok.ite (fun _ => ?_) fun _ => ?_
      · rw [ofN_succ]; exact ih (i + 1) (by omega)
      · refine own_Ok.rA (f := 3) hS (p * 4 + i) (own_x i 4 p (by omega) (by decide)) (by show _ < 32; omega) ?_
        refine own_Ok.ret ?_
        have h := (hT (p * 4 + i) (by omega)).2
        have e := Int32.toInt_toInt64 (own_A s 3 (p * 4 + i))
        have m := own_mB (x := q) (y := (own_A s 3 (p * 4 + i)).toInt64) (A := 1000000) (B := 100000000) hq (by rw [e]; exact h) (by decide)
        rw [m.1]; exact ⟨m.2.1, m.2.2⟩
  unfold f_chargeVolume
  exact key 4 0 rfl
theorem own_g1 {tot prv m w : Int} (h0 : 0 ≤ tot) (h1 : tot ≤ prv * 100000000) (hm : prv ≤ m) (hw0 : 0 ≤ (m - prv) * w) (hw1 : (m - prv) * w ≤ (m - prv) * 100000000) : 0 ≤ tot + (m - prv) * w ∧ tot + (m - prv) * w ≤ m * 100000000 := by
  generalize (m - prv) * w = x at *
  omega
theorem own_grd {s : St} (hS : own_Sh s) (hT : own_Tier (own_A s)) (p : Nat) (hp : p < 8) (q : Int64) (hq : 0 ≤ q.toInt ∧ q.toInt ≤ 1000000) : own_Ok (fun n => f_chargeGraduated n (Int32.ofNat p) q s) (fun r => 0 ≤ r.toInt ∧ r.toInt ≤ 100000000000000) := by
  have key : ∀ k i (tot prv : Int64), i + k = 4 → 0 ≤ prv.toInt → prv.toInt ≤ q.toInt → prv.toInt ≤ own_eb (own_A s) p i → 0 ≤ tot.toInt → tot.toInt ≤ prv.toInt * 100000000 → own_Ok (fun n => f_chargeGraduated_9 n (Int32.ofNat p) q tot prv (Int32.ofNat i) s) (fun r => 0 ≤ r.toInt ∧ r.toInt ≤ 100000000000000) := by
    intro k
    induction k with
    | zero =>
      intro i tot prv hi h1 h2 h3 h4 h5
      obtain rfl : i = 4 := by omega
      refine own_Ok.step (g := fun n => g_chargeGraduated_9 (f_chargeGraduated_9 n) n (Int32.ofNat p) q tot prv (Int32.ofNat 4) s) (fun n => rfl) ?_
      unfold g_chargeGraduated_9
      exact own_Ok.ite (fun q => absurd q (by decide)) fun _ => own_Ok.ret (by omega)
    | succ k ih =>
      intro i tot prv hi h1 h2 h3 h4 h5
      refine own_Ok.step (g := fun n => g_chargeGraduated_9 (f_chargeGraduated_9 n) n (Int32.ofNat p) q tot prv (Int32.ofNat i) s) (fun n => rfl) ?_
      have go : ∀ m : Int64, prv.toInt ≤ m.toInt → m.toInt ≤ q.toInt → m.toInt ≤ own_eb (own_A s) p i → own_Ok (fun n => f_chargeGraduated_37 (f_chargeGraduated_9 n) n (Int32.ofNat p) q tot prv (Int32.ofNat i) m s) (fun r => 0 ≤ r.toInt ∧ r.toInt ≤ 100000000000000) := fun m m1 m2 m3 => by
        unfold f_chargeGraduated_37 lt
        refine own_Ok.rA (f := 3) hS (p * 4 + i) (own_x i 4 p (by omega) (by decide)) (by show _ < 32; omega) ?_
        have h := (hT (p * 4 + i) (by omega)).2
        have e := Int32.toInt_toInt64 (own_A s 3 (p * 4 + i))
        rw [← e] at h
        generalize (own_A s 3 (p * 4 + i)).toInt64 = w at h
        have d : (m - prv).toInt = m.toInt - prv.toInt := x64_sub (by omega) (by omega)
        have mm := own_mB (x := m - prv) (y := w) (A := 1000000) (B := 100000000) (by rw [d]; omega) h (by decide)
        rw [d] at mm
        have w1 : (m.toInt - prv.toInt) * w.toInt ≤ (m.toInt - prv.toInt) * 100000000 := Int.mul_le_mul_of_nonneg_left h.2 (by omega)
        have g := own_g1 h4 h5 m1 mm.2.1 w1
        have e2 : (tot + (m - prv) * w).toInt = tot.toInt + (m.toInt - prv.toInt) * w.toInt := by
          rw [x64_add (by rw [mm.1]; omega) (by rw [mm.1]; omega), mm.1]
        dsimp only
        rw [ofN_succ]
        refine ih (i + 1) _ _ (by omega) (by omega) m2 (Int.le_trans m3 (own_ebm hT hp i)) ?_ ?_
        · rw [e2]; exact g.1
        · rw [e2]; exact g.2
      unfold g_chargeGraduated_9
      refine own_Ok.ite (fun _ => ?_) fun q => absurd ((ofN_ltL (m := 4) (by omega) (by decide)).mpr (by omega)) q
      refine own_Ok.bind (own_eff hS p i hp (by omega)) fun c hc => ?_
      refine own_Ok.ite (fun z => ?_) fun z => ?_
      · rw [x64_lt] at z
        exact go q h2 (Int.le_refl _) (by omega)
      · rw [x64_lt] at z
        exact go c (by omega) (by omega) (by omega)
  unfold f_chargeGraduated
  exact key 4 0 0 0 rfl (Int.le_refl _) hq.1 (own_ebb hT hp 0).1 (Int.le_refl _) (by decide)
theorem own_chg {s : St} (hS : own_Sh s) (hT : own_Tier (own_A s)) (p : Nat) (hp : p < 8) (q : Int64) (hq : 0 ≤ q.toInt ∧ q.toInt ≤ 1000000) : own_Ok (fun n => f_charge n (Int32.ofNat p) q s) (fun r => 0 ≤ r.toInt ∧ r.toInt ≤ 100000000000000) := by
  unfold f_charge
  refine own_Ok.rA (f := 1) hS p (ofN_int (by omega)) (by show _ < 8; omega) ?_
  refine own_Ok.ite (fun _ => ?_) fun _ => ?_
  · exact own_Ok.bind (own_vol hS hT p hp q hq) fun c hc => own_Ok.ret hc
  · exact own_Ok.bind (own_grd hS hT p hp q hq) fun c hc => own_Ok.ret hc

/-! the lines of an invoice -/
def own_sum (g : Nat → Int) : Nat → Int
  | 0 => 0
  | i + 1 => own_sum g i + g i
theorem own_sum_congr {g h : Nat → Int} : ∀ {n : Nat}, (∀ i, i < n → g i = h i) → own_sum g n = own_sum h n
  | 0, _ => rfl
  | n + 1, e => by
    show own_sum g n + g n = own_sum h n + h n
    rw [own_sum_congr fun i hi => e i (by omega), e n (by omega)]
theorem own_sum0 {g : Nat → Int} {m : Nat} : ∀ {k : Nat}, (∀ i, m ≤ i → i < m + k → g i = 0) → own_sum g (m + k) = own_sum g m
  | 0, _ => rfl
  | k + 1, e => by
    show own_sum g (m + k) + g (m + k) = _
    rw [own_sum0 fun i h1 h2 => e i h1 (by omega), e (m + k) (by omega) (by omega), Int.add_zero]
theorem own_sumb {g : Nat → Int} {C : Int} : ∀ {n : Nat}, (∀ i, i < n → 0 ≤ g i ∧ g i ≤ C) → 0 ≤ own_sum g n ∧ own_sum g n ≤ n * C
  | 0, _ => ⟨Int.le_refl _, by show (0 : Int) ≤ ((0 : Nat) : Int) * C; rw [Int.natCast_zero, Int.zero_mul]; exact Int.le_refl _⟩
  | n + 1, e => by
    have h1 := own_sumb (n := n) fun i hi => e i (by omega)
    have h2 := e n (by omega)
    have h3 : ((n + 1 : Nat) : Int) * C = n * C + C := by rw [Int.natCast_add, Int.add_mul]; show _ = _; rw [Int.natCast_one, Int.one_mul]
    show 0 ≤ own_sum g n + g n ∧ own_sum g n + g n ≤ _
    rw [h3]; omega
def own_L (s : St) (c i : Nat) : Int := (own_Bv s 7 (c * 8 + i)).toInt
def own_X (s : St) (c i : Nat) : Int := (own_Bv s 8 (c * 8 + i)).toInt
/-- only lines of the customer c differ -/
def own_FB (c : Nat) (s t : St) : Prop := own_Sh t ∧ (∀ j, gI t j = gI s j) ∧ own_A t = own_A s ∧ ∀ g j, ¬ ((g = 7 ∨ g = 8) ∧ c * 8 ≤ j ∧ j < c * 8 + 8) → own_Bv t g j = own_Bv s g j
theorem own_FB.refl {c : Nat} {s : St} (h : own_Sh s) : own_FB c s s := ⟨h, fun _ => rfl, rfl, fun _ _ _ => rfl⟩
theorem own_FB.w {c : Nat} {s t u : St} (h : own_FB c s t) {f k : Nat} {x : Int64} (m : own_M t (own_A t) (own_u (own_Bv t) f k x) u) (hf : f = 7 ∨ f = 8) (h1 : c * 8 ≤ k) (h2 : k < c * 8 + 8) : own_FB c s u := by
  refine ⟨m.1, fun j => (m.2.1 j).trans (h.2.1 j), m.2.2.1.trans h.2.2.1, fun g j q => ?_⟩
  rw [m.2.2.2]
  unfold own_u
  rw [if_neg]
  · exact h.2.2.2 g j q
  · rintro ⟨rfl, rfl⟩; exact q ⟨hf, h1, h2⟩
/-- what a segment costs -/
def own_fee (a : Nat → Nat → Int32) (D : Int) (q : Nat) : Int := (a 0 (a 9 q).toInt.toNat).toInt * 1000000 * (a 8 q).toInt / D - (a 0 (a 9 q).toInt.toNat).toInt * 1000000 * (a 7 q).toInt / D
def own_Fees (a : Nat → Nat → Int32) : Prop := ∀ p, p < 8 → 0 ≤ (a 0 p).toInt ∧ (a 0 p).toInt ≤ 1000000
/-- a segment that can be billed -/
def own_Sg (a : Nat → Nat → Int32) (D : Int) (q : Nat) : Prop := (0 ≤ (a 9 q).toInt ∧ (a 9 q).toInt ≤ 7) ∧ (0 ≤ (a 10 q).toInt ∧ (a 10 q).toInt ≤ 1000000) ∧ 0 ≤ (a 7 q).toInt ∧ (a 7 q).toInt ≤ (a 8 q).toInt ∧ (a 8 q).toInt ≤ D
theorem own_feeb {F st e D : Int} (hF : 0 ≤ F ∧ F ≤ 1000000000000) (h0 : 0 ≤ st) (h1 : st ≤ e) (h2 : e ≤ D) (hD : 0 < D) : 0 ≤ F * e / D - F * st / D ∧ F * e / D - F * st / D ≤ 1000000000000 ∧ 0 ≤ F * st ∧ F * st ≤ F * e ∧ F * e ≤ F * D ∧ 0 ≤ F * e / D ∧ F * e / D ≤ F ∧ 0 ≤ F * st / D := by
  have a1 : 0 ≤ F * st := Int.mul_nonneg hF.1 h0
  have a2 : F * st ≤ F * e := Int.mul_le_mul_of_nonneg_left h1 hF.1
  have a3 : F * e ≤ F * D := Int.mul_le_mul_of_nonneg_left h2 hF.1
  have b1 : 0 ≤ F * st / D := Int.ediv_nonneg a1 (by omega)
  have b2 : F * st / D ≤ F * e / D := Int.ediv_le_ediv hD a2
  have b3 : F * e / D ≤ F * D / D := Int.ediv_le_ediv hD a3
  rw [Int.mul_ediv_cancel _ (by omega)] at b3
  generalize F * e / D = x at *
  generalize F * st / D = y at *
  omega
def own_FP (c n : Nat) (s : St) (r : Int64 × St) : Prop := own_FB c s r.2 ∧ (∀ k, k < n → own_L r.2 c (2 * k) = own_fee (own_A s) (gI s 0).toInt (c * 4 + k)) ∧ (∀ i, i < 8 → 0 ≤ own_L r.2 c i ∧ own_L r.2 c i ≤ 100000000000000) ∧ (∀ i, 2 * n ≤ i → i < 8 → own_L r.2 c i = 0 ∧ own_X r.2 c i = 0) ∧ r.1.toInt = own_sum (own_L r.2 c) 8
theorem own_x82 (c i : Nat) (h : c * 8 + 2 * i < 1000) : (Int32.ofNat c * 8 + 2 * Int32.ofNat i : Int32) = Int32.ofNat (c * 8 + 2 * i) := by
  rw [Int32.ofNat_add, Int32.ofNat_mul, Int32.ofNat_mul]; rfl
theorem own_fill {s : St} (hS : own_Sh s) (hT : own_Tier (own_A s)) (hF : own_Fees (own_A s)) (hD : 7 ≤ (gI s 0).toInt ∧ (gI s 0).toInt ≤ 31) (c n : Nat) (hc : c < 16) (hn : n ≤ 4) (hq : ∀ k, k < n → own_Sg (own_A s) (gI s 0).toInt (c * 4 + k)) : own_Ok (fun N => f_fillLines N (Int32.ofNat c) (Int32.ofNat n) s) (own_FP c n s) := by
  have k181 : ∀ k i (acc : Int64) t, i + k = 8 → 2 * n ≤ i → (own_FB c s t ∧ (∀ k, k < n → own_L t c (2 * k) = own_fee (own_A s) (gI s 0).toInt (c * 4 + k)) ∧ (∀ j, j < i → 0 ≤ own_L t c j ∧ own_L t c j ≤ 100000000000000) ∧ (∀ j, 2 * n ≤ j → j < i → own_L t c j = 0 ∧ own_X t c j = 0) ∧ acc.toInt = own_sum (own_L t c) (2 * n)) → own_Ok (fun N => f_fillLines_181 N (Int32.ofNat c * 8) acc (Int32.ofNat i) t) (own_FP c n s) := by
    intro k
    induction k with
    | zero =>
      intro i acc t hi h2 h
      obtain rfl : i = 8 := by omega
      refine own_Ok.step (g := fun N => g_fillLines_181 (f_fillLines_181 N) N (Int32.ofNat c * 8) acc (Int32.ofNat 8) t) (fun n => rfl) ?_
      unfold g_fillLines_181
      refine own_Ok.ite (fun q => absurd q (by decide)) fun _ => own_Ok.ret ⟨h.1, h.2.1, h.2.2.1, h.2.2.2.1, ?_⟩
      obtain ⟨m, hm⟩ : ∃ m, 8 = 2 * n + m := ⟨8 - 2 * n, by omega⟩
      rw [hm, own_sum0 fun i h1 h2 => (h.2.2.2.1 i h1 (by omega)).1]
      exact h.2.2.2.2
    | succ k ih =>
      intro i acc t hi h2 h
      obtain ⟨hB, hf, hb, hz, ha⟩ := h
      refine own_Ok.step (g := fun N => g_fillLines_181 (f_fillLines_181 N) N (Int32.ofNat c * 8) acc (Int32.ofNat i) t) (fun n => rfl) ?_
      unfold g_fillLines_181 lt
      refine own_Ok.ite (fun _ => ?_) fun q => absurd ((ofN_ltL (m := 8) (by omega) (by decide)).mpr (by omega)) q
      refine own_Ok.wB (f := 7) hB.1 (c * 8 + i) (own_x i 8 c (by omega) (by decide)) (by show _ < 128; omega) fun t1 m1 => ?_
      refine own_Ok.wB (f := 8) m1.1 (c * 8 + i) (own_x i 8 c (by omega) (by decide)) (by show _ < 128; omega) fun t2 m2 => ?_
      have B1 := hB.w m1 (Or.inl rfl) (by omega) (by omega)
      rw [m1.2.2.1, m1.2.2.2] at m2
      have eb : own_Bv t2 = own_u (own_u (own_Bv t) 7 (c * 8 + i) 0) 8 (c * 8 + i) 0 := m2.2.2.2
      have m2' : own_M t1 (own_A t1) (own_u (own_Bv t1) 8 (c * 8 + i) 0) t2 := by rw [m1.2.2.1, m1.2.2.2]; exact m2
      have B2 := B1.w m2' (Or.inr rfl) (by omega) (by omega)
      have eL : ∀ j, own_L t2 c j = if j = i then 0 else own_L t c j := fun j => by
        unfold own_L
        rw [eb, own_u1 _ _ _ _ (by decide)]
        by_cases q : j = i
        · rw [if_pos q, q, own_u0]; rfl
        · rw [if_neg q, own_u2 _ _ _ _ (by omega)]
      have eX : ∀ j, own_X t2 c j = if j = i then 0 else own_X t c j := fun j => by
        unfold own_X
        rw [eb]
        by_cases q : j = i
        · rw [if_pos q, q, own_u0]; rfl
        · rw [if_neg q, own_u2 _ _ _ _ (by omega), own_u1 _ _ _ _ (by decide)]
      rw [ofN_succ]
      refine ih (i + 1) acc t2 (by omega) (by omega) ⟨B2, fun k hk => ?_, fun j hj => ?_, fun j h1 h2 => ?_, ?_⟩
      · rw [eL, if_neg (by omega)]; exact hf k hk
      · rw [eL]
        split
        · omega
        · exact hb j (by omega)
      · rw [eL, eX]
        split
        · exact ⟨rfl, rfl⟩
        · exact hz j h1 (by omega)
      · rw [ha]; exact own_sum_congr fun j hj => by rw [eL, if_neg (by omega)]
  have k11 : ∀ k i (acc : Int64) t, i + k = 4 → i ≤ n → (own_FB c s t ∧ (∀ k, k < i → own_L t c (2 * k) = own_fee (own_A s) (gI s 0).toInt (c * 4 + k)) ∧ (∀ j, j < 2 * i → 0 ≤ own_L t c j ∧ own_L t c j ≤ 100000000000000) ∧ acc.toInt = own_sum (own_L t c) (2 * i)) → own_Ok (fun N => f_fillLines_11 N (Int32.ofNat c) (Int32.ofNat n) (Int32.ofNat c * 8) acc (Int32.ofNat i) t) (own_FP c n s) := by
    have fin : ∀ (acc : Int64) t, (own_FB c s t ∧ (∀ k, k < n → own_L t c (2 * k) = own_fee (own_A s) (gI s 0).toInt (c * 4 + k)) ∧ (∀ j, j < 2 * n → 0 ≤ own_L t c j ∧ own_L t c j ≤ 100000000000000) ∧ acc.toInt = own_sum (own_L t c) (2 * n)) → own_Ok (fun N => f_fillLines_176 N (Int32.ofNat n) (Int32.ofNat c * 8) acc t) (own_FP c n s) := fun acc t h => by
      unfold f_fillLines_176 lt
      have e : (2 : Int32) * Int32.ofNat n = Int32.ofNat (2 * n) := (Int32.ofNat_mul 2 n).symm
      rw [e]
      exact k181 (8 - 2 * n) (2 * n) acc t (by omega) (Nat.le_refl _) ⟨h.1, h.2.1, h.2.2.1, fun j h1 h2 => absurd h1 (by omega), h.2.2.2⟩
    intro k
    induction k with
    | zero =>
      intro i acc t hi hin h
      obtain rfl : i = 4 := by omega
      obtain rfl : n = 4 := by omega
      refine own_Ok.step (g := fun N => g_fillLines_11 (f_fillLines_11 N) N (Int32.ofNat c) (Int32.ofNat 4) (Int32.ofNat c * 8) acc (Int32.ofNat 4) t) (fun n => rfl) ?_
      unfold g_fillLines_11
      exact own_Ok.ite (fun q => absurd q (by decide)) fun _ => fin acc t h
    | succ k ih =>
      intro i acc t hi hin h
      refine own_Ok.step (g := fun N => g_fillLines_11 (f_fillLines_11 N) N (Int32.ofNat c) (Int32.ofNat n) (Int32.ofNat c * 8) acc (Int32.ofNat i) t) (fun n => rfl) ?_
      unfold g_fillLines_11 lt
      refine own_Ok.ite (fun _ => ?_) fun q => absurd ((ofN_ltL (m := 4) (by omega) (by decide)).mpr (by omega)) q
      refine own_Ok.ite (fun q => ?_) fun q => ?_
      rotate_left
      · have q : ¬ i < n := fun h => q ((ofN_lt (by omega) (by omega)).mpr h)
        obtain rfl : i = n := by omega
        exact fin acc t h
      have hin := (ofN_lt (by omega) (by omega)).mp q
      obtain ⟨hB, hf, hb, ha⟩ := h
      have hA : own_A t = own_A s := hB.2.2.1
      have h0 : gI t 0 = gI s 0 := hB.2.1 0
      obtain ⟨s9, s10, s7, s78, s8⟩ := hq i hin
      have ix : (Int32.ofNat c * 4 + Int32.ofNat i).toInt = ((c * 4 + i : Nat) : Int) := own_x i 4 c (by omega) (by decide)
      refine own_Ok.rA (f := 9) hB.1 (c * 4 + i) ix (by show _ < 64; omega) ?_
      refine own_Ok.rA (f := 8) hB.1 (c * 4 + i) ix (by show _ < 64; omega) ?_
      have z32 : (0 : Int32).toInt = 0 := by decide
      rw [hA]
      refine own_Ok.ite (fun q => absurd q (by rw [x32_lt]; omega)) fun _ => ?_
      refine own_Ok.rA (f := 8) hB.1 (c * 4 + i) ix (by show _ < 64; omega) ?_
      rw [hA]
      unfold f_fillLines_69 lt
      obtain ⟨p, hp, ep⟩ : ∃ p, p < 8 ∧ own_A s 9 (c * 4 + i) = Int32.ofNat p := ⟨(own_A s 9 (c * 4 + i)).toInt.toNat, by omega, ofN_of (by omega)⟩
      have epn : (own_A s 9 (c * 4 + i)).toInt.toNat = p := by rw [ep, ofN_int (by omega)]; omega
      have fe : own_fee (own_A s) (gI s 0).toInt (c * 4 + i) = (own_A s 0 p).toInt * 1000000 * (own_A s 8 (c * 4 + i)).toInt / (gI s 0).toInt - (own_A s 0 p).toInt * 1000000 * (own_A s 7 (c * 4 + i)).toInt / (gI s 0).toInt := by
        unfold own_fee; rw [epn]
      rw [ep, h0]
      have d64 := Int32.toInt_toInt64 (gI s 0)
      have nd : ¬ (gI s 0).toInt64 = 0 := fun e => by
        rw [e] at d64
        have : (0 : Int64).toInt = 0 := by decide
        omega
      refine own_Ok.rA (f := 0) hB.1 p (ofN_int (by omega)) (by show _ < 8; omega) ?_
      dsimp only
      refine own_Ok.ite (fun q => absurd q nd) fun _ => ?_
      refine own_Ok.rA (f := 7) hB.1 (c * 4 + i) ix (by show _ < 64; omega) ?_
      refine own_Ok.ite (fun q => absurd q nd) fun _ => ?_
      refine own_Ok.rA (f := 10) hB.1 (c * 4 + i) ix (by show _ < 64; omega) ?_
      rw [hA]
      have fb := hF p hp
      -- the fee as a number
      have Fe := own_mB (x := (own_A s 0 p).toInt64) (y := 1000000) (A := 1000000) (B := 1000000) (by rw [Int32.toInt_toInt64]; exact fb) (by decide) (by decide)
      rw [Int32.toInt_toInt64] at Fe
      have mil : (1000000 : Int64).toInt = 1000000 := by decide
      rw [mil] at Fe
      generalize (own_A s 0 p).toInt64 * 1000000 = F at Fe ⊢
      generalize (own_A s 0 p).toInt * 1000000 = Fi at Fe fe
      have fbd := own_feeb (F := Fi) (st := (own_A s 7 (c * 4 + i)).toInt) (e := (own_A s 8 (c * 4 + i)).toInt) (D := (gI s 0).toInt) ⟨Fe.2.1, Fe.2.2⟩ s7 s78 s8 (by omega)
      have M8 := own_mB (x := F) (y := (own_A s 8 (c * 4 + i)).toInt64) (A := 1000000000000) (B := 31) (by rw [Fe.1]; exact ⟨Fe.2.1, Fe.2.2⟩) (by rw [Int32.toInt_toInt64]; omega) (by decide)
      have M7 := own_mB (x := F) (y := (own_A s 7 (c * 4 + i)).toInt64) (A := 1000000000000) (B := 31) (by rw [Fe.1]; exact ⟨Fe.2.1, Fe.2.2⟩) (by rw [Int32.toInt_toInt64]; omega) (by decide)
      rw [Int32.toInt_toInt64, Fe.1] at M8 M7
      have D8 : (F * (own_A s 8 (c * 4 + i)).toInt64 / (gI s 0).toInt64).toInt = Fi * (own_A s 8 (c * 4 + i)).toInt / (gI s 0).toInt := by
        rw [own_dB (by rw [M8.1]; exact M8.2.1) (by rw [d64]; omega), M8.1, d64]
      have D7 : (F * (own_A s 7 (c * 4 + i)).toInt64 / (gI s 0).toInt64).toInt = Fi * (own_A s 7 (c * 4 + i)).toInt / (gI s 0).toInt := by
        rw [own_dB (by rw [M7.1]; exact M7.2.1) (by rw [d64]; omega), M7.1, d64]
      generalize F * (own_A s 8 (c * 4 + i)).toInt64 / (gI s 0).toInt64 = Y8 at D8 ⊢
      generalize F * (own_A s 7 (c * 4 + i)).toInt64 / (gI s 0).toInt64 = Y7 at D7 ⊢
      have fee : (Y8 - Y7).toInt = own_fee (own_A s) (gI s 0).toInt (c * 4 + i) := by
        rw [fe]
        obtain ⟨g1, g2, g3, g4, g5, g6, g7, g8⟩ := fbd
        rw [← D8, ← D7] at g1 g2
        rw [← D8] at g6 g7
        rw [← D7] at g8
        rw [← D8, ← D7]
        exact x64_sub (by omega) (by omega)
      have feeb : 0 ≤ (Y8 - Y7).toInt ∧ (Y8 - Y7).toInt ≤ 1000000000000 := by
        rw [fee, fe]; exact ⟨fbd.1, fbd.2.1⟩
      generalize Y8 - Y7 = Y at fee feeb ⊢
      refine own_Ok.bind (own_chg hB.1 (by rw [hA]; exact hT) p hp _ (by rw [Int32.toInt_toInt64]; exact s10)) fun U hU => ?_
      have j1 : (Int32.ofNat c * 8 + 2 * Int32.ofNat i : Int32).toInt = ((c * 8 + 2 * i : Nat) : Int) := by rw [own_x82 c i (by omega)]; exact ofN_int (by omega)
      have j2 : (Int32.ofNat c * 8 + 2 * Int32.ofNat i + 1 : Int32).toInt = ((c * 8 + 2 * i + 1 : Nat) : Int) := by rw [own_x82 c i (by omega), ofN_succ]; exact ofN_int (by omega)
      refine own_Ok.wB (f := 7) hB.1 (c * 8 + 2 * i) j1 (by show _ < 128; omega) fun t1 m1 => ?_
      refine own_Ok.wB (f := 7) m1.1 (c * 8 + 2 * i + 1) j2 (by show _ < 128; omega) fun t2 m2 => ?_
      have B1 := hB.w m1 (Or.inl rfl) (by omega) (by omega)
      have B2 := B1.w m2 (Or.inl rfl) (by omega) (by omega)
      have eb : own_Bv t2 = own_u (own_u (own_Bv t) 7 (c * 8 + 2 * i) Y) 7 (c * 8 + 2 * i + 1) U := by rw [m2.2.2.2, m1.2.2.2]
      have eL : ∀ j, own_L t2 c j = if j = 2 * i then Y.toInt else if j = 2 * i + 1 then U.toInt else own_L t c j := fun j => by
        unfold own_L
        rw [eb]
        by_cases q : j = 2 * i
        · rw [if_pos q, q, own_u2 _ _ _ _ (by omega), own_u0]
        · rw [if_neg q]
          by_cases q2 : j = 2 * i + 1
          · rw [if_pos q2, q2, show c * 8 + (2 * i + 1) = c * 8 + 2 * i + 1 by omega, own_u0]
          · rw [if_neg q2, own_u2 _ _ _ _ (by omega), own_u2 _ _ _ _ (by omega)]
      have sm : own_sum (own_L t2 c) (2 * i) = own_sum (own_L t c) (2 * i) := own_sum_congr fun j hj => by rw [eL, if_neg (by omega), if_neg (by omega)]
      have sb := own_sumb (g := own_L t c) (C := 100000000000000) (n := 2 * i) hb
      have hsum : own_sum (own_L t2 c) (2 * (i + 1)) = own_sum (own_L t c) (2 * i) + Y.toInt + U.toInt := by
        show own_sum (own_L t2 c) (2 * i) + own_L t2 c (2 * i) + own_L t2 c (2 * i + 1) = _
        rw [sm, eL, if_pos rfl, eL, if_neg (by omega), if_pos rfl]
      have acc2 : (acc + (Y + U)).toInt = acc.toInt + (Y.toInt + U.toInt) := by
        have y : (Y + U).toInt = Y.toInt + U.toInt := x64_add (by omega) (by omega)
        rw [x64_add (by rw [y, ha]; omega) (by rw [y, ha]; omega), y]
      rw [ofN_succ]
      refine ih (i + 1) _ t2 (by omega) (by omega) ⟨B2, fun k hk => ?_, fun j hj => ?_, ?_⟩
      · rw [eL]
        by_cases q : k = i
        · rw [if_pos (by omega), fee, q]
        · rw [if_neg (by omega), if_neg (by omega)]; exact hf k (by omega)
      · rw [eL]
        by_cases q : j = 2 * i
        · rw [if_pos q]; omega
        · rw [if_neg q]
          by_cases q2 : j = 2 * i + 1
          · rw [if_pos q2]; exact hU
          · rw [if_neg q2]; exact hb j (by omega)
      · rw [hsum, acc2, ha]; omega
  unfold f_fillLines lt
  exact k11 4 0 0 s rfl (Nat.zero_le _) ⟨own_FB.refl hS, fun k hk => absurd hk (Nat.not_lt_zero _), fun j hj => absurd hj (by omega), rfl⟩

/-! the tax -/
def own_SP (c : Nat) (s t : St) : Prop := own_Sh t ∧ (∀ j, gI t j = gI s j) ∧ (∀ g j, g ≠ 13 → own_A t g j = own_A s g j) ∧ ∀ g j, ¬ (g = 9 ∨ (g = 8 ∧ c * 8 ≤ j ∧ j < c * 8 + 8)) → own_Bv t g j = own_Bv s g j
theorem own_SP.refl {c : Nat} {s : St} (h : own_Sh s) : own_SP c s s := ⟨h, fun _ => rfl, fun _ _ _ => rfl, fun _ _ _ => rfl⟩
theorem own_SP.a {c : Nat} {s t u : St} (h : own_SP c s t) {k : Nat} {x : Int32} (m : own_M t (own_u (own_A t) 13 k x) (own_Bv t) u) : own_SP c s u := by
  refine ⟨m.1, fun j => (m.2.1 j).trans (h.2.1 j), fun g j q => ?_, fun g j q => ?_⟩
  · rw [m.2.2.1, own_u1 _ _ _ _ q]; exact h.2.2.1 g j q
  · rw [m.2.2.2]; exact h.2.2.2 g j q
theorem own_SP.b {c : Nat} {s t u : St} (h : own_SP c s t) {f k : Nat} {x : Int64} (m : own_M t (own_A t) (own_u (own_Bv t) f k x) u) (hf : f = 9 ∨ (f = 8 ∧ c * 8 ≤ k ∧ k < c * 8 + 8)) : own_SP c s u := by
  refine ⟨m.1, fun j => (m.2.1 j).trans (h.2.1 j), fun g j q => ?_, fun g j q => ?_⟩
  · rw [m.2.2.1]; exact h.2.2.1 g j q
  · rw [m.2.2.2]
    unfold own_u
    rw [if_neg]
    · exact h.2.2.2 g j q
    · rintro ⟨rfl, rfl⟩; exact q hf
theorem own_SP.L {c : Nat} {s t : St} (h : own_SP c s t) (i : Nat) : own_L t c i = own_L s c i := by
  unfold own_L; rw [h.2.2.2 7 _ (by omega)]
theorem own_sum_set {g h : Nat → Int} {w : Nat} {d : Int} (e : ∀ i, i ≠ w → h i = g i) (ew : h w = g w + d) : ∀ {m : Nat}, own_sum h m = if w < m then own_sum g m + d else own_sum g m
  | 0 => by rw [if_neg (Nat.not_lt_zero _)]; rfl
  | m + 1 => by
    show own_sum h m + h m = if w < m + 1 then own_sum g m + g m + d else own_sum g m + g m
    rw [own_sum_set e ew (m := m)]
    by_cases c : m = w
    · subst c; rw [if_neg (Nat.lt_irrefl _), if_pos (by omega), ew]; omega
    · rw [e m c]
      by_cases q : w < m
      · rw [if_pos q, if_pos (by omega)]; omega
      · rw [if_neg q, if_neg (by omega)]
theorem own_sum_add (g h : Nat → Int) : ∀ n, own_sum (fun i => g i + h i) n = own_sum g n + own_sum h n
  | 0 => rfl
  | n + 1 => by
    show own_sum (fun i => g i + h i) n + (g n + h n) = own_sum g n + g n + (own_sum h n + h n)
    rw [own_sum_add g h n]; omega
theorem own_sum_mul (g : Nat → Int) (k : Int) : ∀ n, own_sum (fun i => g i * k) n = own_sum g n * k
  | 0 => (Int.zero_mul k).symm
  | n + 1 => by
    show own_sum (fun i => g i * k) n + g n * k = (own_sum g n + g n) * k
    rw [own_sum_mul g k n, Int.add_mul]
theorem own_sum_one {g : Nat → Int} : ∀ {n : Nat}, (∀ i, i < n → g i = 1) → own_sum g n = n
  | 0, _ => rfl
  | n + 1, e => by
    show own_sum g n + g n = _
    rw [own_sum_one fun i hi => e i (by omega), e n (by omega)]; rfl
def own_fl (s : St) (c i : Nat) : Int := own_L s c i * (gI s 1).toInt / 10000
theorem own_left {L : Nat → Int} {K T : Int} {m : Nat} (hm : m ≤ 8) (h0 : ∀ i, m ≤ i → i < 8 → L i = 0) (hT : T = own_sum L 8 * K / 10000) : 0 ≤ T - own_sum (fun i => L i * K / 10000) 8 ∧ T - own_sum (fun i => L i * K / 10000) 8 ≤ m := by
  have e1 : own_sum L 8 * K = own_sum (fun i => L i * K / 10000) 8 * 10000 + own_sum (fun i => L i * K % 10000) 8 := by
    rw [← own_sum_mul L K 8, ← own_sum_mul (fun i => L i * K / 10000) 10000 8, ← own_sum_add]
    refine own_sum_congr fun i _ => ?_
    show L i * K = L i * K / 10000 * 10000 + L i * K % 10000
    generalize L i * K = x
    omega
  have e2 : own_sum (fun i => L i * K % 10000) 8 = own_sum (fun i => L i * K % 10000) m := by
    obtain ⟨k, hk⟩ : ∃ k, 8 = m + k := ⟨8 - m, by omega⟩
    rw [hk]
    exact own_sum0 fun i h1 h2 => by
      show L i * K % 10000 = 0
      rw [h0 i h1 (by omega), Int.zero_mul]; rfl
  have e3 := own_sumb (g := fun i => L i * K % 10000) (C := 9999) (n := m) fun i _ => by
    show 0 ≤ L i * K % 10000 ∧ L i * K % 10000 ≤ 9999
    generalize L i * K = x
    omega
  rw [e1, e2] at hT
  generalize own_sum (fun i => L i * K % 10000) m = r at *
  generalize own_sum (fun i => L i * K / 10000) 8 = f at *
  omega
/-- lines of tax, some of them picked -/
def own_Pk (c m j : Nat) (s t : St) : Prop := own_SP c s t ∧ (∀ i, i < m → (own_A t 13 i = 0 ∨ own_A t 13 i = 1) ∧ own_X t c i = own_fl s c i + (own_A t 13 i).toInt) ∧ (∀ i, m ≤ i → i < 8 → own_X t c i = own_fl s c i) ∧ own_sum (fun i => (own_A t 13 i).toInt) m = j
theorem own_flb {x K : Int} (hx : 0 ≤ x ∧ x ≤ 100000000000000) (hK : 0 ≤ K ∧ K ≤ 3000) : 0 ≤ x * K ∧ x * K ≤ 300000000000000000 ∧ 0 ≤ x * K / 10000 ∧ x * K / 10000 ≤ 30000000000000 := by
  have h1 : 0 ≤ x * K := Int.mul_nonneg hx.1 hK.1
  have h2 : x * K ≤ 100000000000000 * 3000 := Int.mul_le_mul hx.2 hK.2 hK.1 (by decide)
  generalize x * K = y at *
  omega
theorem own_152 {c m j : Nat} {s t : St} (hc : c < 16) (hm : m ≤ 8) (hK : 0 ≤ (gI s 1).toInt ∧ (gI s 1).toInt ≤ 3000) (hL : ∀ i, i < 8 → 0 ≤ own_L s c i ∧ own_L s c i ≤ 100000000000000) (h : own_Pk c m j s t) (hj : j < m) (left : Int64) :
    ∀ k i (best : Int32), i + k = m → ((best = -1 ∧ ∀ x, x < i → ¬ own_A t 13 x = 0) ∨ ∃ w, w < m ∧ best = Int32.ofNat w ∧ own_A t 13 w = 0) → ∃ t', own_Pk c m (j + 1) s t' ∧ ∀ k127 N, f_spreadTax_152 k127 (N + k + 1) (Int32.ofNat m) (Int32.ofNat c * 8) left (Int32.ofNat j) best (Int32.ofNat i) t = k127 (Int32.ofNat m) (Int32.ofNat c * 8) left (Int32.ofNat (j + 1)) t' := by
  intro k
  induction k with
  | zero =>
    intro i best hi hb
    obtain rfl : i = m := by omega
    obtain ⟨hP, h1, h2, h3⟩ := h
    rcases hb with ⟨rfl, hb⟩ | ⟨w, hw, rfl, hw0⟩
    · have : own_sum (fun i => (own_A t 13 i).toInt) i = i := own_sum_one fun x hx => by
        rcases (h1 x hx).1 with q | q
        · exact absurd q (hb x hx)
        · show (own_A t 13 x).toInt = 1
          rw [q]; rfl
      omega
    · obtain ⟨t1, e1, m1⟩ := own_wrA hP.1 (f := 13) (k := w) (i := Int32.ofNat w) 1 (ofN_int (by omega)) (by show _ < 8; omega)
      obtain ⟨t2, e2, m2⟩ := own_wrB m1.1 (f := 8) (k := c * 8 + w) (i := Int32.ofNat c * 8 + Int32.ofNat w) (own_Bv t1 8 (c * 8 + w) + 1) (own_x w 8 c (by omega) (by decide)) (by show _ < 128; omega)
      have P1 := hP.a m1
      have P2 := P1.b m2 (Or.inr ⟨rfl, by omega, by omega⟩)
      have eA : own_A t2 = own_u (own_A t) 13 w 1 := by rw [m2.2.2.1, m1.2.2.1]
      have eB : own_Bv t2 = own_u (own_Bv t) 8 (c * 8 + w) (own_Bv t 8 (c * 8 + w) + 1) := by rw [m2.2.2.2, m1.2.2.2]
      have xw := (h1 w hw).2
      have fb := own_flb (hL w (by omega)) hK
      have e01 : ((0 : Int32).toInt = 0) ∧ (1 : Int32).toInt = 1 := by decide
      have o1 : (1 : Int64).toInt = 1 := by decide
      have xw1 : own_X t2 c w = own_X t c w + 1 := by
        unfold own_X
        rw [eB, own_u0]
        rw [hw0, e01.1] at xw
        have xw : (own_Bv t 8 (c * 8 + w)).toInt = own_fl s c w + 0 := xw
        have fb2 : 0 ≤ own_fl s c w ∧ own_fl s c w ≤ 30000000000000 := fb.2.2
        rw [x64_add (by rw [o1]; omega) (by rw [o1]; omega), o1]
      refine ⟨t2, ⟨P2, fun x hx => ?_, fun x hx hx2 => ?_, ?_⟩, fun k127 N => ?_⟩
      · by_cases q : x = w
        · subst q
          rw [eA, own_u0, xw1, xw, hw0, e01.1, e01.2]
          exact ⟨Or.inr rfl, by omega⟩
        · rw [eA, own_u2 _ _ _ _ q]
          have : own_X t2 c x = own_X t c x := by
            unfold own_X; rw [eB, own_u2 _ _ _ _ (by omega)]
          rw [this]; exact h1 x hx
      · have : own_X t2 c x = own_X t c x := by
          unfold own_X; rw [eB, own_u2 _ _ _ _ (by omega)]
        rw [this]; exact h2 x hx hx2
      · have := own_sum_set (g := fun i => (own_A t 13 i).toInt) (h := fun i => (own_A t2 13 i).toInt) (w := w) (d := 1) (fun x hx => by
          show (own_A t2 13 x).toInt = _
          rw [eA, own_u2 _ _ _ _ hx]) (by
          show (own_A t2 13 w).toInt = (own_A t 13 w).toInt + 1
          rw [eA, own_u0, hw0]; rfl) (m := i)
        rw [this, if_pos hw, h3]; rfl
      · show g_spreadTax_152 k127 (f_spreadTax_152 k127 (N + 0)) (N + 0) _ _ _ _ _ _ _ = _
        unfold g_spreadTax_152 lt
        rw [if_neg (fun q => Nat.lt_irrefl _ ((ofN_lt (by omega) (by omega)).mp q)), if_neg (ofN_nn (by omega)), e1, Option.bind_some, own_rdB m1.1 (f := 8) (k := c * 8 + w) (own_x w 8 c (by omega) (by decide)) (by show _ < 128; omega), Option.bind_some, e2, Option.bind_some, ofN_succ]
  | succ k ih =>
    intro i best hi hb
    have rA : rd (gA t 13) (Int32.ofNat i) = some (own_A t 13 i) := own_rdA h.1.1 (ofN_int (by omega)) (by show _ < 8; omega)
    have il : Int32.ofNat i < Int32.ofNat m := (ofN_lt (by omega) (by omega)).mpr (by omega)
    have un : ∀ k127 N, f_spreadTax_152 k127 (N + (k + 1) + 1) (Int32.ofNat m) (Int32.ofNat c * 8) left (Int32.ofNat j) best (Int32.ofNat i) t = g_spreadTax_152 k127 (f_spreadTax_152 k127 (N + k + 1)) (N + k + 1) (Int32.ofNat m) (Int32.ofNat c * 8) left (Int32.ofNat j) best (Int32.ofNat i) t := fun _ _ => rfl
    by_cases z : own_A t 13 i = 0
    · have take : ∃ t', own_Pk c m (j + 1) s t' ∧ ∀ k127 N, f_spreadTax_152 k127 (N + k + 1) (Int32.ofNat m) (Int32.ofNat c * 8) left (Int32.ofNat j) (Int32.ofNat i) (Int32.ofNat (i + 1)) t = k127 (Int32.ofNat m) (Int32.ofNat c * 8) left (Int32.ofNat (j + 1)) t' :=
        ih (i + 1) (Int32.ofNat i) (by omega) (Or.inr ⟨i, by omega, rfl, z⟩)
      rcases hb with ⟨rfl, hb⟩ | ⟨w, hw, rfl, hw0⟩
      · obtain ⟨t', p, e⟩ := take
        refine ⟨t', p, fun k127 N => ?_⟩
        rw [← e k127 N, un]
        unfold g_spreadTax_152 f_spreadTax_191 f_spreadTax_195 lt
        rw [if_pos il, rA, Option.bind_some, if_pos z, if_pos (by decide), ofN_succ]
      · have r1 : rd (gB t 9) (Int32.ofNat i) = some (own_Bv t 9 i) := own_rdB h.1.1 (ofN_int (by omega)) (by show _ < 8; omega)
        have r2 : rd (gB t 9) (Int32.ofNat w) = some (own_Bv t 9 w) := own_rdB h.1.1 (ofN_int (by omega)) (by show _ < 8; omega)
        by_cases q : own_Bv t 9 w < own_Bv t 9 i
        · obtain ⟨t', p, e⟩ := take
          refine ⟨t', p, fun k127 N => ?_⟩
          rw [← e k127 N, un]
          unfold g_spreadTax_152 f_spreadTax_191 f_spreadTax_195 lt
          rw [if_pos il, rA, Option.bind_some, if_pos z, if_neg (ofN_nn (by omega)), r1, Option.bind_some, r2, Option.bind_some, if_pos q, ofN_succ]
        · obtain ⟨t', p, e⟩ := ih (i + 1) (Int32.ofNat w) (by omega) (Or.inr ⟨w, hw, rfl, hw0⟩)
          refine ⟨t', p, fun k127 N => ?_⟩
          rw [← e k127 N, un]
          unfold g_spreadTax_152 f_spreadTax_191 f_spreadTax_195 lt
          rw [if_pos il, rA, Option.bind_some, if_pos z, if_neg (ofN_nn (by omega)), r1, Option.bind_some, r2, Option.bind_some, if_neg q, ofN_succ]
    · obtain ⟨t', p, e⟩ := ih (i + 1) best (by omega) (by
        rcases hb with ⟨rfl, hb⟩ | hb
        · refine Or.inl ⟨rfl, fun x hx => ?_⟩
          by_cases q : x = i
          · subst q; exact z
          · exact hb x (by omega)
        · exact Or.inr hb)
      refine ⟨t', p, fun k127 N => ?_⟩
      rw [← e k127 N, un]
      unfold g_spreadTax_152 f_spreadTax_195 lt
      rw [if_pos il, rA, Option.bind_some, if_neg z, ofN_succ]
def own_TP (c m : Nat) (tax : Int) (s t : St) : Prop := own_SP c s t ∧ (∀ i, m ≤ i → i < 8 → own_X t c i = own_fl s c i) ∧ (∀ i, i < 8 → own_fl s c i ≤ own_X t c i ∧ own_X t c i ≤ own_fl s c i + 1) ∧ own_sum (own_X t c) 8 = tax
theorem own_tax {s : St} (hS : own_Sh s) (hK : 0 ≤ (gI s 1).toInt ∧ (gI s 1).toInt ≤ 3000) (c m : Nat) (hc : c < 16) (hm : m ≤ 8) (hL : ∀ i, i < 8 → 0 ≤ own_L s c i ∧ own_L s c i ≤ 100000000000000) (h0 : ∀ i, m ≤ i → i < 8 → own_L s c i = 0 ∧ own_X s c i = 0) (tax : Int64) (hT : tax.toInt = own_sum (own_L s c) 8 * (gI s 1).toInt / 10000) : own_Ok (fun N => f_spreadTax N (Int32.ofNat c) (Int32.ofNat m) tax s) (own_TP c m tax.toInt s) := by
  have lf := own_left (L := own_L s c) hm (fun i h1 h2 => (h0 i h1 h2).1) hT
  have flb : ∀ i, i < 8 → 0 ≤ own_fl s c i ∧ own_fl s c i ≤ 30000000000000 := fun i hi => (own_flb (hL i hi) hK).2.2
  have sfl := own_sumb (g := own_fl s c) (C := 30000000000000) (n := 8) flb
  have e0 : own_sum (fun i => own_L s c i * (gI s 1).toInt / 10000) 8 = own_sum (own_fl s c) 8 := rfl
  rw [e0] at lf
  -- the picks
  have k127 : ∀ (k j : Nat) t (left : Int64), j + k = 8 → left.toInt = tax.toInt - own_sum (own_fl s c) 8 → (j : Int) ≤ left.toInt → own_Pk c m j s t → own_Ok (fun N => f_spreadTax_127 N (Int32.ofNat m) (Int32.ofNat c * 8) left (Int32.ofNat j) t) (own_TP c m tax.toInt s) := by
    have fin : ∀ (j : Nat) t (left : Int64), left.toInt = tax.toInt - own_sum (own_fl s c) 8 → (j : Int) = left.toInt → own_Pk c m j s t → own_TP c m tax.toInt s t := fun j t left hl hj h => by
      refine ⟨h.1, h.2.2.1, fun i hi => ?_, ?_⟩
      · by_cases q : i < m
        · rw [(h.2.1 i q).2]
          rcases (h.2.1 i q).1 with z | z <;> rw [z]
          · have : (0 : Int32).toInt = 0 := by decide
            omega
          · have : (1 : Int32).toInt = 1 := by decide
            omega
        · rw [h.2.2.1 i (by omega) hi]; omega
      · have e1 : own_sum (own_X t c) 8 = own_sum (fun i => own_fl s c i + (if i < m then (own_A t 13 i).toInt else 0)) 8 := own_sum_congr fun i hi => by
          by_cases q : i < m
          · rw [if_pos q]; exact (h.2.1 i q).2
          · rw [if_neg q, h.2.2.1 i (by omega) hi, Int.add_zero]
        obtain ⟨d, hd⟩ : ∃ d, 8 = m + d := ⟨8 - m, by omega⟩
        have e2 : own_sum (fun i => if i < m then (own_A t 13 i).toInt else 0) 8 = own_sum (fun i => if i < m then (own_A t 13 i).toInt else 0) m := by
          rw [hd]
          exact own_sum0 fun i h1 _ => if_neg (by omega)
        have e3 : own_sum (fun i => if i < m then (own_A t 13 i).toInt else 0) m = own_sum (fun i => (own_A t 13 i).toInt) m := own_sum_congr fun i hi => if_pos hi
        rw [e1, own_sum_add, e2, e3, h.2.2.2]; omega
    intro k
    induction k with
    | zero =>
      intro j t left hj hl hjl h
      obtain rfl : j = 8 := by omega
      refine own_Ok.step (g := fun N => g_spreadTax_127 (f_spreadTax_127 N) N (Int32.ofNat m) (Int32.ofNat c * 8) left (Int32.ofNat 8) t) (fun n => rfl) ?_
      unfold g_spreadTax_127 f_spreadTax_237
      exact own_Ok.ite (fun q => absurd q (by decide)) fun _ => own_Ok.ret (fin 8 t left hl (by omega) h)
    | succ k ih =>
      intro j t left hj hl hjl h
      refine own_Ok.step (g := fun N => g_spreadTax_127 (f_spreadTax_127 N) N (Int32.ofNat m) (Int32.ofNat c * 8) left (Int32.ofNat j) t) (fun n => rfl) ?_
      have ej : (Int32.ofNat j).toInt64.toInt = j := by rw [Int32.toInt_toInt64, ofN_int (by omega)]
      unfold g_spreadTax_127 f_spreadTax_237
      refine own_Ok.ite (fun _ => ?_) fun q => absurd ((ofN_ltL (m := 8) (by omega) (by decide)).mpr (by omega)) q
      refine own_Ok.ite (fun q => ?_) fun q => ?_
      · rw [x64_lt, ej] at q
        obtain ⟨t', p, e⟩ := own_152 hc hm hK hL h (by omega) left m 0 (-1) (by omega) (Or.inl ⟨rfl, fun x hx => absurd hx (Nat.not_lt_zero _)⟩)
        obtain ⟨r, ⟨N, hN⟩, hr⟩ := ih (j + 1) t' left (by omega) hl (by omega) p
        refine ⟨r, ⟨N + m + 1, fun n hn => ?_⟩, hr⟩
        have := e (f_spreadTax_127 n) (n - m - 1)
        rw [show n - m - 1 + m + 1 = n by omega] at this
        exact this.trans (hN n (by omega))
      · rw [x64_lt, ej] at q
        exact own_Ok.ret (fin j t left hl (by omega) h)
  -- the floors
  have k12 : ∀ k i (acc : Int64) t, i + k = 8 → (own_SP c s t ∧ (∀ j, j < i → own_A t 13 j = (if j < m then 0 else 1) ∧ own_X t c j = own_fl s c j) ∧ (∀ j, i ≤ j → j < 8 → own_X t c j = own_X s c j) ∧ acc.toInt = own_sum (own_fl s c) i) → own_Ok (fun N => f_spreadTax_12 N (Int32.ofNat m) tax (Int32.ofNat c * 8) acc (Int32.ofNat i) t) (own_TP c m tax.toInt s) := by
    intro k
    induction k with
    | zero =>
      intro i acc t hi h
      obtain rfl : i = 8 := by omega
      obtain ⟨hP, h1, h2, ha⟩ := h
      refine own_Ok.step (g := fun N => g_spreadTax_12 (f_spreadTax_12 N) N (Int32.ofNat m) tax (Int32.ofNat c * 8) acc (Int32.ofNat 8) t) (fun n => rfl) ?_
      unfold g_spreadTax_12 lt
      refine own_Ok.ite (fun q => absurd q (by decide)) fun _ => ?_
      have el : (tax - acc).toInt = tax.toInt - acc.toInt := x64_sub (by omega) (by omega)
      refine k127 8 0 t _ rfl (by rw [el, ha]) (by rw [el, ha]; exact lf.1) ⟨hP, fun i hi => ?_, fun i _ hi => (h1 i hi).2, ?_⟩
      · have q := h1 i (by omega)
        rw [if_pos hi] at q
        rw [q.1]
        exact ⟨Or.inl rfl, by rw [q.2]; show _ = _ + (0 : Int); omega⟩
      · have := own_sum0 (g := fun i => (own_A t 13 i).toInt) (m := 0) (k := m) fun i _ hi => by
          have q := h1 i (by omega)
          rw [if_pos (by omega)] at q
          show (own_A t 13 i).toInt = 0
          rw [q.1]; rfl
        rw [Nat.zero_add] at this
        rw [this]; rfl
    | succ k ih =>
      intro i acc t hi h
      obtain ⟨hP, h1, h2, ha⟩ := h
      refine own_Ok.step (g := fun N => g_spreadTax_12 (f_spreadTax_12 N) N (Int32.ofNat m) tax (Int32.ofNat c * 8) acc (Int32.ofNat i) t) (fun n => rfl) ?_
      have go : ∀ t0 : Int32, t0 &&& 1 = (if i < m then 0 else 1) → own_Ok (fun N => f_spreadTax_36 (f_spreadTax_12 N) N (Int32.ofNat m) tax (Int32.ofNat c * 8) acc (Int32.ofNat i) t0 (Int32.ofNat i) t) (own_TP c m tax.toInt s) := fun t0 ht => by
        unfold f_spreadTax_36 f_spreadTax_112 lt
        refine own_Ok.wA (f := 13) hP.1 i (ofN_int (by omega)) (by show _ < 8; omega) fun t1 m1 => ?_
        rw [ht] at m1
        refine own_Ok.wB (f := 9) m1.1 i (ofN_int (by omega)) (by show _ < 8; omega) fun t2 m2 => ?_
        have P1 := hP.a m1
        have P2 := P1.b m2 (Or.inl rfl)
        have eX2 : ∀ j, own_X t2 c j = own_X t c j := fun j => by
          unfold own_X; rw [m2.2.2.2, own_u1 _ _ _ _ (by decide), m1.2.2.2]
        have eA2 : own_A t2 = own_u (own_A t) 13 i (if i < m then 0 else 1) := by rw [m2.2.2.1, m1.2.2.1]
        have hA2 : ∀ j, j < i + 1 → own_A t2 13 j = if j < m then 0 else 1 := fun j hj => by
          rw [eA2]
          by_cases q : j = i
          · rw [q, own_u0]
          · rw [own_u2 _ _ _ _ q]; exact (h1 j (by omega)).1
        refine own_Ok.ite (fun q => ?_) fun q => ?_
        · have q := (ofN_lt (by omega) (by omega)).mp q
          have jx : (Int32.ofNat c * 8 + Int32.ofNat i).toInt = ((c * 8 + i : Nat) : Int) := own_x i 8 c (by omega) (by decide)
          refine own_Ok.rB (f := 7) P2.1 (c * 8 + i) jx (by show _ < 128; omega) ?_
          dsimp only
          have eL : (own_Bv t2 7 (c * 8 + i)).toInt = own_L s c i := P2.L i
          have eK : (gI t2 1).toInt64.toInt = (gI s 1).toInt := by rw [Int32.toInt_toInt64, P2.2.1 1]
          have fb := own_flb (hL i (by omega)) hK
          have M := own_mB (x := own_Bv t2 7 (c * 8 + i)) (y := (gI t2 1).toInt64) (A := 100000000000000) (B := 3000) (by rw [eL]; exact hL i (by omega)) (by rw [eK]; exact hK) (by decide)
          rw [eL, eK] at M
          have k10 : (10000 : Int64).toInt = 10000 := by decide
          have eF : (own_Bv t2 7 (c * 8 + i) * (gI t2 1).toInt64 / 10000).toInt = own_fl s c i := by
            rw [own_dB (by rw [M.1]; exact M.2.1) (by decide), M.1, k10]; rfl
          generalize own_Bv t2 7 (c * 8 + i) * (gI t2 1).toInt64 = Q at eF ⊢
          generalize Q / 10000 = Z at eF ⊢
          refine own_Ok.wB (f := 9) P2.1 i (ofN_int (by omega)) (by show _ < 8; omega) fun t3 m3 => ?_
          refine own_Ok.wB (f := 8) m3.1 (c * 8 + i) jx (by show _ < 128; omega) fun t4 m4 => ?_
          have P3 := P2.b m3 (Or.inl rfl)
          have P4 := P3.b m4 (Or.inr ⟨rfl, by omega, by omega⟩)
          have eX4 : ∀ j, own_X t4 c j = if j = i then Z.toInt else own_X t c j := fun j => by
            unfold own_X
            rw [m4.2.2.2]
            by_cases q : j = i
            · rw [if_pos q, q, own_u0]
            · rw [if_neg q, own_u2 _ _ _ _ (by omega), m3.2.2.2, own_u1 _ _ _ _ (by decide)]; exact eX2 j
          have eA4 : own_A t4 = own_A t2 := by rw [m4.2.2.1, m3.2.2.1]
          have sfi := own_sumb (g := own_fl s c) (C := 30000000000000) (n := i) fun j hj => flb j (by omega)
          have z2 := flb i (by omega)
          rw [ofN_succ]
          refine ih (i + 1) _ t4 (by omega) ⟨P4, fun j hj => ⟨by rw [eA4]; exact hA2 j hj, ?_⟩, fun j h3 h4 => ?_, ?_⟩
          · rw [eX4]
            by_cases q : j = i
            · rw [if_pos q, eF, q]
            · rw [if_neg q]; exact (h1 j (by omega)).2
          · rw [eX4, if_neg (by omega)]; exact h2 j (by omega) h4
          · show _ = own_sum (own_fl s c) i + own_fl s c i
            rw [x64_add (by rw [ha, eF]; omega) (by rw [ha, eF]; omega), ha, eF]
        · have q : ¬ i < m := fun h => q ((ofN_lt (by omega) (by omega)).mpr h)
          have z := h0 i (by omega) (by omega)
          have zf : own_fl s c i = 0 := by unfold own_fl; rw [z.1, Int.zero_mul]; rfl
          rw [ofN_succ]
          refine ih (i + 1) _ t2 (by omega) ⟨P2, fun j hj => ⟨hA2 j hj, ?_⟩, fun j h3 h4 => ?_, ?_⟩
          · rw [eX2]
            by_cases w : j = i
            · rw [w, h2 i (Nat.le_refl _) (by omega), z.2, zf]
            · exact (h1 j (by omega)).2
          · rw [eX2]; exact h2 j (by omega) h4
          · show _ = own_sum (own_fl s c) i + own_fl s c i
            rw [ha, zf, Int.add_zero]
      unfold g_spreadTax_12
      refine own_Ok.ite (fun _ => ?_) fun q => absurd ((ofN_ltL (m := 8) (by omega) (by decide)).mpr (by omega)) q
      refine own_Ok.ite (fun q => ?_) fun q => ?_
      · exact go 0 (by rw [if_pos ((ofN_lt (by omega) (by omega)).mp q)]; decide)
      · exact go 1 (by rw [if_neg (fun h => q ((ofN_lt (by omega) (by omega)).mpr h))]; decide)
  unfold f_spreadTax lt
  exact k12 8 0 0 s rfl ⟨own_SP.refl hS, fun j hj => absurd hj (Nat.not_lt_zero _), fun _ _ _ => rfl, rfl⟩

/-! an invoice -/
def own_FI (c : Nat) (s t : St) : Prop := own_Sh t ∧ (∀ j, gI t j = gI s j) ∧ (∀ g j, ¬ (g = 13 ∨ ((g = 11 ∨ g = 12) ∧ j = c)) → own_A t g j = own_A s g j) ∧ ∀ g j, ¬ (g = 9 ∨ ((g = 7 ∨ g = 8) ∧ c * 8 ≤ j ∧ j < c * 8 + 8) ∨ (g ≤ 6 ∧ g ≠ 1 ∧ j = c)) → own_Bv t g j = own_Bv s g j
theorem own_FI.a {c : Nat} {s t u : St} (h : own_FI c s t) {f : Nat} {x : Int32} (m : own_M t (own_u (own_A t) f c x) (own_Bv t) u) (hf : f = 11 ∨ f = 12) : own_FI c s u := by
  refine ⟨m.1, fun j => (m.2.1 j).trans (h.2.1 j), fun g j q => ?_, fun g j q => ?_⟩
  · rw [m.2.2.1]
    unfold own_u
    rw [if_neg]
    · exact h.2.2.1 g j q
    · rintro ⟨rfl, rfl⟩; exact q (Or.inr ⟨hf, rfl⟩)
  · rw [m.2.2.2]; exact h.2.2.2 g j q
theorem own_FI.b {c : Nat} {s t u : St} (h : own_FI c s t) {f : Nat} {x : Int64} (m : own_M t (own_A t) (own_u (own_Bv t) f c x) u) (hf : f ≤ 6 ∧ f ≠ 1) : own_FI c s u := by
  refine ⟨m.1, fun j => (m.2.1 j).trans (h.2.1 j), fun g j q => ?_, fun g j q => ?_⟩
  · rw [m.2.2.1]; exact h.2.2.1 g j q
  · rw [m.2.2.2]
    unfold own_u
    rw [if_neg]
    · exact h.2.2.2 g j q
    · rintro ⟨rfl, rfl⟩; exact q (Or.inr (Or.inr ⟨hf.1, hf.2, rfl⟩))
def own_cred (n : Nat) (bal due : Int64) : Int64 := if n = 0 then 0 else if bal < due then bal else due
def own_Iv (c n : Nat) (s t : St) : Prop := own_FI c s t ∧ own_A t 11 c = Int32.ofNat (2 * n) ∧ own_A t 12 c = gI s 3 ∧ (∀ k, k < n → own_L t c (2 * k) = own_fee (own_A s) (gI s 0).toInt (c * 4 + k)) ∧ (∀ i, i < 8 → (0 ≤ own_L t c i ∧ own_L t c i ≤ 100000000000000) ∧ own_L t c i * (gI s 1).toInt / 10000 ≤ own_X t c i ∧ own_X t c i ≤ own_L t c i * (gI s 1).toInt / 10000 + 1) ∧ (∀ i, 2 * n ≤ i → i < 8 → own_L t c i = 0 ∧ own_X t c i = 0) ∧ (own_Bv t 3 c).toInt = own_sum (own_L t c) 8 ∧ (own_Bv t 4 c).toInt = own_sum (own_L t c) 8 * (gI s 1).toInt / 10000 ∧ own_sum (own_X t c) 8 = (own_Bv t 4 c).toInt ∧ ∃ due : Int64, due.toInt = (own_Bv t 3 c).toInt + (own_Bv t 4 c).toInt ∧ own_Bv t 5 c = own_cred n (own_Bv s 0 c) due ∧ own_Bv t 0 c = own_Bv s 0 c - own_cred n (own_Bv s 0 c) due ∧ own_Bv t 2 c = own_Bv s 2 c + own_cred n (own_Bv s 0 c) due ∧ own_Bv t 6 c = due - own_cred n (own_Bv s 0 c) due
theorem own_bld {s : St} (hS : own_Sh s) (hT : own_Tier (own_A s)) (hF : own_Fees (own_A s)) (hD : 7 ≤ (gI s 0).toInt ∧ (gI s 0).toInt ≤ 31) (hK : 0 ≤ (gI s 1).toInt ∧ (gI s 1).toInt ≤ 3000) (c n : Nat) (hc : c < 16) (hn : n ≤ 4) (h6 : own_A s 6 c = Int32.ofNat n) (hq : ∀ k, k < n → own_Sg (own_A s) (gI s 0).toInt (c * 4 + k)) : own_Ok (fun N => f_buildInvoice N (Int32.ofNat c) s) (own_Iv c n s) := by
  unfold f_buildInvoice f_buildInvoice_13
  refine own_Ok.rA (f := 6) hS c (ofN_int (by omega)) (by show _ < 16; omega) ?_
  rw [h6]
  refine own_Ok.ite (fun q => absurd q (ofN_nn (by omega))) fun _ => ?_
  refine own_Ok.ite (fun q => absurd ((ofN_gtL (m := 4) (by omega) (by decide)).mp q) (by omega)) fun _ => ?_
  unfold f_buildInvoice_20 lt
  have e2 : (2 : Int32) * Int32.ofNat n = Int32.ofNat (2 * n) := (Int32.ofNat_mul 2 n).symm
  rw [e2]
  refine own_Ok.bind (own_fill hS hT hF hD c n hc hn hq) fun r hr => ?_
  obtain ⟨sub, t⟩ := r
  obtain ⟨hB, hfee, hL, hz, hsub⟩ := hr
  dsimp only at hB hfee hL hz hsub ⊢
  have K1 : gI t 1 = gI s 1 := hB.2.1 1
  have k10 : (10000 : Int64).toInt = 10000 := by decide
  have sb := own_sumb (g := own_L t c) (C := 100000000000000) (n := 8) hL
  have M := own_mB (x := sub) (y := (gI t 1).toInt64) (A := 800000000000000) (B := 3000) (by rw [hsub]; omega) (by rw [Int32.toInt_toInt64, K1]; exact hK) (by decide)
  rw [Int32.toInt_toInt64, K1, hsub] at M
  have eT : (sub * (gI t 1).toInt64 / 10000).toInt = own_sum (own_L t c) 8 * (gI s 1).toInt / 10000 := by
    rw [own_dB (by rw [K1, M.1]; exact M.2.1) (by decide), K1, M.1, k10]
  generalize sub * (gI t 1).toInt64 / 10000 = tax at eT ⊢
  have tb : 0 ≤ tax.toInt ∧ tax.toInt ≤ 240000000000000 := by
    rw [eT]
    have := M.2
    generalize own_sum (own_L t c) 8 * (gI s 1).toInt = y at this
    omega
  refine own_Ok.bind (own_tax hB.1 (by rw [K1]; exact hK) c (2 * n) hc (by omega) hL hz tax (by rw [K1]; exact eT)) fun u hu => ?_
  obtain ⟨hP, hxm, hX, hsX⟩ := hu
  have I0 : own_FI c s u := ⟨hP.1, fun j => (hP.2.1 j).trans (hB.2.1 j), fun g j q => by
    rw [hP.2.2.1 g j (fun e => q (Or.inl e)), hB.2.2.1], fun g j q => by
    rw [hP.2.2.2 g j (fun e => q (by rcases e with e | e; exact Or.inl e; exact Or.inr (Or.inl ⟨Or.inr e.1, e.2⟩))), hB.2.2.2 g j fun e => q (Or.inr (Or.inl e))]⟩
  have u0 : own_Bv u 0 c = own_Bv s 0 c := by rw [hP.2.2.2 0 c (by omega), hB.2.2.2 0 c (by omega)]
  have u2 : own_Bv u 2 c = own_Bv s 2 c := by rw [hP.2.2.2 2 c (by omega), hB.2.2.2 2 c (by omega)]
  have edue : (sub + tax).toInt = sub.toInt + tax.toInt := x64_add (by omega) (by omega)
  have go : ∀ cr, cr = own_cred n (own_Bv s 0 c) (sub + tax) → own_Ok (fun N => f_buildInvoice_93 N (Int32.ofNat c) (Int32.ofNat (2 * n)) sub tax (sub + tax) cr u) (own_Iv c n s) := fun cr hcr => by
    unfold f_buildInvoice_93
    have ic : (Int32.ofNat c).toInt = c := ofN_int (by omega)
    refine own_Ok.rB (f := 0) hP.1 c ic hc ?_
    refine own_Ok.wB (f := 0) hP.1 c ic hc fun v1 m1 => ?_
    refine own_Ok.rB (f := 2) m1.1 c ic hc ?_
    refine own_Ok.wB (f := 2) m1.1 c ic hc fun v2 m2 => ?_
    refine own_Ok.wA (f := 11) m2.1 c ic hc fun v3 m3 => ?_
    refine own_Ok.wB (f := 3) m3.1 c ic hc fun v4 m4 => ?_
    refine own_Ok.wB (f := 4) m4.1 c ic hc fun v5 m5 => ?_
    refine own_Ok.wB (f := 5) m5.1 c ic hc fun v6 m6 => ?_
    refine own_Ok.wB (f := 6) m6.1 c ic hc fun v7 m7 => ?_
    refine own_Ok.wA (f := 12) m7.1 c ic hc fun v8 m8 => ?_
    have F8 : own_FI c s v8 := (((((((I0.b m1 (by omega)).b m2 (by omega)).a m3 (by omega)).b m4 (by omega)).b m5 (by omega)).b m6 (by omega)).b m7 (by omega)).a m8 (by omega)
    have eA : own_A v8 = own_u (own_u (own_A u) 11 c (Int32.ofNat (2 * n))) 12 c (gI v7 3) := by
      rw [m8.2.2.1, m7.2.2.1, m6.2.2.1, m5.2.2.1, m4.2.2.1, m3.2.2.1, m2.2.2.1, m1.2.2.1]
    have eB : own_Bv v8 = own_u (own_u (own_u (own_u (own_u (own_u (own_Bv u) 0 c (own_Bv u 0 c - cr)) 2 c (own_Bv u 2 c + cr)) 3 c sub) 4 c tax) 5 c cr) 6 c (sub + tax - cr) := by
      rw [m8.2.2.2, m7.2.2.2, m6.2.2.2, m5.2.2.2, m4.2.2.2, m3.2.2.2, m2.2.2.2, m1.2.2.2, own_u1 (g := 2) (f := 0) _ _ _ _ (by decide)]
    have i3 : gI v7 3 = gI s 3 := by rw [m7.2.1, m6.2.1, m5.2.1, m4.2.1, m3.2.1, m2.2.1, m1.2.1, hP.2.1, hB.2.1]
    have n7 : ∀ g, 6 < g → ∀ j, own_Bv v8 g j = own_Bv u g j := fun g hg j => by
      rw [eB, own_u1 _ _ _ _ (by omega), own_u1 _ _ _ _ (by omega), own_u1 _ _ _ _ (by omega), own_u1 _ _ _ _ (by omega), own_u1 _ _ _ _ (by omega), own_u1 _ _ _ _ (by omega)]
    have eL : ∀ i, own_L v8 c i = own_L t c i := fun i => by
      unfold own_L; rw [n7 7 (by decide)]; exact hP.L i
    have eX : ∀ i, own_X v8 c i = own_X u c i := fun i => by
      unfold own_X; rw [n7 8 (by decide)]
    have b0 : own_Bv v8 0 c = own_Bv s 0 c - cr := by
      rw [eB, own_u1 _ _ _ _ (by decide), own_u1 _ _ _ _ (by decide), own_u1 _ _ _ _ (by decide), own_u1 _ _ _ _ (by decide), own_u1 _ _ _ _ (by decide), own_u0, u0]
    have b2 : own_Bv v8 2 c = own_Bv s 2 c + cr := by
      rw [eB, own_u1 _ _ _ _ (by decide), own_u1 _ _ _ _ (by decide), own_u1 _ _ _ _ (by decide), own_u1 _ _ _ _ (by decide), own_u0, u2]
    have b3 : own_Bv v8 3 c = sub := by
      rw [eB, own_u1 _ _ _ _ (by decide), own_u1 _ _ _ _ (by decide), own_u1 _ _ _ _ (by decide), own_u0]
    have b4 : own_Bv v8 4 c = tax := by
      rw [eB, own_u1 _ _ _ _ (by decide), own_u1 _ _ _ _ (by decide), own_u0]
    have b5 : own_Bv v8 5 c = cr := by
      rw [eB, own_u1 _ _ _ _ (by decide), own_u0]
    have b6 : own_Bv v8 6 c = sub + tax - cr := by
      rw [eB, own_u0]
    have sL : own_sum (own_L v8 c) 8 = own_sum (own_L t c) 8 := own_sum_congr fun i _ => eL i
    have sX : own_sum (own_X v8 c) 8 = own_sum (own_X u c) 8 := own_sum_congr fun i _ => eX i
    have fl : ∀ i, own_fl t c i = own_L t c i * (gI s 1).toInt / 10000 := fun i => by unfold own_fl; rw [K1]
    refine own_Ok.ret ⟨F8, ?_, ?_, fun k hk => ?_, fun i hi => ?_, fun i h1 h2 => ?_, ?_, ?_, ?_, sub + tax, ?_, ?_, ?_, ?_, ?_⟩
    · rw [eA, own_u1 _ _ _ _ (by decide), own_u0]
    · rw [eA, own_u0, i3]
    · rw [eL]; exact hfee k hk
    · rw [eL, eX, ← fl]; exact ⟨hL i hi, hX i hi⟩
    · rw [eL, eX, hxm i h1 h2, fl, (hz i h1 h2).1, Int.zero_mul]; exact ⟨rfl, rfl⟩
    · rw [b3, sL, hsub]
    · rw [b4, sL, eT]
    · rw [b4, sX, hsX]
    · rw [b3, b4, edue]
    · rw [b5, hcr]
    · rw [b0, hcr]
    · rw [b2, hcr]
    · rw [b6, hcr]
  have go2 : ∀ x, x = (if own_Bv s 0 c < sub + tax then own_Bv s 0 c else sub + tax) → own_Ok (fun N => f_buildInvoice_84 N (Int32.ofNat c) (Int32.ofNat n) (Int32.ofNat (2 * n)) sub tax (sub + tax) x u) (own_Iv c n s) := fun x hx => by
    unfold f_buildInvoice_84
    refine own_Ok.ite (fun q => ?_) fun q => ?_
    · have q := (ofN_eqL (m := 0) (by omega) (by decide)).mp q
      exact go 0 (by unfold own_cred; rw [if_pos q])
    · have q : ¬ n = 0 := fun e => q ((ofN_eqL (m := 0) (by omega) (by decide)).mpr e)
      exact go x (by unfold own_cred; rw [if_neg q, hx])
  refine own_Ok.rB (f := 0) hP.1 c (ofN_int (by omega)) hc ?_
  rw [u0]
  refine own_Ok.ite (fun q => ?_) fun q => ?_
  · refine own_Ok.rB (f := 0) hP.1 c (ofN_int (by omega)) hc ?_
    exact go2 _ (by rw [if_pos q, u0])
  · exact go2 _ (by rw [if_neg q])

/-! a customer's cells -/
def own_va (s : St) (c g k : Nat) : Int32 := if g = 4 ∨ g = 5 ∨ g = 6 ∨ g = 11 ∨ g = 12 then (if k = 0 then own_A s g c else 0) else if 7 ≤ g ∧ g ≤ 10 then (if k < 4 then own_A s g (c * 4 + k) else 0) else 0
def own_vb (s : St) (c g k : Nat) : Int64 := if g ≤ 6 then (if k = 0 then own_Bv s g c else 0) else if g ≤ 8 then (if k < 8 then own_Bv s g (c * 8 + k) else 0) else 0
theorem own_va1 (s : St) (c : Nat) {g : Nat} (h : g = 4 ∨ g = 5 ∨ g = 6 ∨ g = 11 ∨ g = 12) : own_va s c g 0 = own_A s g c := by
  unfold own_va; rw [if_pos h, if_pos rfl]
theorem own_va2 (s : St) (c : Nat) {g k : Nat} (h : 7 ≤ g ∧ g ≤ 10) (hk : k < 4) : own_va s c g k = own_A s g (c * 4 + k) := by
  unfold own_va; rw [if_neg (by omega), if_pos h, if_pos hk]
theorem own_vb1 (s : St) (c : Nat) {g : Nat} (h : g ≤ 6) : own_vb s c g 0 = own_Bv s g c := by
  unfold own_vb; rw [if_pos h, if_pos rfl]
theorem own_vb2 (s : St) (c : Nat) {g k : Nat} (h : g = 7 ∨ g = 8) (hk : k < 8) : own_vb s c g k = own_Bv s g (c * 8 + k) := by
  unfold own_vb; rw [if_neg (by omega), if_pos (by omega), if_pos hk]
/-- only the customer c and scratch differ -/
def own_RF (c : Nat) (s t : St) : Prop := own_Sh t ∧ (∀ j, gI t j = gI s j) ∧ (∀ g j, ¬ (g = 13 ∨ ((g = 4 ∨ g = 5 ∨ g = 6 ∨ g = 11 ∨ g = 12) ∧ j = c) ∨ (7 ≤ g ∧ g ≤ 10 ∧ c * 4 ≤ j ∧ j < c * 4 + 4)) → own_A t g j = own_A s g j) ∧ ∀ g j, ¬ (g = 9 ∨ ((g = 7 ∨ g = 8) ∧ c * 8 ≤ j ∧ j < c * 8 + 8) ∨ (g ≤ 6 ∧ j = c)) → own_Bv t g j = own_Bv s g j
theorem own_RF.refl {c : Nat} {s : St} (h : own_Sh s) : own_RF c s s := ⟨h, fun _ => rfl, fun _ _ _ => rfl, fun _ _ _ => rfl⟩
theorem own_RF.trans {c : Nat} {s t u : St} (h : own_RF c s t) (k : own_RF c t u) : own_RF c s u := ⟨k.1, fun j => (k.2.1 j).trans (h.2.1 j), fun g j q => (k.2.2.1 g j q).trans (h.2.2.1 g j q), fun g j q => (k.2.2.2 g j q).trans (h.2.2.2 g j q)⟩
theorem own_RF.a {c : Nat} {s t u : St} (h : own_RF c s t) {f k : Nat} {x : Int32} (m : own_M t (own_u (own_A t) f k x) (own_Bv t) u) (hf : ((f = 4 ∨ f = 5 ∨ f = 6 ∨ f = 11 ∨ f = 12) ∧ k = c) ∨ (7 ≤ f ∧ f ≤ 10 ∧ c * 4 ≤ k ∧ k < c * 4 + 4)) : own_RF c s u := by
  refine ⟨m.1, fun j => (m.2.1 j).trans (h.2.1 j), fun g j q => ?_, fun g j q => ?_⟩
  · rw [m.2.2.1]
    unfold own_u
    rw [if_neg]
    · exact h.2.2.1 g j q
    · rintro ⟨rfl, rfl⟩; exact q (Or.inr hf)
  · rw [m.2.2.2]; exact h.2.2.2 g j q
theorem own_RF.b {c : Nat} {s t u : St} (h : own_RF c s t) {f : Nat} {x : Int64} (m : own_M t (own_A t) (own_u (own_Bv t) f c x) u) (hf : f ≤ 6) : own_RF c s u := by
  refine ⟨m.1, fun j => (m.2.1 j).trans (h.2.1 j), fun g j q => ?_, fun g j q => ?_⟩
  · rw [m.2.2.1]; exact h.2.2.1 g j q
  · rw [m.2.2.2]
    unfold own_u
    rw [if_neg]
    · exact h.2.2.2 g j q
    · rintro ⟨rfl, rfl⟩; exact q (Or.inr (Or.inr ⟨hf, rfl⟩))
theorem own_FI.rf {c : Nat} {s t : St} (h : own_FI c s t) : own_RF c s t := ⟨h.1, h.2.1, fun g j q => h.2.2.1 g j (by omega), fun g j q => h.2.2.2 g j (by omega)⟩
theorem own_RF.va {c : Nat} {s t : St} (h : own_RF c s t) {d : Nat} (hd : d ≠ c) : own_va t d = own_va s d := by
  funext g k
  unfold own_va
  split
  · split
    · exact h.2.2.1 g d (by omega)
    · rfl
  · split
    · split
      · exact h.2.2.1 g _ (by omega)
      · rfl
    · rfl
theorem own_RF.vb {c : Nat} {s t : St} (h : own_RF c s t) {d : Nat} (hd : d ≠ c) : own_vb t d = own_vb s d := by
  funext g k
  unfold own_vb
  split
  · split
    · exact h.2.2.2 g d (by omega)
    · rfl
  · split
    · split
      · exact h.2.2.2 g _ (by omega)
      · rfl
    · rfl
theorem own_RF.g {c : Nat} {s t : St} (h : own_RF c s t) {g : Nat} (hg : g < 4) (j : Nat) : own_A t g j = own_A s g j := h.2.2.1 g j (by omega)
def own_CI (D td : Int) (x : Nat → Nat → Int32) : Prop := ∃ n : Nat, n ≤ 4 ∧ x 6 0 = Int32.ofNat n ∧ (¬ x 4 0 = 0 → 1 ≤ n ∧ 0 ≤ (x 5 0).toInt ∧ (x 5 0).toInt ≤ 7) ∧ ∀ k, k < n → (0 ≤ (x 9 k).toInt ∧ (x 9 k).toInt ≤ 7) ∧ (0 ≤ (x 10 k).toInt ∧ (x 10 k).toInt ≤ 1000000) ∧ 0 ≤ (x 7 k).toInt ∧ (if ¬ x 4 0 = 0 ∧ k + 1 = n then x 8 k = -1 ∧ (x 7 k).toInt ≤ td else (x 7 k).toInt ≤ (x 8 k).toInt ∧ (x 8 k).toInt ≤ D)
/-- what a segment costs, by the customer's cells -/
def own_fv (f0 : Nat → Int32) (D : Int) (n : Nat) (x : Nat → Nat → Int32) (k : Nat) : Int := (f0 (x 9 k).toInt.toNat).toInt * 1000000 * (if ¬ x 4 0 = 0 ∧ k + 1 = n then D else (x 8 k).toInt) / D - (f0 (x 9 k).toInt.toNat).toInt * 1000000 * (x 7 k).toInt / D
/-- a customer's invoice -/
def own_Inv (K : Int) (n : Nat) (x : Nat → Nat → Int32) (y : Nat → Nat → Int64) : Prop := n ≤ 4 ∧ x 11 0 = Int32.ofNat (2 * n) ∧ (∀ i, i < 8 → (0 ≤ (y 7 i).toInt ∧ (y 7 i).toInt ≤ 100000000000000) ∧ (y 7 i).toInt * K / 10000 ≤ (y 8 i).toInt ∧ (y 8 i).toInt ≤ (y 7 i).toInt * K / 10000 + 1) ∧ (∀ i, 2 * n ≤ i → i < 8 → (y 7 i).toInt = 0 ∧ (y 8 i).toInt = 0) ∧ (y 3 0).toInt = own_sum (fun i => (y 7 i).toInt) 8 ∧ (y 4 0).toInt = own_sum (fun i => (y 7 i).toInt) 8 * K / 10000 ∧ own_sum (fun i => (y 8 i).toInt) 8 = (y 4 0).toInt
def own_Cl (cyc : Int32) (K : Int) (n : Nat) (fe : Nat → Int) (x : Nat → Nat → Int32) (y : Nat → Nat → Int64) (x' : Nat → Nat → Int32) (y' : Nat → Nat → Int64) : Prop := own_Inv K n x' y' ∧ x' 12 0 = cyc ∧ (∀ k, k < n → (y' 7 (2 * k)).toInt = fe k) ∧ (∃ due : Int64, due.toInt = (y' 3 0).toInt + (y' 4 0).toInt ∧ y' 5 0 = own_cred n (y 0 0) due ∧ y' 0 0 = y 0 0 - own_cred n (y 0 0) due ∧ y' 2 0 = y 2 0 + own_cred n (y 0 0) due ∧ y' 6 0 = due - own_cred n (y 0 0) due) ∧ (if x 4 0 = 0 then x' 6 0 = 0 else x' 6 0 = 1 ∧ x' 7 0 = 0 ∧ x' 8 0 = -1 ∧ x' 9 0 = x 5 0 ∧ x' 10 0 = 0) ∧ x' 4 0 = x 4 0 ∧ x' 5 0 = x 5 0 ∧ y' 1 0 = y 1 0
theorem own_apd {s : St} (hS : own_Sh s) (c n : Nat) (hc : c < 16) (hn : n < 4) (h6 : own_A s 6 c = Int32.ofNat n) (d p : Int32) : ∃ t, f_appendSegment (Int32.ofNat c) d p s = some t ∧ own_M s (own_u (own_u (own_u (own_u (own_u (own_A s) 7 (c * 4 + n) d) 8 (c * 4 + n) (-1)) 9 (c * 4 + n) p) 10 (c * 4 + n) 0) 6 c (Int32.ofNat (n + 1))) (own_Bv s) t := by
  have ix : (Int32.ofNat c * 4 + Int32.ofNat n).toInt = ((c * 4 + n : Nat) : Int) := own_x n 4 c (by omega) (by decide)
  have ic : (Int32.ofNat c).toInt = c := ofN_int (by omega)
  obtain ⟨t1, e1, m1⟩ := own_wrA hS (f := 7) d ix (by show _ < 64; omega)
  obtain ⟨t2, e2, m2⟩ := own_wrA m1.1 (f := 8) (-1) ix (by show _ < 64; omega)
  obtain ⟨t3, e3, m3⟩ := own_wrA m2.1 (f := 9) p ix (by show _ < 64; omega)
  obtain ⟨t4, e4, m4⟩ := own_wrA m3.1 (f := 10) 0 ix (by show _ < 64; omega)
  obtain ⟨t5, e5, m5⟩ := own_wrA m4.1 (f := 6) (Int32.ofNat (n + 1)) ic (by show _ < 16; omega)
  refine ⟨t5, ?_, ?_⟩
  · unfold f_appendSegment lt
    rw [own_rdA hS ic (f := 6) (by show _ < 16; omega), Option.bind_some, h6, if_neg (ofN_nn (by omega)), if_pos ((ofN_ltL (m := 4) (by omega) (by decide)).mpr hn)]
    dsimp only
    rw [e1, Option.bind_some, e2, Option.bind_some, e3, Option.bind_some, e4, Option.bind_some, ofN_succ, e5]; rfl
  · refine ⟨m5.1, fun j => by rw [m5.2.1, m4.2.1, m3.2.1, m2.2.1, m1.2.1], by rw [m5.2.2.1, m4.2.2.1, m3.2.2.1, m2.2.2.1, m1.2.2.1], by rw [m5.2.2.2, m4.2.2.2, m3.2.2.2, m2.2.2.2, m1.2.2.2]⟩
theorem own_c52 {s : St} (hS : own_Sh s) (hT : own_Tier (own_A s)) (hF : own_Fees (own_A s)) (hD : 7 ≤ (gI s 0).toInt ∧ (gI s 0).toInt ≤ 31) (hK : 0 ≤ (gI s 1).toInt ∧ (gI s 1).toInt ≤ 3000) (c n : Nat) (hc : c < 16) (hn : n ≤ 4) (h6 : own_A s 6 c = Int32.ofNat n) (hq : ∀ k, k < n → own_Sg (own_A s) (gI s 0).toInt (c * 4 + k)) {P : Int32 × St → Prop} (v1 : Int32) (nx : ∀ t, own_RF c s t → own_Cl (gI s 3) (gI s 1).toInt n (fun k => own_fee (own_A s) (gI s 0).toInt (c * 4 + k)) (own_va s c) (own_vb s c) (own_va t c) (own_vb t c) → own_Ok (fun N => f_closeCycle_14 N v1 (Int32.ofNat (c + 1)) t) P) : own_Ok (fun N => f_closeCycle_52 (f_closeCycle_14 N) N v1 (Int32.ofNat c) s) P := by
  have ic : (Int32.ofNat c).toInt = c := ofN_int (by omega)
  unfold f_closeCycle_52 f_closeCycle_85 lt
  refine own_Ok.bind (own_bld hS hT hF hD hK c n hc hn h6 hq) fun u hu => ?_
  obtain ⟨hFI, a11, a12, hfee, hb, hz, h3, h4, hX, hdue⟩ := hu
  refine own_Ok.wA (f := 6) hFI.1 c ic hc fun u1 m1 => ?_
  have R1 : own_RF c s u1 := hFI.rf.a m1 (by omega)
  refine own_Ok.rA (f := 4) m1.1 c ic hc ?_
  have a4 : own_A u1 4 c = own_A s 4 c := by rw [m1.2.2.1, own_u1 _ _ _ _ (by decide)]; exact hFI.2.2.1 4 c (by omega)
  have a5 : own_A u1 5 c = own_A s 5 c := by rw [m1.2.2.1, own_u1 _ _ _ _ (by decide)]; exact hFI.2.2.1 5 c (by omega)
  have u11 : own_A u1 11 c = Int32.ofNat (2 * n) := by rw [m1.2.2.1, own_u1 _ _ _ _ (by decide)]; exact a11
  have u12 : own_A u1 12 c = gI s 3 := by rw [m1.2.2.1, own_u1 _ _ _ _ (by decide)]; exact a12
  have mk : ∀ t, own_RF c s t → own_Bv t = own_Bv u → own_A t 11 c = Int32.ofNat (2 * n) → own_A t 12 c = gI s 3 → own_A t 4 c = own_A s 4 c → own_A t 5 c = own_A s 5 c → (if own_A s 4 c = 0 then own_A t 6 c = 0 else own_A t 6 c = 1 ∧ own_A t 7 (c * 4 + 0) = 0 ∧ own_A t 8 (c * 4 + 0) = -1 ∧ own_A t 9 (c * 4 + 0) = own_A s 5 c ∧ own_A t 10 (c * 4 + 0) = 0) → own_Ok (fun N => f_closeCycle_14 N v1 (Int32.ofNat (c + 1)) t) P := fun t hR eB t11 t12 t4 t5 t6 => by
    have l7 : ∀ i, i < 8 → (own_vb t c 7 i).toInt = own_L u c i := fun i hi => by rw [own_vb2 _ _ (Or.inl rfl) hi, eB]; rfl
    have l8 : ∀ i, i < 8 → (own_vb t c 8 i).toInt = own_X u c i := fun i hi => by rw [own_vb2 _ _ (Or.inr rfl) hi, eB]; rfl
    have s7 : own_sum (fun i => (own_vb t c 7 i).toInt) 8 = own_sum (own_L u c) 8 := own_sum_congr l7
    have s8 : own_sum (fun i => (own_vb t c 8 i).toInt) 8 = own_sum (own_X u c) 8 := own_sum_congr l8
    have b : ∀ g, g ≤ 6 → own_vb t c g 0 = own_Bv u g c := fun g hg => by rw [own_vb1 _ _ hg, eB]
    have b' : ∀ g, g ≤ 6 → own_vb s c g 0 = own_Bv s g c := fun g hg => own_vb1 _ _ hg
    refine nx t hR ⟨⟨hn, ?_, fun i hi => ?_, fun i h1 h2 => ?_, ?_, ?_, ?_⟩, ?_, fun k hk => ?_, ?_, ?_, ?_, ?_, ?_⟩
    · rw [own_va1 _ _ (by decide)]; exact t11
    · rw [l7 i hi, l8 i hi]; exact hb i hi
    · rw [l7 i h2, l8 i h2]; exact hz i h1 h2
    · rw [s7, b 3 (by decide)]; exact h3
    · rw [s7, b 4 (by decide)]; exact h4
    · rw [s8, b 4 (by decide)]; exact hX
    · rw [own_va1 _ _ (by decide)]; exact t12
    · rw [l7 _ (by omega)]; exact hfee k hk
    · rw [b 3 (by decide), b 4 (by decide), b 5 (by decide), b 0 (by decide), b 2 (by decide), b 6 (by decide), b' 0 (by decide), b' 2 (by decide)]
      exact hdue
    · rw [own_va1 s _ (by decide), own_va1 t _ (by decide), own_va2 t _ (by decide) (by decide), own_va2 t _ (by decide) (by decide), own_va2 t _ (by decide) (by decide), own_va2 t _ (by decide) (by decide), own_va1 s _ (by decide)]
      exact t6
    · rw [own_va1 _ _ (by decide), own_va1 _ _ (by decide)]; exact t4
    · rw [own_va1 _ _ (by decide), own_va1 _ _ (by decide)]; exact t5
    · rw [b 1 (by decide), b' 1 (by decide)]; exact hFI.2.2.2 1 c (by omega)
  rw [a4]
  refine own_Ok.ite (fun q => ?_) fun q => ?_
  · rw [ofN_succ]
    refine mk u1 R1 m1.2.2.2 u11 u12 a4 a5 ?_
    rw [if_pos q, m1.2.2.1, own_u0]
  · refine own_Ok.rA (f := 5) m1.1 c ic hc ?_
    rw [a5]
    have z6 : own_A u1 6 c = Int32.ofNat 0 := by rw [m1.2.2.1, own_u0]; rfl
    obtain ⟨t, e, m⟩ := own_apd m1.1 c 0 hc (by decide) z6 0 (own_A s 5 c)
    rw [e]
    refine own_Ok.some_bind ?_
    rw [ofN_succ]
    have eA := m.2.2.1
    have n1 : ∀ g, g ≠ 6 → g ≠ 7 → g ≠ 8 → g ≠ 9 → g ≠ 10 → ∀ j, own_A t g j = own_A u1 g j := fun g h1 h2 h3 h4 h5 j => by
      rw [eA, own_u1 _ _ _ _ h1, own_u1 _ _ _ _ h5, own_u1 _ _ _ _ h4, own_u1 _ _ _ _ h3, own_u1 _ _ _ _ h2]
    have R2 : own_RF c s t := by
      refine ⟨m.1, fun j => (m.2.1 j).trans (R1.2.1 j), fun g j q => ?_, fun g j q => by rw [m.2.2.2]; exact R1.2.2.2 g j q⟩
      rw [← R1.2.2.1 g j q, eA]
      unfold own_u
      rw [if_neg (by omega), if_neg (by omega), if_neg (by omega), if_neg (by omega), if_neg (by omega)]
    refine mk t R2 (m.2.2.2.trans m1.2.2.2) (by rw [n1 11 (by decide) (by decide) (by decide) (by decide) (by decide)]; exact u11) (by rw [n1 12 (by decide) (by decide) (by decide) (by decide) (by decide)]; exact u12) (by rw [n1 4 (by decide) (by decide) (by decide) (by decide) (by decide)]; exact a4) (by rw [n1 5 (by decide) (by decide) (by decide) (by decide) (by decide)]; exact a5) ?_
    rw [if_neg q, eA]
    refine ⟨by rw [own_u0]; rfl, ?_, ?_, ?_, ?_⟩
    · rw [own_u1 _ _ _ _ (by decide), own_u1 _ _ _ _ (by decide), own_u1 _ _ _ _ (by decide), own_u1 _ _ _ _ (by decide), own_u0]
    · rw [own_u1 _ _ _ _ (by decide), own_u1 _ _ _ _ (by decide), own_u1 _ _ _ _ (by decide), own_u0]
    · rw [own_u1 _ _ _ _ (by decide), own_u1 _ _ _ _ (by decide), own_u0]
    · rw [own_u1 _ _ _ _ (by decide), own_u0]
theorem own_Cl.congr {cyc : Int32} {K : Int} {n : Nat} {fe fe' : Nat → Int} {x x2 x' : Nat → Nat → Int32} {y y2 y' : Nat → Nat → Int64} (h : own_Cl cyc K n fe x y x' y') (e1 : x2 4 0 = x 4 0) (e2 : x2 5 0 = x 5 0) (e3 : y2 = y) (e4 : ∀ k, k < n → fe' k = fe k) : own_Cl cyc K n fe' x2 y2 x' y' := by
  obtain ⟨h1, h2, h3, h4, h5, h6, h7, h8⟩ := h
  subst e3
  refine ⟨h1, h2, fun k hk => (h3 k hk).trans (e4 k hk).symm, h4, ?_, ?_, ?_, h8⟩
  · rw [e1, e2]; exact h5
  · rw [e1]; exact h6
  · rw [e2]; exact h7
theorem own_cust {s : St} (hS : own_Sh s) (hT : own_Tier (own_A s)) (hF : own_Fees (own_A s)) (hD : 7 ≤ (gI s 0).toInt ∧ (gI s 0).toInt ≤ 31) (hK : 0 ≤ (gI s 1).toInt ∧ (gI s 1).toInt ≤ 3000) {td : Int} (htd : td ≤ (gI s 0).toInt) (c : Nat) (hc : c < 16) (hC : own_CI (gI s 0).toInt td (own_va s c)) {P : Int32 × St → Prop} (v1 : Int32) (nx : ∀ n t, own_A s 6 c = Int32.ofNat n → own_RF c s t → own_Cl (gI s 3) (gI s 1).toInt n (own_fv (own_A s 0) (gI s 0).toInt n (own_va s c)) (own_va s c) (own_vb s c) (own_va t c) (own_vb t c) → own_Ok (fun N => f_closeCycle_14 N v1 (Int32.ofNat (c + 1)) t) P) : own_Ok (fun N => f_closeCycle_32 (f_closeCycle_14 N) N v1 (Int32.ofNat c) s) P := by
  have ic : (Int32.ofNat c).toInt = c := ofN_int (by omega)
  obtain ⟨n, hn, h6, hact, hseg⟩ := hC
  rw [own_va1 _ _ (by decide)] at h6
  rw [own_va1 s c (g := 4) (by decide)] at hact hseg
  have r4 : rd (gA s 4) (Int32.ofNat c) = some (own_A s 4 c) := own_rdA hS ic hc
  have r6 : rd (gA s 6) (Int32.ofNat c) = some (Int32.ofNat n) := by rw [own_rdA hS ic (f := 6) hc, h6]
  unfold f_closeCycle_32
  by_cases z : own_A s 4 c = 0
  · have eo : f_openSlot (Int32.ofNat c) s = some (-1) := by
      unfold f_openSlot; rw [r4, Option.bind_some, if_pos z]
    rw [eo]
    refine own_Ok.some_bind ?_
    refine own_Ok.ite (fun _ => ?_) fun q => absurd (by decide) q
    refine own_c52 hS hT hF hD hK c n hc hn h6 (fun k hk => ?_) v1 fun t hR hCl => ?_
    · obtain ⟨q1, q2, q3, q4⟩ := hseg k hk
      rw [if_neg fun h => h.1 z] at q4
      rw [own_va2 s c (g := 9) (by decide) (by omega)] at q1
      rw [own_va2 s c (g := 10) (by decide) (by omega)] at q2
      rw [own_va2 s c (g := 7) (by decide) (by omega)] at q3 q4
      rw [own_va2 s c (g := 8) (by decide) (by omega)] at q4
      exact ⟨q1, q2, q3, q4.1, q4.2⟩
    · refine nx n t h6 hR (hCl.congr rfl rfl rfl fun k hk => ?_)
      unfold own_fv own_fee
      rw [own_va1 s c (g := 4) (by decide), if_neg fun h => h.1 z, own_va2 s c (g := 9) (by decide) (by omega), own_va2 s c (g := 8) (by decide) (by omega), own_va2 s c (g := 7) (by decide) (by omega)]
  · have n1 := (hact z).1
    have es : Int32.ofNat c * 4 + Int32.ofNat n - 1 = Int32.ofNat (c * 4 + (n - 1)) := by
      obtain ⟨m, rfl⟩ : ∃ m, n = m + 1 := ⟨n - 1, by omega⟩
      rw [show m + 1 - 1 = m by omega, Int32.ofNat_add m 1, ← Int32.add_assoc]
      show _ + (1 : Int32) - 1 = _
      rw [Int32.add_sub_cancel, Int32.ofNat_add, Int32.ofNat_mul]; rfl
    have eo : f_openSlot (Int32.ofNat c) s = some (Int32.ofNat (c * 4 + (n - 1))) := by
      unfold f_openSlot f_openSlot_28
      rw [r4, Option.bind_some, if_neg z, r6, Option.bind_some, if_neg (fun q => by have := (ofN_ltL (m := 1) (by omega) (by decide)).mp q; omega), if_neg (fun q => by have := (ofN_gtL (m := 4) (by omega) (by decide)).mp q; omega), es]
    rw [eo]
    refine own_Ok.some_bind ?_
    refine own_Ok.ite (fun q => absurd q (ofN_nn (by omega))) fun _ => ?_
    refine own_Ok.wA (f := 8) hS (c * 4 + (n - 1)) (ofN_int (by omega)) (by show _ < 64; omega) fun s1 m1 => ?_
    have eA := m1.2.2.1
    have ne8 : ∀ g, g ≠ 8 → ∀ j, own_A s1 g j = own_A s g j := fun g hg j => by rw [eA, own_u1 _ _ _ _ hg]
    have g0 : gI s1 0 = gI s 0 := m1.2.1 0
    have g1 : gI s1 1 = gI s 1 := m1.2.1 1
    have g3 : gI s1 3 = gI s 3 := m1.2.1 3
    have eb : own_Bv s1 = own_Bv s := m1.2.2.2
    have evb : own_vb s1 c = own_vb s c := by
      funext g k; unfold own_vb; rw [eb]
    refine own_c52 m1.1 (fun i hi => by rw [ne8 2 (by decide), ne8 3 (by decide)]; exact hT i hi) (fun p hp => by rw [ne8 0 (by decide)]; exact hF p hp) (by rw [g0]; exact hD) (by rw [g1]; exact hK) c n hc hn (by rw [ne8 6 (by decide)]; exact h6) (fun k hk => ?_) v1 fun t hR hCl => ?_
    · obtain ⟨q1, q2, q3, q4⟩ := hseg k hk
      rw [own_va2 s c (g := 9) (by decide) (by omega)] at q1
      rw [own_va2 s c (g := 10) (by decide) (by omega)] at q2
      rw [own_va2 s c (g := 7) (by decide) (by omega)] at q3 q4
      rw [own_va2 s c (g := 8) (by decide) (by omega)] at q4
      refine ⟨by rw [ne8 9 (by decide)]; exact q1, by rw [ne8 10 (by decide)]; exact q2, by rw [ne8 7 (by decide)]; exact q3, ?_⟩
      rw [ne8 7 (by decide), eA, g0]
      by_cases w : k + 1 = n
      · rw [if_pos ⟨z, w⟩] at q4
        rw [show c * 4 + k = c * 4 + (n - 1) by omega, own_u0]
        rw [show c * 4 + (n - 1) = c * 4 + k by omega]
        omega
      · rw [if_neg fun h => w h.2] at q4
        rw [own_u2 _ _ _ _ (by omega)]; exact q4
    · have R : own_RF c s t := ((own_RF.refl hS).a m1 (by omega)).trans hR
      rw [g3, g1, g0] at hCl
      refine nx n t h6 R (hCl.congr ?_ ?_ evb.symm fun k hk => ?_)
      · rw [own_va1 _ _ (by decide), own_va1 _ _ (by decide), ne8 4 (by decide)]
      · rw [own_va1 _ _ (by decide), own_va1 _ _ (by decide), ne8 5 (by decide)]
      · unfold own_fv own_fee
        rw [own_va1 s c (g := 4) (by decide), own_va2 s c (g := 9) (by decide) (by omega), own_va2 s c (g := 8) (by decide) (by omega), own_va2 s c (g := 7) (by decide) (by omega), ne8 9 (by decide), ne8 7 (by decide), ne8 0 (by decide), eA]
        by_cases w : k + 1 = n
        · rw [if_pos ⟨z, w⟩, show c * 4 + k = c * 4 + (n - 1) by omega, own_u0]
        · rw [if_neg fun h => w h.2, own_u2 _ _ _ _ (by omega)]
/-! the whole -/
def own_I (s : St) : Prop := own_Sh s ∧ own_Tier (own_A s) ∧ own_Fees (own_A s) ∧ (7 ≤ (gI s 0).toInt ∧ (gI s 0).toInt ≤ 31) ∧ (0 ≤ (gI s 1).toInt ∧ (gI s 1).toInt ≤ 3000) ∧ (0 ≤ (gI s 2).toInt ∧ (gI s 2).toInt ≤ (gI s 0).toInt - 1) ∧ ∀ c, c < 16 → own_CI (gI s 0).toInt (gI s 2).toInt (own_va s c)
def own_cnt (s : St) : Nat → Int32
  | 0 => 0
  | j + 1 => if 0 < own_A s 6 j then own_cnt s j + 1 else own_cnt s j
def own_Cc (cyc : Int32) (s t : St) (c : Nat) : Prop := ∃ n, own_A s 6 c = Int32.ofNat n ∧ own_Cl cyc (gI s 1).toInt n (own_fv (own_A s 0) (gI s 0).toInt n (own_va s c)) (own_va s c) (own_vb s c) (own_va t c) (own_vb t c)
def own_Clo (s t : St) : Prop := own_Sh t ∧ gI t 0 = gI s 0 ∧ gI t 1 = gI s 1 ∧ gI t 2 = 0 ∧ gI t 3 = gI s 3 + 1 ∧ (∀ g, g < 4 → ∀ j, own_A t g j = own_A s g j) ∧ ∀ c, c < 16 → own_Cc (gI s 3 + 1) s t c
theorem own_close {s : St} (hI : own_I s) : own_Ok (fun N => f_closeCycle N s) (fun r => own_Clo s r.2 ∧ r.1 = own_cnt s 16) := by
  obtain ⟨hS, hT, hF, hD, hK, htd, hC⟩ := hI
  have key : ∀ k j t, j + k = 16 → (own_Sh t ∧ (∀ i, gI t i = if i = 3 then gI s 3 + 1 else gI s i) ∧ (∀ g, g < 4 → ∀ i, own_A t g i = own_A s g i) ∧ (∀ c, j ≤ c → own_va t c = own_va s c ∧ own_vb t c = own_vb s c) ∧ ∀ c, c < j → own_Cc (gI s 3 + 1) s t c) → own_Ok (fun N => f_closeCycle_14 N (own_cnt s j) (Int32.ofNat j) t) (fun r => own_Clo s r.2 ∧ r.1 = own_cnt s 16) := by
    intro k
    induction k with
    | zero =>
      intro j t hj h
      obtain rfl : j = 16 := by omega
      obtain ⟨h1, h2, h3, h4, h5⟩ := h
      refine own_Ok.step (g := fun N => g_closeCycle_14 (f_closeCycle_14 N) N (own_cnt s 16) (Int32.ofNat 16) t) (fun n => rfl) ?_
      unfold g_closeCycle_14 lt
      refine own_Ok.ite (fun q => absurd q (by decide)) fun _ => own_Ok.ret ⟨⟨h1, ?_, ?_, ?_, ?_, h3, h5⟩, rfl⟩
      · show gI (sI t 2 0) 0 = _
        rw [gI_sI, if_neg (by decide), h2, if_neg (by decide)]
      · show gI (sI t 2 0) 1 = _
        rw [gI_sI, if_neg (by decide), h2, if_neg (by decide)]
      · rfl
      · show gI (sI t 2 0) 3 = _
        rw [gI_sI, if_neg (by decide), h2, if_pos rfl]
    | succ k ih =>
      intro j t hj h
      obtain ⟨h1, h2, h3, h4, h5⟩ := h
      have i0 : gI t 0 = gI s 0 := by rw [h2, if_neg (by decide)]
      have i1 : gI t 1 = gI s 1 := by rw [h2, if_neg (by decide)]
      have i3 : gI t 3 = gI s 3 + 1 := by rw [h2, if_pos rfl]
      have a6 : own_A t 6 j = own_A s 6 j := by rw [← own_va1 t j (g := 6) (by decide), (h4 j (Nat.le_refl _)).1, own_va1 s j (by decide)]
      refine own_Ok.step (g := fun N => g_closeCycle_14 (f_closeCycle_14 N) N (own_cnt s j) (Int32.ofNat j) t) (fun n => rfl) ?_
      have go : ∀ v1, v1 = own_cnt s (j + 1) → own_Ok (fun N => f_closeCycle_32 (f_closeCycle_14 N) N v1 (Int32.ofNat j) t) (fun r => own_Clo s r.2 ∧ r.1 = own_cnt s 16) := fun v1 hv => by
        subst hv
        refine own_cust h1 (fun i hi => by rw [h3 2 (by decide), h3 3 (by decide)]; exact hT i hi) (fun p hp => by rw [h3 0 (by decide)]; exact hF p hp) (by rw [i0]; exact hD) (by rw [i1]; exact hK) (td := (gI s 2).toInt) (by rw [i0]; omega) j (by omega) (by rw [i0, (h4 j (Nat.le_refl _)).1]; exact hC j (by omega)) _ fun n t' n6 hR hCl => ?_
        rw [i3, i1, i0, (h4 j (Nat.le_refl _)).1, (h4 j (Nat.le_refl _)).2, show own_A t 0 = own_A s 0 from funext fun i => h3 0 (by decide) i] at hCl
        refine ih (j + 1) t' (by omega) ⟨hR.1, fun i => (hR.2.1 i).trans (h2 i), fun g hg i => (hR.g hg i).trans (h3 g hg i), fun c hc => ?_, fun c hc => ?_⟩
        · rw [hR.va (by omega), hR.vb (by omega)]; exact h4 c (by omega)
        · by_cases q : c = j
          · subst q; exact ⟨n, by rw [← a6]; exact n6, hCl⟩
          · obtain ⟨m, m1, m2⟩ := h5 c (by omega)
            refine ⟨m, m1, ?_⟩
            rw [hR.va q, hR.vb q]; exact m2
      unfold g_closeCycle_14 lt
      refine own_Ok.ite (fun _ => ?_) fun q => absurd ((ofN_ltL (m := 16) (by omega) (by decide)).mpr (by omega)) q
      refine own_Ok.rA (f := 6) h1 j (ofN_int (by omega)) (by show _ < 16; omega) ?_
      rw [a6]
      refine own_Ok.ite (fun q => ?_) fun q => ?_
      · exact go _ (if_pos q).symm
      · exact go _ (if_neg q).symm
  unfold f_closeCycle lt
  refine key 16 0 (sI s 3 (gI s 3 + 1)) rfl ⟨hS, fun i => gI_sI _ _ _ _, fun _ _ _ => rfl, fun _ _ => ⟨rfl, rfl⟩, fun c hc => absurd hc (Nat.not_lt_zero _)⟩

/-! the calls -/
def own_vaA (a : Nat → Nat → Int32) (c g k : Nat) : Int32 := if g = 4 ∨ g = 5 ∨ g = 6 ∨ g = 11 ∨ g = 12 then (if k = 0 then a g c else 0) else if 7 ≤ g ∧ g ≤ 10 then (if k < 4 then a g (c * 4 + k) else 0) else 0
def own_vbB (b : Nat → Nat → Int64) (c g k : Nat) : Int64 := if g ≤ 6 then (if k = 0 then b g c else 0) else if g ≤ 8 then (if k < 8 then b g (c * 8 + k) else 0) else 0
theorem own_vae (s : St) (c : Nat) : own_va s c = own_vaA (own_A s) c := rfl
theorem own_vbe (s : St) (c : Nat) : own_vb s c = own_vbB (own_Bv s) c := rfl
theorem own_vaS (a : Nat → Nat → Int32) (c g k : Nat) (x : Int32) (h : 7 ≤ g ∧ g ≤ 10) (hk : k < 4) : own_vaA (own_u a g (c * 4 + k) x) c = own_u (own_vaA a c) g k x := by
  funext f j
  show own_vaA (own_u a g (c * 4 + k) x) c f j = if f = g ∧ j = k then x else own_vaA a c f j
  unfold own_vaA own_u
  by_cases q : f = g
  · subst q
    have nn : ¬ (f = 4 ∨ f = 5 ∨ f = 6 ∨ f = 11 ∨ f = 12) := by omega
    simp only [if_neg nn, if_pos h]
    by_cases w : j = k
    · subst w; rw [if_pos hk, if_pos ⟨trivial, rfl⟩, if_pos ⟨trivial, rfl⟩]
    · rw [if_neg (fun e : True ∧ j = k => w e.2)]
      by_cases v : j < 4
      · rw [if_pos v, if_pos v, if_neg (by omega)]
      · rw [if_neg v, if_neg v]
  · rw [if_neg (fun e : f = g ∧ j = k => q e.1)]
    split
    · split
      · rw [if_neg (by omega)]
      · rfl
    · split
      · split
        · rw [if_neg (by omega)]
        · rfl
      · rfl
theorem own_vaO (a : Nat → Nat → Int32) (c g : Nat) (x : Int32) (h : g = 4 ∨ g = 5 ∨ g = 6 ∨ g = 11 ∨ g = 12) : own_vaA (own_u a g c x) c = own_u (own_vaA a c) g 0 x := by
  funext f j
  show own_vaA (own_u a g c x) c f j = if f = g ∧ j = 0 then x else own_vaA a c f j
  unfold own_vaA own_u
  by_cases q : f = g
  · subst q
    rw [if_pos h, if_pos h]
    by_cases w : j = 0
    · subst w; rw [if_pos rfl, if_pos ⟨rfl, rfl⟩, if_pos ⟨rfl, rfl⟩]
    · rw [if_neg w, if_neg (fun e : f = f ∧ j = 0 => w e.2), if_neg w]
  · rw [if_neg (fun e : f = g ∧ j = 0 => q e.1)]
    split
    · split
      · rw [if_neg (fun e => q e.1)]
      · rfl
    · split
      · split
        · rw [if_neg (fun e => q e.1)]
        · rfl
      · rfl
theorem own_vbO (b : Nat → Nat → Int64) (c g : Nat) (x : Int64) (h : g ≤ 6) : own_vbB (own_u b g c x) c = own_u (own_vbB b c) g 0 x := by
  funext f j
  show own_vbB (own_u b g c x) c f j = if f = g ∧ j = 0 then x else own_vbB b c f j
  unfold own_vbB own_u
  by_cases q : f = g
  · subst q
    rw [if_pos h, if_pos h]
    by_cases w : j = 0
    · subst w; rw [if_pos rfl, if_pos ⟨rfl, rfl⟩, if_pos ⟨rfl, rfl⟩]
    · rw [if_neg w, if_neg (fun e : f = f ∧ j = 0 => w e.2), if_neg w]
  · rw [if_neg (fun e : f = g ∧ j = 0 => q e.1)]
    split
    · split
      · rw [if_neg (fun e => q e.1)]
      · rfl
    · split
      · split
        · rw [if_neg (fun e => q e.1)]
        · rfl
      · rfl
theorem own_vcE (p : Int32) (s : St) : f_validCustomer p s = some (if 0 ≤ p.toInt ∧ p.toInt < 16 then 1 else 0) := by
  have z : (0 : Int32).toInt = 0 := by decide
  have k : (16 : Int32).toInt = 16 := by decide
  unfold f_validCustomer f_validCustomer_14 f_validCustomer_15
  by_cases c : p < 0
  · rw [if_pos c]
    rw [x32_lt, z] at c
    rw [if_neg (by omega)]; rfl
  · rw [if_neg c]
    rw [x32_lt, z] at c
    by_cases d : p < 16
    · rw [if_pos d]
      rw [x32_lt, k] at d
      rw [if_pos (by omega)]; rfl
    · rw [if_neg d]
      rw [x32_lt, k] at d
      rw [if_neg (by omega)]; rfl
theorem own_vpE (p : Int32) (s : St) : f_validPlan p s = some (if 0 ≤ p.toInt ∧ p.toInt ≤ 7 then 1 else 0) := by
  have z : (0 : Int32).toInt = 0 := by decide
  have k : (8 : Int32).toInt = 8 := by decide
  unfold f_validPlan f_validPlan_14 f_validPlan_15
  by_cases c : p < 0
  · rw [if_pos c]
    rw [x32_lt, z] at c
    rw [if_neg (by omega)]; rfl
  · rw [if_neg c]
    rw [x32_lt, z] at c
    by_cases d : p < 8
    · rw [if_pos d]
      rw [x32_lt, k] at d
      rw [if_pos (by omega)]; rfl
    · rw [if_neg d]
      rw [x32_lt, k] at d
      rw [if_neg (by omega)]; rfl
theorem own_vdE (d : Int32) {s : St} (hD : 7 ≤ (gI s 0).toInt ∧ (gI s 0).toInt ≤ 31) : f_validDay d s = some (if (gI s 2).toInt ≤ d.toInt ∧ d.toInt ≤ (gI s 0).toInt - 1 then 1 else 0) := by
  have o : (1 : Int32).toInt = 1 := by decide
  have e : (gI s 0 - 1).toInt = (gI s 0).toInt - 1 := by rw [x32_sub (by omega) (by omega), o]
  unfold f_validDay f_validDay_22 f_validDay_23
  by_cases c : d < gI s 2
  · rw [if_pos c]
    rw [x32_lt] at c
    rw [if_neg (by omega)]; rfl
  · rw [if_neg c]
    rw [x32_lt] at c
    by_cases q : gI s 0 - 1 < d
    · rw [if_pos q]
      rw [x32_lt, e] at q
      rw [if_neg (by omega)]; rfl
    · rw [if_neg q]
      rw [x32_lt, e] at q
      rw [if_pos (by omega)]; rfl
theorem own_01 : ¬ (1 : Int32) = 0 := by decide
/-- the customer c's cells are x and y, the day is d; all else is s -/
def own_Ef (c : Nat) (x : Nat → Nat → Int32) (y : Nat → Nat → Int64) (d : Int32) (s t : St) : Prop := own_Sh t ∧ (∀ j, gI t j = if j = 2 then d else gI s j) ∧ (∀ g, g < 4 → ∀ j, own_A t g j = own_A s g j) ∧ (∀ e, e ≠ c → own_va t e = own_va s e ∧ own_vb t e = own_vb s e) ∧ own_va t c = x ∧ own_vb t c = y
theorem own_RF.ef {c : Nat} {s t : St} (h : own_RF c s t) (d : Int32) : own_Ef c (own_va t c) (own_vb t c) d s (sI t 2 d) := by
  refine ⟨h.1, fun j => ?_, fun g hg j => h.g hg j, fun e he => ⟨h.va he, h.vb he⟩, rfl, rfl⟩
  rw [gI_sI, h.2.1]
theorem own_CI.mono {D td td' : Int} {x : Nat → Nat → Int32} (h : own_CI D td x) (k : td ≤ td') : own_CI D td' x := by
  obtain ⟨n, h1, h2, h3, h4⟩ := h
  refine ⟨n, h1, h2, h3, fun i hi => ⟨(h4 i hi).1, (h4 i hi).2.1, (h4 i hi).2.2.1, ?_⟩⟩
  have := (h4 i hi).2.2.2
  split
  · rename_i q
    rw [if_pos q] at this
    exact ⟨this.1, by omega⟩
  · rename_i q
    rw [if_neg q] at this; exact this
theorem own_Ef.I {c : Nat} {x : Nat → Nat → Int32} {y : Nat → Nat → Int64} {d : Int32} {s t : St} (h : own_Ef c x y d s t) (hI : own_I s) (hd : (gI s 2).toInt ≤ d.toInt ∧ d.toInt ≤ (gI s 0).toInt - 1) (hx : own_CI (gI s 0).toInt d.toInt x) : own_I t := by
  obtain ⟨hS, hT, hF, hD, hK, htd, hC⟩ := hI
  obtain ⟨e1, e2, e3, e4, e5, e6⟩ := h
  have i0 : gI t 0 = gI s 0 := by rw [e2, if_neg (by decide)]
  have i1 : gI t 1 = gI s 1 := by rw [e2, if_neg (by decide)]
  have i2 : gI t 2 = d := by rw [e2, if_pos rfl]
  refine ⟨e1, fun i hi => by rw [e3 2 (by decide), e3 3 (by decide)]; exact hT i hi, fun i hi => by rw [e3 0 (by decide)]; exact hF i hi, by rw [i0]; exact hD, by rw [i1]; exact hK, by rw [i0, i2]; omega, fun e he => ?_⟩
  rw [i0, i2]
  by_cases q : e = c
  · rw [q, e5]; exact hx
  · rw [(e4 e q).1]; exact (hC e he).mono hd.1
def own_xs (x : Nat → Nat → Int32) (n : Nat) (d p : Int32) : Nat → Nat → Int32 := own_u (own_u (own_u (own_u (own_u x 7 n d) 8 n (-1)) 9 n p) 10 n 0) 6 0 (Int32.ofNat (n + 1))
theorem own_apR {s : St} (hS : own_Sh s) (c n : Nat) (hc : c < 16) (hn : n < 4) (h6 : own_A s 6 c = Int32.ofNat n) (d p : Int32) : ∃ t, f_appendSegment (Int32.ofNat c) d p s = some t ∧ own_RF c s t ∧ own_va t c = own_xs (own_va s c) n d p ∧ own_vb t c = own_vb s c := by
  obtain ⟨t, e, m⟩ := own_apd hS c n hc hn h6 d p
  refine ⟨t, e, ⟨m.1, m.2.1, fun g j q => ?_, fun g j q => by rw [m.2.2.2]⟩, ?_, ?_⟩
  · rw [m.2.2.1]
    unfold own_u
    rw [if_neg (by omega), if_neg (by omega), if_neg (by omega), if_neg (by omega), if_neg (by omega)]
  · rw [own_vae, own_vae, m.2.2.1, own_vaO _ _ _ _ (by decide), own_vaS _ _ _ _ _ (by decide) hn, own_vaS _ _ _ _ _ (by decide) hn, own_vaS _ _ _ _ _ (by decide) hn, own_vaS _ _ _ _ _ (by decide) hn]; rfl
  · rw [own_vbe, own_vbe, m.2.2.2]
def own_dayok (s : St) (d : Int32) : Prop := (gI s 2).toInt ≤ d.toInt ∧ d.toInt ≤ (gI s 0).toInt - 1
def own_cS (s : St) (cu p d : Int32) (c : Nat) : Prop := c < 16 ∧ cu = Int32.ofNat c ∧ own_A s 4 c = 0 ∧ (0 ≤ p.toInt ∧ p.toInt ≤ 7) ∧ own_dayok s d ∧ own_A s 6 c < 4
theorem own_CIs {D td : Int} {x : Nat → Nat → Int32} {n : Nat} {d p : Int32} (h : own_CI D td x) (h4 : x 4 0 = 0) (hn : n < 4) (h6 : x 6 0 = Int32.ofNat n) (ht : 0 ≤ td) (hd : td ≤ d.toInt ∧ d.toInt ≤ D - 1) (hp : 0 ≤ p.toInt ∧ p.toInt ≤ 7) : own_CI D d.toInt (own_u (own_u (own_xs x n d p) 4 0 1) 5 0 p) := by
  obtain ⟨m, hm, hm6, -, hs⟩ := h
  obtain rfl : m = n := (ofN_eq (by omega) (by omega)).mp (hm6.symm.trans h6)
  have e4 : own_u (own_u (own_xs x m d p) 4 0 1) 5 0 p 4 0 = 1 := by simp [own_xs, own_u]
  have e5 : own_u (own_u (own_xs x m d p) 4 0 1) 5 0 p 5 0 = p := by simp [own_u]
  have e6 : own_u (own_u (own_xs x m d p) 4 0 1) 5 0 p 6 0 = Int32.ofNat (m + 1) := by simp [own_xs, own_u]
  have e7 : ∀ k, own_u (own_u (own_xs x m d p) 4 0 1) 5 0 p 7 k = if k = m then d else x 7 k := fun k => by simp [own_xs, own_u]
  have e8 : ∀ k, own_u (own_u (own_xs x m d p) 4 0 1) 5 0 p 8 k = if k = m then -1 else x 8 k := fun k => by simp [own_xs, own_u]
  have e9 : ∀ k, own_u (own_u (own_xs x m d p) 4 0 1) 5 0 p 9 k = if k = m then p else x 9 k := fun k => by simp [own_xs, own_u]
  have e10 : ∀ k, own_u (own_u (own_xs x m d p) 4 0 1) 5 0 p 10 k = if k = m then 0 else x 10 k := fun k => by simp [own_xs, own_u]
  have z : (0 : Int32).toInt = 0 := by decide
  refine ⟨m + 1, by omega, e6, fun _ => ⟨by omega, by rw [e5]; exact hp⟩, fun k hk => ?_⟩
  rw [e4, e7, e8, e9, e10]
  by_cases q : k = m
  · rw [if_pos q, if_pos q, if_pos q, if_pos q, if_pos ⟨own_01, by omega⟩, z]
    exact ⟨hp, by omega, by omega, rfl, by omega⟩
  · rw [if_neg q, if_neg q, if_neg q, if_neg q, if_neg (by omega)]
    have := hs k (by omega)
    rw [if_neg (fun e => e.1 h4)] at this
    exact this
theorem own_subO {s : St} (hI : own_I s) (cu p d : Int32) : ∃ r, f_subscribe cu p d s = some r ∧ ((r = (0, s) ∧ ∀ c, ¬ own_cS s cu p d c) ∨ ∃ c n, own_cS s cu p d c ∧ n < 4 ∧ own_A s 6 c = Int32.ofNat n ∧ r.1 = 1 ∧ own_Ef c (own_u (own_u (own_xs (own_va s c) n d p) 4 0 1) 5 0 p) (own_vb s c) d s r.2 ∧ own_I r.2) := by
  have hI0 := hI
  obtain ⟨hS, hT, hF, hD, hK, htd, hC⟩ := hI
  have no : ∀ r, r = some ((0 : Int32), s) → (∀ c, ¬ own_cS s cu p d c) → ∃ r', r = some r' ∧ ((r' = (0, s) ∧ ∀ c, ¬ own_cS s cu p d c) ∨ ∃ c n, own_cS s cu p d c ∧ n < 4 ∧ own_A s 6 c = Int32.ofNat n ∧ r'.1 = 1 ∧ own_Ef c (own_u (own_u (own_xs (own_va s c) n d p) 4 0 1) 5 0 p) (own_vb s c) d s r'.2 ∧ own_I r'.2) := fun r h k => ⟨_, h, Or.inl ⟨rfl, k⟩⟩
  unfold f_subscribe f_subscribe_25 f_subscribe_45
  rw [own_vcE, Option.bind_some]
  by_cases q1 : 0 ≤ cu.toInt ∧ cu.toInt < 16
  rotate_left
  · rw [if_neg q1, if_pos rfl]
    refine no _ rfl fun c h => q1 ?_
    rw [h.2.1, ofN_int (by have := h.1; omega)]
    have := h.1; omega
  rw [if_pos q1, if_neg own_01]
  obtain ⟨c, hc, ec⟩ : ∃ c, c < 16 ∧ cu = Int32.ofNat c := ⟨cu.toInt.toNat, by omega, ofN_of (by omega)⟩
  have cc : ∀ c', own_cS s cu p d c' → c' = c := fun c' h => by
    have h1 := h.1
    have h2 := h.2.1
    rw [ec] at h2
    exact ((ofN_eq (by omega) (by omega)).mp h2).symm
  have ic : cu.toInt = c := by rw [ec]; exact ofN_int (by omega)
  rw [own_rdA hS ic (f := 4) hc, Option.bind_some]
  by_cases q2 : own_A s 4 c = 0
  rotate_left
  · rw [if_neg q2]
    exact no _ rfl fun c' h => q2 (by have := cc c' h; subst this; exact h.2.2.1)
  rw [if_pos q2, own_vpE, Option.bind_some]
  by_cases q3 : 0 ≤ p.toInt ∧ p.toInt ≤ 7
  rotate_left
  · rw [if_neg q3, if_pos rfl]
    exact no _ rfl fun c' h => q3 h.2.2.2.1
  rw [if_pos q3, if_neg own_01, own_vdE _ hD, Option.bind_some]
  by_cases q4 : (gI s 2).toInt ≤ d.toInt ∧ d.toInt ≤ (gI s 0).toInt - 1
  rotate_left
  · rw [if_neg q4, if_pos rfl]
    exact no _ rfl fun c' h => q4 h.2.2.2.2.1
  rw [if_pos q4, if_neg own_01, own_rdA hS ic (f := 6) hc, Option.bind_some]
  by_cases q5 : own_A s 6 c < 4
  rotate_left
  · rw [if_neg q5]
    exact no _ rfl fun c' h => q5 (by have := cc c' h; subst this; exact h.2.2.2.2.2)
  rw [if_pos q5]
  obtain ⟨n, hn, h6, hact, hseg⟩ := hC c hc
  rw [own_va1 _ _ (by decide)] at h6
  have hn4 : n < 4 := by
    rw [h6] at q5
    exact (ofN_ltL (m := 4) (by omega) (by decide)).mp q5
  obtain ⟨t, et, hR, ea, eb⟩ := own_apR hS c n hc hn4 h6 d p
  obtain ⟨t1, e1, m1⟩ := own_wrA hR.1 (f := 4) (i := cu) 1 ic hc
  obtain ⟨t2, e2, m2⟩ := own_wrA m1.1 (f := 5) (i := cu) p ic hc
  rw [← ec] at et
  rw [et, Option.bind_some, e1, Option.bind_some, e2, Option.bind_some]
  refine ⟨_, rfl, Or.inr ⟨c, n, ⟨hc, ec, q2, q3, q4, q5⟩, hn4, h6, rfl, ?_⟩⟩
  have R2 : own_RF c s t2 := (hR.a m1 (by omega)).a m2 (by omega)
  have ea2 : own_va t2 c = own_u (own_u (own_xs (own_va s c) n d p) 4 0 1) 5 0 p := by
    rw [own_vae, m2.2.2.1, own_vaO _ _ _ _ (by decide), m1.2.2.1, own_vaO _ _ _ _ (by decide), ← own_vae, ea]
  have eb2 : own_vb t2 c = own_vb s c := by rw [own_vbe, m2.2.2.2, m1.2.2.2, ← own_vbe, eb]
  have E := R2.ef d
  rw [ea2, eb2] at E
  refine ⟨E, E.I hI0 q4 ?_⟩
  rw [← own_va1 s c (g := 4) (by decide)] at q2
  rw [← own_va1 s c (g := 6) (by decide)] at h6
  exact own_CIs (hC c hc) q2 hn4 h6 htd.1 q4 q3

theorem own_osl {s : St} (hS : own_Sh s) (c n : Nat) (hc : c < 16) (hn : n ≤ 4) (n1 : 1 ≤ n) (h6 : own_A s 6 c = Int32.ofNat n) (z : ¬ own_A s 4 c = 0) : f_openSlot (Int32.ofNat c) s = some (Int32.ofNat (c * 4 + (n - 1))) := by
  have ic : (Int32.ofNat c).toInt = c := ofN_int (by omega)
  have es : Int32.ofNat c * 4 + Int32.ofNat n - 1 = Int32.ofNat (c * 4 + (n - 1)) := by
    obtain ⟨m, rfl⟩ : ∃ m, n = m + 1 := ⟨n - 1, by omega⟩
    rw [show m + 1 - 1 = m by omega, Int32.ofNat_add m 1, ← Int32.add_assoc]
    show _ + (1 : Int32) - 1 = _
    rw [Int32.add_sub_cancel, Int32.ofNat_add, Int32.ofNat_mul]; rfl
  unfold f_openSlot f_openSlot_28
  rw [own_rdA hS ic (f := 4) hc, Option.bind_some, if_neg z, own_rdA hS ic (f := 6) hc, Option.bind_some, h6, if_neg (fun q => by have := (ofN_ltL (m := 1) (by omega) (by decide)).mp q; omega), if_neg (fun q => by have := (ofN_gtL (m := 4) (by omega) (by decide)).mp q; omega), es]
def own_cA (s : St) (cu d : Int32) (c : Nat) : Prop := c < 16 ∧ cu = Int32.ofNat c ∧ (¬ own_A s 4 c = 0) ∧ own_dayok s d
theorem own_cuN {cu : Int32} (q1 : 0 ≤ cu.toInt ∧ cu.toInt < 16) : ∃ c, c < 16 ∧ cu = Int32.ofNat c ∧ cu.toInt = c := by
  refine ⟨cu.toInt.toNat, by omega, ofN_of (by omega), by omega⟩
theorem own_cuq {cu : Int32} {c : Nat} (hc : c < 16) (e : cu = Int32.ofNat c) : 0 ≤ cu.toInt ∧ cu.toInt < 16 := by
  rw [e, ofN_int (by omega)]; omega
theorem own_cue {cu : Int32} {c c' : Nat} (hc : c < 16) (e : cu = Int32.ofNat c) (hc' : c' < 16) (e' : cu = Int32.ofNat c') : c' = c := by
  rw [e] at e'
  exact ((ofN_eq (by omega) (by omega)).mp e').symm
def own_xc (x : Nat → Nat → Int32) (n : Nat) (d p : Int32) : Nat → Nat → Int32 := own_u (own_xs (own_u x 8 (n - 1) d) n d p) 5 0 p
theorem own_CIc {D td : Int} {x : Nat → Nat → Int32} {n : Nat} {d p : Int32} (h : own_CI D td x) (h4 : ¬ x 4 0 = 0) (hn : n < 4) (h6 : x 6 0 = Int32.ofNat n) (ht : 0 ≤ td) (hd : td ≤ d.toInt ∧ d.toInt ≤ D - 1) (hp : 0 ≤ p.toInt ∧ p.toInt ≤ 7) : own_CI D d.toInt (own_xc x n d p) := by
  obtain ⟨m, hm, hm6, ha, hs⟩ := h
  obtain rfl : m = n := (ofN_eq (by omega) (by omega)).mp (hm6.symm.trans h6)
  have m1 := (ha h4).1
  have e4 : own_xc x m d p 4 0 = x 4 0 := by simp [own_xc, own_xs, own_u]
  have e5 : own_xc x m d p 5 0 = p := by simp [own_xc, own_u]
  have e6 : own_xc x m d p 6 0 = Int32.ofNat (m + 1) := by simp [own_xc, own_xs, own_u]
  have e7 : ∀ k, own_xc x m d p 7 k = if k = m then d else x 7 k := fun k => by simp [own_xc, own_xs, own_u]
  have e8 : ∀ k, own_xc x m d p 8 k = if k = m then -1 else if k = m - 1 then d else x 8 k := fun k => by simp [own_xc, own_xs, own_u]
  have e9 : ∀ k, own_xc x m d p 9 k = if k = m then p else x 9 k := fun k => by simp [own_xc, own_xs, own_u]
  have e10 : ∀ k, own_xc x m d p 10 k = if k = m then 0 else x 10 k := fun k => by simp [own_xc, own_xs, own_u]
  have z : (0 : Int32).toInt = 0 := by decide
  refine ⟨m + 1, by omega, e6, fun _ => ⟨by omega, by rw [e5]; exact hp⟩, fun k hk => ?_⟩
  rw [e4, e7, e8, e9, e10]
  by_cases q : k = m
  · rw [if_pos q, if_pos q, if_pos q, if_pos q, if_pos ⟨h4, by omega⟩, z]
    exact ⟨hp, by omega, by omega, rfl, by omega⟩
  · rw [if_neg q, if_neg q, if_neg q, if_neg q, if_neg (by omega)]
    have w := hs k (by omega)
    by_cases r : k = m - 1
    · rw [if_pos ⟨h4, by omega⟩] at w
      rw [if_pos r]
      exact ⟨w.1, w.2.1, w.2.2.1, by omega, by omega⟩
    · rw [if_neg (by omega)] at w
      rw [if_neg r]; exact w
theorem own_chpO {s : St} (hI : own_I s) (cu p d : Int32) : ∃ r, f_changePlan cu p d s = some r ∧ ((r = (0, s) ∧ ∀ c, ¬ (own_cA s cu d c ∧ (0 ≤ p.toInt ∧ p.toInt ≤ 7) ∧ own_A s 6 c < 4)) ∨ ∃ c n, own_cA s cu d c ∧ (0 ≤ p.toInt ∧ p.toInt ≤ 7) ∧ n < 4 ∧ 1 ≤ n ∧ own_A s 6 c = Int32.ofNat n ∧ r.1 = 1 ∧ own_Ef c (own_xc (own_va s c) n d p) (own_vb s c) d s r.2 ∧ own_I r.2) := by
  have hI0 := hI
  obtain ⟨hS, hT, hF, hD, hK, htd, hC⟩ := hI
  generalize hG : (fun r' : Int32 × St => ((r' = (0, s) ∧ ∀ c, ¬ (own_cA s cu d c ∧ (0 ≤ p.toInt ∧ p.toInt ≤ 7) ∧ own_A s 6 c < 4)) ∨ ∃ c n, own_cA s cu d c ∧ (0 ≤ p.toInt ∧ p.toInt ≤ 7) ∧ n < 4 ∧ 1 ≤ n ∧ own_A s 6 c = Int32.ofNat n ∧ r'.1 = 1 ∧ own_Ef c (own_xc (own_va s c) n d p) (own_vb s c) d s r'.2 ∧ own_I r'.2)) = G
  suffices hs : ∃ r, f_changePlan cu p d s = some r ∧ G r by rw [← hG] at hs; exact hs
  have no : ∀ r, r = some ((0 : Int32), s) → (∀ c, ¬ (own_cA s cu d c ∧ (0 ≤ p.toInt ∧ p.toInt ≤ 7) ∧ own_A s 6 c < 4)) → ∃ r', r = some r' ∧ G r' := fun r h k => ⟨_, h, by rw [← hG]; exact Or.inl ⟨rfl, k⟩⟩
  unfold f_changePlan f_changePlan_25 f_changePlan_45
  rw [own_vcE, Option.bind_some]
  by_cases q1 : 0 ≤ cu.toInt ∧ cu.toInt < 16
  rotate_left
  · rw [if_neg q1, if_pos rfl]
    exact no _ rfl fun c h => q1 (own_cuq h.1.1 h.1.2.1)
  rw [if_pos q1, if_neg own_01]
  obtain ⟨c, hc, ec, ic⟩ := own_cuN q1
  rw [own_rdA hS ic (f := 4) hc, Option.bind_some]
  by_cases q2 : own_A s 4 c = 0
  · rw [if_pos q2]
    exact no _ rfl fun c' h => h.1.2.2.1 (by rw [own_cue hc ec h.1.1 h.1.2.1]; exact q2)
  rw [if_neg q2, own_vpE, Option.bind_some]
  by_cases q3 : 0 ≤ p.toInt ∧ p.toInt ≤ 7
  rotate_left
  · rw [if_neg q3, if_pos rfl]
    exact no _ rfl fun c' h => q3 h.2.1
  rw [if_pos q3, if_neg own_01, own_vdE _ hD, Option.bind_some]
  by_cases q4 : (gI s 2).toInt ≤ d.toInt ∧ d.toInt ≤ (gI s 0).toInt - 1
  rotate_left
  · rw [if_neg q4, if_pos rfl]
    exact no _ rfl fun c' h => q4 h.1.2.2.2
  rw [if_pos q4, if_neg own_01, own_rdA hS ic (f := 6) hc, Option.bind_some]
  by_cases q5 : own_A s 6 c < 4
  rotate_left
  · rw [if_neg q5]
    exact no _ rfl fun c' h => q5 (by rw [← own_cue hc ec h.1.1 h.1.2.1]; exact h.2.2)
  rw [if_pos q5]
  obtain ⟨n, hn, h6, hact, hseg⟩ := hC c hc
  rw [own_va1 _ _ (by decide)] at h6
  rw [own_va1 s c (g := 4) (by decide)] at hact
  have n1 := (hact q2).1
  have hn4 : n < 4 := by
    rw [h6] at q5
    exact (ofN_ltL (m := 4) (by omega) (by decide)).mp q5
  have eo := own_osl hS c n hc hn n1 h6 q2
  rw [← ec] at eo
  rw [eo, Option.bind_some, if_neg (ofN_nn (by omega))]
  obtain ⟨t0, e0, m0⟩ := own_wrA hS (f := 8) (i := Int32.ofNat (c * 4 + (n - 1))) d (ofN_int (by omega)) (by show _ < 64; omega)
  have R0 : own_RF c s t0 := (own_RF.refl hS).a m0 (by omega)
  have t06 : own_A t0 6 c = Int32.ofNat n := by rw [m0.2.2.1, own_u1 _ _ _ _ (by decide)]; exact h6
  obtain ⟨t, et, hR, ea, eb⟩ := own_apR m0.1 c n hc hn4 t06 d p
  obtain ⟨t2, e2, m2⟩ := own_wrA hR.1 (f := 5) (i := cu) p ic hc
  rw [← ec] at et
  rw [e0, Option.bind_some, et, Option.bind_some, e2, Option.bind_some]
  refine ⟨_, rfl, ?_⟩
  rw [← hG]
  refine Or.inr ⟨c, n, ⟨hc, ec, q2, q4⟩, q3, hn4, n1, h6, rfl, ?_⟩
  have R2 : own_RF c s t2 := (R0.trans hR).a m2 (by omega)
  have ea2 : own_va t2 c = own_xc (own_va s c) n d p := by
    rw [own_vae, m2.2.2.1, own_vaO _ _ _ _ (by decide), ← own_vae, ea, own_vae, m0.2.2.1, own_vaS _ _ _ _ _ (by decide) (by omega), ← own_vae]; rfl
  have eb2 : own_vb t2 c = own_vb s c := by rw [own_vbe, m2.2.2.2, ← own_vbe, eb, own_vbe, m0.2.2.2, ← own_vbe]
  have E := R2.ef d
  rw [ea2, eb2] at E
  refine ⟨E, E.I hI0 q4 ?_⟩
  rw [← own_va1 s c (g := 4) (by decide)] at q2
  rw [← own_va1 s c (g := 6) (by decide)] at h6
  exact own_CIc (hC c hc) q2 hn4 h6 htd.1 q4 q3
def own_xk (x : Nat → Nat → Int32) (n : Nat) (d : Int32) : Nat → Nat → Int32 := own_u (own_u x 8 (n - 1) d) 4 0 0
theorem own_CIk {D td : Int} {x : Nat → Nat → Int32} {n : Nat} {d : Int32} (h : own_CI D td x) (h4 : ¬ x 4 0 = 0) (hn : n ≤ 4) (h6 : x 6 0 = Int32.ofNat n) (hd : td ≤ d.toInt ∧ d.toInt ≤ D - 1) : own_CI D d.toInt (own_xk x n d) := by
  obtain ⟨m, hm, hm6, ha, hs⟩ := h
  obtain rfl : m = n := (ofN_eq (by omega) (by omega)).mp (hm6.symm.trans h6)
  have m1 := (ha h4).1
  have e4 : own_xk x m d 4 0 = 0 := by simp [own_xk, own_u]
  have e6 : own_xk x m d 6 0 = x 6 0 := by simp [own_xk, own_u]
  have e7 : ∀ k, own_xk x m d 7 k = x 7 k := fun k => by simp [own_xk, own_u]
  have e8 : ∀ k, own_xk x m d 8 k = if k = m - 1 then d else x 8 k := fun k => by simp [own_xk, own_u]
  have e9 : ∀ k, own_xk x m d 9 k = x 9 k := fun k => by simp [own_xk, own_u]
  have e10 : ∀ k, own_xk x m d 10 k = x 10 k := fun k => by simp [own_xk, own_u]
  refine ⟨m, by omega, by rw [e6]; exact h6, fun q => absurd e4 q, fun k hk => ?_⟩
  rw [e4, e7, e8, e9, e10, if_neg (fun q => q.1 rfl)]
  have w := hs k hk
  by_cases r : k = m - 1
  · rw [if_pos ⟨h4, by omega⟩] at w
    rw [if_pos r]
    exact ⟨w.1, w.2.1, w.2.2.1, by omega, by omega⟩
  · rw [if_neg (by omega)] at w
    rw [if_neg r]; exact w
theorem own_canO {s : St} (hI : own_I s) (cu d : Int32) : ∃ r, f_cancel cu d s = some r ∧ ((r = (0, s) ∧ ∀ c, ¬ own_cA s cu d c) ∨ ∃ c n, own_cA s cu d c ∧ n ≤ 4 ∧ 1 ≤ n ∧ own_A s 6 c = Int32.ofNat n ∧ r.1 = 1 ∧ own_Ef c (own_xk (own_va s c) n d) (own_vb s c) d s r.2 ∧ own_I r.2) := by
  have hI0 := hI
  obtain ⟨hS, hT, hF, hD, hK, htd, hC⟩ := hI
  generalize hG : (fun r' : Int32 × St => ((r' = (0, s) ∧ ∀ c, ¬ own_cA s cu d c) ∨ ∃ c n, own_cA s cu d c ∧ n ≤ 4 ∧ 1 ≤ n ∧ own_A s 6 c = Int32.ofNat n ∧ r'.1 = 1 ∧ own_Ef c (own_xk (own_va s c) n d) (own_vb s c) d s r'.2 ∧ own_I r'.2)) = G
  suffices hs : ∃ r, f_cancel cu d s = some r ∧ G r by rw [← hG] at hs; exact hs
  have no : ∀ r, r = some ((0 : Int32), s) → (∀ c, ¬ own_cA s cu d c) → ∃ r', r = some r' ∧ G r' := fun r h k => ⟨_, h, by rw [← hG]; exact Or.inl ⟨rfl, k⟩⟩
  unfold f_cancel f_cancel_25 f_cancel_44
  rw [own_vcE, Option.bind_some]
  by_cases q1 : 0 ≤ cu.toInt ∧ cu.toInt < 16
  rotate_left
  · rw [if_neg q1, if_pos rfl]
    exact no _ rfl fun c h => q1 (own_cuq h.1 h.2.1)
  rw [if_pos q1, if_neg own_01]
  obtain ⟨c, hc, ec, ic⟩ := own_cuN q1
  rw [own_rdA hS ic (f := 4) hc, Option.bind_some]
  by_cases q2 : own_A s 4 c = 0
  · rw [if_pos q2]
    exact no _ rfl fun c' h => h.2.2.1 (by rw [own_cue hc ec h.1 h.2.1]; exact q2)
  rw [if_neg q2, own_vdE _ hD, Option.bind_some]
  by_cases q4 : (gI s 2).toInt ≤ d.toInt ∧ d.toInt ≤ (gI s 0).toInt - 1
  rotate_left
  · rw [if_neg q4, if_pos rfl]
    exact no _ rfl fun c' h => q4 h.2.2.2
  rw [if_pos q4, if_neg own_01]
  obtain ⟨n, hn, h6, hact, hseg⟩ := hC c hc
  rw [own_va1 _ _ (by decide)] at h6
  rw [own_va1 s c (g := 4) (by decide)] at hact
  have n1 := (hact q2).1
  have eo := own_osl hS c n hc hn n1 h6 q2
  rw [← ec] at eo
  rw [eo, Option.bind_some, if_neg (ofN_nn (by omega))]
  obtain ⟨t0, e0, m0⟩ := own_wrA hS (f := 8) (i := Int32.ofNat (c * 4 + (n - 1))) d (ofN_int (by omega)) (by show _ < 64; omega)
  have R0 : own_RF c s t0 := (own_RF.refl hS).a m0 (by omega)
  obtain ⟨t2, e2, m2⟩ := own_wrA m0.1 (f := 4) (i := cu) 0 ic hc
  rw [e0, Option.bind_some, e2, Option.bind_some]
  refine ⟨_, rfl, ?_⟩
  rw [← hG]
  refine Or.inr ⟨c, n, ⟨hc, ec, q2, q4⟩, hn, n1, h6, rfl, ?_⟩
  have R2 : own_RF c s t2 := R0.a m2 (by omega)
  have ea2 : own_va t2 c = own_xk (own_va s c) n d := by
    rw [own_vae, m2.2.2.1, own_vaO _ _ _ _ (by decide), m0.2.2.1, own_vaS _ _ _ _ _ (by decide) (by omega), ← own_vae]; rfl
  have eb2 : own_vb t2 c = own_vb s c := by rw [own_vbe, m2.2.2.2, m0.2.2.2, ← own_vbe]
  have E := R2.ef d
  rw [ea2, eb2] at E
  refine ⟨E, E.I hI0 q4 ?_⟩
  rw [← own_va1 s c (g := 4) (by decide)] at q2
  rw [← own_va1 s c (g := 6) (by decide)] at h6
  exact own_CIk (hC c hc) q2 hn h6 q4
theorem own_CIu {D td : Int} {x : Nat → Nat → Int32} {n : Nat} {d v : Int32} (h : own_CI D td x) (hn : n ≤ 4) (h6 : x 6 0 = Int32.ofNat n) (hd : td ≤ d.toInt ∧ d.toInt ≤ D - 1) (hv : 0 ≤ v.toInt ∧ v.toInt ≤ 1000000) : own_CI D d.toInt (own_u x 10 (n - 1) v) := by
  obtain ⟨m, hm, hm6, ha, hs⟩ := h.mono hd.1
  obtain rfl : m = n := (ofN_eq (by omega) (by omega)).mp (hm6.symm.trans h6)
  have e : ∀ g k, g ≠ 10 → own_u x 10 (m - 1) v g k = x g k := fun g k hg => own_u1 _ _ _ _ hg
  refine ⟨m, hm, by rw [e 6 _ (by decide)]; exact h6, by rw [e 4 _ (by decide), e 5 _ (by decide)]; exact ha, fun k hk => ?_⟩
  rw [e 4 _ (by decide), e 7 _ (by decide), e 8 _ (by decide), e 9 _ (by decide)]
  refine ⟨(hs k hk).1, ?_, (hs k hk).2.2⟩
  by_cases q : k = m - 1
  · rw [q, own_u0]; exact hv
  · rw [own_u2 _ _ _ _ q]; exact (hs k hk).2.1
theorem own_usgO {s : St} (hI : own_I s) (cu d q : Int32) : ∃ r, f_recordUsage cu d q s = some r ∧ ((r = (0, s) ∧ ∀ c n, ¬ (own_cA s cu d c ∧ own_A s 6 c = Int32.ofNat n ∧ n ≤ 4 ∧ (1 ≤ q.toInt ∧ q.toInt ≤ 10000) ∧ (own_A s 10 (c * 4 + (n - 1))).toInt + q.toInt ≤ 1000000)) ∨ ∃ c n v, own_cA s cu d c ∧ n ≤ 4 ∧ 1 ≤ n ∧ own_A s 6 c = Int32.ofNat n ∧ (1 ≤ q.toInt ∧ q.toInt ≤ 10000) ∧ v.toInt = (own_A s 10 (c * 4 + (n - 1))).toInt + q.toInt ∧ r.1 = 1 ∧ own_Ef c (own_u (own_va s c) 10 (n - 1) v) (own_vb s c) d s r.2 ∧ own_I r.2) := by
  have hI0 := hI
  obtain ⟨hS, hT, hF, hD, hK, htd, hC⟩ := hI
  generalize hG : (fun r' : Int32 × St => ((r' = (0, s) ∧ ∀ c n, ¬ (own_cA s cu d c ∧ own_A s 6 c = Int32.ofNat n ∧ n ≤ 4 ∧ (1 ≤ q.toInt ∧ q.toInt ≤ 10000) ∧ (own_A s 10 (c * 4 + (n - 1))).toInt + q.toInt ≤ 1000000)) ∨ ∃ c n v, own_cA s cu d c ∧ n ≤ 4 ∧ 1 ≤ n ∧ own_A s 6 c = Int32.ofNat n ∧ (1 ≤ q.toInt ∧ q.toInt ≤ 10000) ∧ v.toInt = (own_A s 10 (c * 4 + (n - 1))).toInt + q.toInt ∧ r'.1 = 1 ∧ own_Ef c (own_u (own_va s c) 10 (n - 1) v) (own_vb s c) d s r'.2 ∧ own_I r'.2)) = G
  suffices hs : ∃ r, f_recordUsage cu d q s = some r ∧ G r by rw [← hG] at hs; exact hs
  have no : ∀ r, r = some ((0 : Int32), s) → (∀ c n, ¬ (own_cA s cu d c ∧ own_A s 6 c = Int32.ofNat n ∧ n ≤ 4 ∧ (1 ≤ q.toInt ∧ q.toInt ≤ 10000) ∧ (own_A s 10 (c * 4 + (n - 1))).toInt + q.toInt ≤ 1000000)) → ∃ r', r = some r' ∧ G r' := fun r h k => ⟨_, h, by rw [← hG]; exact Or.inl ⟨rfl, k⟩⟩
  unfold f_recordUsage f_recordUsage_25 f_recordUsage_39 f_recordUsage_67
  rw [own_vcE, Option.bind_some]
  by_cases q1 : 0 ≤ cu.toInt ∧ cu.toInt < 16
  rotate_left
  · rw [if_neg q1, if_pos rfl]
    exact no _ rfl fun c n h => q1 (own_cuq h.1.1 h.1.2.1)
  rw [if_pos q1, if_neg own_01]
  obtain ⟨c, hc, ec, ic⟩ := own_cuN q1
  rw [own_rdA hS ic (f := 4) hc, Option.bind_some]
  by_cases q2 : own_A s 4 c = 0
  · rw [if_pos q2]
    exact no _ rfl fun c' n h => h.1.2.2.1 (by rw [own_cue hc ec h.1.1 h.1.2.1]; exact q2)
  rw [if_neg q2, own_vdE _ hD, Option.bind_some]
  by_cases q4 : (gI s 2).toInt ≤ d.toInt ∧ d.toInt ≤ (gI s 0).toInt - 1
  rotate_left
  · rw [if_neg q4, if_pos rfl]
    exact no _ rfl fun c' n h => q4 h.1.2.2.2
  rw [if_pos q4, if_neg own_01]
  have o1 : (1 : Int32).toInt = 1 := by decide
  have o2 : (10000 : Int32).toInt = 10000 := by decide
  have o3 : (1000000 : Int32).toInt = 1000000 := by decide
  by_cases q5 : q < 1
  · rw [if_pos q5]
    rw [x32_lt, o1] at q5
    exact no _ rfl fun c' n h => by have := h.2.2.2.1.1; omega
  rw [if_neg q5]
  rw [x32_lt, o1] at q5
  by_cases q6 : 10000 < q
  · rw [if_pos q6]
    rw [x32_lt, o2] at q6
    exact no _ rfl fun c' n h => by have := h.2.2.2.1.2; omega
  rw [if_neg q6]
  rw [x32_lt, o2] at q6
  obtain ⟨n, hn, h6, hact, hseg⟩ := hC c hc
  rw [own_va1 _ _ (by decide)] at h6
  rw [own_va1 s c (g := 4) (by decide)] at hact
  have n1 := (hact q2).1
  have us := (hseg (n - 1) (by omega)).2.1
  rw [own_va2 s c (by decide) (by omega)] at us
  have eo := own_osl hS c n hc hn n1 h6 q2
  rw [← ec] at eo
  rw [eo, Option.bind_some, if_neg (ofN_nn (by omega)), own_rdA hS (f := 10) (k := c * 4 + (n - 1)) (ofN_int (by omega)) (by show _ < 64; omega), Option.bind_some]
  have ev : (own_A s 10 (c * 4 + (n - 1)) + q).toInt = (own_A s 10 (c * 4 + (n - 1))).toInt + q.toInt := x32_add (by omega) (by omega)
  by_cases q7 : 1000000 < own_A s 10 (c * 4 + (n - 1)) + q
  · rw [if_pos q7]
    rw [x32_lt, o3, ev] at q7
    exact no _ rfl fun c' n' h => by
      obtain ⟨h1, h2, h3, h4, h5⟩ := h
      obtain rfl := own_cue hc ec h1.1 h1.2.1
      rw [h6] at h2
      obtain rfl := (ofN_eq (by omega) (by omega)).mp h2
      omega
  rw [if_neg q7, Option.bind_some]
  rw [x32_lt, o3, ev] at q7
  obtain ⟨t2, e2, m2⟩ := own_wrA hS (f := 10) (i := Int32.ofNat (c * 4 + (n - 1))) (own_A s 10 (c * 4 + (n - 1)) + q) (ofN_int (by omega)) (by show _ < 64; omega)
  rw [e2, Option.bind_some]
  refine ⟨_, rfl, ?_⟩
  rw [← hG]
  refine Or.inr ⟨c, n, own_A s 10 (c * 4 + (n - 1)) + q, ⟨hc, ec, q2, q4⟩, hn, n1, h6, by omega, ev, rfl, ?_⟩
  have R2 : own_RF c s t2 := (own_RF.refl hS).a m2 (by omega)
  have ea2 : own_va t2 c = own_u (own_va s c) 10 (n - 1) (own_A s 10 (c * 4 + (n - 1)) + q) := by
    rw [own_vae, m2.2.2.1, own_vaS _ _ _ _ _ (by decide) (by omega), ← own_vae]
  have eb2 : own_vb t2 c = own_vb s c := by rw [own_vbe, m2.2.2.2, ← own_vbe]
  have E := R2.ef d
  rw [ea2, eb2] at E
  refine ⟨E, E.I hI0 q4 ?_⟩
  rw [← own_va1 s c (g := 6) (by decide)] at h6
  exact own_CIu (hC c hc) hn h6 q4 (by rw [ev]; omega)
theorem own_crdO {s : St} (hI : own_I s) (cu q : Int32) : ∃ r, f_issueCredit cu q s = some r ∧ ((r = (0, s) ∧ ∀ c, ¬ (c < 16 ∧ cu = Int32.ofNat c ∧ 1 ≤ q.toInt ∧ q.toInt ≤ 1000000)) ∨ ∃ c, c < 16 ∧ cu = Int32.ofNat c ∧ (1 ≤ q.toInt ∧ q.toInt ≤ 1000000) ∧ r.1 = 1 ∧ own_Ef c (own_va s c) (own_u (own_u (own_vb s c) 0 0 (own_Bv s 0 c + q.toInt64 * 1000000)) 1 0 (own_Bv s 1 c + q.toInt64 * 1000000)) (gI s 2) s r.2 ∧ own_I r.2) := by
  have hI0 := hI
  obtain ⟨hS, hT, hF, hD, hK, htd, hC⟩ := hI
  generalize hG : (fun r' : Int32 × St => ((r' = (0, s) ∧ ∀ c, ¬ (c < 16 ∧ cu = Int32.ofNat c ∧ 1 ≤ q.toInt ∧ q.toInt ≤ 1000000)) ∨ ∃ c, c < 16 ∧ cu = Int32.ofNat c ∧ (1 ≤ q.toInt ∧ q.toInt ≤ 1000000) ∧ r'.1 = 1 ∧ own_Ef c (own_va s c) (own_u (own_u (own_vb s c) 0 0 (own_Bv s 0 c + q.toInt64 * 1000000)) 1 0 (own_Bv s 1 c + q.toInt64 * 1000000)) (gI s 2) s r'.2 ∧ own_I r'.2)) = G
  suffices hs : ∃ r, f_issueCredit cu q s = some r ∧ G r by rw [← hG] at hs; exact hs
  have no : ∀ r, r = some ((0 : Int32), s) → (∀ c, ¬ (c < 16 ∧ cu = Int32.ofNat c ∧ 1 ≤ q.toInt ∧ q.toInt ≤ 1000000)) → ∃ r', r = some r' ∧ G r' := fun r h k => ⟨_, h, by rw [← hG]; exact Or.inl ⟨rfl, k⟩⟩
  unfold f_issueCredit f_issueCredit_19 lt
  rw [own_vcE, Option.bind_some]
  by_cases q1 : 0 ≤ cu.toInt ∧ cu.toInt < 16
  rotate_left
  · rw [if_neg q1, if_pos rfl]
    exact no _ rfl fun c h => q1 (own_cuq h.1 h.2.1)
  rw [if_pos q1, if_neg own_01]
  obtain ⟨c, hc, ec, ic⟩ := own_cuN q1
  have o1 : (1 : Int32).toInt = 1 := by decide
  have o2 : (1000000 : Int32).toInt = 1000000 := by decide
  by_cases q5 : q < 1
  · rw [if_pos q5]
    rw [x32_lt, o1] at q5
    exact no _ rfl fun c' h => by have := h.2.2.1; omega
  rw [if_neg q5]
  rw [x32_lt, o1] at q5
  by_cases q6 : 1000000 < q
  · rw [if_pos q6]
    rw [x32_lt, o2] at q6
    exact no _ rfl fun c' h => by have := h.2.2.2; omega
  rw [if_neg q6]
  rw [x32_lt, o2] at q6
  dsimp only
  rw [own_rdB hS (f := 0) ic hc, Option.bind_some]
  obtain ⟨t1, e1, m1⟩ := own_wrB hS (f := 0) (i := cu) (own_Bv s 0 c + q.toInt64 * 1000000) ic hc
  rw [e1, Option.bind_some, own_rdB m1.1 (f := 1) ic hc, Option.bind_some]
  have b1 : own_Bv t1 1 c = own_Bv s 1 c := by rw [m1.2.2.2, own_u1 _ _ _ _ (by decide)]
  rw [b1]
  obtain ⟨t2, e2, m2⟩ := own_wrB m1.1 (f := 1) (i := cu) (own_Bv s 1 c + q.toInt64 * 1000000) ic hc
  rw [e2, Option.bind_some]
  refine ⟨_, rfl, ?_⟩
  rw [← hG]
  refine Or.inr ⟨c, hc, ec, by omega, rfl, ?_⟩
  have R2 : own_RF c s t2 := ((own_RF.refl hS).b m1 (by omega)).b m2 (by omega)
  have ea2 : own_va t2 c = own_va s c := by rw [own_vae, m2.2.2.1, m1.2.2.1, ← own_vae]
  have eb2 : own_vb t2 c = own_u (own_u (own_vb s c) 0 0 (own_Bv s 0 c + q.toInt64 * 1000000)) 1 0 (own_Bv s 1 c + q.toInt64 * 1000000) := by
    rw [own_vbe, m2.2.2.2, own_vbO _ _ _ _ (by decide), m1.2.2.2, own_vbO _ _ _ _ (by decide), ← own_vbe]
  have E : own_Ef c (own_va t2 c) (own_vb t2 c) (gI s 2) s t2 := ⟨R2.1, fun j => by
    rw [R2.2.1]
    split
    · rename_i e; rw [e]
    · rfl, fun g hg j => R2.g hg j, fun e he => ⟨R2.va he, R2.vb he⟩, rfl, rfl⟩
  rw [ea2, eb2] at E
  exact ⟨E, E.I hI0 ⟨Int.le_refl _, htd.2⟩ (hC c hc)⟩
theorem own_vaG (a : Nat → Nat → Int32) (c g k : Nat) (x : Int32) (h : g < 4) : own_vaA (own_u a g k x) c = own_vaA a c := by
  funext f j
  unfold own_vaA own_u
  split
  · rw [if_neg (show ¬ (f = g ∧ c = k) by omega)]
  · split
    · rw [if_neg (show ¬ (f = g ∧ c * 4 + j = k) by omega)]
    · rfl
/-- plans set: nothing of the customers -/
theorem own_plI {s t : St} {a : Nat → Nat → Int32} (hI : own_I s) (m : own_M s a (own_Bv s) t) (hT : own_Tier a) (hF : own_Fees a) (hv : ∀ c, own_vaA a c = own_va s c) : own_I t ∧ (∀ c, own_va t c = own_va s c) ∧ ∀ c, own_vb t c = own_vb s c := by
  have e1 : ∀ c, own_va t c = own_va s c := fun c => by rw [own_vae, m.2.2.1]; exact hv c
  have e2 : ∀ c, own_vb t c = own_vb s c := fun c => by rw [own_vbe, m.2.2.2]; rfl
  refine ⟨⟨m.1, by rw [m.2.2.1]; exact hT, by rw [m.2.2.1]; exact hF, by rw [m.2.1]; exact hI.2.2.2.1, by rw [m.2.1]; exact hI.2.2.2.2.1, by rw [m.2.1, m.2.1]; exact hI.2.2.2.2.2.1, fun c hc => ?_⟩, e1, e2⟩
  rw [m.2.1, m.2.1, e1]; exact hI.2.2.2.2.2.2 c hc
def own_cP (p f k : Int32) : Prop := (0 ≤ p.toInt ∧ p.toInt ≤ 7) ∧ (0 ≤ f.toInt ∧ f.toInt ≤ 1000000) ∧ (k = 0 ∨ k = 1)
theorem own_plnO {s : St} (hI : own_I s) (p f k : Int32) : ∃ r, f_setPlan p f k s = some r ∧ ((r = (0, s) ∧ ¬ own_cP p f k) ∨ own_cP p f k ∧ r.1 = 1 ∧ own_M s (own_u (own_u (own_A s) 0 p.toInt.toNat f) 1 p.toInt.toNat k) (own_Bv s) r.2 ∧ own_I r.2 ∧ (∀ c, own_va r.2 c = own_va s c) ∧ ∀ c, own_vb r.2 c = own_vb s c) := by
  have hS := hI.1
  generalize hG : (fun r : Int32 × St => ((r = (0, s) ∧ ¬ own_cP p f k) ∨ own_cP p f k ∧ r.1 = 1 ∧ own_M s (own_u (own_u (own_A s) 0 p.toInt.toNat f) 1 p.toInt.toNat k) (own_Bv s) r.2 ∧ own_I r.2 ∧ (∀ c, own_va r.2 c = own_va s c) ∧ ∀ c, own_vb r.2 c = own_vb s c)) = G
  suffices hs : ∃ r, f_setPlan p f k s = some r ∧ G r by rw [← hG] at hs; exact hs
  have no : ∀ r, r = some ((0 : Int32), s) → ¬ own_cP p f k → ∃ r', r = some r' ∧ G r' := fun r h k => ⟨_, h, by rw [← hG]; exact Or.inl ⟨rfl, k⟩⟩
  have z : (0 : Int32).toInt = 0 := by decide
  have o2 : (1000000 : Int32).toInt = 1000000 := by decide
  unfold f_setPlan f_setPlan_18
  rw [own_vpE, Option.bind_some]
  by_cases q1 : 0 ≤ p.toInt ∧ p.toInt ≤ 7
  rotate_left
  · rw [if_neg q1, if_pos rfl]; exact no _ rfl fun h => q1 h.1
  rw [if_pos q1, if_neg own_01]
  by_cases q2 : f < 0
  · rw [if_pos q2]
    rw [x32_lt, z] at q2
    exact no _ rfl fun h => by have := h.2.1.1; omega
  rw [if_neg q2]
  rw [x32_lt, z] at q2
  by_cases q3 : 1000000 < f
  · rw [if_pos q3]
    rw [x32_lt, o2] at q3
    exact no _ rfl fun h => by have := h.2.1.2; omega
  rw [if_neg q3]
  rw [x32_lt, o2] at q3
  have go : own_cP p f k → ∃ r', f_setPlan_31 p f k s = some r' ∧ G r' := fun hc => by
    unfold f_setPlan_31
    have ip : p.toInt = (p.toInt.toNat : Nat) := by omega
    obtain ⟨t1, e1, m1⟩ := own_wrA hS (f := 0) (i := p) f ip (by show _ < 8; omega)
    obtain ⟨t2, e2, m2⟩ := own_wrA m1.1 (f := 1) (i := p) k ip (by show _ < 8; omega)
    rw [e1, Option.bind_some, e2, Option.bind_some]
    refine ⟨_, rfl, ?_⟩
    rw [← hG]
    have m : own_M s (own_u (own_u (own_A s) 0 p.toInt.toNat f) 1 p.toInt.toNat k) (own_Bv s) t2 := by
      rw [m1.2.2.1, m1.2.2.2] at m2; exact m1.trans m2
    refine Or.inr ⟨hc, rfl, m, own_plI hI m (fun i hi => ?_) (fun i hi => ?_) fun c => ?_⟩
    · rw [own_u1 _ _ _ _ (by decide), own_u1 _ _ _ _ (by decide), own_u1 _ _ _ _ (by decide), own_u1 _ _ _ _ (by decide)]; exact hI.2.1 i hi
    · rw [own_u1 _ _ _ _ (by decide)]
      by_cases q : i = p.toInt.toNat
      · rw [q, own_u0]; exact hc.2.1
      · rw [own_u2 _ _ _ _ q]; exact hI.2.2.1 i hi
    · rw [own_vaG _ _ _ _ _ (by decide), own_vaG _ _ _ _ _ (by decide)]; rfl
  by_cases q4 : k = 0
  · rw [if_pos q4]; exact go ⟨q1, by omega, Or.inl q4⟩
  rw [if_neg q4]
  by_cases q5 : k = 1
  · rw [if_pos q5]; exact go ⟨q1, by omega, Or.inr q5⟩
  rw [if_neg q5]
  exact no _ rfl fun h => by
    rcases h.2.2 with e | e
    · exact q4 e
    · exact q5 e
def own_cT (p t u w : Int32) : Prop := (0 ≤ p.toInt ∧ p.toInt ≤ 7) ∧ (0 ≤ t.toInt ∧ t.toInt ≤ 3) ∧ (0 ≤ u.toInt ∧ u.toInt ≤ 1000000) ∧ (0 ≤ w.toInt ∧ w.toInt ≤ 100000000)
theorem own_trO {s : St} (hI : own_I s) (p t u w : Int32) : ∃ r, f_setTier p t u w s = some r ∧ ((r = (0, s) ∧ ¬ own_cT p t u w) ∨ own_cT p t u w ∧ r.1 = 1 ∧ (∀ j, gI r.2 j = gI s j) ∧ (∀ j, own_A r.2 0 j = own_A s 0 j) ∧ own_I r.2 ∧ (∀ c, own_va r.2 c = own_va s c) ∧ ∀ c, own_vb r.2 c = own_vb s c) := by
  have hS := hI.1
  generalize hG : (fun r : Int32 × St => ((r = (0, s) ∧ ¬ own_cT p t u w) ∨ own_cT p t u w ∧ r.1 = 1 ∧ (∀ j, gI r.2 j = gI s j) ∧ (∀ j, own_A r.2 0 j = own_A s 0 j) ∧ own_I r.2 ∧ (∀ c, own_va r.2 c = own_va s c) ∧ ∀ c, own_vb r.2 c = own_vb s c)) = G
  suffices hs : ∃ r, f_setTier p t u w s = some r ∧ G r by rw [← hG] at hs; exact hs
  have no : ∀ r, r = some ((0 : Int32), s) → ¬ own_cT p t u w → ∃ r', r = some r' ∧ G r' := fun r h k => ⟨_, h, by rw [← hG]; exact Or.inl ⟨rfl, k⟩⟩
  have z : (0 : Int32).toInt = 0 := by decide
  have o4 : (4 : Int32).toInt = 4 := by decide
  have o2 : (1000000 : Int32).toInt = 1000000 := by decide
  have o8 : (100000000 : Int32).toInt = 100000000 := by decide
  unfold f_setTier f_setTier_17 f_setTier_41
  rw [own_vpE, Option.bind_some]
  by_cases q1 : 0 ≤ p.toInt ∧ p.toInt ≤ 7
  rotate_left
  · rw [if_neg q1, if_pos rfl]; exact no _ rfl fun h => q1 h.1
  rw [if_pos q1, if_neg own_01]
  by_cases q2 : t < 0
  · rw [if_pos q2]
    rw [x32_lt, z] at q2
    exact no _ rfl fun h => by have := h.2.1.1; omega
  rw [if_neg q2]
  rw [x32_lt, z] at q2
  by_cases q3 : t < 4
  rotate_left
  · rw [if_neg q3]
    rw [x32_lt, o4] at q3
    exact no _ rfl fun h => by have := h.2.1.2; omega
  rw [if_pos q3]
  rw [x32_lt, o4] at q3
  by_cases q4 : u < 0
  · rw [if_pos q4]
    rw [x32_lt, z] at q4
    exact no _ rfl fun h => by have := h.2.2.1.1; omega
  rw [if_neg q4]
  rw [x32_lt, z] at q4
  by_cases q5 : 1000000 < u
  · rw [if_pos q5]
    rw [x32_lt, o2] at q5
    exact no _ rfl fun h => by have := h.2.2.1.2; omega
  rw [if_neg q5]
  rw [x32_lt, o2] at q5
  by_cases q6 : w < 0
  · rw [if_pos q6]
    rw [x32_lt, z] at q6
    exact no _ rfl fun h => by have := h.2.2.2.1; omega
  rw [if_neg q6]
  rw [x32_lt, z] at q6
  by_cases q7 : 100000000 < w
  · rw [if_pos q7]
    rw [x32_lt, o8] at q7
    exact no _ rfl fun h => by have := h.2.2.2.2; omega
  rw [if_neg q7]
  rw [x32_lt, o8] at q7
  obtain ⟨pn, hp, ep⟩ : ∃ k, k < 8 ∧ p = Int32.ofNat k := ⟨p.toInt.toNat, by omega, ofN_of (by omega)⟩
  obtain ⟨tn, ht, et⟩ : ∃ k, k < 4 ∧ t = Int32.ofNat k := ⟨t.toInt.toNat, by omega, ofN_of (by omega)⟩
  have ix : (p * 4 + t).toInt = ((pn * 4 + tn : Nat) : Int) := by rw [ep, et]; exact own_x tn 4 pn (by omega) (by decide)
  obtain ⟨t1, e1, m1⟩ := own_wrA hS (f := 2) (i := p * 4 + t) u ix (by show _ < 32; omega)
  obtain ⟨t2, e2, m2⟩ := own_wrA m1.1 (f := 3) (i := p * 4 + t) w ix (by show _ < 32; omega)
  rw [e1, Option.bind_some, e2, Option.bind_some]
  refine ⟨_, rfl, ?_⟩
  rw [← hG]
  have m : own_M s (own_u (own_u (own_A s) 2 (pn * 4 + tn) u) 3 (pn * 4 + tn) w) (own_Bv s) t2 := by
    rw [m1.2.2.1, m1.2.2.2] at m2; exact m1.trans m2
  refine Or.inr ⟨⟨q1, by omega, by omega, by omega⟩, rfl, m.2.1, fun j => ?_, own_plI hI m (fun i hi => ?_) (fun i hi => ?_) fun c => ?_⟩
  · show own_A t2 0 j = _
    rw [m.2.2.1, own_u1 _ _ _ _ (by decide), own_u1 _ _ _ _ (by decide)]
  · by_cases q : i = pn * 4 + tn
    · rw [q, own_u0, own_u1 _ _ _ _ (by decide), own_u0]
      omega
    · rw [own_u2 _ _ _ _ q, own_u2 _ _ _ _ q, own_u2 _ _ _ _ q, own_u2 _ _ _ _ q]; exact hI.2.1 i hi
  · rw [own_u1 _ _ _ _ (by decide), own_u1 _ _ _ _ (by decide)]; exact hI.2.2.1 i hi
  · rw [own_vaG _ _ _ _ _ (by decide), own_vaG _ _ _ _ _ (by decide)]; rfl
theorem own_Clo.I {s t : St} (h : own_Clo s t) (hI : own_I s) : own_I t := by
  obtain ⟨h1, h2, h3, h4, h5, h6, h7⟩ := h
  obtain ⟨hS, hT, hF, hD, hK, htd, hC⟩ := hI
  have z : (0 : Int32).toInt = 0 := by decide
  refine ⟨h1, fun i hi => by rw [h6 2 (by decide), h6 3 (by decide)]; exact hT i hi, fun i hi => by rw [h6 0 (by decide)]; exact hF i hi, by rw [h2]; exact hD, by rw [h3]; exact hK, by rw [h4, h2, z]; omega, fun c hc => ?_⟩
  obtain ⟨n, hn, hCl⟩ := h7 c hc
  obtain ⟨-, -, -, -, k1, k2, k3, -⟩ := hCl
  rw [h2, h4, z]
  by_cases q : own_va s c 4 0 = 0
  · rw [if_pos q] at k1
    exact ⟨0, by omega, k1, fun w => absurd (k2.trans q) w, fun k hk => absurd hk (Nat.not_lt_zero _)⟩
  · rw [if_neg q] at k1
    obtain ⟨m, hm, hm6, ha, -⟩ := hC c hc
    obtain ⟨-, a1, a2⟩ := ha q
    refine ⟨1, by omega, k1.1, fun _ => ⟨by omega, by rw [k3]; exact ⟨a1, a2⟩⟩, fun k hk => ?_⟩
    obtain rfl : k = 0 := by omega
    rw [k1.2.1, k1.2.2.1, k1.2.2.2.1, k1.2.2.2.2, if_pos ⟨by rw [k2]; exact q, rfl⟩, z]
    exact ⟨⟨a1, a2⟩, by omega, by omega, rfl, by omega⟩

def own_cl (a b c : Int32) : Int32 := if a < b then b else if c < a then c else a
theorem own_clamp (a b c : Int32) : f_clamp a b c = some (own_cl a b c) := by
  unfold f_clamp own_cl; split; rfl; split <;> rfl
def own_s0 (p1 p2 : Int32) : St := sA (sI (sI st0 0 (own_cl p1 7 31)) 1 (own_cl p2 0 3000)) 2 (List.replicate 32 1000000)
theorem own_l253 (s : St) (h : gA s 5 = List.replicate 16 0) : Ev (fun n => f_init_253 n 0 s) s := by
  obtain ⟨s', rfl, h2⟩ := loop_up (F := f_init_253) (E := fun _ s => some s) (N := 16) (fun _ t => t = s) (fun i t hi e => by
    subst e
    refine ⟨t, rfl, fun n => ?_⟩
    show g_init_253 (f_init_253 n) n _ _ = _
    unfold g_init_253 lt
    rw [if_pos ((ofN_ltL (by omega) (by decide)).mpr hi), wrA_of (k := i) _ (ofN_int (by omega)) (by rw [h]; simpa using hi), Option.bind_some, ofN_succ, sA_self (by rw [h, List.set_replicate_self])]) (fun t e n => by
    show g_init_253 (f_init_253 n) n _ _ = _
    unfold g_init_253
    rw [if_neg (by decide)]) 16 0 s rfl rfl
  exact h2 _ (Ev.const rfl)
theorem own_l224 (s : St) (h2 : gA s 2 = List.replicate 32 0) (h3 : gA s 3 = List.replicate 32 0) (h5 : gA s 5 = List.replicate 16 0) : Ev (fun n => f_init_224 n 0 s) (sA s 2 (List.replicate 32 1000000)) := by
  obtain ⟨s', rfl, hh⟩ := loop_up (F := f_init_224) (E := fun n s => f_init_253 n 0 s) (N := 32) (fun i t => t = sA s 2 (List.replicate i 1000000 ++ List.replicate (32 - i) 0)) (fun i t hi e => by
    subst e
    refine ⟨_, rfl, fun n => ?_⟩
    show g_init_224 (f_init_224 n) n _ _ = _
    unfold g_init_224 lt
    rw [if_pos ((ofN_ltL (by omega) (by decide)).mpr hi), wrA_of (k := i) _ (ofN_int (by omega)) (by rw [gA_sA, if_pos rfl]; simp; omega), Option.bind_some, wrA_of (k := i) _ (ofN_int (by omega)) (by rw [gA_sA, if_neg (by decide), gA_sA, if_neg (by decide), h3]; simpa using hi), Option.bind_some, ofN_succ]
    rw [sA_sA, gA_sA, if_pos rfl, fill_set _ _ _ _ hi, sA_self (i := 3) (by rw [gA_sA, if_neg (by decide), h3, List.set_replicate_self])]) (fun t e n => by
    show g_init_224 (f_init_224 n) n _ _ = _
    unfold g_init_224
    rw [if_neg (by decide)]) 32 0 s rfl (by rw [← h2] ; exact (sA_self (by simp [h2])).symm)
  exact hh _ (own_l253 _ (by rw [gA_sA, if_neg (by decide)]; exact h5))
theorem own_init (p1 p2 : Int32) : Ev (fun n => f_init n p1 p2) (own_s0 p1 p2) := by
  unfold f_init
  simp only [lt, own_clamp, Option.bind_some]
  exact own_l224 _ rfl rfl rfl
theorem own_vc (c : Int32) (s : St) : f_validCustomer c s = some (if c < 0 then 0 else if c < 16 then 1 else 0) := by
  unfold f_validCustomer f_validCustomer_14 f_validCustomer_15
  split
  · rfl
  · split <;> rfl

/-! the start -/
theorem own_clb (a b c : Int32) (h : b.toInt ≤ c.toInt) : b.toInt ≤ (own_cl a b c).toInt ∧ (own_cl a b c).toInt ≤ c.toInt := by
  unfold own_cl
  split
  · omega
  · split
    · omega
    · rename_i h1 h2
      rw [x32_lt] at h1 h2
      omega
theorem own_rep0 {α : Type} (n k : Nat) (z : α) : (List.replicate n z).getD k z = z := by
  rw [List.getD_eq_getElem?_getD, List.getElem?_replicate]
  split <;> rfl
theorem own_I0 (p1 p2 : Int32) : own_I (own_s0 p1 p2) ∧ gI (own_s0 p1 p2) 0 = own_cl p1 7 31 ∧ gI (own_s0 p1 p2) 1 = own_cl p2 0 3000 ∧ gI (own_s0 p1 p2) 2 = 0 ∧ gI (own_s0 p1 p2) 3 = 0 ∧ (∀ j, own_A (own_s0 p1 p2) 0 j = 0) ∧ (∀ c g k, own_va (own_s0 p1 p2) c g k = 0) ∧ ∀ c g k, own_vb (own_s0 p1 p2) c g k = 0 := by
  have i0 : gI (own_s0 p1 p2) 0 = own_cl p1 7 31 := rfl
  have i1 : gI (own_s0 p1 p2) 1 = own_cl p2 0 3000 := rfl
  have i2 : gI (own_s0 p1 p2) 2 = 0 := rfl
  have b0 := own_clb p1 7 31 (by decide)
  have b1 := own_clb p2 0 3000 (by decide)
  have c7 : (7 : Int32).toInt = 7 := by decide
  have c31 : (31 : Int32).toInt = 31 := by decide
  have c0 : (0 : Int32).toInt = 0 := by decide
  have c3 : (3000 : Int32).toInt = 3000 := by decide
  have zA : ∀ g, g ≠ 2 → ∀ j, own_A (own_s0 p1 p2) g j = 0 := fun g hg j => by
    have e : gA (own_s0 p1 p2) g = gA st0 g := by
      show gA (sA _ 2 _) g = _
      rw [gA_sA, if_neg hg]; rfl
    unfold own_A
    rw [e]
    match g with
    | 0 => exact own_rep0 _ _ _
    | 1 => exact own_rep0 _ _ _
    | 2 => exact absurd rfl hg
    | 3 => exact own_rep0 _ _ _
    | 4 => exact own_rep0 _ _ _
    | 5 => exact own_rep0 _ _ _
    | 6 => exact own_rep0 _ _ _
    | 7 => exact own_rep0 _ _ _
    | 8 => exact own_rep0 _ _ _
    | 9 => exact own_rep0 _ _ _
    | 10 => exact own_rep0 _ _ _
    | 11 => exact own_rep0 _ _ _
    | 12 => exact own_rep0 _ _ _
    | 13 => exact own_rep0 _ _ _
    | n + 14 => rfl
  have zB : ∀ g j, own_Bv (own_s0 p1 p2) g j = 0 := fun g j => by
    have e : gB (own_s0 p1 p2) g = gB st0 g := rfl
    unfold own_Bv
    rw [e]
    match g with
    | 0 => exact own_rep0 _ _ _
    | 1 => exact own_rep0 _ _ _
    | 2 => exact own_rep0 _ _ _
    | 3 => exact own_rep0 _ _ _
    | 4 => exact own_rep0 _ _ _
    | 5 => exact own_rep0 _ _ _
    | 6 => exact own_rep0 _ _ _
    | 7 => exact own_rep0 _ _ _
    | 8 => exact own_rep0 _ _ _
    | 9 => exact own_rep0 _ _ _
    | n + 10 => rfl
  have za : ∀ c g k, own_va (own_s0 p1 p2) c g k = 0 := fun c g k => by
    unfold own_va
    split
    · split
      · exact zA g (by omega) _
      · rfl
    · split
      · split
        · exact zA g (by omega) _
        · rfl
      · rfl
  have zb : ∀ c g k, own_vb (own_s0 p1 p2) c g k = 0 := fun c g k => by
    unfold own_vb
    split
    · split
      · exact zB _ _
      · rfl
    · split
      · split
        · exact zB _ _
        · rfl
      · rfl
  refine ⟨⟨⟨fun f => ?_, fun f => ?_⟩, fun i hi => ?_, fun i hi => ?_, by rw [i0]; omega, by rw [i1]; omega, by rw [i0, i2, c0]; omega, fun c hc => ?_⟩, i0, i1, i2, rfl, fun j => zA 0 (by decide) j, za, zb⟩
  · match f with
    | 0 => rfl
    | 1 => rfl
    | 2 => rfl
    | 3 => rfl
    | 4 => rfl
    | 5 => rfl
    | 6 => rfl
    | 7 => rfl
    | 8 => rfl
    | 9 => rfl
    | 10 => rfl
    | 11 => rfl
    | 12 => rfl
    | 13 => rfl
    | n + 14 => rfl
  · match f with
    | 0 => rfl
    | 1 => rfl
    | 2 => rfl
    | 3 => rfl
    | 4 => rfl
    | 5 => rfl
    | 6 => rfl
    | 7 => rfl
    | 8 => rfl
    | 9 => rfl
    | n + 10 => rfl
  · have e2 : own_A (own_s0 p1 p2) 2 i = 1000000 := by
      show (List.replicate 32 (1000000 : Int32)).getD i 0 = _
      rw [List.getD_eq_getElem?_getD, List.getElem?_replicate, if_pos hi]; rfl
    rw [e2, zA 3 (by decide)]; decide
  · rw [zA 0 (by decide)]; decide
  · exact ⟨0, by omega, za _ _ _, fun q => absurd (za _ _ _) q, fun k hk => absurd hk (Nat.not_lt_zero _)⟩
/-! the questions -/
theorem own_vc1 (c : Nat) (hc : c < 16) (s : St) : f_validCustomer (Int32.ofNat c) s = some 1 := by
  rw [own_vcE, if_pos]
  rw [ofN_int (by omega)]; omega
theorem own_getI {s : St} (hS : own_Sh s) (c : Nat) (hc : c < 16) (p : Int32) : f_getInvoice (Int32.ofNat c) p s = some (if p = 0 then (own_va s c 11 0).toInt64 else if p = 1 then own_vb s c 3 0 else if p = 2 then own_vb s c 4 0 else if p = 3 then own_vb s c 5 0 else if p = 4 then own_vb s c 6 0 else if p = 5 then (own_va s c 12 0).toInt64 else 0) := by
  have ic : (Int32.ofNat c).toInt = c := ofN_int (by omega)
  unfold f_getInvoice
  rw [own_vc1 c hc, Option.bind_some, if_neg own_01, own_rdA hS (f := 11) ic hc, own_rdB hS (f := 3) ic hc, own_rdB hS (f := 4) ic hc, own_rdB hS (f := 5) ic hc, own_rdB hS (f := 6) ic hc, own_rdA hS (f := 12) ic hc, own_va1 s c (g := 11) (by decide), own_va1 s c (g := 12) (by decide), own_vb1 s c (g := 3) (by decide), own_vb1 s c (g := 4) (by decide), own_vb1 s c (g := 5) (by decide), own_vb1 s c (g := 6) (by decide)]
  simp only [Option.bind_some]
  split
  · rfl
  split
  · rfl
  split
  · rfl
  split
  · rfl
  split
  · rfl
  split
  · rfl
  · rfl
theorem own_getC {s : St} (hS : own_Sh s) (c : Nat) (hc : c < 16) (p : Int32) : f_getCustomer (Int32.ofNat c) p s = some (if p = 0 then (if own_va s c 4 0 = 0 then 0 else 1) else if p = 1 then (if own_va s c 4 0 = 0 then -1 else (own_va s c 5 0).toInt64) else if p = 2 then (own_va s c 6 0).toInt64 else if p = 3 then own_vb s c 0 0 else if p = 4 then own_vb s c 1 0 else if p = 5 then own_vb s c 2 0 else 0) := by
  have ic : (Int32.ofNat c).toInt = c := ofN_int (by omega)
  unfold f_getCustomer f_getCustomer_28 f_getCustomer_56
  rw [own_vc1 c hc, Option.bind_some, if_neg own_01, own_rdA hS (f := 4) ic hc, own_rdA hS (f := 5) ic hc, own_rdA hS (f := 6) ic hc, own_rdB hS (f := 0) ic hc, own_rdB hS (f := 1) ic hc, own_rdB hS (f := 2) ic hc, own_va1 s c (g := 4) (by decide), own_va1 s c (g := 5) (by decide), own_va1 s c (g := 6) (by decide), own_vb1 s c (g := 0) (by decide), own_vb1 s c (g := 1) (by decide), own_vb1 s c (g := 2) (by decide)]
  simp only [Option.bind_some]
  split
  · split <;> rfl
  split
  · split <;> rfl
  split
  · rfl
  split
  · rfl
  split
  · rfl
  split
  · rfl
  · rfl
theorem own_getS {s : St} (hS : own_Sh s) (c j : Nat) (hc : c < 16) (hj : j < 4) (p : Int32) : f_getSegment (Int32.ofNat c) (Int32.ofNat j) p s = some (if Int32.ofNat j < own_va s c 6 0 then (if p = 0 then (own_va s c 7 j).toInt64 else if p = 1 then (own_va s c 8 j).toInt64 else if p = 2 then (own_va s c 9 j).toInt64 else if p = 3 then (own_va s c 10 j).toInt64 else 0) else 0) := by
  have ic : (Int32.ofNat c).toInt = c := ofN_int (by omega)
  have ix : (Int32.ofNat c * 4 + Int32.ofNat j).toInt = ((c * 4 + j : Nat) : Int) := own_x j 4 c (by omega) (by decide)
  unfold f_getSegment f_getSegment_27 lt
  dsimp only
  rw [own_vc1 c hc, Option.bind_some, if_neg own_01, if_neg (ofN_nn (by omega)), own_rdA hS (f := 6) ic hc, Option.bind_some, own_rdA hS (f := 7) ix (by show _ < 64; omega), own_rdA hS (f := 8) ix (by show _ < 64; omega), own_rdA hS (f := 9) ix (by show _ < 64; omega), own_rdA hS (f := 10) ix (by show _ < 64; omega), own_va1 s c (g := 6) (by decide), own_va2 s c (g := 7) (by decide) hj, own_va2 s c (g := 8) (by decide) hj, own_va2 s c (g := 9) (by decide) hj, own_va2 s c (g := 10) (by decide) hj]
  simp only [Option.bind_some]
  split
  · rw [if_pos ((ofN_ltL (m := 4) (by omega) (by decide)).mpr hj)]
    split
    · rfl
    split
    · rfl
    split
    · rfl
    split
    · rfl
    · rfl
  · rfl
theorem own_gS {s : St} (hS : own_Sh s) (c j n : Nat) (hc : c < 16) (hj : j < n) (hn : n ≤ 4) (h6 : own_va s c 6 0 = Int32.ofNat n) : f_getSegment (Int32.ofNat c) (Int32.ofNat j) 0 s = some (own_va s c 7 j).toInt64 ∧ f_getSegment (Int32.ofNat c) (Int32.ofNat j) 1 s = some (own_va s c 8 j).toInt64 ∧ f_getSegment (Int32.ofNat c) (Int32.ofNat j) 2 s = some (own_va s c 9 j).toInt64 ∧ f_getSegment (Int32.ofNat c) (Int32.ofNat j) 3 s = some (own_va s c 10 j).toInt64 := by
  have l : Int32.ofNat j < Int32.ofNat n := (ofN_lt (by omega) (by omega)).mpr hj
  refine ⟨?_, ?_, ?_, ?_⟩
  · rw [own_getS hS c j hc (by omega), h6, if_pos l, if_pos rfl]
  · rw [own_getS hS c j hc (by omega), h6, if_pos l, if_neg (show ¬ (1 : Int32) = 0 by decide), if_pos rfl]
  · rw [own_getS hS c j hc (by omega), h6, if_pos l, if_neg (show ¬ (2 : Int32) = 0 by decide), if_neg (show ¬ (2 : Int32) = 1 by decide), if_pos rfl]
  · rw [own_getS hS c j hc (by omega), h6, if_pos l, if_neg (show ¬ (3 : Int32) = 0 by decide), if_neg (show ¬ (3 : Int32) = 1 by decide), if_neg (show ¬ (3 : Int32) = 2 by decide), if_pos rfl]

theorem own_getL {s : St} (hS : own_Sh s) (c j : Nat) (hc : c < 16) (hj : j < 8) : f_getLine (Int32.ofNat c) (Int32.ofNat j) s = some (if Int32.ofNat j < own_va s c 11 0 then own_vb s c 7 j else 0) := by
  unfold f_getLine f_getLine_22
  rw [own_vc1 c hc, Option.bind_some, if_neg own_01, if_neg (ofN_nn (by omega)), own_rdA hS (f := 11) (k := c) (ofN_int (by omega)) hc, Option.bind_some, own_va1 s c (by decide), own_vb2 s c (Or.inl rfl) hj]
  split
  · rw [own_rdB hS (f := 7) (k := c * 8 + j) (own_x j 8 c (by omega) (by decide)) (by show _ < 128; omega)]; rfl
  · rfl
theorem own_getX {s : St} (hS : own_Sh s) (c j : Nat) (hc : c < 16) (hj : j < 8) : f_getLineTax (Int32.ofNat c) (Int32.ofNat j) s = some (if Int32.ofNat j < own_va s c 11 0 then own_vb s c 8 j else 0) := by
  unfold f_getLineTax f_getLineTax_22
  rw [own_vc1 c hc, Option.bind_some, if_neg own_01, if_neg (ofN_nn (by omega)), own_rdA hS (f := 11) (k := c) (ofN_int (by omega)) hc, Option.bind_some, own_va1 s c (by decide), own_vb2 s c (Or.inr rfl) hj]
  split
  · rw [own_rdB hS (f := 8) (k := c * 8 + j) (own_x j 8 c (by omega) (by decide)) (by show _ < 128; omega)]; rfl
  · rfl

/-! small numbers packed in a long -/
def own_f (x : Int64) (j : Nat) : Nat := (x.toBitVec >>> (3 * j)).toNat % 8
theorem own_flt (x : Int64) (j : Nat) : own_f x j < 8 := Nat.mod_lt _ (by decide)
theorem own_fbit (x : Int64) (j i : Nat) : (own_f x j).testBit i = (decide (i < 3) && x.toBitVec.getLsbD (3 * j + i)) := by
  unfold own_f
  rw [show (8 : Nat) = 2 ^ 3 from rfl, Nat.testBit_mod_two_pow, BitVec.testBit_toNat, BitVec.getLsbD_ushiftRight]
theorem own_c16 {P : Nat → Prop} (h : P 0 ∧ P 1 ∧ P 2 ∧ P 3 ∧ P 4 ∧ P 5 ∧ P 6 ∧ P 7 ∧ P 8 ∧ P 9 ∧ P 10 ∧ P 11 ∧ P 12 ∧ P 13 ∧ P 14 ∧ P 15) (i : Nat) (hi : i < 16) : P i := by
  have : i = 0 ∨ i = 1 ∨ i = 2 ∨ i = 3 ∨ i = 4 ∨ i = 5 ∨ i = 6 ∨ i = 7 ∨ i = 8 ∨ i = 9 ∨ i = 10 ∨ i = 11 ∨ i = 12 ∨ i = 13 ∨ i = 14 ∨ i = 15 := by omega
  obtain ⟨h0, h1, h2, h3, h4, h5, h6, h7, h8, h9, h10, h11, h12, h13, h14, h15⟩ := h
  rcases this with rfl | rfl | rfl | rfl | rfl | rfl | rfl | rfl | rfl | rfl | rfl | rfl | rfl | rfl | rfl | rfl <;> assumption
theorem own_ushL (x : Int64) (j : Nat) (hj : j < 16) : (XT.ushrL x (3 * Int32.ofNat j)).toBitVec = x.toBitVec >>> (3 * j) :=
  own_c16 (P := fun j => (XT.ushrL x (3 * Int32.ofNat j)).toBitVec = x.toBitVec >>> (3 * j)) ⟨rfl, rfl, rfl, rfl, rfl, rfl, rfl, rfl, rfl, rfl, rfl, rfl, rfl, rfl, rfl, rfl⟩ j hj
theorem own_shlL (x : Int64) (j : Nat) (hj : j < 16) : (x <<< ((3 * Int32.ofNat j).toInt64 &&& 63)).toBitVec = x.toBitVec <<< (3 * j) :=
  own_c16 (P := fun j => (x <<< ((3 * Int32.ofNat j).toInt64 &&& 63)).toBitVec = x.toBitVec <<< (3 * j)) ⟨rfl, rfl, rfl, rfl, rfl, rfl, rfl, rfl, rfl, rfl, rfl, rfl, rfl, rfl, rfl, rfl⟩ j hj
theorem own_a7 (x : Int64) : (x &&& 7).toInt32 = Int32.ofNat (x.toBitVec.toNat % 8) := by
  have h : x &&& 7 = Int64.ofNat (x.toBitVec.toNat % 8) := by
    apply Int64.toBitVec_inj.mp
    rw [Int64.toBitVec_and]
    apply BitVec.eq_of_toNat_eq
    rw [BitVec.toNat_and]
    show x.toBitVec.toNat &&& 7 = (BitVec.ofNat 64 (x.toBitVec.toNat % 8)).toNat
    rw [BitVec.toNat_ofNat, Nat.mod_eq_of_lt (a := x.toBitVec.toNat % 8) (by omega)]
    exact Nat.and_two_pow_sub_one_eq_mod _ 3
  rw [h]
  have : ∀ i : Fin 8, (Int64.ofNat i.val).toInt32 = Int32.ofNat i.val := by decide
  exact this ⟨x.toBitVec.toNat % 8, Nat.mod_lt _ (by decide)⟩
theorem own_7b : ∀ q : Fin 64, (7 : Int64).toBitVec.getLsbD q.val = decide (q.val < 3) := by decide +kernel
theorem own_m1b : ∀ q : Fin 64, (-1 : Int64).toBitVec.getLsbD q.val = true := by decide +kernel
theorem own_wb : ∀ w : Fin 8, ∀ q : Fin 64, (Int32.ofNat w.val).toInt64.toBitVec.getLsbD q.val = (decide (q.val < 3) && w.val.testBit q.val) := by decide +kernel

theorem own_sumle {g : Nat → Int} : ∀ {n : Nat}, (∀ i, i < n → 0 ≤ g i) → 0 ≤ own_sum g n ∧ ∀ i, i < n → g i ≤ own_sum g n
  | 0, _ => ⟨Int.le_refl _, fun i hi => absurd hi (Nat.not_lt_zero _)⟩
  | n + 1, h => by
    obtain ⟨h1, h2⟩ := own_sumle (n := n) fun i hi => h i (by omega)
    have h4 := h n (by omega)
    show 0 ≤ own_sum g n + g n ∧ ∀ i, i < n + 1 → g i ≤ own_sum g n + g n
    refine ⟨by omega, fun i hi => ?_⟩
    by_cases q : i = n
    · rw [q]; omega
    · have := h2 i (by omega)
      omega
/-! packing -/
theorem own_or3 (x : Int64) (k w : Nat) (hk : k < 16) (hw : w < 8) (h0 : own_f x k = 0) (j : Nat) (hj : j < 16) : own_f (x ||| ((Int32.ofNat w).toInt64 <<< ((3 * Int32.ofNat k).toInt64 &&& 63))) j = if j = k then w else own_f x j := by
  apply Nat.eq_of_testBit_eq
  intro i
  rw [own_fbit]
  by_cases hi : i < 3
  · rw [Int64.toBitVec_or, own_shlL _ k hk, BitVec.getLsbD_or, BitVec.getLsbD_shiftLeft, own_wb ⟨w, hw⟩ ⟨3 * j + i - 3 * k, by omega⟩]
    have h64 : 3 * j + i < 64 := by omega
    dsimp only
    by_cases c : j = k
    · subst c
      rw [if_pos rfl]
      have e1 : ¬ 3 * j + i < 3 * j := by omega
      have e2 : 3 * j + i - 3 * j = i := by omega
      have z : x.toBitVec.getLsbD (3 * j + i) = false := by
        have := own_fbit x j i
        rw [h0, Nat.zero_testBit] at this
        simp [hi] at this
        exact this
      rw [z]
      simp [hi, h64, e1, e2]
    · rw [if_neg c, own_fbit]
      by_cases d : j < k
      · have e1 : 3 * j + i < 3 * k := by omega
        simp [hi, h64, e1]
      · have e1 : ¬ 3 * j + i < 3 * k := by omega
        have e2 : ¬ 3 * j + i - 3 * k < 3 := by omega
        simp [hi, h64, e1, e2]
  · have e : decide (i < 3) = false := by simp [hi]
    rw [e, Bool.false_and]
    have big : ∀ n, n < 8 → n.testBit i = false := fun n hn => Nat.testBit_lt_two_pow (Nat.lt_of_lt_of_le hn (by
      show 2 ^ 3 ≤ 2 ^ i
      exact Nat.pow_le_pow_right (by decide) (by omega)))
    split
    · exact (big w hw).symm
    · exact (big _ (own_flt _ _)).symm
theorem own_f0 (j : Nat) (hj : j < 16) : own_f 0 j = 0 := by
  have : ∀ j : Fin 16, own_f 0 j.val = 0 := by decide
  exact this ⟨j, hj⟩
theorem own_gx (x : Int64) (j : Nat) (hj : j < 16) : ((XT.ushrL x (3 * Int32.ofNat j)) &&& 7).toInt32 = Int32.ofNat (own_f x j) := by
  unfold own_f
  rw [own_a7, own_ushL x j hj]
/-! a remainder -/
theorem own_m (x : Int64) (k : Nat) (h0 : 0 < k) (hk : k < 2147483648) : ∃ r, r < k ∧ f_L_m x (Int32.ofNat k) = some (Int32.ofNat r) := by
  have ek : (Int32.ofNat k).toInt64.toInt = k := by rw [Int32.toInt_toInt64, ofN_int hk]
  have nk : ¬ (Int32.ofNat k).toInt64 = 0 := fun q => by
    rw [q] at ek
    have : (0 : Int64).toInt = 0 := by decide
    omega
  have z : (0 : Int64).toInt = 0 := by decide
  have em : (x % (Int32.ofNat k).toInt64).toInt = x.toInt.tmod k := by rw [Int64.toInt_mod, ek]
  have b1 := Int.tmod_lt_of_pos x.toInt (b := (k : Int)) (by omega)
  have b2 : -(k : Int) < x.toInt.tmod k := by
    have := Int.lt_tmod_of_pos x.toInt (b := (k : Int)) (by omega)
    exact this
  have fin : ∀ y : Int64, 0 ≤ y.toInt → y.toInt < k → f_L_m_16 y = some (Int32.ofNat y.toInt.toNat) := fun y h1 h2 => by
    unfold f_L_m_16
    congr 1
    rw [x32_eq, ofN_int (by omega), Int64.toInt_toInt32]
    have : y.toInt.bmod (2 ^ 32) = y.toInt := Int.bmod_eq_of_le (by omega) (by omega)
    rw [this]; omega
  unfold f_L_m lt
  rw [if_neg nk]
  dsimp only
  by_cases c : x % (Int32.ofNat k).toInt64 < 0
  · rw [if_pos c]
    rw [x64_lt, em, z] at c
    have e2 : (x % (Int32.ofNat k).toInt64 + (Int32.ofNat k).toInt64).toInt = x.toInt.tmod k + k := by
      rw [x64_add (by rw [em, ek]; omega) (by rw [em, ek]; omega), em, ek]
    exact ⟨_, by rw [e2]; omega, fin _ (by rw [e2]; omega) (by rw [e2]; omega)⟩
  · rw [if_neg c]
    rw [x64_lt, em, z] at c
    exact ⟨_, by rw [em]; omega, fin _ (by rw [em]; omega) (by rw [em]; omega)⟩
/-! what holds between the turns -/
def own_Cr (y : Nat → Nat → Int64) (B : Int) : Prop := 0 ≤ (y 0 0).toInt ∧ 0 ≤ (y 2 0).toInt ∧ (y 0 0).toInt + (y 2 0).toInt = (y 1 0).toInt ∧ (y 1 0).toInt ≤ B
def own_Iw (K : Int) (x11 : Int32) (y : Nat → Nat → Int64) (B : Int) : Prop := (∃ n, own_Inv K n (fun _ _ => x11) y) ∧ own_Cr y B ∧ y 6 0 = y 3 0 + y 4 0 - y 5 0 ∧ 0 ≤ (y 5 0).toInt ∧ (y 5 0).toInt ≤ (y 3 0).toInt + (y 4 0).toInt
def own_pk (p : Nat) (f0 f1 f2 : Int64) : Int64 := if p = 0 then f0 else if p = 1 then f1 else if p = 2 then f2 else 0
def own_H (D : Int32) (f0 f1 f2 : Int64) (j : Nat) (s : St) : Prop := own_I s ∧ gI s 0 = D ∧ (∀ c, c < 16 → own_Iw (gI s 1).toInt (own_va s c 11 0) (own_vb s c) (1000000000000 * j)) ∧ ∀ p, p < 8 → (own_A s 0 p).toInt = (own_pk p f0 f1 f2).toInt
theorem own_Inv.x {K : Int} {n : Nat} {x x' : Nat → Nat → Int32} {y : Nat → Nat → Int64} (h : own_Inv K n x y) (e : x' 11 0 = x 11 0) : own_Inv K n x' y := ⟨h.1, e.trans h.2.1, h.2.2⟩
theorem own_Iw.j {K : Int} {x11 : Int32} {y : Nat → Nat → Int64} {B B' : Int} (h : own_Iw K x11 y B) (hB : B ≤ B') : own_Iw K x11 y B' := by
  obtain ⟨h1, ⟨h2, h3, h4, h5⟩, h6⟩ := h
  exact ⟨h1, ⟨h2, h3, h4, by omega⟩, h6⟩
theorem own_H.j {D : Int32} {f0 f1 f2 : Int64} {j : Nat} {s : St} (h : own_H D f0 f1 f2 j s) : own_H D f0 f1 f2 (j + 1) s :=
  ⟨h.1, h.2.1, fun c hc => (h.2.2.1 c hc).j (by omega), h.2.2.2⟩
theorem own_H.ef {D : Int32} {f0 f1 f2 : Int64} {j c : Nat} {s s' : St} {x : Nat → Nat → Int32} {y : Nat → Nat → Int64} {d : Int32} (h : own_H D f0 f1 f2 j s) (hE : own_Ef c x y d s s') (hI : own_I s') (hx : own_Iw (gI s 1).toInt (x 11 0) y (1000000000000 * (j + 1 : Nat))) : own_H D f0 f1 f2 (j + 1) s' := by
  obtain ⟨h1, h2, h3, h4⟩ := h
  obtain ⟨e1, e2, e3, e4, e5, e6⟩ := hE
  refine ⟨hI, by rw [e2, if_neg (by decide)]; exact h2, fun e he => ?_, fun p hp => by rw [e3 0 (by decide)]; exact h4 p hp⟩
  rw [e2, if_neg (by decide)]
  by_cases q : e = c
  · rw [q, e5, e6]; exact hx
  · rw [(e4 e q).1, (e4 e q).2]; exact (h3 e he).j (by omega)
/-! the invariants of the law -/
theorem own_isum {K : Int} {n : Nat} {x : Nat → Nat → Int32} {y : Nat → Nat → Int64} (h : own_Inv K n x y) : own_sum (fun i => (y 7 i).toInt) (2 * n) = (y 3 0).toInt ∧ own_sum (fun i => (y 8 i).toInt) (2 * n) = (y 4 0).toInt := by
  obtain ⟨hn, -, -, hz, h3, h4, h5⟩ := h
  obtain ⟨d, hd⟩ : ∃ d, 8 = 2 * n + d := ⟨8 - 2 * n, by omega⟩
  have e1 := own_sum0 (g := fun i => (y 7 i).toInt) (m := 2 * n) (k := d) fun i h1 h2 => (hz i h1 (by omega)).1
  have e2 := own_sum0 (g := fun i => (y 8 i).toInt) (m := 2 * n) (k := d) fun i h1 h2 => (hz i h1 (by omega)).2
  rw [← hd] at e1 e2
  exact ⟨by rw [← e1, h3], by rw [← e2, h5]⟩
theorem own_invr {D : Int32} {f0 f1 f2 : Int64} {j : Nat} {s : St} (h : own_H D f0 f1 f2 j s) (hj : j ≤ 1000) : own_Ok (fun n => f_L_invariants n s) (· = 1) := by
  obtain ⟨hI, -, hC, -⟩ := h
  have hS := hI.1
  have hK := hI.2.2.2.2.1
  have z64 : (0 : Int64).toInt = 0 := by decide
  have key : ∀ k c, c + k = 16 → own_Ok (fun n => f_L_invariants_2 n (Int32.ofNat c) s) (· = 1) := by
    intro k
    induction k with
    | zero =>
      intro c hc
      obtain rfl : c = 16 := by omega
      refine own_Ok.step (g := fun n => g_L_invariants_2 (f_L_invariants_2 n) n (Int32.ofNat 16) s) (fun n => rfl) ?_
      unfold g_L_invariants_2
      exact own_Ok.ite (fun q => absurd q (by decide)) fun _ => own_Ok.ret rfl
    | succ k ih =>
      intro c hc
      have hc16 : c < 16 := by omega
      refine own_Ok.step (g := fun n => g_L_invariants_2 (f_L_invariants_2 n) n (Int32.ofNat c) s) (fun n => rfl) ?_
      obtain ⟨⟨n, hn⟩, ⟨r1, r2, r3, r4⟩, t1, t2, t3⟩ := hC c hc16
      have hInv : own_Inv (gI s 1).toInt n (own_va s c) (own_vb s c) := hn.x rfl
      have n4 := hInv.1
      obtain ⟨sL, sX⟩ := own_isum hInv
      have lb : ∀ i, i < 8 → 0 ≤ (own_vb s c 7 i).toInt ∧ (own_vb s c 7 i).toInt ≤ 100000000000000 := fun i hi => (hInv.2.2.1 i hi).1
      have xb : ∀ i, i < 8 → 0 ≤ (own_vb s c 8 i).toInt ∧ (own_vb s c 8 i).toInt ≤ 30000000000001 := fun i hi => by
        have h1 := own_flb (lb i hi) hK
        have h2 := (hInv.2.2.1 i hi).2
        omega
      have el : (Int32.ofNat (2 * n)).toInt64.toInt = ((2 * n : Nat) : Int) := by rw [Int32.toInt_toInt64, ofN_int (by omega)]
      have sLb := own_sumb (g := fun i => (own_vb s c 7 i).toInt) (C := 100000000000000) (n := 2 * n) fun i hi => lb i (by omega)
      have sXb := own_sumb (g := fun i => (own_vb s c 8 i).toInt) (C := 30000000000001) (n := 2 * n) fun i hi => xb i (by omega)
      have gI0 : f_getInvoice (Int32.ofNat c) 0 s = some (Int32.ofNat (2 * n)).toInt64 := by
        rw [own_getI hS c hc16, if_pos rfl, hInv.2.1]
      have gI1 : f_getInvoice (Int32.ofNat c) 1 s = some (own_vb s c 3 0) := by
        rw [own_getI hS c hc16, if_neg own_01, if_pos rfl]
      have gI2 : f_getInvoice (Int32.ofNat c) 2 s = some (own_vb s c 4 0) := by
        rw [own_getI hS c hc16]; simp [show ¬ (2 : Int32) = 0 by decide, show ¬ (2 : Int32) = 1 by decide]
      have gI3 : f_getInvoice (Int32.ofNat c) 3 s = some (own_vb s c 5 0) := by
        rw [own_getI hS c hc16]; simp [show ¬ (3 : Int32) = 0 by decide, show ¬ (3 : Int32) = 1 by decide, show ¬ (3 : Int32) = 2 by decide]
      have gI4 : f_getInvoice (Int32.ofNat c) 4 s = some (own_vb s c 6 0) := by
        rw [own_getI hS c hc16]; simp [show ¬ (4 : Int32) = 0 by decide, show ¬ (4 : Int32) = 1 by decide, show ¬ (4 : Int32) = 2 by decide, show ¬ (4 : Int32) = 3 by decide]
      have gC3 : f_getCustomer (Int32.ofNat c) 3 s = some (own_vb s c 0 0) := by
        rw [own_getC hS c hc16]; simp [show ¬ (3 : Int32) = 0 by decide, show ¬ (3 : Int32) = 1 by decide, show ¬ (3 : Int32) = 2 by decide]
      have gC4 : f_getCustomer (Int32.ofNat c) 4 s = some (own_vb s c 1 0) := by
        rw [own_getC hS c hc16]; simp [show ¬ (4 : Int32) = 0 by decide, show ¬ (4 : Int32) = 1 by decide, show ¬ (4 : Int32) = 2 by decide, show ¬ (4 : Int32) = 3 by decide]
      have gC5 : f_getCustomer (Int32.ofNat c) 5 s = some (own_vb s c 2 0) := by
        rw [own_getC hS c hc16]; simp [show ¬ (5 : Int32) = 0 by decide, show ¬ (5 : Int32) = 1 by decide, show ¬ (5 : Int32) = 2 by decide, show ¬ (5 : Int32) = 3 by decide, show ¬ (5 : Int32) = 4 by decide]
      have inner : ∀ m i (st sl : Int64), i + m = 2 * n → st.toInt = own_sum (fun i => (own_vb s c 8 i).toInt) i → sl.toInt = own_sum (fun i => (own_vb s c 7 i).toInt) i → ∀ k2 N, f_L_invariants_40 k2 (N + m + 1) (Int32.ofNat c) (Int32.ofNat (2 * n)).toInt64 st sl (Int32.ofNat i) s = k2 (Int32.ofNat (c + 1)) s := by
        intro m
        induction m with
        | zero =>
          intro i st sl hi hst hsl k2 N
          obtain rfl : i = 2 * n := by omega
          show g_L_invariants_40 k2 (f_L_invariants_40 k2 (N + 0)) (N + 0) _ _ _ _ _ s = _
          have a1 : (own_vb s c 3 0 + own_vb s c 4 0).toInt = (own_vb s c 3 0).toInt + (own_vb s c 4 0).toInt := x64_add (by omega) (by omega)
          have a2 : own_vb s c 2 0 + own_vb s c 0 0 = own_vb s c 1 0 := by
            rw [x64_eq, x64_add (by omega) (by omega)]; omega
          unfold g_L_invariants_40 lt
          rw [if_neg (by rw [x64_lt]; omega), gI1, Option.bind_some, gI2, Option.bind_some, gI3, Option.bind_some, gI4, Option.bind_some, if_pos (x64_eq.mpr (hst.trans sX)), if_pos (x64_eq.mpr (hsl.trans sL)), if_pos t1, if_neg (by rw [x64_lt, z64]; omega), if_neg (by rw [x64_lt, a1]; omega), gC5, Option.bind_some, gC3, Option.bind_some, gC4, Option.bind_some, if_pos a2, if_neg (by rw [x64_lt]; omega), ofN_succ]
        | succ m ihm =>
          intro i st sl hi hst hsl k2 N
          have b1 := own_sumb (g := fun i => (own_vb s c 7 i).toInt) (C := 100000000000000) (n := i) fun k hk => lb k (by omega)
          have b2 := own_sumb (g := fun i => (own_vb s c 8 i).toInt) (C := 30000000000001) (n := i) fun k hk => xb k (by omega)
          have b3 := lb i (by omega)
          have b4 := xb i (by omega)
          have e1 : (st + own_vb s c 8 i).toInt = own_sum (fun i => (own_vb s c 8 i).toInt) (i + 1) := by
            rw [x64_add (by omega) (by omega), hst]; rfl
          have e2 : (sl + own_vb s c 7 i).toInt = own_sum (fun i => (own_vb s c 7 i).toInt) (i + 1) := by
            rw [x64_add (by omega) (by omega), hsl]; rfl
          rw [← ihm (i + 1) _ _ (by omega) e1 e2 k2 N]
          show g_L_invariants_40 k2 (f_L_invariants_40 k2 (N + m + 1)) (N + m + 1) _ _ _ _ _ s = _
          have li : (Int32.ofNat i).toInt64.toInt = i := by rw [Int32.toInt_toInt64, ofN_int (by omega)]
          have l2 : Int32.ofNat i < own_va s c 11 0 := by rw [hInv.2.1]; exact (ofN_lt (by omega) (by omega)).mpr (by omega)
          unfold g_L_invariants_40 lt
          rw [if_pos (by rw [x64_lt]; omega), own_getX hS c i hc16 (by omega), Option.bind_some, if_pos l2]
          dsimp only
          rw [own_getL hS c i hc16 (by omega), Option.bind_some, if_pos l2, ofN_succ]
      unfold g_L_invariants_2
      refine own_Ok.ite (fun _ => ?_) fun q => absurd ((ofN_ltL (m := 16) (by omega) (by decide)).mpr hc16) q
      rw [gI0]
      refine own_Ok.some_bind ?_
      have k8 : (8 : Int64).toInt = 8 := by decide
      refine own_Ok.ite (fun q => ?_) fun _ => ?_
      · rw [x64_lt, z64] at q; omega
      refine own_Ok.ite (fun q => ?_) fun _ => ?_
      · rw [x64_lt, k8] at q; omega
      obtain ⟨r, ⟨N, hN⟩, rfl⟩ := ih (c + 1) (by omega)
      refine ⟨1, ⟨N + 2 * n + 1, fun m hm => ?_⟩, rfl⟩
      have := inner (2 * n) 0 0 0 (by omega) rfl rfl (f_L_invariants_2 m) (m - 2 * n - 1)
      rw [show m - 2 * n - 1 + 2 * n + 1 = m by omega] at this
      exact this.trans (hN m (by omega))
  unfold f_L_invariants
  exact key 16 0 rfl
/-! chains of segments -/
def own_Ch (D : Int32) (n : Nat) (p : Int64) (x : Nat → Nat → Int32) (i : Nat) : Prop := ∀ k, k < i → (x 7 k).toInt64 = (if k = 0 then 0 else (x 8 (k - 1)).toInt64) ∧ (x 9 k).toInt64 = p ∧ (k + 1 = n → (x 8 k).toInt64 = -1 ∨ (x 8 k).toInt64 = D.toInt64)
theorem own_Ch.s {D : Int32} {n : Nat} {p : Int64} {x : Nat → Nat → Int32} {i : Nat} (h : own_Ch D n p x i) (h1 : (x 7 i).toInt64 = (if i = 0 then 0 else (x 8 (i - 1)).toInt64)) (h2 : (x 9 i).toInt64 = p) (h3 : i + 1 = n → (x 8 i).toInt64 = -1 ∨ (x 8 i).toInt64 = D.toInt64) : own_Ch D n p x (i + 1) := fun k hk => by
  by_cases q : k = i
  · rw [q]; exact ⟨h1, h2, h3⟩
  · exact h k (by omega)
theorem own_537 {s : St} (hS : own_Sh s) (c n : Nat) (hc : c < 16) (hn : n ≤ 4) (h6 : own_va s c 6 0 = Int32.ofNat n) (D : Int32) (f0 f1 f2 : Int64) (v9 v10 : Int32) (v17 v19 p : Int64) (a : List Int32) :
    ∀ m i (v24 : Int32) (v27 : Int64), i + m = n → (¬ v24 = 0 → own_Ch D n p (own_va s c) i) → (i < n → v27 = if i = 0 then 0 else (own_va s c 8 (i - 1)).toInt64) → ∃ w : Int32, (w = 0 ∨ (¬ v24 = 0 ∧ own_Ch D n p (own_va s c) n)) ∧ ∀ k67 k463 N, f_law_537 k67 k463 (N + m + 1) D f0 f1 f2 v9 v10 v17 v19 (Int32.ofNat c) (Int32.ofNat n).toInt64 v24 p v27 (Int32.ofNat i) a s = if w = 0 then k463 D f0 f1 f2 v9 v10 v17 v19 (Int32.ofNat (c + 1)) a s else k463 D f0 f1 f2 v9 v10 (v17 ||| (p <<< ((3 * Int32.ofNat c).toInt64 &&& 63))) (v19 ||| ((Int32.ofNat n).toInt64 <<< ((3 * Int32.ofNat c).toInt64 &&& 63))) (Int32.ofNat (c + 1)) a s := by
  have en : (Int32.ofNat n).toInt64.toInt = n := by rw [Int32.toInt_toInt64, ofN_int (by omega)]
  have ex : ∀ k67 k463 N (v24 : Int32), f_law_648 k67 k463 N D f0 f1 f2 v9 v10 v17 v19 (Int32.ofNat c) (Int32.ofNat n).toInt64 v24 p a s = if v24 = 0 then k463 D f0 f1 f2 v9 v10 v17 v19 (Int32.ofNat (c + 1)) a s else k463 D f0 f1 f2 v9 v10 (v17 ||| (p <<< ((3 * Int32.ofNat c).toInt64 &&& 63))) (v19 ||| ((Int32.ofNat n).toInt64 <<< ((3 * Int32.ofNat c).toInt64 &&& 63))) (Int32.ofNat (c + 1)) a s := fun k67 k463 N v24 => by
    unfold f_law_648 f_law_677 lt
    rw [ofN_succ]
  intro m
  induction m with
  | zero =>
    intro i v24 v27 hi h1 h2
    obtain rfl : i = n := by omega
    refine ⟨v24, ?_, fun k67 k463 N => ?_⟩
    · by_cases q : v24 = 0
      · exact Or.inl q
      · exact Or.inr ⟨q, h1 q⟩
    · show g_law_537 k67 k463 (f_law_537 k67 k463 (N + 0)) (N + 0) _ _ _ _ _ _ _ _ _ _ _ _ _ _ a s = _
      unfold g_law_537
      rw [ex, if_neg (show ¬ (Int32.ofNat i).toInt64 < (Int32.ofNat i).toInt64 by rw [x64_lt]; omega), ite_self]
  | succ m ih =>
    intro i v24 v27 hi h1 h2
    have st : ∀ k67 k463 N, f_law_537 k67 k463 (N + (m + 1) + 1) D f0 f1 f2 v9 v10 v17 v19 (Int32.ofNat c) (Int32.ofNat n).toInt64 v24 p v27 (Int32.ofNat i) a s = g_law_537 k67 k463 (f_law_537 k67 k463 (N + m + 1)) (N + m + 1) D f0 f1 f2 v9 v10 v17 v19 (Int32.ofNat c) (Int32.ofNat n).toInt64 v24 p v27 (Int32.ofNat i) a s := fun _ _ _ => rfl
    by_cases z : v24 = 0
    · refine ⟨0, Or.inl rfl, fun k67 k463 N => ?_⟩
      rw [st]
      unfold g_law_537
      rw [if_pos z, ex, if_pos z, if_pos rfl]
    have ei : (Int32.ofNat i).toInt64.toInt = i := by rw [Int32.toInt_toInt64, ofN_int (by omega)]
    obtain ⟨g0, g1, g2, -⟩ := own_gS hS c i n hc (by omega) hn h6
    have o1 : (1 : Int64).toInt = 1 := by decide
    have en1 : ((Int32.ofNat n).toInt64 - 1).toInt = (n : Int) - 1 := by rw [x64_sub (by omega) (by omega), en, o1]
    have v27e := h2 (by omega)
    -- one turn
    have turn : ∀ k67 k463 N, f_law_537 k67 k463 (N + (m + 1) + 1) D f0 f1 f2 v9 v10 v17 v19 (Int32.ofNat c) (Int32.ofNat n).toInt64 v24 p v27 (Int32.ofNat i) a s = f_law_537 k67 k463 (N + m + 1) D f0 f1 f2 v9 v10 v17 v19 (Int32.ofNat c) (Int32.ofNat n).toInt64 (if (own_va s c 7 i).toInt64 = v27 ∧ (own_va s c 9 i).toInt64 = p ∧ (i + 1 = n → (own_va s c 8 i).toInt64 = -1 ∨ (own_va s c 8 i).toInt64 = D.toInt64) then v24 else 0) p (if i + 1 < n then (own_va s c 8 i).toInt64 else v27) (Int32.ofNat (i + 1)) a s := fun k67 k463 N => by
      rw [st]
      have tail : ∀ w : Int32, f_law_593 k67 k463 (f_law_537 k67 k463 (N + m + 1)) (N + m + 1) D f0 f1 f2 v9 v10 v17 v19 (Int32.ofNat c) (Int32.ofNat n).toInt64 w p v27 (Int32.ofNat i) a s = f_law_537 k67 k463 (N + m + 1) D f0 f1 f2 v9 v10 v17 v19 (Int32.ofNat c) (Int32.ofNat n).toInt64 (if (i + 1 = n → (own_va s c 8 i).toInt64 = -1 ∨ (own_va s c 8 i).toInt64 = D.toInt64) then w else 0) p (if i + 1 < n then (own_va s c 8 i).toInt64 else v27) (Int32.ofNat (i + 1)) a s := fun w => by
        unfold f_law_593 f_law_642 lt
        rw [g1, Option.bind_some, ofN_succ]
        by_cases q : i + 1 < n
        · rw [if_pos (show (Int32.ofNat i).toInt64 < (Int32.ofNat n).toInt64 - 1 by rw [x64_lt, ei, en1]; omega), if_pos q, if_pos (fun e => absurd e (by omega))]
        · rw [if_neg (show ¬ (Int32.ofNat i).toInt64 < (Int32.ofNat n).toInt64 - 1 by rw [x64_lt, ei, en1]; omega), if_neg q]
          by_cases r1 : (own_va s c 8 i).toInt64 = -1
          · rw [if_pos r1, if_pos (fun _ => Or.inl r1)]
          · rw [if_neg r1]
            by_cases r2 : (own_va s c 8 i).toInt64 = D.toInt64
            · rw [if_pos r2, if_pos (fun _ => Or.inr r2)]
            · rw [if_neg r2, if_neg]
              intro h
              rcases h (by omega) with e | e
              · exact r1 e
              · exact r2 e
      have mid : ∀ w : Int32, f_law_575 k67 k463 (f_law_537 k67 k463 (N + m + 1)) (N + m + 1) D f0 f1 f2 v9 v10 v17 v19 (Int32.ofNat c) (Int32.ofNat n).toInt64 w p v27 (Int32.ofNat i) a s = f_law_537 k67 k463 (N + m + 1) D f0 f1 f2 v9 v10 v17 v19 (Int32.ofNat c) (Int32.ofNat n).toInt64 (if (i + 1 = n → (own_va s c 8 i).toInt64 = -1 ∨ (own_va s c 8 i).toInt64 = D.toInt64) then (if (own_va s c 9 i).toInt64 = p then w else 0) else 0) p (if i + 1 < n then (own_va s c 8 i).toInt64 else v27) (Int32.ofNat (i + 1)) a s := fun w => by
        unfold f_law_575
        rw [g2, Option.bind_some]
        by_cases q : (own_va s c 9 i).toInt64 = p
        · rw [if_pos q, tail, if_pos q]
        · rw [if_neg q, tail, if_neg q]
      unfold g_law_537
      rw [if_neg z, if_pos (show (Int32.ofNat i).toInt64 < (Int32.ofNat n).toInt64 by rw [x64_lt]; omega), if_pos ((ofN_ltL (m := 4) (by omega) (by decide)).mpr (by omega)), g0, Option.bind_some]
      by_cases q1 : (own_va s c 7 i).toInt64 = v27
      · rw [if_pos q1, mid]
        by_cases q2 : (own_va s c 9 i).toInt64 = p
        · rw [if_pos q2]
          by_cases q3 : (i + 1 = n → (own_va s c 8 i).toInt64 = -1 ∨ (own_va s c 8 i).toInt64 = D.toInt64)
          · have gg : (own_va s c 7 i).toInt64 = v27 ∧ (own_va s c 9 i).toInt64 = p ∧ (i + 1 = n → (own_va s c 8 i).toInt64 = -1 ∨ (own_va s c 8 i).toInt64 = D.toInt64) := ⟨q1, q2, q3⟩
            rw [if_pos q3, if_pos gg]
          · have gg : ¬ ((own_va s c 7 i).toInt64 = v27 ∧ (own_va s c 9 i).toInt64 = p ∧ (i + 1 = n → (own_va s c 8 i).toInt64 = -1 ∨ (own_va s c 8 i).toInt64 = D.toInt64)) := fun h => q3 h.2.2
            rw [if_neg q3, if_neg gg]
        · have gg : ¬ ((own_va s c 7 i).toInt64 = v27 ∧ (own_va s c 9 i).toInt64 = p ∧ (i + 1 = n → (own_va s c 8 i).toInt64 = -1 ∨ (own_va s c 8 i).toInt64 = D.toInt64)) := fun h => q2 h.2.1
          rw [if_neg q2, ite_self, if_neg gg]
      · have gg : ¬ ((own_va s c 7 i).toInt64 = v27 ∧ (own_va s c 9 i).toInt64 = p ∧ (i + 1 = n → (own_va s c 8 i).toInt64 = -1 ∨ (own_va s c 8 i).toInt64 = D.toInt64)) := fun h => q1 h.1
        rw [if_neg q1, mid, ite_self, ite_self, if_neg gg]
    by_cases g : (own_va s c 7 i).toInt64 = v27 ∧ (own_va s c 9 i).toInt64 = p ∧ (i + 1 = n → (own_va s c 8 i).toInt64 = -1 ∨ (own_va s c 8 i).toInt64 = D.toInt64)
    · rw [if_pos g] at turn
      obtain ⟨w, w1, w2⟩ := ih (i + 1) v24 (if i + 1 < n then (own_va s c 8 i).toInt64 else v27) (by omega) (fun q => (h1 q).s (g.1.trans v27e) g.2.1 g.2.2) (fun q => by rw [if_pos q, if_neg (by omega)]; rfl)
      exact ⟨w, w1, fun k67 k463 N => (turn k67 k463 N).trans (w2 k67 k463 N)⟩
    · rw [if_neg g] at turn
      obtain ⟨w, w1, w2⟩ := ih (i + 1) 0 (if i + 1 < n then (own_va s c 8 i).toInt64 else v27) (by omega) (fun q => absurd rfl q) (fun q => by rw [if_pos q, if_neg (by omega)]; rfl)
      refine ⟨w, ?_, fun k67 k463 N => (turn k67 k463 N).trans (w2 k67 k463 N)⟩
      rcases w1 with e | e
      · exact Or.inl e
      · exact absurd rfl e.1
def own_Gd (D : Int32) (s : St) (e n p : Nat) : Prop := own_va s e 6 0 = Int32.ofNat n ∧ 1 ≤ n ∧ n ≤ 4 ∧ p < 8 ∧ own_Ch D n (Int32.ofNat p).toInt64 (own_va s e) n
theorem own_463 {s : St} (hI : own_I s) (D : Int32) (f0 f1 f2 : Int64) (v9 v10 : Int32) (a : List Int32) : ∀ k c (v17 v19 : Int64), c + k = 16 → (∀ e, e < 16 → (e < c → own_f v19 e = 0 ∨ own_Gd D s e (own_f v19 e) (own_f v17 e)) ∧ (c ≤ e → own_f v19 e = 0 ∧ own_f v17 e = 0)) → ∃ w17 w19 : Int64, (∀ e, e < 16 → own_f w19 e = 0 ∨ own_Gd D s e (own_f w19 e) (own_f w17 e)) ∧ ∀ k67 N, f_law_463 k67 (N + k + 6) D f0 f1 f2 v9 v10 v17 v19 (Int32.ofNat c) a s = (f_closeCycle (N + 5) s).bind fun c5 => f_law_691 k67 (N + 5) D f0 f1 f2 v9 v10 w17 w19 0 a c5.2 := by
  have hS := hI.1
  intro k
  induction k with
  | zero =>
    intro c v17 v19 hc h
    obtain rfl : c = 16 := by omega
    refine ⟨v17, v19, fun e he => (h e he).1 he, fun k67 N => ?_⟩
    show g_law_463 k67 (f_law_463 k67 (N + 0 + 5)) (N + 0 + 5) _ _ _ _ _ _ _ _ (Int32.ofNat 16) a s = _
    unfold g_law_463
    rw [if_neg (by decide)]
  | succ k ih =>
    intro c v17 v19 hc h
    have hc16 : c < 16 := by omega
    obtain ⟨n, hn, h6, -, hseg⟩ := hI.2.2.2.2.2.2 c hc16
    have en : (Int32.ofNat n).toInt64.toInt = n := by rw [Int32.toInt_toInt64, ofN_int (by omega)]
    -- the first segment's plan
    obtain ⟨p, hp, ep⟩ : ∃ p, p < 8 ∧ f_getSegment (Int32.ofNat c) 0 2 s = some (Int32.ofNat p).toInt64 := by
      by_cases q : n = 0
      · refine ⟨0, by omega, ?_⟩
        have := own_getS hS c 0 hc16 (by decide) 2
        rw [h6, q, if_neg (by decide)] at this
        exact this
      · have b := (hseg 0 (by omega)).1
        refine ⟨(own_va s c 9 0).toInt.toNat, by omega, ?_⟩
        have := (own_gS hS c 0 n hc16 (by omega) hn h6).2.2.1
        rw [← ofN_of (x := own_va s c 9 0) (k := (own_va s c 9 0).toInt.toNat) (by omega)]
        exact this
    have epi : (Int32.ofNat p).toInt64.toInt = p := by rw [Int32.toInt_toInt64, ofN_int (by omega)]
    have gC2 : f_getCustomer (Int32.ofNat c) 2 s = some (Int32.ofNat n).toInt64 := by
      rw [own_getC hS c hc16, if_neg (by decide), if_neg (by decide), if_pos rfl, h6]
    have z64 : (0 : Int64).toInt = 0 := by decide
    have k1 : (1 : Int64).toInt = 1 := by decide
    have k4 : (4 : Int64).toInt = 4 := by decide
    have k7 : (7 : Int64).toInt = 7 := by decide
    have u500 : ∀ k67 k463 N t0, f_law_500 k67 k463 N D f0 f1 f2 v9 v10 v17 v19 (Int32.ofNat c) (Int32.ofNat n).toInt64 t0 a s = f_law_537 k67 k463 N D f0 f1 f2 v9 v10 v17 v19 (Int32.ofNat c) (Int32.ofNat n).toInt64 t0 (Int32.ofNat p).toInt64 0 0 a s := fun k67 k463 N t0 => by
      unfold f_law_500 f_law_531
      rw [ep, Option.bind_some, if_neg (by rw [x64_lt, z64]; omega), if_neg (by rw [x64_lt, k7]; omega)]
    obtain ⟨t0, ht0, step⟩ : ∃ t0 : Int32, (¬ t0 = 0 → 1 ≤ n) ∧ ∀ k67 N, f_law_463 k67 (N + 1) D f0 f1 f2 v9 v10 v17 v19 (Int32.ofNat c) a s = f_law_537 k67 (f_law_463 k67 N) N D f0 f1 f2 v9 v10 v17 v19 (Int32.ofNat c) (Int32.ofNat n).toInt64 t0 (Int32.ofNat p).toInt64 0 0 a s := by
      by_cases q : n = 0
      · refine ⟨0, fun q => absurd rfl q, fun k67 N => ?_⟩
        show g_law_463 k67 (f_law_463 k67 N) N _ _ _ _ _ _ _ _ _ a s = _
        unfold g_law_463 f_law_499
        rw [if_pos ((ofN_ltL (m := 16) (by omega) (by decide)).mpr hc16), gC2, Option.bind_some, if_pos (by rw [x64_lt, k1]; omega), u500]
      · refine ⟨1, fun _ => by omega, fun k67 N => ?_⟩
        show g_law_463 k67 (f_law_463 k67 N) N _ _ _ _ _ _ _ _ _ a s = _
        unfold g_law_463
        rw [if_pos ((ofN_ltL (m := 16) (by omega) (by decide)).mpr hc16), gC2, Option.bind_some, if_neg (by rw [x64_lt, k1]; omega), if_neg (by rw [x64_lt, k4]; omega), u500]
    obtain ⟨w, w1, w2⟩ := own_537 hS c n hc16 hn h6 D f0 f1 f2 v9 v10 v17 v19 (Int32.ofNat p).toInt64 a n 0 t0 0 (by omega) (fun _ k hk => absurd hk (Nat.not_lt_zero _)) (fun _ => rfl)
    by_cases z : w = 0
    · simp only [if_pos z] at w2
      obtain ⟨w17, w19, g1, g2⟩ := ih (c + 1) v17 v19 (by omega) fun e he => ⟨fun q => by
        by_cases r : e = c
        · rw [r]; exact Or.inl ((h c hc16).2 (Nat.le_refl _)).1
        · exact (h e he).1 (by omega), fun q => (h e he).2 (by omega)⟩
      refine ⟨w17, w19, g1, fun k67 N => ?_⟩
      rw [← g2 k67 N]
      show f_law_463 k67 (N + k + 6 + 1) _ _ _ _ _ _ _ _ _ a s = _
      rw [step]
      have := w2 k67 (f_law_463 k67 (N + k + 6)) (N + k + 5 - n)
      rw [show N + k + 5 - n + n + 1 = N + k + 6 by omega] at this
      exact this
    · simp only [if_neg z] at w2
      obtain ⟨nt, ch⟩ : ¬ t0 = 0 ∧ own_Ch D n (Int32.ofNat p).toInt64 (own_va s c) n := by
        rcases w1 with e | e
        · exact absurd e z
        · exact e
      have zc := (h c hc16).2 (Nat.le_refl _)
      have o19 := own_or3 v19 c n hc16 (by omega) zc.1
      have o17 := own_or3 v17 c p hc16 hp zc.2
      obtain ⟨w17, w19, g1, g2⟩ := ih (c + 1) (v17 ||| ((Int32.ofNat p).toInt64 <<< ((3 * Int32.ofNat c).toInt64 &&& 63))) (v19 ||| ((Int32.ofNat n).toInt64 <<< ((3 * Int32.ofNat c).toInt64 &&& 63))) (by omega) fun e he => ⟨fun q => by
        rw [o19 e he, o17 e he]
        by_cases r : e = c
        · rw [if_pos r, if_pos r, r]
          exact Or.inr ⟨h6, ht0 nt, hn, hp, ch⟩
        · rw [if_neg r, if_neg r]; exact (h e he).1 (by omega), fun q => by
        rw [o19 e he, o17 e he, if_neg (by omega), if_neg (by omega)]; exact (h e he).2 (by omega)⟩
      refine ⟨w17, w19, g1, fun k67 N => ?_⟩
      rw [← g2 k67 N]
      show f_law_463 k67 (N + k + 6 + 1) _ _ _ _ _ _ _ _ _ a s = _
      rw [step]
      have := w2 k67 (f_law_463 k67 (N + k + 6)) (N + k + 5 - n)
      rw [show N + k + 5 - n + n + 1 = N + k + 6 by omega] at this
      exact this
theorem own_i64 {x y : Int32} (h : x.toInt64 = y.toInt64) : x.toInt = y.toInt := by
  have := congrArg Int64.toInt h
  rw [Int32.toInt_toInt64, Int32.toInt_toInt64] at this
  exact this
theorem own_tel {D : Int32} {n p : Nat} {x : Nat → Nat → Int32} {f0 : Nat → Int32} {td : Int} (hCI : own_CI D.toInt td x) (h6 : x 6 0 = Int32.ofNat n) (n1 : 1 ≤ n) (hn : n ≤ 4) (hp : p < 8) (ch : own_Ch D n (Int32.ofNat p).toInt64 x n) (hD : 0 < D.toInt) : own_sum (own_fv f0 D.toInt n x) n = (f0 p).toInt * 1000000 := by
  have pl : ∀ k, k < n → (x 9 k).toInt.toNat = p := fun k hk => by
    rw [own_i64 (ch k hk).2.1, ofN_int (by omega)]; omega
  have st0 : (x 7 0).toInt = 0 := by
    have := (ch 0 (by omega)).1
    rw [if_pos rfl] at this
    have := congrArg Int64.toInt this
    rw [Int32.toInt_toInt64] at this
    exact this
  have stk : ∀ k, k < n → 1 ≤ k → (x 7 k).toInt = (x 8 (k - 1)).toInt := fun k hk k1 => by
    have := (ch k hk).1
    rw [if_neg (by omega)] at this
    exact own_i64 this
  have tel : ∀ i, 1 ≤ i → i ≤ n → own_sum (own_fv f0 D.toInt n x) i = (f0 p).toInt * 1000000 * (if ¬ x 4 0 = 0 ∧ i - 1 + 1 = n then D.toInt else (x 8 (i - 1)).toInt) / D.toInt := by
    intro i
    induction i with
    | zero => intro h; omega
    | succ i ih =>
      intro _ hi
      show own_sum (own_fv f0 D.toInt n x) i + own_fv f0 D.toInt n x i = _
      have e : own_fv f0 D.toInt n x i = (f0 p).toInt * 1000000 * (if ¬ x 4 0 = 0 ∧ i + 1 = n then D.toInt else (x 8 i).toInt) / D.toInt - (f0 p).toInt * 1000000 * (x 7 i).toInt / D.toInt := by
        unfold own_fv; rw [pl i (by omega)]
      rw [e, show i + 1 - 1 = i by omega]
      by_cases q : i = 0
      · subst q
        rw [st0, Int.mul_zero, Int.zero_ediv]
        show (0 : Int) + _ = _
        omega
      · rw [ih (by omega) (by omega), if_neg (show ¬ (¬ x 4 0 = 0 ∧ i - 1 + 1 = n) by omega), stk i (by omega) (by omega)]
        omega
  rw [tel n n1 (Nat.le_refl _)]
  have eE : (if ¬ x 4 0 = 0 ∧ n - 1 + 1 = n then D.toInt else (x 8 (n - 1)).toInt) = D.toInt := by
    obtain ⟨m, hm, hm6, -, hs⟩ := hCI
    obtain rfl : m = n := (ofN_eq (by omega) (by omega)).mp (hm6.symm.trans h6)
    by_cases q : ¬ x 4 0 = 0 ∧ m - 1 + 1 = m
    · rw [if_pos q]
    · rw [if_neg q]
      have w := (hs (m - 1) (by omega)).2.2
      rw [if_neg q] at w
      rcases (ch (m - 1) (by omega)).2.2 (by omega) with e | e
      · have := congrArg Int64.toInt e
        rw [Int32.toInt_toInt64] at this
        have : (x 8 (m - 1)).toInt = -1 := this
        omega
      · exact own_i64 e
  rw [eE, Int.mul_ediv_cancel _ (by omega)]
theorem own_691 {s t : St} {D : Int32} {f0 f1 f2 : Int64} {j : Nat} (h : own_H D f0 f1 f2 j s) (hc : own_Clo s t) (v9 v10 : Int32) (w17 w19 : Int64) (hg : ∀ e, e < 16 → own_f w19 e = 0 ∨ own_Gd D s e (own_f w19 e) (own_f w17 e)) (a : List Int32) : ∀ k c, c + k = 16 → ∀ k67 N, f_law_691 k67 (N + k + 6) D f0 f1 f2 v9 v10 w17 w19 (Int32.ofNat c) a t = f_law_796 k67 (N + 5) D f0 f1 f2 v9 v10 a t := by
  intro k
  induction k with
  | zero =>
    intro c hc' k67 N
    obtain rfl : c = 16 := by omega
    show g_law_691 k67 (f_law_691 k67 (N + 0 + 5)) (N + 0 + 5) _ _ _ _ _ _ _ _ (Int32.ofNat 16) a t = _
    unfold g_law_691
    rw [if_neg (by decide)]
  | succ k ih =>
    intro c hc' k67 N
    have hc16 : c < 16 := by omega
    rw [← ih (c + 1) (by omega) k67 N]
    show g_law_691 k67 (f_law_691 k67 (N + k + 6)) (N + k + 6) _ _ _ _ _ _ _ _ (Int32.ofNat c) a t = _
    unfold g_law_691 lt
    rw [if_pos ((ofN_ltL (m := 16) (by omega) (by decide)).mpr hc16), own_gx w19 c hc16, own_gx w17 c hc16]
    dsimp only
    rcases hg c hc16 with z | g
    · rw [z, if_pos (by decide)]
      unfold f_law_790 lt
      rw [ofN_succ]
    · generalize own_f w19 c = n at g
      generalize own_f w17 c = p at g
      obtain ⟨h6, n1, n4, hp, ch⟩ := g
      rw [if_neg (fun q => by have := (ofN_eqL (m := 0) (by omega) (by decide)).mp q; omega)]
      have hS := hc.1
      have hD : 0 < D.toInt := by
        have := h.1.2.2.2.1
        rw [h.2.1] at this; omega
      obtain ⟨n', hn6, hCl⟩ := hc.2.2.2.2.2.2 c hc16
      have n4' := hCl.1.1
      rw [← own_va1 s c (g := 6) (by decide)] at hn6
      obtain rfl : n' = n := (ofN_eq (by omega) (by omega)).mp (hn6.symm.trans h6)
      have fe := hCl.2.2.1
      rw [h.2.1] at fe
      have hCI := h.1.2.2.2.2.2.2 c hc16
      rw [h.2.1] at hCI
      have tl := own_tel (f0 := own_A s 0) hCI h6 n1 n4 hp ch hD
      have fb := h.1.2.2.1 p hp
      have fp := h.2.2.2 p hp
      have lb : ∀ i, i < n' → 0 ≤ own_fv (own_A s 0) D.toInt n' (own_va s c) i ∧ own_fv (own_A s 0) D.toInt n' (own_va s c) i ≤ 100000000000000 := fun i hi => by
        rw [← fe i hi]; exact (hCl.1.2.2.1 (2 * i) (by omega)).1
      have mil : (1000000 : Int64).toInt = 1000000 := by decide
      have pm : (own_pk p f0 f1 f2 * 1000000).toInt = (own_A s 0 p).toInt * 1000000 := by
        rw [x64_mul (by rw [← fp, mil]; omega) (by rw [← fp, mil]; omega), ← fp, mil]
      have epk : f_L_pick (Int32.ofNat p) f0 f1 f2 = some (own_pk p f0 f1 f2) := by
        unfold f_L_pick own_pk
        by_cases q0 : p = 0
        · rw [if_pos q0, q0, if_pos (by decide)]
        · rw [if_neg q0, if_neg (fun e => q0 ((ofN_eqL (m := 0) (by omega) (by decide)).mp e))]
          by_cases q1 : p = 1
          · rw [if_pos q1, q1, if_pos (by decide)]
          · rw [if_neg q1, if_neg (fun e => q1 ((ofN_eqL (m := 1) (by omega) (by decide)).mp e))]
            by_cases q2 : p = 2
            · rw [if_pos q2, q2, if_pos (by decide)]
            · rw [if_neg q2, if_neg (fun e => q2 ((ofN_eqL (m := 2) (by omega) (by decide)).mp e))]
      have inner : ∀ m i (sm : Int64), i + m = n' → sm.toInt = own_sum (own_fv (own_A s 0) D.toInt n' (own_va s c)) i → ∀ k691 M, f_law_740 k67 k691 (M + m + 1) D f0 f1 f2 v9 v10 w17 w19 (Int32.ofNat c) (Int32.ofNat n') (Int32.ofNat p) sm (Int32.ofNat i) a t = k691 D f0 f1 f2 v9 v10 w17 w19 (Int32.ofNat (c + 1)) a t := by
        intro m
        induction m with
        | zero =>
          intro i sm hi hs k691 M
          obtain rfl : i = n' := by omega
          show g_law_740 k67 k691 (f_law_740 k67 k691 (M + 0)) (M + 0) _ _ _ _ _ _ _ _ _ _ _ _ _ a t = _
          unfold g_law_740 f_law_790 lt
          rw [if_neg (fun q => Nat.lt_irrefl _ ((ofN_lt (by omega) (by omega)).mp q)), epk, Option.bind_some, if_pos (x64_eq.mpr (by rw [hs, tl, pm])), ofN_succ]
        | succ m ihm =>
          intro i sm hi hs k691 M
          have li := lb i (by omega)
          have sb := own_sumb (g := own_fv (own_A s 0) D.toInt n' (own_va s c)) (C := 100000000000000) (n := i) fun k hk => lb k (by omega)
          have vi : (own_vb t c 7 (2 * i)).toInt = own_fv (own_A s 0) D.toInt n' (own_va s c) i := fe i (by omega)
          have e1 : (sm + own_vb t c 7 (2 * i)).toInt = own_sum (own_fv (own_A s 0) D.toInt n' (own_va s c)) (i + 1) := by
            rw [x64_add (by rw [vi]; omega) (by rw [vi]; omega), hs, vi]; rfl
          rw [← ihm (i + 1) _ (by omega) e1 k691 M]
          show g_law_740 k67 k691 (f_law_740 k67 k691 (M + m + 1)) (M + m + 1) _ _ _ _ _ _ _ _ _ _ _ _ _ a t = _
          have l2 : Int32.ofNat (2 * i) < own_va t c 11 0 := by rw [hCl.1.2.1]; exact (ofN_lt (by omega) (by omega)).mpr (by omega)
          unfold g_law_740 lt
          rw [if_pos ((ofN_lt (by omega) (by omega)).mpr (by omega)), show (2 : Int32) * Int32.ofNat i = Int32.ofNat (2 * i) from (Int32.ofNat_mul 2 i).symm, own_getL hS c (2 * i) hc16 (by omega), Option.bind_some, if_pos l2, ofN_succ]
      have := inner n' 0 0 (by omega) rfl (f_law_691 k67 (N + k + 6)) (N + k + 5 - n')
      rw [show N + k + 5 - n' + n' + 1 = N + k + 6 by omega] at this
      exact this
theorem own_crb {n : Nat} {bal due : Int64} (hb : 0 ≤ bal.toInt) (hd : 0 ≤ due.toInt) : 0 ≤ (own_cred n bal due).toInt ∧ (own_cred n bal due).toInt ≤ bal.toInt ∧ (own_cred n bal due).toInt ≤ due.toInt := by
  have z : (0 : Int64).toInt = 0 := by decide
  unfold own_cred
  split
  · omega
  · split
    · rename_i q
      rw [x64_lt] at q; omega
    · rename_i q
      rw [x64_lt] at q; omega
theorem own_Hclose {s t : St} {D : Int32} {f0 f1 f2 : Int64} {j : Nat} (h : own_H D f0 f1 f2 j s) (hc : own_Clo s t) (hj : j ≤ 1000) : own_H D f0 f1 f2 (j + 1) t := by
  refine ⟨hc.I h.1, hc.2.1.trans h.2.1, fun c hc16 => ?_, fun p hp => by rw [hc.2.2.2.2.2.1 0 (by decide)]; exact h.2.2.2 p hp⟩
  rw [hc.2.2.1]
  obtain ⟨n, hn6, hInv, -, -, ⟨due, d1, d2, d3, d4, d5⟩, -, -, -, k4⟩ := hc.2.2.2.2.2.2 c hc16
  obtain ⟨-, ⟨r1, r2, r3, r4⟩, -⟩ := h.2.2.1 c hc16
  have K := h.1.2.2.2.2.1
  have sb := own_sumb (g := fun j => (own_vb t c 7 j).toInt) (C := 100000000000000) (n := 8) fun j hj => (hInv.2.2.1 j hj).1
  have y3 := hInv.2.2.2.2.1
  have y4 := hInv.2.2.2.2.2.1
  have y4b : 0 ≤ (own_vb t c 4 0).toInt ∧ (own_vb t c 4 0).toInt ≤ 240000000000000 := by
    rw [y4]
    have m1 : 0 ≤ own_sum (fun j => (own_vb t c 7 j).toInt) 8 * (gI s 1).toInt := Int.mul_nonneg sb.1 K.1
    have m2 : own_sum (fun j => (own_vb t c 7 j).toInt) 8 * (gI s 1).toInt ≤ 800000000000000 * 3000 := Int.mul_le_mul (by omega) K.2 K.1 (by decide)
    generalize own_sum (fun j => (own_vb t c 7 j).toInt) 8 * (gI s 1).toInt = z at m1 m2
    omega
  have ed : own_vb t c 3 0 + own_vb t c 4 0 = due := by
    rw [x64_eq, x64_add (by omega) (by omega), d1]
  have cb := own_crb (n := n) (bal := own_vb s c 0 0) (due := due) r1 (by omega)
  have s1 : (own_vb s c 0 0 - own_cred n (own_vb s c 0 0) due).toInt = (own_vb s c 0 0).toInt - (own_cred n (own_vb s c 0 0) due).toInt := x64_sub (by omega) (by omega)
  have s2 : (own_vb s c 2 0 + own_cred n (own_vb s c 0 0) due).toInt = (own_vb s c 2 0).toInt + (own_cred n (own_vb s c 0 0) due).toInt := x64_add (by omega) (by omega)
  refine ⟨⟨n, hInv.x rfl⟩, ⟨?_, ?_, ?_, ?_⟩, ?_, ?_, ?_⟩
  · rw [d3, s1]; omega
  · rw [d4, s2]; omega
  · rw [d3, d4, s1, s2, k4]; omega
  · rw [k4]; omega
  · rw [d5, d2, ed]
  · rw [d2]; omega
  · rw [d2]; omega
theorem own_cell (a : List Int32) (hl : a.length ≤ 260) (p : Nat) (hp : p < 1000) : ∃ x, f_L_cell (Int32.ofNat p) a = some x := by
  have e : a.length.toInt32 = Int32.ofNat a.length := rfl
  unfold f_L_cell f_L_cell_13
  rw [e]
  by_cases c : p < a.length
  · have hx : a[p]? = some (a[p]'c) := List.getElem?_eq_getElem _
    rw [if_pos ((ofN_lt (by omega) (by omega)).mpr c), rd_at (by omega) hx]
    exact ⟨_, rfl⟩
  · rw [if_neg (fun q => c ((ofN_lt (by omega) (by omega)).mp q))]
    exact ⟨_, rfl⟩
def own_Nx (D : Int32) (j : Nat) (v9 v10 : Int32) (a : List Int32) : Prop := ∀ f0 f1 f2 s, own_H D f0 f1 f2 (j + 1) s → own_Ok (fun N => f_law_67 N D f0 f1 f2 v9 (v10 + 1) a s) (· = 1)
theorem own_796 {D : Int32} {f0 f1 f2 : Int64} {j : Nat} {v9 v10 : Int32} {a : List Int32} {s : St} (hj : j < 1000) (nx : own_Nx D j v9 v10 a) (h : own_H D f0 f1 f2 (j + 1) s) : own_Ok (fun N => f_law_796 (f_law_67 N) N D f0 f1 f2 v9 v10 a s) (· = 1) := by
  unfold f_law_796 lt
  refine own_Ok.bind (own_invr h (by omega)) fun c hc => ?_
  refine own_Ok.ite (fun q => absurd (hc.symm.trans q) own_01) fun _ => nx _ _ _ _ h
theorem own_463O {D : Int32} {f0 f1 f2 : Int64} {j : Nat} {v9 v10 : Int32} {a : List Int32} {s : St} (hj : j < 1000) (nx : own_Nx D j v9 v10 a) (h : own_H D f0 f1 f2 j s) : own_Ok (fun N => f_law_463 (f_law_67 N) N D f0 f1 f2 v9 v10 0 0 0 a s) (· = 1) := by
  obtain ⟨w17, w19, g1, g2⟩ := own_463 h.1 D f0 f1 f2 v9 v10 a 16 0 0 0 rfl fun e he => ⟨fun q => absurd q (Nat.not_lt_zero _), fun _ => ⟨own_f0 e he, own_f0 e he⟩⟩
  obtain ⟨r, ⟨N1, hN1⟩, hclo, -⟩ := own_close h.1
  have hH := own_Hclose h hclo (by omega)
  have g3 := own_691 h hclo v9 v10 w17 w19 g1 a 16 0 rfl
  obtain ⟨x, ⟨N2, hN2⟩, rfl⟩ := own_invr hH (by omega)
  obtain ⟨y, ⟨N3, hN3⟩, rfl⟩ := nx _ _ _ _ hH
  refine ⟨1, ⟨N1 + N2 + N3 + 60, fun n hn => ?_⟩, rfl⟩
  have e1 := g2 (f_law_67 n) (n - 22)
  rw [show n - 22 + 16 + 6 = n by omega] at e1
  refine e1.trans ?_
  have e2 : f_closeCycle (n - 22 + 5) s = some r := hN1 _ (by omega)
  rw [e2, Option.bind_some]
  have e3 := g3 (f_law_67 n) (n - 39)
  rw [show n - 39 + 16 + 6 = n - 22 + 5 by omega] at e3
  refine e3.trans ?_
  unfold f_law_796 lt
  have e4 : f_L_invariants (n - 39 + 5) r.2 = some 1 := hN2 _ (by omega)
  rw [e4, Option.bind_some, if_neg own_01]
  exact hN3 n (by omega)
theorem own_106 {D : Int32} {f0 f1 f2 : Int64} {j : Nat} {v9 v10 : Int32} {a : List Int32} {s : St} (hl : a.length ≤ 260) (hj : j < 200) (nx : own_Nx D j v9 v10 a) (h : own_H D f0 f1 f2 j s) (t0 : Int32) : own_Ok (fun N => f_law_106 (f_law_67 N) N D f0 f1 f2 v9 v10 (Int32.ofNat (2 + 4 * j)) t0 a s) (· = 1) := by
  obtain ⟨c1, h1⟩ := own_cell a hl (2 + 4 * j + 1) (by omega)
  obtain ⟨c2, h2⟩ := own_cell a hl (2 + 4 * j + 2) (by omega)
  obtain ⟨c3, h3⟩ := own_cell a hl (2 + 4 * j + 3) (by omega)
  rw [Int32.ofNat_add _ 1] at h1
  rw [Int32.ofNat_add _ 2] at h2
  rw [Int32.ofNat_add _ 3] at h3
  have h1 : f_L_cell (Int32.ofNat (2 + 4 * j) + 1) a = some c1 := h1
  have h2 : f_L_cell (Int32.ofNat (2 + 4 * j) + 2) a = some c2 := h2
  have h3 : f_L_cell (Int32.ofNat (2 + 4 * j) + 3) a = some c3 := h3
  have mm : ∀ (x : Int64) (k : Nat), 0 < k → k < 2147483648 → ∃ r, r < k ∧ f_L_m x (OfNat.ofNat k : Int32) = some (Int32.ofNat r) := fun x k a b => own_m x k a b
  have i796 := fun f0 f1 f2 s (h : own_H D f0 f1 f2 (j + 1) s) => own_796 (by omega) nx h
  have ef : ∀ {c x y d s'}, c < 16 → own_Ef c x y d s s' → own_I s' → x 11 0 = own_va s c 11 0 → y = own_vb s c → own_H D f0 f1 f2 (j + 1) s' := fun {c x y d s'} hc hE hI e1 e2 => by
    refine h.ef hE hI ?_
    rw [e1, e2]; exact (h.2.2.1 c hc).j (by omega)
  unfold f_law_106
  rw [h1, h2, h3]
  refine own_Ok.some_bind (own_Ok.some_bind (own_Ok.some_bind ?_))
  obtain ⟨m4, hm4, em4⟩ := mm c1.toInt64 4 (by decide) (by decide)
  rw [em4]
  refine own_Ok.some_bind ?_
  have sub : own_Ok (fun N => f_law_288 (f_law_67 N) N D f0 f1 f2 v9 v10 c2 c3 (Int32.ofNat m4) a s) (· = 1) := by
    unfold f_law_288 f_today
    obtain ⟨a1, -, e1⟩ := mm c3.toInt64 3 (by decide) (by decide)
    obtain ⟨a2, -, e2⟩ := mm c2.toInt64 3 (by decide) (by decide)
    rw [e1, e2]
    refine own_Ok.some_bind (own_Ok.some_bind (own_Ok.some_bind ?_))
    obtain ⟨r, e, hr⟩ := own_subO h.1 (Int32.ofNat m4) (Int32.ofNat a1) (gI s 2 + Int32.ofNat a2)
    rw [e]
    refine own_Ok.some_bind (i796 _ _ _ _ ?_)
    rcases hr with ⟨rfl, -⟩ | ⟨c, n, hS, hn, hn6, r1, hE, hI⟩
    · exact h.j
    · exact ef hS.1 hE hI (by simp [own_u, own_xs]) rfl
  have usg : own_Ok (fun N => f_law_394 (f_law_67 N) N D f0 f1 f2 v9 v10 c2 c3 (Int32.ofNat m4) a s) (· = 1) := by
    unfold f_law_394 f_today
    obtain ⟨a1, -, e1⟩ := mm c3.toInt64 10000 (by decide) (by decide)
    obtain ⟨a2, -, e2⟩ := mm c2.toInt64 3 (by decide) (by decide)
    rw [e1, e2]
    refine own_Ok.some_bind (own_Ok.some_bind (own_Ok.some_bind ?_))
    obtain ⟨r, e, hr⟩ := own_usgO h.1 (Int32.ofNat m4) (gI s 2 + Int32.ofNat a2) (1 + Int32.ofNat a1)
    rw [e]
    refine own_Ok.some_bind (i796 _ _ _ _ ?_)
    rcases hr with ⟨rfl, -⟩ | ⟨c, n, v, hS, hn, n1, hn6, hq, hv, r1, hE, hI⟩
    · exact h.j
    · exact ef hS.1 hE hI (own_u1 _ _ _ _ (by decide)) rfl
  refine own_Ok.ite (fun _ => ?_) fun _ => ?_
  · obtain ⟨p, hp, e1⟩ := mm c1.toInt64 3 (by decide) (by decide)
    obtain ⟨f, hf, e2⟩ := mm c2.toInt64 1000001 (by decide) (by decide)
    obtain ⟨k, hk, e3⟩ := mm c3.toInt64 2 (by decide) (by decide)
    rw [e1, e2, e3]
    refine own_Ok.some_bind (own_Ok.some_bind (own_Ok.some_bind ?_))
    obtain ⟨r, e, hr⟩ := own_plnO h.1 (Int32.ofNat p) (Int32.ofNat f) (Int32.ofNat k)
    rw [e]
    refine own_Ok.some_bind ?_
    unfold f_law_220 lt
    rcases hr with ⟨rfl, -⟩ | ⟨hc, r1, hM, hI, ha, hb⟩
    · exact own_Ok.ite (fun _ => i796 _ _ _ _ h.j) fun q => absurd rfl q
    · refine own_Ok.ite (fun q => absurd (r1.symm.trans q) own_01) fun _ => ?_
      have ip : (Int32.ofNat p).toInt.toNat = p := by rw [ofN_int (by omega)]; omega
      rw [ip] at hM
      have e64 : (Int32.ofNat f).toInt64.toInt = (Int32.ofNat f).toInt := Int32.toInt_toInt64 _
      have mk : ∀ g0 g1 g2, (∀ q, q < 8 → (own_pk q g0 g1 g2).toInt = if q = p then (Int32.ofNat f).toInt else (own_pk q f0 f1 f2).toInt) → own_H D g0 g1 g2 (j + 1) r.2 := fun g0 g1 g2 hg => by
        refine ⟨hI, by rw [hM.2.1]; exact h.2.1, fun c hc => ?_, fun q hq => ?_⟩
        · rw [hM.2.1, ha, hb]; exact (h.2.2.1 c hc).j (by omega)
        · rw [hg q hq, hM.2.2.1, own_u1 _ _ _ _ (by decide)]
          by_cases z : q = p
          · rw [if_pos z, z, own_u0]
          · rw [if_neg z, own_u2 _ _ _ _ z]; exact h.2.2.2 q hq
      refine own_Ok.ite (fun q => i796 _ _ _ _ (mk _ _ _ fun w hw => ?_)) fun q => ?_
      · have q := (ofN_eqL (m := 0) (by omega) (by decide)).mp q
        subst q
        unfold own_pk
        by_cases z : w = 0
        · rw [if_pos z, if_pos z]; exact e64
        · rw [if_neg z, if_neg z, if_neg z]
      have q0 : ¬ p = 0 := fun e => q ((ofN_eqL (m := 0) (by omega) (by decide)).mpr e)
      refine own_Ok.ite (fun q => i796 _ _ _ _ (mk _ _ _ fun w hw => ?_)) fun q => i796 _ _ _ _ (mk _ _ _ fun w hw => ?_)
      · have q := (ofN_eqL (m := 1) (by omega) (by decide)).mp q
        subst q
        unfold own_pk
        by_cases z : w = 1
        · rw [if_neg (by omega), if_pos z, if_pos z]; exact e64
        · rw [if_neg z, if_neg z, if_neg z]
      · have q1 : ¬ p = 1 := fun e => q ((ofN_eqL (m := 1) (by omega) (by decide)).mpr e)
        obtain rfl : p = 2 := by omega
        unfold own_pk
        by_cases z : w = 2
        · rw [if_neg (by omega), if_neg (by omega), if_pos z, if_pos z]; exact e64
        · rw [if_neg z, if_neg z, if_neg z]
  refine own_Ok.ite (fun _ => ?_) fun _ => ?_
  · obtain ⟨a1, -, e1⟩ := mm c1.toInt64 3 (by decide) (by decide)
    obtain ⟨a2, -, e2⟩ := mm c2.toInt64 4 (by decide) (by decide)
    obtain ⟨a3, -, e3⟩ := mm c3.toInt64 20001 (by decide) (by decide)
    obtain ⟨a4, -, e4⟩ := mm (c2.toInt64 * 31 + c3.toInt64) 100000001 (by decide) (by decide)
    rw [e1, e2, e3, e4]
    refine own_Ok.some_bind (own_Ok.some_bind (own_Ok.some_bind (own_Ok.some_bind ?_)))
    obtain ⟨r, e, hr⟩ := own_trO h.1 (Int32.ofNat a1) (Int32.ofNat a2) (Int32.ofNat a3) (Int32.ofNat a4)
    rw [e]
    refine own_Ok.some_bind (i796 _ _ _ _ ?_)
    rcases hr with ⟨rfl, -⟩ | ⟨-, r1, hg, hA, hI, ha, hb⟩
    · exact h.j
    · refine ⟨hI, by rw [hg]; exact h.2.1, fun c hc => ?_, fun q hq => by rw [hA]; exact h.2.2.2 q hq⟩
      rw [hg, ha, hb]; exact (h.2.2.1 c hc).j (by omega)
  refine own_Ok.ite (fun _ => sub) fun _ => ?_
  refine own_Ok.ite (fun _ => sub) fun _ => ?_
  refine own_Ok.ite (fun _ => ?_) fun _ => ?_
  · unfold f_today
    obtain ⟨a1, -, e1⟩ := mm c3.toInt64 3 (by decide) (by decide)
    obtain ⟨a2, -, e2⟩ := mm c2.toInt64 3 (by decide) (by decide)
    rw [e1, e2]
    refine own_Ok.some_bind (own_Ok.some_bind (own_Ok.some_bind ?_))
    obtain ⟨r, e, hr⟩ := own_chpO h.1 (Int32.ofNat m4) (Int32.ofNat a1) (gI s 2 + Int32.ofNat a2)
    rw [e]
    refine own_Ok.some_bind (i796 _ _ _ _ ?_)
    rcases hr with ⟨rfl, -⟩ | ⟨c, n, hS, hp, hn, n1, hn6, r1, hE, hI⟩
    · exact h.j
    · exact ef hS.1 hE hI (by simp [own_u, own_xs, own_xc]) rfl
  refine own_Ok.ite (fun _ => ?_) fun _ => ?_
  · unfold f_today
    obtain ⟨a2, -, e2⟩ := mm c2.toInt64 3 (by decide) (by decide)
    rw [e2]
    refine own_Ok.some_bind (own_Ok.some_bind ?_)
    obtain ⟨r, e, hr⟩ := own_canO h.1 (Int32.ofNat m4) (gI s 2 + Int32.ofNat a2)
    rw [e]
    refine own_Ok.some_bind (i796 _ _ _ _ ?_)
    rcases hr with ⟨rfl, -⟩ | ⟨c, n, hS, hn, n1, hn6, r1, hE, hI⟩
    · exact h.j
    · exact ef hS.1 hE hI (by simp [own_u, own_xk]) rfl
  refine own_Ok.ite (fun _ => usg) fun _ => ?_
  refine own_Ok.ite (fun _ => usg) fun _ => ?_
  refine own_Ok.ite (fun _ => ?_) fun _ => own_463O (by omega) nx h
  obtain ⟨q, hq, e2⟩ := mm c2.toInt64 1000000 (by decide) (by decide)
  rw [e2]
  refine own_Ok.some_bind ?_
  have e1q : (1 : Int32) + Int32.ofNat q = Int32.ofNat (1 + q) := (Int32.ofNat_add 1 q).symm
  rw [e1q]
  obtain ⟨r, e, hr⟩ := own_crdO h.1 (Int32.ofNat m4) (Int32.ofNat (1 + q))
  rw [e]
  refine own_Ok.some_bind (i796 _ _ _ _ ?_)
  have iq : (Int32.ofNat (1 + q)).toInt = ((1 + q : Nat) : Int) := ofN_int (by omega)
  rcases hr with ⟨rfl, -⟩ | ⟨c, hc, ec, hq', r1, hE, hI⟩
  · exact h.j
  obtain ⟨hn, ⟨r1', r2, r3, r4⟩, t1, t2, t3⟩ := h.2.2.1 c hc
  have M := own_mB (x := (Int32.ofNat (1 + q)).toInt64) (y := 1000000) (A := 1000000) (B := 1000000) (by rw [Int32.toInt_toInt64, iq]; omega) (by decide) (by decide)
  rw [Int32.toInt_toInt64, iq] at M
  generalize (Int32.ofNat (1 + q)).toInt64 * 1000000 = am at M hE
  have b0 : own_Bv s 0 c = own_vb s c 0 0 := (own_vb1 _ _ (by decide)).symm
  have b1 : own_Bv s 1 c = own_vb s c 1 0 := (own_vb1 _ _ (by decide)).symm
  rw [b0, b1] at hE
  have mil : (1000000 : Int64).toInt = 1000000 := by decide
  rw [mil] at M
  have y : ∀ g k, g ≠ 0 → g ≠ 1 → own_u (own_u (own_vb s c) 0 0 (own_vb s c 0 0 + am)) 1 0 (own_vb s c 1 0 + am) g k = own_vb s c g k := fun g k h0 h1 => by
    rw [own_u1 _ _ _ _ h1, own_u1 _ _ _ _ h0]
  have y0 : own_u (own_u (own_vb s c) 0 0 (own_vb s c 0 0 + am)) 1 0 (own_vb s c 1 0 + am) 0 0 = own_vb s c 0 0 + am := by simp [own_u]
  have y1 : own_u (own_u (own_vb s c) 0 0 (own_vb s c 0 0 + am)) 1 0 (own_vb s c 1 0 + am) 1 0 = own_vb s c 1 0 + am := by simp [own_u]
  have a0 : (own_vb s c 0 0 + am).toInt = (own_vb s c 0 0).toInt + am.toInt := x64_add (by omega) (by omega)
  have a1 : (own_vb s c 1 0 + am).toInt = (own_vb s c 1 0).toInt + am.toInt := x64_add (by omega) (by omega)
  refine h.ef hE hI ⟨?_, ⟨?_, ?_, ?_, ?_⟩, ?_, ?_, ?_⟩
  · obtain ⟨n, hn⟩ := hn
    refine ⟨n, ?_⟩
    unfold own_Inv at hn ⊢
    simp only [y 7 _ (by decide) (by decide), y 8 _ (by decide) (by decide), y 3 _ (by decide) (by decide), y 4 _ (by decide) (by decide)]
    exact hn
  · rw [y0, a0]; omega
  · rw [y 2 _ (by decide) (by decide)]; exact r2
  · rw [y0, y1, y 2 _ (by decide) (by decide), a0, a1]; omega
  · rw [y1, a1]; omega
  · rw [y 6 _ (by decide) (by decide), y 3 _ (by decide) (by decide), y 4 _ (by decide) (by decide), y 5 _ (by decide) (by decide)]; exact t1
  · rw [y 5 _ (by decide) (by decide)]; exact t2
  · rw [y 3 _ (by decide) (by decide), y 4 _ (by decide) (by decide), y 5 _ (by decide) (by decide)]; exact t3
theorem own_loop {D : Int32} {a : List Int32} (hl : a.length ≤ 260) (S : Nat) (hS : S ≤ 100) : ∀ (k j : Nat) (f0 f1 f2 : Int64) (s : St), j + k = S + 1 → own_H D f0 f1 f2 j s → own_Ok (fun N => f_law_67 N D f0 f1 f2 (Int32.ofNat S) (Int32.ofNat j) a s) (· = 1) := by
  intro k
  induction k with
  | zero =>
    intro j f0 f1 f2 s hj h
    refine own_Ok.step (g := fun N => g_law_67 (f_law_67 N) N D f0 f1 f2 (Int32.ofNat S) (Int32.ofNat j) a s) (fun n => rfl) ?_
    unfold g_law_67
    exact own_Ok.ite (fun _ => own_Ok.ret rfl) fun q => absurd ((ofN_lt (by omega) (by omega)).mpr (by omega)) q
  | succ k ih =>
    intro j f0 f1 f2 s hj h
    refine own_Ok.step (g := fun N => g_law_67 (f_law_67 N) N D f0 f1 f2 (Int32.ofNat S) (Int32.ofNat j) a s) (fun n => rfl) ?_
    have nx : own_Nx D j (Int32.ofNat S) (Int32.ofNat j) a := fun f0 f1 f2 s h => by
      rw [ofN_succ]; exact ih (j + 1) f0 f1 f2 s (by omega) h
    unfold g_law_67 lt
    refine own_Ok.ite (fun _ => own_Ok.ret rfl) fun _ => ?_
    have ex : (2 : Int32) + 4 * Int32.ofNat j = Int32.ofNat (2 + 4 * j) := by
      rw [Int32.ofNat_add, Int32.ofNat_mul]; rfl
    rw [ex]
    refine own_Ok.ite (fun _ => own_106 hl (by omega) nx h _) fun _ => ?_
    obtain ⟨c, hc⟩ := own_cell a hl (2 + 4 * j) (by omega)
    rw [hc]
    refine own_Ok.some_bind ?_
    obtain ⟨r, -, er⟩ := own_m c.toInt64 10 (by decide) (by decide)
    have er : f_L_m c.toInt64 10 = some (Int32.ofNat r) := er
    rw [er]
    exact own_Ok.some_bind (own_106 hl (by omega) nx h _)
theorem own_stp : ∀ n : Fin 261, 2 < n.val → (Int32.ofNat n.val - 2 + 3) / 4 = Int32.ofNat ((n.val - 2 + 3) / 4) := by decide +kernel
theorem own_cl25 : ∀ m : Fin 25, own_cl (7 + Int32.ofNat m.val) 7 31 = 7 + Int32.ofNat m.val := by decide +kernel
theorem owed (a : List Int32) (hl : a.length ≤ 260) : ∃ fu, f_law fu a = some 1 := by
  suffices h : own_Ok (fun n => f_law n a) (· = 1) by
    obtain ⟨r, h1, rfl⟩ := h
    exact h1.get
  have el : a.length.toInt32 = Int32.ofNat a.length := rfl
  obtain ⟨c1, h1⟩ := own_cell a hl 0 (by decide)
  obtain ⟨c2, h2⟩ := own_cell a hl 1 (by decide)
  have h1 : f_L_cell 0 a = some c1 := h1
  have h2 : f_L_cell 1 a = some c2 := h2
  obtain ⟨m, hm, em⟩ := own_m c1.toInt64 25 (by decide) (by decide)
  obtain ⟨b, hb, eb⟩ := own_m c2.toInt64 3001 (by decide) (by decide)
  have em : f_L_m c1.toInt64 25 = some (Int32.ofNat m) := em
  have eb : f_L_m c2.toInt64 3001 = some (Int32.ofNat b) := eb
  unfold f_law f_law_62 lt
  rw [h1, h2, el]
  refine own_Ok.some_bind ?_
  rw [em]
  refine own_Ok.some_bind ?_
  refine own_Ok.some_bind ?_
  rw [eb]
  refine own_Ok.some_bind ?_
  refine own_Ok.bind (Q := fun c => c = own_s0 (7 + Int32.ofNat m) (Int32.ofNat b)) ⟨_, own_init _ _, rfl⟩ fun c hc => ?_
  subst hc
  obtain ⟨g1, g2, g3, g4, g5, g6, g7, g8⟩ := own_I0 (7 + Int32.ofNat m) (Int32.ofNat b)
  rw [own_cl25 ⟨m, hm⟩] at g2
  dsimp only at g2
  have z64 : (0 : Int64).toInt = 0 := by decide
  have hH : own_H (7 + Int32.ofNat m) 0 0 0 0 (own_s0 (7 + Int32.ofNat m) (Int32.ofNat b)) := by
    refine ⟨g1, g2, fun c hc => ⟨⟨0, ?_⟩, ⟨?_, ?_, ?_, ?_⟩, ?_, ?_, ?_⟩, fun p hp => ?_⟩
    · refine ⟨by omega, by rw [g7]; rfl, fun i hi => ?_, fun i _ hi => ?_, ?_, ?_, ?_⟩
      · rw [g8, g8, z64, Int.zero_mul]; decide
      · rw [g8, g8]; exact ⟨rfl, rfl⟩
      · have := own_sum0 (g := fun i => (own_vb (own_s0 (7 + Int32.ofNat m) (Int32.ofNat b)) c 7 i).toInt) (m := 0) (k := 8) fun i _ _ => by
          show (own_vb _ c 7 i).toInt = 0
          rw [g8]; rfl
        rw [g8]; exact this.symm
      · have := own_sum0 (g := fun i => (own_vb (own_s0 (7 + Int32.ofNat m) (Int32.ofNat b)) c 7 i).toInt) (m := 0) (k := 8) fun i _ _ => by
          show (own_vb _ c 7 i).toInt = 0
          rw [g8]; rfl
        have this : own_sum (fun i => (own_vb (own_s0 (7 + Int32.ofNat m) (Int32.ofNat b)) c 7 i).toInt) 8 = 0 := this
        rw [g8, this, Int.zero_mul]; rfl
      · have := own_sum0 (g := fun i => (own_vb (own_s0 (7 + Int32.ofNat m) (Int32.ofNat b)) c 8 i).toInt) (m := 0) (k := 8) fun i _ _ => by
          show (own_vb _ c 8 i).toInt = 0
          rw [g8]; rfl
        rw [g8]; exact this
    · rw [g8]; decide
    · rw [g8]; decide
    · rw [g8, g8, g8]; decide
    · rw [g8, z64]; omega
    · rw [g8, g8, g8, g8]; decide
    · rw [g8]; decide
    · rw [g8, g8, g8]; decide
    · rw [g6]
      unfold own_pk
      rw [ite_self, ite_self, ite_self]; rfl
  refine own_Ok.ite (fun q => ?_) fun _ => own_loop hl 0 (by decide) 1 0 0 0 0 _ rfl hH
  have q := (ofN_gtL (m := 2) (by omega) (by decide)).mp q
  have e := own_stp ⟨a.length, by omega⟩ q
  dsimp only at e
  rw [e]
  exact own_loop hl _ (by omega) ((a.length - 2 + 3) / 4 + 1) 0 0 0 0 _ (by omega) hH

set_option maxRecDepth 65536 in
set_option maxHeartbeats 40000000 in
theorem comes_1 {Post : Tables → Env → Array Value → State → Outcome → State → Prop} (hpost : ∀ tb e args s v u, (limb_1_1.after args s (.returned v) u = true ∧ limb_1_2.after args s (.returned v) u = true ∧ True) → FrameEnd s (.returned v) u (Jvm.fieldLocs frame_1_writes args s ++ Jvm.arrayLocs frame_1_arrays args s ++ Jvm.staticLocs frame_1_statics s) 64 1728 → Post tb e args s (.returned v) u) :
    ArmFor flags0 classFile x code maxLocals ret World_1 tables_1 room_1 Calls_1 rest_1 Pre_1 Post := by
  intro l hfl _ _ p e ha hc hk s m args below hf hA hF happ hP
  obtain ⟨hcalls, hrest, hpre⟩ := hP
  obtain ⟨-, -, -, hnamed, -, -, -, hat⟩ := (Spec.applies_iff hf).mp happ
  obtain ⟨hg, hn⟩ := and_e (Cond.before_iff.mp (show (Jvm.Cond.and given_1 narrow_1).before args s = true from hpre))
  obtain ⟨g0, q0⟩ := and_e hg
  obtain ⟨w0, rfl⟩ : ∃ w0 : Value, args = #[w0] := by
    have hs : args.size = 1 := by simpa [Cond.value, given_1] using g0
    obtain ⟨L⟩ := args
    match L, hs with
    | [w0], _ => exact ⟨w0, rfl⟩
  have hw := fun d (hd : d ∈ tables_1) => atoms_spec (ws := Jvm.Cond.code x code maxLocals ret :: tables_1) hat d (List.mem_cons_of_mem _ hd)
  have hfit : Fit s := fun {y c} hc i hi => by
    obtain ⟨ha, rfl⟩ := Array.getElem?_eq_some_iff.mp hc
    have q := List.all_eq_true.mp ((Array.all_eq_true_iff_forall_mem.mp hF) _ (Array.getElem_mem ha)) i (List.mem_range.mpr hi)
    simpa [Array.getElem?_eq_getElem hi] using q
  obtain ⟨v0, e0, r0⟩ := isR_v q0
  obtain rfl : w0 = v0 := Option.some.inj e0
  obtain ⟨n1, n2⟩ := and_e hn
  obtain ⟨ra, rfl⟩ : ∃ ra, w0 = .ref ra := by
    rcases ref_cases r0 with rfl | ⟨ra, rfl⟩
    · exfalso
      simp only [Cond.value, e0] at n1
      split at n1 <;> cases n1
    · exact ⟨ra, rfl⟩
  obtain ⟨cl, Ar⟩ := Arr.start e0 n1
  obtain ⟨xs, hxs⟩ := script_ints hfit Ar
  have hlen : xs.length ≤ 260 := by
    have e1 : cl.slots.size = xs.length := by rw [← Array.length_toList, hxs, List.length_map]
    exact script_len e0 Ar e1 n2
  obtain ⟨fu, hfu⟩ := owed xs hlen
  obtain ⟨n, o, h1, h2, h3, _, L, rfl, ⟨w, H', rfl, hv, -, -, N⟩, hq⟩ := okLAW l s _ hw fu xs 1 hfu tables_1 s.heap.size (ad1 ra s.heap.size) s.heap (HR.start1 CN lay Ar hxs) p e ha hc hk s m _ below hf ((Spec.applies_iff_loose hf).mp happ).1 ⟨rfl, State.Warmed39.refl s, rfl⟩ trivial
  obtain rfl : w = some (.int 1) := hv
  refine ⟨n, _, h1, h2, h3, hpost _ _ _ _ _ _ ⟨Cond.after_iff.mpr rfl, Cond.after_iff.mpr (eq_i res_at (Term.int_eval (1)) rfl), trivial⟩ ⟨hq.1, hq.2.1, (hq.2.2.sift fun y hy => Or.inr (N y hy)).mono (by decide) (by decide)⟩⟩
theorem main_1_1 : Claimed_1_1 := comes_1 fun _ _ _ _ _ _ h hF => ⟨h.1, hF⟩
theorem main_1_2 : Claimed_1_2 := comes_1 fun _ _ _ _ _ _ h hF => ⟨h.2.1, hF⟩

end Jvm.Pilot.@@N@@
namespace Jvm.Pilot.@@N@@
open Jvm Jvm.ClassFile Sem Op Lib Jvm.Free Jvm.Stand Jvm.Pilot.@@N@@.Jvm.D
/-! MADE BY PROGRAM (witnessworld.py) out of the Statement's table words and the real class files: 13 classes; the members and pool entries that the words name. The judged class is class 1, her method 5. -/
namespace start1
open Jvm.ClassFile
def u (s : String) : CpInfo := .utf8 (stringToUtf16 s)
/-- a pool by its gaps: so many unusable entries, then the entry; so many at the end -/
def gap : Nat → List CpInfo → List CpInfo
  | 0, r => r
  | n + 1, r => .unusable :: gap n r
def poolList (es : List (Nat × CpInfo)) (last : Nat) : List CpInfo := es.foldr (fun e r => gap e.1 (e.2 :: r)) (gap last [])
def pool (es : List (Nat × CpInfo)) (last : Nat) : Array CpInfo := ⟨poolList es last⟩
def fileOf (pool : Array CpInfo) (this : Nat) (attrs : Array Attribute := #[]) (ms : Array MethodInfo := #[]) (fl : Nat := 33) (sup : Nat := 0) (ifs : Array Nat := #[]) (fds : Array FieldInfo := #[]) : ClassFile where
  minorVersion := 0
  majorVersion := 65
  constantPool := pool
  accessFlags := fl
  thisClass := this
  superClass := sup
  interfaces := ifs
  fields := fds
  methods := ms
  attributes := attrs
def plain (name : String) (sup : Option ClassId) : Class where
  name := name
  kind := .ordinary
  loader := none
  accessFlags := 33
  super := sup
  interfaces := #[]
  cf := none
  fields := #[]
  methods := #[]
  instanceTypes := #[]
  staticTypes := #[]
  resolved := #[]
  callSites := []
  init := .initialized
  statics := none
  mirror := none

def pool0 : Array CpInfo := pool [(5, u "<init>"), (0, u "()V"), (1, .class_ 10), (1, u "java/lang/Object")] 113

def k0c0 : Code := { maxStack := 0, maxLocals := 1, code := object_method_1_code, exceptionTable := #[], attributes := #[] }
def k0m0 : Method := { name := "<init>", desc := "()V", sig := { parameters := [], returnType := none }, accessFlags := 1, code := some k0c0 }
/-- java/lang/Object -/
def k0 : Class := { plain "java/lang/Object" none with
  accessFlags := 33
  interfaces := #[]
  cf := some (fileOf pool0 8 #[] #[{ accessFlags := 1, nameIndex := 5, descriptorIndex := 6, attributes := #[] }] 33 0 #[] #[])
  fields := #[]
  methods := #[k0m0]
  instanceTypes := #[]
  staticTypes := #[]
  resolved := Array.replicate 124 none
  statics := none }

def pool1 : Array CpInfo := pool [(2, .class_ 4), (1, u "java/lang/Object"), (0, u "<init>"), (0, u "()V"), (0, .class_ 8), (0, u "BillingRun"), (0, .methodref 7 10), (0, .nameAndType 11 12), (0, u "getInvoice"), (0, u "(II)J"), (0, .long 8), (1, .methodref 7 16), (0, .nameAndType 17 12), (0, u "getLineTax"), (0, .methodref 7 19), (0, .nameAndType 20 12), (0, u "getLine"), (0, .methodref 7 22), (0, .nameAndType 23 12), (0, u "getCustomer"), (0, .methodref 25 26), (0, .class_ 27), (0, .nameAndType 28 29), (0, u "BillingRunOwnLaw"), (0, u "cell"), (0, u "([II)I"), (0, .methodref 25 31), (0, .nameAndType 32 33), (0, u "m"), (0, u "(JI)I"), (0, .methodref 7 35), (0, .nameAndType 5 36), (0, u "(II)V"), (0, .integer 1000001), (0, .methodref 7 39), (0, .nameAndType 40 41), (0, u "setPlan"), (0, u "(III)Z"), (0, .long 31), (1, .integer 100000001), (0, .methodref 7 46), (0, .nameAndType 47 48), (0, u "setTier"), (0, u "(IIII)Z"), (0, .methodref 7 50), (0, .nameAndType 51 52), (0, u "today"), (0, u "()I"), (0, .methodref 7 54), (0, .nameAndType 55 41), (0, u "subscribe"), (0, .methodref 7 57), (0, .nameAndType 58 41), (0, u "changePlan"), (0, .methodref 7 60), (0, .nameAndType 61 62), (0, u "cancel"), (0, u "(II)Z"), (0, .methodref 7 64), (0, .nameAndType 65 41), (0, u "recordUsage"), (0, .integer 1000000), (0, .methodref 7 68), (0, .nameAndType 69 62), (0, u "issueCredit"), (0, .long 4), (1, .methodref 7 73), (0, .nameAndType 74 75), (0, u "getSegment"), (0, u "(III)J"), (0, .long 7), (1, .long 18446744073709551615), (1, .methodref 7 81), (0, .nameAndType 82 52), (0, u "closeCycle"), (0, .methodref 25 84), (0, .nameAndType 85 86), (0, u "pick"), (0, u "(IJJJ)J"), (0, .long 1000000), (1, .methodref 25 90), (0, .nameAndType 91 92), (0, u "invariants"), (0, u "(LBillingRun;)Z"), (3, u "law"), (0, u "([I)Z")] 4

def k1m0 : Method := { name := "<init>", desc := "()V", sig := { parameters := [], returnType := none }, accessFlags := 1, code := none }
def k1c1 : Code := { maxStack := 2, maxLocals := 2, code := method_2_code, exceptionTable := #[], attributes := #[] }
def k1m1 : Method := { name := "cell", desc := "([II)I", sig := { parameters := [(.array .int), .int], returnType := some .int }, accessFlags := 10, code := some k1c1 }
def k1c2 : Code := { maxStack := 4, maxLocals := 5, code := method_3_code, exceptionTable := #[], attributes := #[] }
def k1m2 : Method := { name := "m", desc := "(JI)I", sig := { parameters := [.long, .int], returnType := some .int }, accessFlags := 10, code := some k1c2 }
def k1c3 : Code := { maxStack := 2, maxLocals := 7, code := method_4_code, exceptionTable := #[], attributes := #[] }
def k1m3 : Method := { name := "pick", desc := "(IJJJ)J", sig := { parameters := [.int, .long, .long, .long], returnType := some .long }, accessFlags := 10, code := some k1c3 }
def k1c4 : Code := { maxStack := 6, maxLocals := 22, code := method_5_code, exceptionTable := #[], attributes := #[] }
def k1m4 : Method := { name := "invariants", desc := "(LBillingRun;)Z", sig := { parameters := [(.object "BillingRun")], returnType := some .boolean }, accessFlags := 10, code := some k1c4 }
def k1c5 : Code := { maxStack := 9, maxLocals := 32, code := code, exceptionTable := #[], attributes := #[] }
def k1m5 : Method := { name := "law", desc := "([I)Z", sig := { parameters := [(.array .int)], returnType := some .boolean }, accessFlags := 9, code := some k1c5 }
/-- BillingRunOwnLaw -/
def k1 : Class := { plain "BillingRunOwnLaw" (some 0) with
  accessFlags := 49
  interfaces := #[]
  cf := some (fileOf pool1 25 #[] #[{ accessFlags := 1, nameIndex := 5, descriptorIndex := 6, attributes := #[] }, { accessFlags := 10, nameIndex := 28, descriptorIndex := 29, attributes := #[] }, { accessFlags := 10, nameIndex := 32, descriptorIndex := 33, attributes := #[] }, { accessFlags := 10, nameIndex := 85, descriptorIndex := 86, attributes := #[] }, { accessFlags := 10, nameIndex := 91, descriptorIndex := 92, attributes := #[] }, { accessFlags := 9, nameIndex := 96, descriptorIndex := 97, attributes := #[] }] 49 2 #[] #[])
  fields := #[]
  methods := #[k1m0, k1m1, k1m2, k1m3, k1m4, k1m5]
  instanceTypes := #[]
  staticTypes := #[]
  resolved := Array.replicate 102 none
  statics := none }

def pool2 : Array CpInfo := pool [(1, .methodref 2 3), (0, .class_ 4), (0, .nameAndType 5 6), (0, u "java/lang/Object"), (0, u "<init>"), (0, u "()V"), (0, .fieldref 8 9), (0, .class_ 10), (0, .nameAndType 11 12), (0, u "BillingRun"), (0, u "feeCents"), (0, u "[I"), (0, .fieldref 8 14), (0, .nameAndType 15 12), (0, u "kind"), (0, .fieldref 8 17), (0, .nameAndType 18 12), (0, u "upTo"), (0, .fieldref 8 20), (0, .nameAndType 21 12), (0, u "price"), (0, .fieldref 8 23), (0, .nameAndType 24 25), (0, u "active"), (0, u "[Z"), (0, .fieldref 8 27), (0, .nameAndType 28 12), (0, u "curPlan"), (0, .fieldref 8 30), (0, .nameAndType 31 12), (0, u "segCount"), (0, .fieldref 8 33), (0, .nameAndType 34 35), (0, u "credBal"), (0, u "[J"), (0, .fieldref 8 37), (0, .nameAndType 38 35), (0, u "credIssued"), (0, .fieldref 8 40), (0, .nameAndType 41 35), (0, u "credApplied"), (0, .fieldref 8 43), (0, .nameAndType 44 12), (0, u "segStart"), (0, .fieldref 8 46), (0, .nameAndType 47 12), (0, u "segEnd"), (0, .fieldref 8 49), (0, .nameAndType 50 12), (0, u "segPlan"), (0, .fieldref 8 52), (0, .nameAndType 53 12), (0, u "segUsage"), (0, .fieldref 8 55), (0, .nameAndType 56 12), (0, u "invLines"), (0, .fieldref 8 58), (0, .nameAndType 59 35), (0, u "invSub"), (0, .fieldref 8 61), (0, .nameAndType 62 35), (0, u "invTax"), (0, .fieldref 8 64), (0, .nameAndType 65 35), (0, u "invCredit"), (0, .fieldref 8 67), (0, .nameAndType 68 35), (0, u "invTotal"), (0, .fieldref 8 70), (0, .nameAndType 71 12), (0, u "invCycle"), (0, .fieldref 8 73), (0, .nameAndType 74 35), (0, u "lineAmt"), (0, .fieldref 8 76), (0, .nameAndType 77 35), (0, u "lineTax"), (0, .fieldref 8 79), (0, .nameAndType 80 35), (0, u "rem"), (0, .fieldref 8 82), (0, .nameAndType 83 25), (0, u "picked"), (0, .methodref 8 85), (0, .nameAndType 86 87), (0, u "clamp"), (0, u "(III)I"), (0, .fieldref 8 89), (0, .nameAndType 90 91), (0, u "days"), (0, u "I"), (0, .fieldref 8 93), (0, .nameAndType 94 91), (0, u "basis"), (0, .integer 1000000), (0, .fieldref 8 97), (0, .nameAndType 98 91), (0, u "todayDay"), (0, .methodref 8 100), (0, .nameAndType 101 102), (0, u "validPlan"), (0, u "(I)Z"), (0, .integer 100000000), (0, .long 1000000), (1, .methodref 8 107), (0, .nameAndType 108 109), (0, u "effBound"), (0, u "(II)J"), (0, .methodref 8 111), (0, .nameAndType 112 113), (0, u "chargeVolume"), (0, u "(IJ)J"), (0, .methodref 8 115), (0, .nameAndType 116 113), (0, u "chargeGraduated"), (0, .long 18446744073709551615), (1, .methodref 8 120), (0, .nameAndType 121 113), (0, u "charge"), (0, .methodref 8 123), (0, .nameAndType 124 102), (0, u "validCustomer"), (0, .methodref 8 126), (0, .nameAndType 127 102), (0, u "validDay"), (0, .methodref 8 129), (0, .nameAndType 130 131), (0, u "appendSegment"), (0, u "(III)V"), (0, .methodref 8 133), (0, .nameAndType 134 135), (0, u "openSlot"), (0, u "(I)I"), (0, .fieldref 8 137), (0, .nameAndType 138 91), (0, u "cycles"), (0, .methodref 8 140), (0, .nameAndType 141 142), (0, u "buildInvoice"), (0, u "(I)V"), (0, .long 10000), (1, .methodref 8 146), (0, .nameAndType 147 109), (0, u "fillLines"), (0, .methodref 8 149), (0, .nameAndType 150 151), (0, u "spreadTax"), (0, u "(IIJ)V"), (0, u "GRADUATED"), (2, u "VOLUME"), (1, u "INV_LINES"), (0, u "INV_SUBTOTAL"), (0, u "INV_TAX"), (1, u "INV_CREDIT"), (1, u "INV_TOTAL"), (1, u "INV_CYCLE"), (1, u "SEG_START"), (0, u "SEG_END"), (0, u "SEG_PLAN"), (0, u "SEG_USAGE"), (0, u "CUST_ACTIVE"), (0, u "CUST_PLAN"), (0, u "CUST_SEGMENTS"), (0, u "CUST_CREDIT_BALANCE"), (0, u "CUST_CREDIT_ISSUED"), (0, u "CUST_CREDIT_APPLIED"), (0, u "CUSTOMERS"), (1, u "PLANS"), (1, u "TIERS"), (0, u "MAX_SEGS"), (0, u "MAX_LINES"), (0, u "MAX_QTY"), (0, u "MICRO"), (0, u "J"), (0, u "(II)V"), (3, u "setPlan"), (0, u "(III)Z"), (0, u "setTier"), (0, u "(IIII)Z"), (1, u "subscribe"), (0, u "changePlan"), (0, u "cancel"), (0, u "(II)Z"), (0, u "recordUsage"), (0, u "issueCredit"), (0, u "closeCycle"), (0, u "()I"), (1, u "getLine"), (0, u "getLineTax"), (0, u "getInvoice"), (0, u "getSegment"), (0, u "(III)J"), (0, u "getCustomer"), (0, u "today")] 3

def k2c0 : Code := { maxStack := 4, maxLocals := 4, code := prog_1_method_1_code, exceptionTable := #[], attributes := #[] }
def k2m0 : Method := { name := "<init>", desc := "(II)V", sig := { parameters := [.int, .int], returnType := none }, accessFlags := 1, code := some k2c0 }
def k2c1 : Code := { maxStack := 2, maxLocals := 3, code := prog_1_method_2_code, exceptionTable := #[], attributes := #[] }
def k2m1 : Method := { name := "clamp", desc := "(III)I", sig := { parameters := [.int, .int, .int], returnType := some .int }, accessFlags := 10, code := some k2c1 }
def k2c2 : Code := { maxStack := 2, maxLocals := 2, code := prog_1_method_3_code, exceptionTable := #[], attributes := #[] }
def k2m2 : Method := { name := "validCustomer", desc := "(I)Z", sig := { parameters := [.int], returnType := some .boolean }, accessFlags := 2, code := some k2c2 }
def k2c3 : Code := { maxStack := 2, maxLocals := 2, code := prog_1_method_4_code, exceptionTable := #[], attributes := #[] }
def k2m3 : Method := { name := "validPlan", desc := "(I)Z", sig := { parameters := [.int], returnType := some .boolean }, accessFlags := 2, code := some k2c3 }
def k2c4 : Code := { maxStack := 3, maxLocals := 2, code := prog_1_method_5_code, exceptionTable := #[], attributes := #[] }
def k2m4 : Method := { name := "validDay", desc := "(I)Z", sig := { parameters := [.int], returnType := some .boolean }, accessFlags := 2, code := some k2c4 }
def k2c5 : Code := { maxStack := 3, maxLocals := 4, code := prog_1_method_6_code, exceptionTable := #[], attributes := #[] }
def k2m5 : Method := { name := "setPlan", desc := "(III)Z", sig := { parameters := [.int, .int, .int], returnType := some .boolean }, accessFlags := 1, code := some k2c5 }
def k2c6 : Code := { maxStack := 3, maxLocals := 5, code := prog_1_method_7_code, exceptionTable := #[], attributes := #[] }
def k2m6 : Method := { name := "setTier", desc := "(IIII)Z", sig := { parameters := [.int, .int, .int, .int], returnType := some .boolean }, accessFlags := 1, code := some k2c6 }
def k2c7 : Code := { maxStack := 4, maxLocals := 8, code := prog_1_method_8_code, exceptionTable := #[], attributes := #[] }
def k2m7 : Method := { name := "effBound", desc := "(II)J", sig := { parameters := [.int, .int], returnType := some .long }, accessFlags := 2, code := some k2c7 }
def k2c8 : Code := { maxStack := 7, maxLocals := 13, code := prog_1_method_9_code, exceptionTable := #[], attributes := #[] }
def k2m8 : Method := { name := "chargeGraduated", desc := "(IJ)J", sig := { parameters := [.int, .long], returnType := some .long }, accessFlags := 2, code := some k2c8 }
def k2c9 : Code := { maxStack := 5, maxLocals := 5, code := prog_1_method_10_code, exceptionTable := #[], attributes := #[] }
def k2m9 : Method := { name := "chargeVolume", desc := "(IJ)J", sig := { parameters := [.int, .long], returnType := some .long }, accessFlags := 2, code := some k2c9 }
def k2c10 : Code := { maxStack := 4, maxLocals := 4, code := prog_1_method_11_code, exceptionTable := #[], attributes := #[] }
def k2m10 : Method := { name := "charge", desc := "(IJ)J", sig := { parameters := [.int, .long], returnType := some .long }, accessFlags := 2, code := some k2c10 }
def k2c11 : Code := { maxStack := 4, maxLocals := 6, code := prog_1_method_13_code, exceptionTable := #[], attributes := #[] }
def k2m11 : Method := { name := "appendSegment", desc := "(III)V", sig := { parameters := [.int, .int, .int], returnType := none }, accessFlags := 2, code := some k2c11 }
def k2c12 : Code := { maxStack := 2, maxLocals := 3, code := prog_1_method_14_code, exceptionTable := #[], attributes := #[] }
def k2m12 : Method := { name := "openSlot", desc := "(I)I", sig := { parameters := [.int], returnType := some .int }, accessFlags := 2, code := some k2c12 }
def k2c13 : Code := { maxStack := 4, maxLocals := 4, code := prog_1_method_15_code, exceptionTable := #[], attributes := #[] }
def k2m13 : Method := { name := "subscribe", desc := "(III)Z", sig := { parameters := [.int, .int, .int], returnType := some .boolean }, accessFlags := 1, code := some k2c13 }
def k2c14 : Code := { maxStack := 4, maxLocals := 5, code := prog_1_method_16_code, exceptionTable := #[], attributes := #[] }
def k2m14 : Method := { name := "changePlan", desc := "(III)Z", sig := { parameters := [.int, .int, .int], returnType := some .boolean }, accessFlags := 1, code := some k2c14 }
def k2c15 : Code := { maxStack := 3, maxLocals := 4, code := prog_1_method_17_code, exceptionTable := #[], attributes := #[] }
def k2m15 : Method := { name := "cancel", desc := "(II)Z", sig := { parameters := [.int, .int], returnType := some .boolean }, accessFlags := 1, code := some k2c15 }
def k2c16 : Code := { maxStack := 4, maxLocals := 5, code := prog_1_method_18_code, exceptionTable := #[], attributes := #[] }
def k2m16 : Method := { name := "recordUsage", desc := "(III)Z", sig := { parameters := [.int, .int, .int], returnType := some .boolean }, accessFlags := 1, code := some k2c16 }
def k2c17 : Code := { maxStack := 6, maxLocals := 5, code := prog_1_method_19_code, exceptionTable := #[], attributes := #[] }
def k2m17 : Method := { name := "issueCredit", desc := "(II)Z", sig := { parameters := [.int, .int], returnType := some .boolean }, accessFlags := 1, code := some k2c17 }
def k2c18 : Code := { maxStack := 5, maxLocals := 4, code := prog_1_method_20_code, exceptionTable := #[], attributes := #[] }
def k2m18 : Method := { name := "closeCycle", desc := "()I", sig := { parameters := [], returnType := some .int }, accessFlags := 1, code := some k2c18 }
def k2c19 : Code := { maxStack := 6, maxLocals := 17, code := prog_1_method_21_code, exceptionTable := #[], attributes := #[] }
def k2m19 : Method := { name := "fillLines", desc := "(II)J", sig := { parameters := [.int, .int], returnType := some .long }, accessFlags := 2, code := some k2c19 }
def k2c20 : Code := { maxStack := 8, maxLocals := 13, code := prog_1_method_22_code, exceptionTable := #[], attributes := #[] }
def k2m20 : Method := { name := "spreadTax", desc := "(IIJ)V", sig := { parameters := [.int, .int, .long], returnType := none }, accessFlags := 2, code := some k2c20 }
def k2c21 : Code := { maxStack := 6, maxLocals := 12, code := prog_1_method_23_code, exceptionTable := #[], attributes := #[] }
def k2m21 : Method := { name := "buildInvoice", desc := "(I)V", sig := { parameters := [.int], returnType := none }, accessFlags := 2, code := some k2c21 }
def k2c22 : Code := { maxStack := 3, maxLocals := 3, code := prog_1_method_24_code, exceptionTable := #[], attributes := #[] }
def k2m22 : Method := { name := "getLine", desc := "(II)J", sig := { parameters := [.int, .int], returnType := some .long }, accessFlags := 1, code := some k2c22 }
def k2c23 : Code := { maxStack := 3, maxLocals := 3, code := prog_1_method_25_code, exceptionTable := #[], attributes := #[] }
def k2m23 : Method := { name := "getLineTax", desc := "(II)J", sig := { parameters := [.int, .int], returnType := some .long }, accessFlags := 1, code := some k2c23 }
def k2c24 : Code := { maxStack := 2, maxLocals := 3, code := prog_1_method_26_code, exceptionTable := #[], attributes := #[] }
def k2m24 : Method := { name := "getInvoice", desc := "(II)J", sig := { parameters := [.int, .int], returnType := some .long }, accessFlags := 1, code := some k2c24 }
def k2c25 : Code := { maxStack := 3, maxLocals := 5, code := prog_1_method_27_code, exceptionTable := #[], attributes := #[] }
def k2m25 : Method := { name := "getSegment", desc := "(III)J", sig := { parameters := [.int, .int, .int], returnType := some .long }, accessFlags := 1, code := some k2c25 }
def k2c26 : Code := { maxStack := 2, maxLocals := 3, code := prog_1_method_28_code, exceptionTable := #[], attributes := #[] }
def k2m26 : Method := { name := "getCustomer", desc := "(II)J", sig := { parameters := [.int, .int], returnType := some .long }, accessFlags := 1, code := some k2c26 }
def k2c27 : Code := { maxStack := 1, maxLocals := 1, code := prog_1_method_29_code, exceptionTable := #[], attributes := #[] }
def k2m27 : Method := { name := "today", desc := "()I", sig := { parameters := [], returnType := some .int }, accessFlags := 1, code := some k2c27 }
/-- BillingRun -/
def k2 : Class := { plain "BillingRun" (some 0) with
  accessFlags := 49
  interfaces := #[]
  cf := some (fileOf pool2 8 #[] #[{ accessFlags := 1, nameIndex := 5, descriptorIndex := 187, attributes := #[] }, { accessFlags := 10, nameIndex := 86, descriptorIndex := 87, attributes := #[] }, { accessFlags := 2, nameIndex := 124, descriptorIndex := 102, attributes := #[] }, { accessFlags := 2, nameIndex := 101, descriptorIndex := 102, attributes := #[] }, { accessFlags := 2, nameIndex := 127, descriptorIndex := 102, attributes := #[] }, { accessFlags := 1, nameIndex := 191, descriptorIndex := 192, attributes := #[] }, { accessFlags := 1, nameIndex := 193, descriptorIndex := 194, attributes := #[] }, { accessFlags := 2, nameIndex := 108, descriptorIndex := 109, attributes := #[] }, { accessFlags := 2, nameIndex := 116, descriptorIndex := 113, attributes := #[] }, { accessFlags := 2, nameIndex := 112, descriptorIndex := 113, attributes := #[] }, { accessFlags := 2, nameIndex := 121, descriptorIndex := 113, attributes := #[] }, { accessFlags := 2, nameIndex := 130, descriptorIndex := 131, attributes := #[] }, { accessFlags := 2, nameIndex := 134, descriptorIndex := 135, attributes := #[] }, { accessFlags := 1, nameIndex := 196, descriptorIndex := 192, attributes := #[] }, { accessFlags := 1, nameIndex := 197, descriptorIndex := 192, attributes := #[] }, { accessFlags := 1, nameIndex := 198, descriptorIndex := 199, attributes := #[] }, { accessFlags := 1, nameIndex := 200, descriptorIndex := 192, attributes := #[] }, { accessFlags := 1, nameIndex := 201, descriptorIndex := 199, attributes := #[] }, { accessFlags := 1, nameIndex := 202, descriptorIndex := 203, attributes := #[] }, { accessFlags := 2, nameIndex := 147, descriptorIndex := 109, attributes := #[] }, { accessFlags := 2, nameIndex := 150, descriptorIndex := 151, attributes := #[] }, { accessFlags := 2, nameIndex := 141, descriptorIndex := 142, attributes := #[] }, { accessFlags := 1, nameIndex := 205, descriptorIndex := 109, attributes := #[] }, { accessFlags := 1, nameIndex := 206, descriptorIndex := 109, attributes := #[] }, { accessFlags := 1, nameIndex := 207, descriptorIndex := 109, attributes := #[] }, { accessFlags := 1, nameIndex := 208, descriptorIndex := 209, attributes := #[] }, { accessFlags := 1, nameIndex := 210, descriptorIndex := 109, attributes := #[] }, { accessFlags := 1, nameIndex := 211, descriptorIndex := 203, attributes := #[] }] 49 2 #[] #[{ accessFlags := 25, nameIndex := 152, descriptorIndex := 91, attributes := #[] }, { accessFlags := 25, nameIndex := 155, descriptorIndex := 91, attributes := #[] }, { accessFlags := 25, nameIndex := 157, descriptorIndex := 91, attributes := #[] }, { accessFlags := 25, nameIndex := 158, descriptorIndex := 91, attributes := #[] }, { accessFlags := 25, nameIndex := 159, descriptorIndex := 91, attributes := #[] }, { accessFlags := 25, nameIndex := 161, descriptorIndex := 91, attributes := #[] }, { accessFlags := 25, nameIndex := 163, descriptorIndex := 91, attributes := #[] }, { accessFlags := 25, nameIndex := 165, descriptorIndex := 91, attributes := #[] }, { accessFlags := 25, nameIndex := 167, descriptorIndex := 91, attributes := #[] }, { accessFlags := 25, nameIndex := 168, descriptorIndex := 91, attributes := #[] }, { accessFlags := 25, nameIndex := 169, descriptorIndex := 91, attributes := #[] }, { accessFlags := 25, nameIndex := 170, descriptorIndex := 91, attributes := #[] }, { accessFlags := 25, nameIndex := 171, descriptorIndex := 91, attributes := #[] }, { accessFlags := 25, nameIndex := 172, descriptorIndex := 91, attributes := #[] }, { accessFlags := 25, nameIndex := 173, descriptorIndex := 91, attributes := #[] }, { accessFlags := 25, nameIndex := 174, descriptorIndex := 91, attributes := #[] }, { accessFlags := 25, nameIndex := 175, descriptorIndex := 91, attributes := #[] }, { accessFlags := 25, nameIndex := 176, descriptorIndex := 91, attributes := #[] }, { accessFlags := 26, nameIndex := 177, descriptorIndex := 91, attributes := #[] }, { accessFlags := 26, nameIndex := 179, descriptorIndex := 91, attributes := #[] }, { accessFlags := 26, nameIndex := 181, descriptorIndex := 91, attributes := #[] }, { accessFlags := 26, nameIndex := 182, descriptorIndex := 91, attributes := #[] }, { accessFlags := 26, nameIndex := 183, descriptorIndex := 91, attributes := #[] }, { accessFlags := 26, nameIndex := 184, descriptorIndex := 91, attributes := #[] }, { accessFlags := 26, nameIndex := 185, descriptorIndex := 186, attributes := #[] }, { accessFlags := 2, nameIndex := 90, descriptorIndex := 91, attributes := #[] }, { accessFlags := 2, nameIndex := 94, descriptorIndex := 91, attributes := #[] }, { accessFlags := 2, nameIndex := 98, descriptorIndex := 91, attributes := #[] }, { accessFlags := 2, nameIndex := 138, descriptorIndex := 91, attributes := #[] }, { accessFlags := 2, nameIndex := 11, descriptorIndex := 12, attributes := #[] }, { accessFlags := 2, nameIndex := 15, descriptorIndex := 12, attributes := #[] }, { accessFlags := 2, nameIndex := 18, descriptorIndex := 12, attributes := #[] }, { accessFlags := 2, nameIndex := 21, descriptorIndex := 12, attributes := #[] }, { accessFlags := 2, nameIndex := 24, descriptorIndex := 25, attributes := #[] }, { accessFlags := 2, nameIndex := 28, descriptorIndex := 12, attributes := #[] }, { accessFlags := 2, nameIndex := 31, descriptorIndex := 12, attributes := #[] }, { accessFlags := 2, nameIndex := 34, descriptorIndex := 35, attributes := #[] }, { accessFlags := 2, nameIndex := 38, descriptorIndex := 35, attributes := #[] }, { accessFlags := 2, nameIndex := 41, descriptorIndex := 35, attributes := #[] }, { accessFlags := 2, nameIndex := 44, descriptorIndex := 12, attributes := #[] }, { accessFlags := 2, nameIndex := 47, descriptorIndex := 12, attributes := #[] }, { accessFlags := 2, nameIndex := 50, descriptorIndex := 12, attributes := #[] }, { accessFlags := 2, nameIndex := 53, descriptorIndex := 12, attributes := #[] }, { accessFlags := 2, nameIndex := 56, descriptorIndex := 12, attributes := #[] }, { accessFlags := 2, nameIndex := 59, descriptorIndex := 35, attributes := #[] }, { accessFlags := 2, nameIndex := 62, descriptorIndex := 35, attributes := #[] }, { accessFlags := 2, nameIndex := 65, descriptorIndex := 35, attributes := #[] }, { accessFlags := 2, nameIndex := 68, descriptorIndex := 35, attributes := #[] }, { accessFlags := 2, nameIndex := 71, descriptorIndex := 12, attributes := #[] }, { accessFlags := 2, nameIndex := 74, descriptorIndex := 35, attributes := #[] }, { accessFlags := 2, nameIndex := 77, descriptorIndex := 35, attributes := #[] }, { accessFlags := 2, nameIndex := 80, descriptorIndex := 35, attributes := #[] }, { accessFlags := 2, nameIndex := 83, descriptorIndex := 25, attributes := #[] }])
  fields := #[{ name := "GRADUATED", type := .int, accessFlags := 25, slot := 0, constantValue := 0 }, { name := "VOLUME", type := .int, accessFlags := 25, slot := 1, constantValue := 0 }, { name := "INV_LINES", type := .int, accessFlags := 25, slot := 2, constantValue := 0 }, { name := "INV_SUBTOTAL", type := .int, accessFlags := 25, slot := 3, constantValue := 0 }, { name := "INV_TAX", type := .int, accessFlags := 25, slot := 4, constantValue := 0 }, { name := "INV_CREDIT", type := .int, accessFlags := 25, slot := 5, constantValue := 0 }, { name := "INV_TOTAL", type := .int, accessFlags := 25, slot := 6, constantValue := 0 }, { name := "INV_CYCLE", type := .int, accessFlags := 25, slot := 7, constantValue := 0 }, { name := "SEG_START", type := .int, accessFlags := 25, slot := 8, constantValue := 0 }, { name := "SEG_END", type := .int, accessFlags := 25, slot := 9, constantValue := 0 }, { name := "SEG_PLAN", type := .int, accessFlags := 25, slot := 10, constantValue := 0 }, { name := "SEG_USAGE", type := .int, accessFlags := 25, slot := 11, constantValue := 0 }, { name := "CUST_ACTIVE", type := .int, accessFlags := 25, slot := 12, constantValue := 0 }, { name := "CUST_PLAN", type := .int, accessFlags := 25, slot := 13, constantValue := 0 }, { name := "CUST_SEGMENTS", type := .int, accessFlags := 25, slot := 14, constantValue := 0 }, { name := "CUST_CREDIT_BALANCE", type := .int, accessFlags := 25, slot := 15, constantValue := 0 }, { name := "CUST_CREDIT_ISSUED", type := .int, accessFlags := 25, slot := 16, constantValue := 0 }, { name := "CUST_CREDIT_APPLIED", type := .int, accessFlags := 25, slot := 17, constantValue := 0 }, { name := "CUSTOMERS", type := .int, accessFlags := 26, slot := 18, constantValue := 0 }, { name := "PLANS", type := .int, accessFlags := 26, slot := 19, constantValue := 0 }, { name := "TIERS", type := .int, accessFlags := 26, slot := 20, constantValue := 0 }, { name := "MAX_SEGS", type := .int, accessFlags := 26, slot := 21, constantValue := 0 }, { name := "MAX_LINES", type := .int, accessFlags := 26, slot := 22, constantValue := 0 }, { name := "MAX_QTY", type := .int, accessFlags := 26, slot := 23, constantValue := 0 }, { name := "MICRO", type := .long, accessFlags := 26, slot := 24, constantValue := 0 }, { name := "days", type := .int, accessFlags := 2, slot := 0, constantValue := 0 }, { name := "basis", type := .int, accessFlags := 2, slot := 1, constantValue := 0 }, { name := "todayDay", type := .int, accessFlags := 2, slot := 2, constantValue := 0 }, { name := "cycles", type := .int, accessFlags := 2, slot := 3, constantValue := 0 }, { name := "feeCents", type := (.array .int), accessFlags := 2, slot := 4, constantValue := 0 }, { name := "kind", type := (.array .int), accessFlags := 2, slot := 5, constantValue := 0 }, { name := "upTo", type := (.array .int), accessFlags := 2, slot := 6, constantValue := 0 }, { name := "price", type := (.array .int), accessFlags := 2, slot := 7, constantValue := 0 }, { name := "active", type := (.array .boolean), accessFlags := 2, slot := 8, constantValue := 0 }, { name := "curPlan", type := (.array .int), accessFlags := 2, slot := 9, constantValue := 0 }, { name := "segCount", type := (.array .int), accessFlags := 2, slot := 10, constantValue := 0 }, { name := "credBal", type := (.array .long), accessFlags := 2, slot := 11, constantValue := 0 }, { name := "credIssued", type := (.array .long), accessFlags := 2, slot := 12, constantValue := 0 }, { name := "credApplied", type := (.array .long), accessFlags := 2, slot := 13, constantValue := 0 }, { name := "segStart", type := (.array .int), accessFlags := 2, slot := 14, constantValue := 0 }, { name := "segEnd", type := (.array .int), accessFlags := 2, slot := 15, constantValue := 0 }, { name := "segPlan", type := (.array .int), accessFlags := 2, slot := 16, constantValue := 0 }, { name := "segUsage", type := (.array .int), accessFlags := 2, slot := 17, constantValue := 0 }, { name := "invLines", type := (.array .int), accessFlags := 2, slot := 18, constantValue := 0 }, { name := "invSub", type := (.array .long), accessFlags := 2, slot := 19, constantValue := 0 }, { name := "invTax", type := (.array .long), accessFlags := 2, slot := 20, constantValue := 0 }, { name := "invCredit", type := (.array .long), accessFlags := 2, slot := 21, constantValue := 0 }, { name := "invTotal", type := (.array .long), accessFlags := 2, slot := 22, constantValue := 0 }, { name := "invCycle", type := (.array .int), accessFlags := 2, slot := 23, constantValue := 0 }, { name := "lineAmt", type := (.array .long), accessFlags := 2, slot := 24, constantValue := 0 }, { name := "lineTax", type := (.array .long), accessFlags := 2, slot := 25, constantValue := 0 }, { name := "rem", type := (.array .long), accessFlags := 2, slot := 26, constantValue := 0 }, { name := "picked", type := (.array .boolean), accessFlags := 2, slot := 27, constantValue := 0 }]
  methods := #[k2m0, k2m1, k2m2, k2m3, k2m4, k2m5, k2m6, k2m7, k2m8, k2m9, k2m10, k2m11, k2m12, k2m13, k2m14, k2m15, k2m16, k2m17, k2m18, k2m19, k2m20, k2m21, k2m22, k2m23, k2m24, k2m25, k2m26, k2m27]
  instanceTypes := #[.int, .int, .int, .int, (.array .int), (.array .int), (.array .int), (.array .int), (.array .boolean), (.array .int), (.array .int), (.array .long), (.array .long), (.array .long), (.array .int), (.array .int), (.array .int), (.array .int), (.array .int), (.array .long), (.array .long), (.array .long), (.array .long), (.array .int), (.array .long), (.array .long), (.array .long), (.array .boolean)]
  staticTypes := #[.int, .int, .int, .int, .int, .int, .int, .int, .int, .int, .int, .int, .int, .int, .int, .int, .int, .int, .int, .int, .int, .int, .int, .int, .long]
  resolved := Array.replicate 215 none
  statics := none }

def pool3 : Array CpInfo := pool [(1, u "java/lang/Cloneable"), (0, .class_ 1), (0, u "java/lang/Object"), (0, .class_ 3)] 3

/-- java/lang/Cloneable -/
def k3 : Class := { plain "java/lang/Cloneable" (some 0) with
  accessFlags := 1537
  interfaces := #[]
  cf := some (fileOf pool3 2 #[] #[] 1537 4 #[] #[])
  fields := #[]
  methods := #[]
  instanceTypes := #[]
  staticTypes := #[]
  resolved := Array.replicate 8 none
  statics := none }

def pool4 : Array CpInfo := pool [(1, u "java/io/Serializable"), (0, .class_ 1), (0, u "java/lang/Object"), (0, .class_ 3)] 3

/-- java/io/Serializable -/
def k4 : Class := { plain "java/io/Serializable" (some 0) with
  accessFlags := 1537
  interfaces := #[]
  cf := some (fileOf pool4 2 #[] #[] 1537 4 #[] #[])
  fields := #[]
  methods := #[]
  instanceTypes := #[]
  staticTypes := #[]
  resolved := Array.replicate 8 none
  statics := none }

/-- the primitive boolean -/
def k5 : Class := { plain "boolean" none with kind := .primitive 'Z', accessFlags := 0x411 }
/-- [Z -/
def k6 : Class := { plain "[Z" (some 0) with kind := .array 5 .boolean, interfaces := #[3, 4], accessFlags := 1041 }

/-- the primitive byte -/
def k7 : Class := { plain "byte" none with kind := .primitive 'B', accessFlags := 0x411 }
/-- [B -/
def k8 : Class := { plain "[B" (some 0) with kind := .array 7 .byte, interfaces := #[3, 4], accessFlags := 1041 }

/-- the primitive int -/
def k9 : Class := { plain "int" none with kind := .primitive 'I', accessFlags := 0x411 }
/-- [I -/
def k10 : Class := { plain "[I" (some 0) with kind := .array 9 .int, interfaces := #[3, 4], accessFlags := 1041 }

/-- the primitive long -/
def k11 : Class := { plain "long" none with kind := .primitive 'J', accessFlags := 0x411 }
/-- [J -/
def k12 : Class := { plain "[J" (some 0) with kind := .array 11 .long, interfaces := #[3, 4], accessFlags := 1041 }

def heap : Heap := #[{ cls := 10, slots := #[.int 1, .int 2, .int 3], vm := .none }]
def classes : Array Class := #[k0, k1, k2, k3, k4, k5, k6, k7, k8, k9, k10, k11, k12]
def interned : List (Array UInt16 × Addr) := []
def slotsUsed : Nat := 3
def theMethod : MethodId := ⟨1, 5⟩
def args0 : Array Value := #[.ref 0]
def aboutOver (below : List Frame) : State where
  vm := { classes := classes, interned := interned.toArray }
  heap := heap
  slotsUsed := slotsUsed
  threads := #[{ frames := .invoking theMethod args0 :: below }]
def below0 : List Frame := [.native { method := ⟨0, 0⟩, args := #[] }]
def about1 : State := aboutOver below0
def p0 : Program := .bare "" "" ""
def e0 : Env := launch0.env 0 0 0
theorem w_frames : about1.frames = Frame.invoking theMethod args0 :: below0 := rfl
set_option maxRecDepth 65536 in
theorem w_args : argsFit about1.vm theMethod args0 = true := by decide +kernel
set_option maxRecDepth 65536 in
theorem w_heap : heapFits about1 = true := by decide +kernel
set_option maxRecDepth 65536 in
theorem w_runnable : about1.curStatus? = some .runnable := by decide +kernel
set_option maxRecDepth 65536 in
theorem w_alone : about1.alone = true := by decide +kernel
set_option maxRecDepth 65536 in
theorem w_named : about1.methodNamed? x = some theMethod := by decide +kernel
set_option maxRecDepth 65536 in
theorem w_hears : about1.hears theMethod below0 = true := by decide +kernel
set_option maxRecDepth 65536 in
theorem w_ripe : about1.ripe theMethod args0 below0 = true := by decide +kernel
theorem w_running : about1.status = .running := rfl
set_option maxRecDepth 65536 in
theorem w_room : about1.hasRoom e0.platform room_1 = true :=
  launch0.hasRoom_least _ room_1 (by decide +kernel) (by decide +kernel) (by decide +kernel) (by decide +kernel) (by decide +kernel) (by decide +kernel)
theorem allAtoms_all (ts : List Jvm.Cond) (a : Array Jvm.Value) (st : Jvm.State) : (allAtoms ts).before a st = ts.all (fun c => c.before a st) := by
  induction ts with
  | nil => rfl
  | cons c t ih =>
    show (Jvm.Cond.and c (allAtoms t)).before a st = _
    rw [Jvm.Cond.before_and, ih, List.all_cons]
def words1 : List Jvm.Cond := Jvm.Cond.code x code maxLocals ret :: tables_1
/-- a 'code' word, met by the world's own term for the bytes: nothing is compared byte by byte -/
theorem code_word {y : MethodName} {bytes : ByteArray} {mx : Nat} {rt : Option FieldType} {a : Array Value} {s : State} {m : MethodId} {meth : Method} {c : Code} (h1 : s.methodNamed? y = some m) (h2 : s.vm.method? m = some meth) (h3 : meth.code = some c) (h4 : c.code = bytes)
    (h5 : (c.maxLocals == mx && c.exceptionTable.isEmpty && decide (c.maxStack ≤ mostOperands) && decide (meth.sig.returnType = rt) && !meth.locks && decide (parseMethodDescriptor y.desc = some meth.sig)) = true) : (Jvm.Cond.code y bytes mx rt).before a s = true := by
  simp only [Bool.and_eq_true, beq_iff_eq, Bool.not_eq_true', decide_eq_true_eq] at h5
  obtain ⟨⟨⟨⟨⟨g1, g2⟩, g3⟩, g4⟩, g5⟩, g6⟩ := h5
  simp [Cond.before, Cond.holds, Cond.value, h1, h2, h3, h4, g1, g2, g3, g4, g5, g6]
def isCode : Jvm.Cond → Bool
  | .code _ _ _ _ => true
  | _ => false
theorem all_split {L : List Jvm.Cond} {P : Jvm.Cond → Bool} (h1 : L.all (fun c => isCode c || P c) = true) (h2 : ∀ c ∈ L.filter isCode, P c = true) : L.all P = true := by
  refine List.all_eq_true.mpr fun c hc => ?_
  have h := List.all_eq_true.mp h1 c hc
  rcases Bool.eq_false_or_eq_true (isCode c) with hi | hi
  · exact h2 c (List.mem_filter.mpr ⟨hc, hi⟩)
  · simpa [hi] using h
set_option maxRecDepth 65536 in
theorem w_c0 : (Jvm.Cond.code x code maxLocals ret).before args0 about1 = true := code_word (m := ⟨1, 5⟩) (meth := k1m5) (c := k1c5) (by decide +kernel) rfl rfl rfl (by decide +kernel)
set_option maxRecDepth 65536 in
theorem w_c1 : (Jvm.Cond.code ({ cls := "BillingRunOwnLaw", name := "cell", desc := "([II)I" } : Jvm.MethodName) method_2_code (2 : Nat) (Option.some Jvm.ClassFile.FieldType.int)).before args0 about1 = true := code_word (m := ⟨1, 1⟩) (meth := k1m1) (c := k1c1) (by decide +kernel) rfl rfl rfl (by decide +kernel)
set_option maxRecDepth 65536 in
theorem w_c2 : (Jvm.Cond.code ({ cls := "BillingRunOwnLaw", name := "m", desc := "(JI)I" } : Jvm.MethodName) method_3_code (5 : Nat) (Option.some Jvm.ClassFile.FieldType.int)).before args0 about1 = true := code_word (m := ⟨1, 2⟩) (meth := k1m2) (c := k1c2) (by decide +kernel) rfl rfl rfl (by decide +kernel)
set_option maxRecDepth 65536 in
theorem w_c3 : (Jvm.Cond.code ({ cls := "BillingRun", name := "<init>", desc := "(II)V" } : Jvm.MethodName) prog_1_method_1_code (4 : Nat) (Option.none : Option Jvm.ClassFile.FieldType)).before args0 about1 = true := code_word (m := ⟨2, 0⟩) (meth := k2m0) (c := k2c0) (by decide +kernel) rfl rfl rfl (by decide +kernel)
set_option maxRecDepth 65536 in
theorem w_c4 : (Jvm.Cond.code ({ cls := "java/lang/Object", name := "<init>", desc := "()V" } : Jvm.MethodName) object_method_1_code (1 : Nat) (Option.none : Option Jvm.ClassFile.FieldType)).before args0 about1 = true := code_word (m := ⟨0, 0⟩) (meth := k0m0) (c := k0c0) (by decide +kernel) rfl rfl rfl (by decide +kernel)
set_option maxRecDepth 65536 in
theorem w_c5 : (Jvm.Cond.code ({ cls := "BillingRun", name := "clamp", desc := "(III)I" } : Jvm.MethodName) prog_1_method_2_code (3 : Nat) (Option.some Jvm.ClassFile.FieldType.int)).before args0 about1 = true := code_word (m := ⟨2, 1⟩) (meth := k2m1) (c := k2c1) (by decide +kernel) rfl rfl rfl (by decide +kernel)
set_option maxRecDepth 65536 in
theorem w_c6 : (Jvm.Cond.code ({ cls := "BillingRun", name := "setTier", desc := "(IIII)Z" } : Jvm.MethodName) prog_1_method_7_code (5 : Nat) (Option.some Jvm.ClassFile.FieldType.boolean)).before args0 about1 = true := code_word (m := ⟨2, 6⟩) (meth := k2m6) (c := k2c6) (by decide +kernel) rfl rfl rfl (by decide +kernel)
set_option maxRecDepth 65536 in
theorem w_c7 : (Jvm.Cond.code ({ cls := "BillingRun", name := "validPlan", desc := "(I)Z" } : Jvm.MethodName) prog_1_method_4_code (2 : Nat) (Option.some Jvm.ClassFile.FieldType.boolean)).before args0 about1 = true := code_word (m := ⟨2, 3⟩) (meth := k2m3) (c := k2c3) (by decide +kernel) rfl rfl rfl (by decide +kernel)
set_option maxRecDepth 65536 in
theorem w_c8 : (Jvm.Cond.code ({ cls := "BillingRunOwnLaw", name := "invariants", desc := "(LBillingRun;)Z" } : Jvm.MethodName) method_5_code (22 : Nat) (Option.some Jvm.ClassFile.FieldType.boolean)).before args0 about1 = true := code_word (m := ⟨1, 4⟩) (meth := k1m4) (c := k1c4) (by decide +kernel) rfl rfl rfl (by decide +kernel)
set_option maxRecDepth 65536 in
theorem w_c9 : (Jvm.Cond.code ({ cls := "BillingRun", name := "getInvoice", desc := "(II)J" } : Jvm.MethodName) prog_1_method_26_code (3 : Nat) (Option.some Jvm.ClassFile.FieldType.long)).before args0 about1 = true := code_word (m := ⟨2, 24⟩) (meth := k2m24) (c := k2c24) (by decide +kernel) rfl rfl rfl (by decide +kernel)
set_option maxRecDepth 65536 in
theorem w_c10 : (Jvm.Cond.code ({ cls := "BillingRun", name := "validCustomer", desc := "(I)Z" } : Jvm.MethodName) prog_1_method_3_code (2 : Nat) (Option.some Jvm.ClassFile.FieldType.boolean)).before args0 about1 = true := code_word (m := ⟨2, 2⟩) (meth := k2m2) (c := k2c2) (by decide +kernel) rfl rfl rfl (by decide +kernel)
set_option maxRecDepth 65536 in
theorem w_c11 : (Jvm.Cond.code ({ cls := "BillingRun", name := "getCustomer", desc := "(II)J" } : Jvm.MethodName) prog_1_method_28_code (3 : Nat) (Option.some Jvm.ClassFile.FieldType.long)).before args0 about1 = true := code_word (m := ⟨2, 26⟩) (meth := k2m26) (c := k2c26) (by decide +kernel) rfl rfl rfl (by decide +kernel)
set_option maxRecDepth 65536 in
theorem w_c12 : (Jvm.Cond.code ({ cls := "BillingRun", name := "today", desc := "()I" } : Jvm.MethodName) prog_1_method_29_code (1 : Nat) (Option.some Jvm.ClassFile.FieldType.int)).before args0 about1 = true := code_word (m := ⟨2, 27⟩) (meth := k2m27) (c := k2c27) (by decide +kernel) rfl rfl rfl (by decide +kernel)
set_option maxRecDepth 65536 in
theorem w_c13 : (Jvm.Cond.code ({ cls := "BillingRun", name := "subscribe", desc := "(III)Z" } : Jvm.MethodName) prog_1_method_15_code (4 : Nat) (Option.some Jvm.ClassFile.FieldType.boolean)).before args0 about1 = true := code_word (m := ⟨2, 13⟩) (meth := k2m13) (c := k2c13) (by decide +kernel) rfl rfl rfl (by decide +kernel)
set_option maxRecDepth 65536 in
theorem w_c14 : (Jvm.Cond.code ({ cls := "BillingRun", name := "validDay", desc := "(I)Z" } : Jvm.MethodName) prog_1_method_5_code (2 : Nat) (Option.some Jvm.ClassFile.FieldType.boolean)).before args0 about1 = true := code_word (m := ⟨2, 4⟩) (meth := k2m4) (c := k2c4) (by decide +kernel) rfl rfl rfl (by decide +kernel)
set_option maxRecDepth 65536 in
theorem w_c15 : (Jvm.Cond.code ({ cls := "BillingRun", name := "appendSegment", desc := "(III)V" } : Jvm.MethodName) prog_1_method_13_code (6 : Nat) (Option.none : Option Jvm.ClassFile.FieldType)).before args0 about1 = true := code_word (m := ⟨2, 11⟩) (meth := k2m11) (c := k2c11) (by decide +kernel) rfl rfl rfl (by decide +kernel)
set_option maxRecDepth 65536 in
theorem w_c16 : (Jvm.Cond.code ({ cls := "BillingRun", name := "setPlan", desc := "(III)Z" } : Jvm.MethodName) prog_1_method_6_code (4 : Nat) (Option.some Jvm.ClassFile.FieldType.boolean)).before args0 about1 = true := code_word (m := ⟨2, 5⟩) (meth := k2m5) (c := k2c5) (by decide +kernel) rfl rfl rfl (by decide +kernel)
set_option maxRecDepth 65536 in
theorem w_c17 : (Jvm.Cond.code ({ cls := "BillingRun", name := "getSegment", desc := "(III)J" } : Jvm.MethodName) prog_1_method_27_code (5 : Nat) (Option.some Jvm.ClassFile.FieldType.long)).before args0 about1 = true := code_word (m := ⟨2, 25⟩) (meth := k2m25) (c := k2c25) (by decide +kernel) rfl rfl rfl (by decide +kernel)
set_option maxRecDepth 65536 in
theorem w_c18 : (Jvm.Cond.code ({ cls := "BillingRun", name := "closeCycle", desc := "()I" } : Jvm.MethodName) prog_1_method_20_code (4 : Nat) (Option.some Jvm.ClassFile.FieldType.int)).before args0 about1 = true := code_word (m := ⟨2, 18⟩) (meth := k2m18) (c := k2c18) (by decide +kernel) rfl rfl rfl (by decide +kernel)
set_option maxRecDepth 65536 in
theorem w_c19 : (Jvm.Cond.code ({ cls := "BillingRun", name := "openSlot", desc := "(I)I" } : Jvm.MethodName) prog_1_method_14_code (3 : Nat) (Option.some Jvm.ClassFile.FieldType.int)).before args0 about1 = true := code_word (m := ⟨2, 12⟩) (meth := k2m12) (c := k2c12) (by decide +kernel) rfl rfl rfl (by decide +kernel)
set_option maxRecDepth 65536 in
theorem w_c20 : (Jvm.Cond.code ({ cls := "BillingRun", name := "buildInvoice", desc := "(I)V" } : Jvm.MethodName) prog_1_method_23_code (12 : Nat) (Option.none : Option Jvm.ClassFile.FieldType)).before args0 about1 = true := code_word (m := ⟨2, 21⟩) (meth := k2m21) (c := k2c21) (by decide +kernel) rfl rfl rfl (by decide +kernel)
set_option maxRecDepth 65536 in
theorem w_c21 : (Jvm.Cond.code ({ cls := "BillingRun", name := "fillLines", desc := "(II)J" } : Jvm.MethodName) prog_1_method_21_code (17 : Nat) (Option.some Jvm.ClassFile.FieldType.long)).before args0 about1 = true := code_word (m := ⟨2, 19⟩) (meth := k2m19) (c := k2c19) (by decide +kernel) rfl rfl rfl (by decide +kernel)
set_option maxRecDepth 65536 in
theorem w_c22 : (Jvm.Cond.code ({ cls := "BillingRun", name := "charge", desc := "(IJ)J" } : Jvm.MethodName) prog_1_method_11_code (4 : Nat) (Option.some Jvm.ClassFile.FieldType.long)).before args0 about1 = true := code_word (m := ⟨2, 10⟩) (meth := k2m10) (c := k2c10) (by decide +kernel) rfl rfl rfl (by decide +kernel)
set_option maxRecDepth 65536 in
theorem w_c23 : (Jvm.Cond.code ({ cls := "BillingRun", name := "chargeGraduated", desc := "(IJ)J" } : Jvm.MethodName) prog_1_method_9_code (13 : Nat) (Option.some Jvm.ClassFile.FieldType.long)).before args0 about1 = true := code_word (m := ⟨2, 8⟩) (meth := k2m8) (c := k2c8) (by decide +kernel) rfl rfl rfl (by decide +kernel)
set_option maxRecDepth 65536 in
theorem w_c24 : (Jvm.Cond.code ({ cls := "BillingRun", name := "effBound", desc := "(II)J" } : Jvm.MethodName) prog_1_method_8_code (8 : Nat) (Option.some Jvm.ClassFile.FieldType.long)).before args0 about1 = true := code_word (m := ⟨2, 7⟩) (meth := k2m7) (c := k2c7) (by decide +kernel) rfl rfl rfl (by decide +kernel)
set_option maxRecDepth 65536 in
theorem w_c25 : (Jvm.Cond.code ({ cls := "BillingRun", name := "spreadTax", desc := "(IIJ)V" } : Jvm.MethodName) prog_1_method_22_code (13 : Nat) (Option.none : Option Jvm.ClassFile.FieldType)).before args0 about1 = true := code_word (m := ⟨2, 20⟩) (meth := k2m20) (c := k2c20) (by decide +kernel) rfl rfl rfl (by decide +kernel)
set_option maxRecDepth 65536 in
theorem w_c26 : (Jvm.Cond.code ({ cls := "BillingRun", name := "chargeVolume", desc := "(IJ)J" } : Jvm.MethodName) prog_1_method_10_code (5 : Nat) (Option.some Jvm.ClassFile.FieldType.long)).before args0 about1 = true := code_word (m := ⟨2, 9⟩) (meth := k2m9) (c := k2c9) (by decide +kernel) rfl rfl rfl (by decide +kernel)
set_option maxRecDepth 65536 in
theorem w_c27 : (Jvm.Cond.code ({ cls := "BillingRun", name := "getLine", desc := "(II)J" } : Jvm.MethodName) prog_1_method_24_code (3 : Nat) (Option.some Jvm.ClassFile.FieldType.long)).before args0 about1 = true := code_word (m := ⟨2, 22⟩) (meth := k2m22) (c := k2c22) (by decide +kernel) rfl rfl rfl (by decide +kernel)
set_option maxRecDepth 65536 in
theorem w_c28 : (Jvm.Cond.code ({ cls := "BillingRunOwnLaw", name := "pick", desc := "(IJJJ)J" } : Jvm.MethodName) method_4_code (7 : Nat) (Option.some Jvm.ClassFile.FieldType.long)).before args0 about1 = true := code_word (m := ⟨1, 3⟩) (meth := k1m3) (c := k1c3) (by decide +kernel) rfl rfl rfl (by decide +kernel)
set_option maxRecDepth 65536 in
theorem w_c29 : (Jvm.Cond.code ({ cls := "BillingRun", name := "getLineTax", desc := "(II)J" } : Jvm.MethodName) prog_1_method_25_code (3 : Nat) (Option.some Jvm.ClassFile.FieldType.long)).before args0 about1 = true := code_word (m := ⟨2, 23⟩) (meth := k2m23) (c := k2c23) (by decide +kernel) rfl rfl rfl (by decide +kernel)
set_option maxRecDepth 65536 in
theorem w_c30 : (Jvm.Cond.code ({ cls := "BillingRun", name := "recordUsage", desc := "(III)Z" } : Jvm.MethodName) prog_1_method_18_code (5 : Nat) (Option.some Jvm.ClassFile.FieldType.boolean)).before args0 about1 = true := code_word (m := ⟨2, 16⟩) (meth := k2m16) (c := k2c16) (by decide +kernel) rfl rfl rfl (by decide +kernel)
set_option maxRecDepth 65536 in
theorem w_c31 : (Jvm.Cond.code ({ cls := "BillingRun", name := "issueCredit", desc := "(II)Z" } : Jvm.MethodName) prog_1_method_19_code (5 : Nat) (Option.some Jvm.ClassFile.FieldType.boolean)).before args0 about1 = true := code_word (m := ⟨2, 17⟩) (meth := k2m17) (c := k2c17) (by decide +kernel) rfl rfl rfl (by decide +kernel)
set_option maxRecDepth 65536 in
theorem w_c32 : (Jvm.Cond.code ({ cls := "BillingRun", name := "changePlan", desc := "(III)Z" } : Jvm.MethodName) prog_1_method_16_code (5 : Nat) (Option.some Jvm.ClassFile.FieldType.boolean)).before args0 about1 = true := code_word (m := ⟨2, 14⟩) (meth := k2m14) (c := k2c14) (by decide +kernel) rfl rfl rfl (by decide +kernel)
set_option maxRecDepth 65536 in
theorem w_c33 : (Jvm.Cond.code ({ cls := "BillingRun", name := "cancel", desc := "(II)Z" } : Jvm.MethodName) prog_1_method_17_code (4 : Nat) (Option.some Jvm.ClassFile.FieldType.boolean)).before args0 about1 = true := code_word (m := ⟨2, 15⟩) (meth := k2m15) (c := k2c15) (by decide +kernel) rfl rfl rfl (by decide +kernel)
def codes1 : List Jvm.Cond := [Jvm.Cond.code x code maxLocals ret, Jvm.Cond.code ({ cls := "BillingRunOwnLaw", name := "cell", desc := "([II)I" } : Jvm.MethodName) method_2_code (2 : Nat) (Option.some Jvm.ClassFile.FieldType.int), Jvm.Cond.code ({ cls := "BillingRunOwnLaw", name := "m", desc := "(JI)I" } : Jvm.MethodName) method_3_code (5 : Nat) (Option.some Jvm.ClassFile.FieldType.int), Jvm.Cond.code ({ cls := "BillingRun", name := "<init>", desc := "(II)V" } : Jvm.MethodName) prog_1_method_1_code (4 : Nat) (Option.none : Option Jvm.ClassFile.FieldType), Jvm.Cond.code ({ cls := "java/lang/Object", name := "<init>", desc := "()V" } : Jvm.MethodName) object_method_1_code (1 : Nat) (Option.none : Option Jvm.ClassFile.FieldType), Jvm.Cond.code ({ cls := "BillingRun", name := "clamp", desc := "(III)I" } : Jvm.MethodName) prog_1_method_2_code (3 : Nat) (Option.some Jvm.ClassFile.FieldType.int), Jvm.Cond.code ({ cls := "BillingRun", name := "setTier", desc := "(IIII)Z" } : Jvm.MethodName) prog_1_method_7_code (5 : Nat) (Option.some Jvm.ClassFile.FieldType.boolean), Jvm.Cond.code ({ cls := "BillingRun", name := "validPlan", desc := "(I)Z" } : Jvm.MethodName) prog_1_method_4_code (2 : Nat) (Option.some Jvm.ClassFile.FieldType.boolean), Jvm.Cond.code ({ cls := "BillingRunOwnLaw", name := "invariants", desc := "(LBillingRun;)Z" } : Jvm.MethodName) method_5_code (22 : Nat) (Option.some Jvm.ClassFile.FieldType.boolean), Jvm.Cond.code ({ cls := "BillingRun", name := "getInvoice", desc := "(II)J" } : Jvm.MethodName) prog_1_method_26_code (3 : Nat) (Option.some Jvm.ClassFile.FieldType.long), Jvm.Cond.code ({ cls := "BillingRun", name := "validCustomer", desc := "(I)Z" } : Jvm.MethodName) prog_1_method_3_code (2 : Nat) (Option.some Jvm.ClassFile.FieldType.boolean), Jvm.Cond.code ({ cls := "BillingRun", name := "getCustomer", desc := "(II)J" } : Jvm.MethodName) prog_1_method_28_code (3 : Nat) (Option.some Jvm.ClassFile.FieldType.long), Jvm.Cond.code ({ cls := "BillingRun", name := "today", desc := "()I" } : Jvm.MethodName) prog_1_method_29_code (1 : Nat) (Option.some Jvm.ClassFile.FieldType.int), Jvm.Cond.code ({ cls := "BillingRun", name := "subscribe", desc := "(III)Z" } : Jvm.MethodName) prog_1_method_15_code (4 : Nat) (Option.some Jvm.ClassFile.FieldType.boolean), Jvm.Cond.code ({ cls := "BillingRun", name := "validDay", desc := "(I)Z" } : Jvm.MethodName) prog_1_method_5_code (2 : Nat) (Option.some Jvm.ClassFile.FieldType.boolean), Jvm.Cond.code ({ cls := "BillingRun", name := "appendSegment", desc := "(III)V" } : Jvm.MethodName) prog_1_method_13_code (6 : Nat) (Option.none : Option Jvm.ClassFile.FieldType), Jvm.Cond.code ({ cls := "BillingRun", name := "setPlan", desc := "(III)Z" } : Jvm.MethodName) prog_1_method_6_code (4 : Nat) (Option.some Jvm.ClassFile.FieldType.boolean), Jvm.Cond.code ({ cls := "BillingRun", name := "getSegment", desc := "(III)J" } : Jvm.MethodName) prog_1_method_27_code (5 : Nat) (Option.some Jvm.ClassFile.FieldType.long), Jvm.Cond.code ({ cls := "BillingRun", name := "closeCycle", desc := "()I" } : Jvm.MethodName) prog_1_method_20_code (4 : Nat) (Option.some Jvm.ClassFile.FieldType.int), Jvm.Cond.code ({ cls := "BillingRun", name := "openSlot", desc := "(I)I" } : Jvm.MethodName) prog_1_method_14_code (3 : Nat) (Option.some Jvm.ClassFile.FieldType.int), Jvm.Cond.code ({ cls := "BillingRun", name := "buildInvoice", desc := "(I)V" } : Jvm.MethodName) prog_1_method_23_code (12 : Nat) (Option.none : Option Jvm.ClassFile.FieldType), Jvm.Cond.code ({ cls := "BillingRun", name := "fillLines", desc := "(II)J" } : Jvm.MethodName) prog_1_method_21_code (17 : Nat) (Option.some Jvm.ClassFile.FieldType.long), Jvm.Cond.code ({ cls := "BillingRun", name := "charge", desc := "(IJ)J" } : Jvm.MethodName) prog_1_method_11_code (4 : Nat) (Option.some Jvm.ClassFile.FieldType.long), Jvm.Cond.code ({ cls := "BillingRun", name := "chargeGraduated", desc := "(IJ)J" } : Jvm.MethodName) prog_1_method_9_code (13 : Nat) (Option.some Jvm.ClassFile.FieldType.long), Jvm.Cond.code ({ cls := "BillingRun", name := "effBound", desc := "(II)J" } : Jvm.MethodName) prog_1_method_8_code (8 : Nat) (Option.some Jvm.ClassFile.FieldType.long), Jvm.Cond.code ({ cls := "BillingRun", name := "spreadTax", desc := "(IIJ)V" } : Jvm.MethodName) prog_1_method_22_code (13 : Nat) (Option.none : Option Jvm.ClassFile.FieldType), Jvm.Cond.code ({ cls := "BillingRun", name := "chargeVolume", desc := "(IJ)J" } : Jvm.MethodName) prog_1_method_10_code (5 : Nat) (Option.some Jvm.ClassFile.FieldType.long), Jvm.Cond.code ({ cls := "BillingRun", name := "getLine", desc := "(II)J" } : Jvm.MethodName) prog_1_method_24_code (3 : Nat) (Option.some Jvm.ClassFile.FieldType.long), Jvm.Cond.code ({ cls := "BillingRunOwnLaw", name := "pick", desc := "(IJJJ)J" } : Jvm.MethodName) method_4_code (7 : Nat) (Option.some Jvm.ClassFile.FieldType.long), Jvm.Cond.code ({ cls := "BillingRun", name := "getLineTax", desc := "(II)J" } : Jvm.MethodName) prog_1_method_25_code (3 : Nat) (Option.some Jvm.ClassFile.FieldType.long), Jvm.Cond.code ({ cls := "BillingRun", name := "recordUsage", desc := "(III)Z" } : Jvm.MethodName) prog_1_method_18_code (5 : Nat) (Option.some Jvm.ClassFile.FieldType.boolean), Jvm.Cond.code ({ cls := "BillingRun", name := "issueCredit", desc := "(II)Z" } : Jvm.MethodName) prog_1_method_19_code (5 : Nat) (Option.some Jvm.ClassFile.FieldType.boolean), Jvm.Cond.code ({ cls := "BillingRun", name := "changePlan", desc := "(III)Z" } : Jvm.MethodName) prog_1_method_16_code (5 : Nat) (Option.some Jvm.ClassFile.FieldType.boolean), Jvm.Cond.code ({ cls := "BillingRun", name := "cancel", desc := "(II)Z" } : Jvm.MethodName) prog_1_method_17_code (4 : Nat) (Option.some Jvm.ClassFile.FieldType.boolean)]
set_option maxRecDepth 65536 in
theorem codes_eq : words1.filter isCode = codes1 := rfl
theorem w_codes : ∀ c ∈ words1.filter isCode, c.before args0 about1 = true := by
  rw [codes_eq]
  intro c hc
  simp only [codes1, List.mem_cons, List.not_mem_nil, or_false] at hc
  rcases hc with rfl | rfl | rfl | rfl | rfl | rfl | rfl | rfl | rfl | rfl | rfl | rfl | rfl | rfl | rfl | rfl | rfl | rfl | rfl | rfl | rfl | rfl | rfl | rfl | rfl | rfl | rfl | rfl | rfl | rfl | rfl | rfl | rfl | rfl
  · exact w_c0
  · exact w_c1
  · exact w_c2
  · exact w_c3
  · exact w_c4
  · exact w_c5
  · exact w_c6
  · exact w_c7
  · exact w_c8
  · exact w_c9
  · exact w_c10
  · exact w_c11
  · exact w_c12
  · exact w_c13
  · exact w_c14
  · exact w_c15
  · exact w_c16
  · exact w_c17
  · exact w_c18
  · exact w_c19
  · exact w_c20
  · exact w_c21
  · exact w_c22
  · exact w_c23
  · exact w_c24
  · exact w_c25
  · exact w_c26
  · exact w_c27
  · exact w_c28
  · exact w_c29
  · exact w_c30
  · exact w_c31
  · exact w_c32
  · exact w_c33
set_option maxRecDepth 65536 in
theorem w_t1 : (words1.take 24).all (fun c => isCode c || c.before args0 about1) = true := by decide +kernel
set_option maxRecDepth 65536 in
theorem w_t2 : ((words1.drop 24).take 24).all (fun c => isCode c || c.before args0 about1) = true := by decide +kernel
set_option maxRecDepth 65536 in
theorem w_t3 : (((words1.drop 24).drop 24).take 24).all (fun c => isCode c || c.before args0 about1) = true := by decide +kernel
set_option maxRecDepth 65536 in
theorem w_t4 : ((((words1.drop 24).drop 24).drop 24).take 24).all (fun c => isCode c || c.before args0 about1) = true := by decide +kernel
set_option maxRecDepth 65536 in
theorem w_t5 : (((((words1.drop 24).drop 24).drop 24).drop 24).take 24).all (fun c => isCode c || c.before args0 about1) = true := by decide +kernel
set_option maxRecDepth 65536 in
theorem w_t6 : ((((((words1.drop 24).drop 24).drop 24).drop 24).drop 24).take 24).all (fun c => isCode c || c.before args0 about1) = true := by decide +kernel
set_option maxRecDepth 65536 in
theorem w_t7 : (((((((words1.drop 24).drop 24).drop 24).drop 24).drop 24).drop 24).take 24).all (fun c => isCode c || c.before args0 about1) = true := by decide +kernel
set_option maxRecDepth 65536 in
theorem w_t8 : ((((((((words1.drop 24).drop 24).drop 24).drop 24).drop 24).drop 24).drop 24).take 24).all (fun c => isCode c || c.before args0 about1) = true := by decide +kernel
set_option maxRecDepth 65536 in
theorem w_t9 : (((((((((words1.drop 24).drop 24).drop 24).drop 24).drop 24).drop 24).drop 24).drop 24).take 24).all (fun c => isCode c || c.before args0 about1) = true := by decide +kernel
set_option maxRecDepth 65536 in
theorem w_t10 : (((((((((words1.drop 24).drop 24).drop 24).drop 24).drop 24).drop 24).drop 24).drop 24).drop 24).all (fun c => isCode c || c.before args0 about1) = true := by decide +kernel
theorem w_tables : (allAtoms (Jvm.Cond.code x code maxLocals ret :: tables_1)).before args0 about1 = true := by
  rw [allAtoms_all]
  show words1.all (fun c => c.before args0 about1) = true
  refine all_split ?_ w_codes
  rw [← List.take_append_drop 24 words1, List.all_append, w_t1, ← List.take_append_drop 24 (words1.drop 24), List.all_append, w_t2, ← List.take_append_drop 24 ((words1.drop 24).drop 24), List.all_append, w_t3, ← List.take_append_drop 24 (((words1.drop 24).drop 24).drop 24), List.all_append, w_t4, ← List.take_append_drop 24 ((((words1.drop 24).drop 24).drop 24).drop 24), List.all_append, w_t5, ← List.take_append_drop 24 (((((words1.drop 24).drop 24).drop 24).drop 24).drop 24), List.all_append, w_t6, ← List.take_append_drop 24 ((((((words1.drop 24).drop 24).drop 24).drop 24).drop 24).drop 24), List.all_append, w_t7, ← List.take_append_drop 24 (((((((words1.drop 24).drop 24).drop 24).drop 24).drop 24).drop 24).drop 24), List.all_append, w_t8, ← List.take_append_drop 24 ((((((((words1.drop 24).drop 24).drop 24).drop 24).drop 24).drop 24).drop 24).drop 24), List.all_append, w_t9, w_t10]
  rfl
set_option maxRecDepth 65536 in
theorem w_rest : rest_1_c.before args0 about1 = true := by decide +kernel
set_option maxRecDepth 65536 in
theorem w_case : (Jvm.Cond.and given_1 narrow_1).before args0 about1 = true := by decide +kernel
theorem w_applies : (headSpec (Jvm.Cond.code x code maxLocals ret :: tables_1) room_1).applies x e0.platform about1 = true :=
  (Spec.applies_iff w_frames).mpr ⟨w_running, w_runnable, w_alone, w_named, w_hears, w_ripe, w_room, w_tables⟩
theorem atStart : AtStart classFile x code maxLocals ret World_1 tables_1 room_1 Calls_1 rest_1 Pre_1 launch0 p0 e0 about1 theMethod args0 below0 :=
  ⟨lists_1, trivial, launch0.admits_env _ _ _, launch0.least_env, fairChoices_fair.cas, fairChoices_fair.clock, w_frames, w_args, w_heap, w_applies, trivial, w_rest, w_case⟩
end start1
theorem witness_1 : WitnessClaimed_1 := ⟨start1.p0, start1.e0, start1.about1, start1.theMethod, start1.args0, start1.below0, start1.atStart⟩
end Jvm.Pilot.@@N@@
