import JvmDerived
import JvmDerived.Pilot.@@N@@Statement
import JvmDerived.Pilot.@@N@@Code
set_option linter.unusedVariables false
set_option linter.unusedSimpArgs false
namespace Jvm.Own
open Jvm Jvm.ClassFile Sem Op Lib Jvm.Free Jvm.Stand Jvm.LawKit Jvm.RoadKit Bundle
/-! ## values, cells, heaps of the small view -/
theorem leb {a b : Nat} (h : Nat.ble a b = true) : a ≤ b := Nat.le_of_ble_eq_true h
abbrev dc (b : ByteArray) (pc : Nat) (i : Instr) (n : Nat) : Prop := decode b pc = .ok (i, n)
abbrev OwnC : Type := Sum (List Value) (Sum (List Int32) (Sum (List Int64) (List Int32)))
abbrev cO (vs : List Value) : OwnC := .inl vs
abbrev cI (xs : List Int32) : OwnC := .inr (.inl xs)
abbrev cJ (xs : List Int64) : OwnC := .inr (.inr (.inl xs))
abbrev cZ (xs : List Int32) : OwnC := .inr (.inr (.inr xs))
def rf (ad : Nat → Addr) : Value → Value
  | .ref i => .ref (ad i)
  | .int x => .int x
  | .long x => .long x
  | .float x => .float x
  | .double x => .double x
  | .null => .null
  | .retAddr x => .retAddr x
theorem rf_cat (ad : Nat → Addr) (v : Value) : (rf ad v).category = v.category := by cases v <;> rfl
theorem rf_isRef (ad : Nat → Addr) (v : Value) : (rf ad v).isRef = v.isRef := by cases v <;> rfl
theorem rf_cats (ad : Nat → Addr) (S : List Value) : ((S.map (rf ad)).map fun v => v.category) = S.map fun v => v.category := by
  simp [List.map_map, Function.comp_def, rf_cat]
def CelOk (Z : State) (C : String) (lay : List (String × String)) (ad : Nat → Addr) (h : Heap) (a : Addr) : OwnC → Prop
  | .inl vs => Exa Z h a C ∧ ∀ (i : Nat) (f : String × String) (v : Value), lay[i]? = some f → vs[i]? = some v → Fld Z h a C f.1 f.2 (rf ad v)
  | .inr (.inl xs) => ∃ cl : Cell, Arr Z h a cl .int ∧ cl.slots.toList = xs.map Value.int
  | .inr (.inr (.inl xs)) => ∃ cl : Cell, Arr Z h a cl .long ∧ cl.slots.toList = xs.map Value.long
  | .inr (.inr (.inr xs)) => ∃ cl : Cell, Arr Z h a cl .boolean ∧ cl.slots.toList = xs.map Value.int
def HR (Z : State) (C : String) (lay : List (String × String)) (n0 ro : Nat) (ad : Nat → Addr) (H : List OwnC) (h : Heap) : Prop :=
  (∀ i c, H[i]? = some c → CelOk Z C lay ad h (ad i) c) ∧ (∀ i j, i < H.length → j < H.length → ad i = ad j → i = j) ∧ (∀ t, ad (H.length + t) = h.size + t) ∧ (∀ i, i < H.length → ro ≤ i → n0 ≤ ad i) ∧ n0 ≤ h.size
def Kp (ad : Nat → Addr) (N : Nat) (h h' : Heap) : Prop := h.size ≤ h'.size ∧ ∀ (a : Addr) (c : Cell), h[a]? = some c → (∀ i, i < N → ad i ≠ a) → h'[a]? = some c
theorem CelOk.keep {Z : State} {C : String} {lay : List (String × String)} {ad : Nat → Addr} {h h' : Heap} {a : Addr} {c : OwnC} (q : ∀ cz : Cell, h[a]? = some cz → h'[a]? = some cz) (F : CelOk Z C lay ad h a c) : CelOk Z C lay ad h' a c := by
  rcases c with vs | xs | xs | xs
  · obtain ⟨⟨cell, k, h1, r⟩, F2⟩ := F
    refine ⟨⟨cell, k, q _ h1, r⟩, fun i f v hf hv => ?_⟩
    obtain ⟨cell, cf, k, i, f, h1, r⟩ := F2 i f v hf hv
    exact ⟨cell, cf, k, i, f, q _ h1, r⟩
  all_goals
    obtain ⟨cl, ⟨h1, r⟩, h2⟩ := F
    exact ⟨cl, ⟨q _ h1, r⟩, h2⟩
theorem CelOk.lt {Z : State} {C : String} {lay : List (String × String)} {ad : Nat → Addr} {h : Heap} {a : Addr} {c : OwnC} (F : CelOk Z C lay ad h a c) : a < h.size := by
  rcases c with vs | xs | xs | xs
  · exact F.1.lt
  all_goals
    obtain ⟨cl, A, h2⟩ := F
    exact A.lt
theorem Kp.refl (ad : Nat → Addr) (N : Nat) (h : Heap) : Kp ad N h h := ⟨Nat.le_refl _, fun _ _ q _ => q⟩
theorem get_lt {α : Type} {L : List α} {i : Nat} {c : α} (h : L[i]? = some c) : i < L.length := (List.getElem?_eq_some_iff.mp h).1
section HRs
variable {Z : State} {C : String} {lay : List (String × String)} {n0 ro : Nat} {ad : Nat → Addr} {H H' : List OwnC} {h h' h'' : Heap}
/-- the addresses at or above H.length lie at or above the heap's size -/
theorem HR.new (R : HR Z C lay n0 ro ad H h) {i : Nat} (hi : H.length ≤ i) : h.size ≤ ad i := by
  obtain ⟨t, rfl⟩ := Nat.exists_eq_add_of_le hi
  rw [R.2.2.1 t]; exact Nat.le_add_right _ _
theorem Kp.trans (R : HR Z C lay n0 ro ad H h) (K : Kp ad H.length h h') {N : Nat} (K' : Kp ad N h' h'') : Kp ad H.length h h'' := by
  refine ⟨Nat.le_trans K.1 K'.1, fun a c hc hn => K'.2 a c (K.2 a c hc hn) fun i hi q => ?_⟩
  by_cases hl : i < H.length
  · exact hn i hl q
  · have h1 := R.new (Nat.le_of_not_lt hl)
    rw [q] at h1
    exact absurd (Array.getElem?_eq_some_iff.mp hc).1 (Nat.not_lt.mpr h1)
/-- one cell of the small heap is written anew, at its own address -/
theorem HR.put (R : HR Z C lay n0 ro ad H h) {i : Nat} {c : OwnC} (hi : i < H.length) (hs : h'.size = h.size) (ho : ∀ a cz, a ≠ ad i → h[a]? = some cz → h'[a]? = some cz) (hc : CelOk Z C lay ad h' (ad i) c) :
    HR Z C lay n0 ro ad (H.set i c) h' ∧ Kp ad H.length h h' := by
  refine ⟨⟨fun j c' hj => ?_, fun i' j' hi' hj' => ?_, fun t => ?_, fun i' hi' => ?_, by rw [hs]; exact R.2.2.2.2⟩, by rw [hs]; exact Nat.le_refl _, fun a cz hz hn => ho a cz (fun q => hn i hi q.symm) hz⟩
  · rw [List.getElem?_set] at hj
    by_cases e : i = j
    · subst e
      simp [hi] at hj
      subst hj; exact hc
    · rw [if_neg e] at hj
      exact (R.1 j c' hj).keep fun cz q => ho _ cz (fun q' => e (R.2.1 _ _ hi (get_lt hj) q'.symm)) q
  · simp only [List.length_set] at hi' hj'; exact R.2.1 _ _ hi' hj'
  · rw [List.length_set, hs]; exact R.2.2.1 t
  · simp only [List.length_set] at hi'; exact R.2.2.2.1 _ hi'
/-- a new cell behind all others -/
theorem HR.push (R : HR Z C lay n0 ro ad H h) {c : OwnC} (hs : h'.size = h.size + 1) (hE : Ext h h') (hc : CelOk Z C lay ad h' h.size c) :
    HR Z C lay n0 ro ad (H ++ [c]) h' ∧ Kp ad H.length h h' ∧ ad H.length = h.size := by
  have e0 : ad H.length = h.size := R.2.2.1 0
  refine ⟨⟨fun j c' hj => ?_, fun i j hi hj q => ?_, fun t => ?_, fun i hi hr => ?_, by rw [hs]; exact Nat.le_succ_of_le R.2.2.2.2⟩, ⟨hE.1, fun a cz hz _ => hE.2 _ _ hz⟩, e0⟩
  · by_cases hl : j < H.length
    · rw [List.getElem?_append_left hl] at hj
      exact (R.1 j c' hj).keep fun cz q => hE.2 _ _ q
    · have hl' := get_lt hj
      simp only [List.length_append, List.length_singleton] at hl'
      obtain rfl : j = H.length := by omega
      simp at hj
      subst hj; rw [e0]; exact hc
  · simp only [List.length_append, List.length_singleton] at hi hj
    by_cases h1 : i < H.length
    · by_cases h2 : j < H.length
      · exact R.2.1 _ _ h1 h2 q
      · have a1 := (R.1 i _ (List.getElem?_eq_getElem h1)).lt
        have a2 := R.new (Nat.le_of_not_lt h2)
        rw [q] at a1
        exact absurd a1 (Nat.not_lt.mpr a2)
    · by_cases h2 : j < H.length
      · have a1 := (R.1 j _ (List.getElem?_eq_getElem h2)).lt
        have a2 := R.new (Nat.le_of_not_lt h1)
        rw [q] at a2
        exact absurd a1 (Nat.not_lt.mpr a2)
      · omega
  · rw [hs]
    have := R.2.2.1 (1 + t)
    simp only [List.length_append, List.length_singleton]
    rw [Nat.add_assoc, this]; exact (Nat.add_assoc _ _ _).symm
  · simp only [List.length_append, List.length_singleton] at hi
    by_cases h1 : i < H.length
    · exact R.2.2.2.1 _ h1 hr
    · exact Nat.le_trans R.2.2.2.2 (R.new (Nat.le_of_not_lt h1))
end HRs
/-! ## local variables: 'unset' in the small view says nothing -/
def WFs (f : Nat → Option Slot) : Prop := (∀ i, f i = some .second → ∃ j v, i = j + 1 ∧ f j = some (.val v) ∧ v.category = 2) ∧ ∀ i v, f i = some (.val v) → v.category = 2 → f (i + 1) = some .second
def LR (ad : Nat → Addr) (L : List Slot) (Ls : Array Slot) : Prop :=
  L.length = Ls.size ∧ (∀ (i : Nat) (v : Value), L[i]? = some (.val v) → Ls[i]? = some (.val (rf ad v))) ∧ (∀ i : Nat, L[i]? = some .second → Ls[i]? = some .second) ∧ WFs fun i => Ls[i]?
def kill2 : Slot → Slot
  | .val (.long _) => .unset
  | .val (.double _) => .unset
  | s => s
def killS : Slot → Slot
  | .second => .unset
  | s => s
def hd1 (f : Slot → Slot) : List Slot → List Slot
  | [] => []
  | y :: t => f y :: t
def st1 : List Slot → Nat → Value → List Slot
  | [], _, _ => []
  | _ :: t, 0, v => .val v :: hd1 killS t
  | y :: t, n + 1, v => match n with
    | 0 => kill2 y :: st1 t 0 v
    | k + 1 => y :: st1 t (k + 1) v
def st2 : List Slot → Nat → Value → List Slot
  | [], _, _ => []
  | _ :: t, 0, v => .val v :: (match t with | [] => [] | _ :: t' => .second :: hd1 killS t')
  | y :: t, n + 1, v => match n with
    | 0 => kill2 y :: st2 t 0 v
    | k + 1 => y :: st2 t (k + 1) v
theorem st1_len (v : Value) : ∀ (L : List Slot) (i : Nat), (st1 L i v).length = L.length
  | [], _ => rfl
  | y :: [], 0 => rfl
  | y :: z :: t, 0 => rfl
  | y :: t, 1 => congrArg Nat.succ (st1_len v t 0)
  | y :: t, k + 2 => congrArg Nat.succ (st1_len v t (k + 1))
theorem st2_len (v : Value) : ∀ (L : List Slot) (i : Nat), (st2 L i v).length = L.length
  | [], _ => rfl
  | y :: [], 0 => rfl
  | y :: z :: [], 0 => rfl
  | y :: z :: w :: t, 0 => rfl
  | y :: t, 1 => congrArg Nat.succ (st2_len v t 0)
  | y :: t, k + 2 => congrArg Nat.succ (st2_len v t (k + 1))
theorem kill2_e {y s : Slot} (h : kill2 y = s) (hs : s ≠ .unset) : y = s ∧ ∀ w, s = .val w → w.category = 1 := by
  subst h
  rcases y with _ | _ | w
  · exact absurd rfl hs
  · exact ⟨rfl, fun w h => by cases h⟩
  · cases w <;> first | exact absurd rfl hs | exact ⟨rfl, fun w h => by cases h; rfl⟩
theorem killS_e {y s : Slot} (h : killS y = s) (hs : s ≠ .unset) : y = s ∧ s ≠ .second := by
  subst h
  rcases y with _ | _ | w
  · exact absurd rfl hs
  · exact absurd rfl hs
  · exact ⟨rfl, fun h => by cases h⟩
theorem hd1_e {t : List Slot} {j : Nat} {s : Slot} (h : (hd1 killS t)[j]? = some s) (hs : s ≠ .unset) : t[j]? = some s ∧ (j = 0 → s ≠ .second) := by
  cases t with
  | nil => simp [hd1] at h
  | cons y t =>
    cases j with
    | zero =>
      have h' : killS y = s := by simpa [hd1] using h
      obtain ⟨e1, e2⟩ := killS_e h' hs
      exact ⟨by simp [e1], fun _ => e2⟩
    | succ j => exact ⟨by simpa [hd1] using h, fun q => by cases q⟩
theorem st1_at (v : Value) : ∀ (L : List Slot) (i : Nat), i < L.length → (st1 L i v)[i]? = some (.val v)
  | [], _, h => absurd h (by simp)
  | y :: t, 0, _ => rfl
  | y :: t, 1, h => by simpa [st1] using st1_at v t 0 (by simp at h; omega)
  | y :: t, k + 2, h => by simpa [st1] using st1_at v t (k + 1) (by simp at h; omega)
theorem st1_else (v : Value) : ∀ (L : List Slot) (i j : Nat) (s : Slot), j ≠ i → (st1 L i v)[j]? = some s → s ≠ .unset → L[j]? = some s ∧ (j + 1 = i → ∀ w, s = .val w → w.category = 1) ∧ (j = i + 1 → s ≠ .second)
  | [], _, j, s, _, h, _ => by simp [st1] at h
  | y :: t, 0, 0, s, hj, _, _ => absurd rfl hj
  | y :: t, 0, j + 1, s, hj, h, hs => by
    obtain ⟨e1, e2⟩ := hd1_e (t := t) (j := j) (by simpa [st1] using h) hs
    exact ⟨by simpa using e1, fun q => by omega, fun q => e2 (by omega)⟩
  | y :: t, 1, 0, s, hj, h, hs => by
    obtain ⟨e1, e2⟩ := kill2_e (y := y) (by simpa [st1] using h) hs
    exact ⟨by simp [e1], fun _ => e2, fun q => by omega⟩
  | y :: t, 1, j + 1, s, hj, h, hs => by
    obtain ⟨e1, e2, e3⟩ := st1_else v t 0 j s (by omega) (by simpa [st1] using h) hs
    exact ⟨by simpa using e1, fun q => by omega, fun q => e3 (by omega)⟩
  | y :: t, k + 2, 0, s, hj, h, hs => ⟨by simpa [st1] using h, fun q => by omega, fun q => by omega⟩
  | y :: t, k + 2, j + 1, s, hj, h, hs => by
    obtain ⟨e1, e2, e3⟩ := st1_else v t (k + 1) j s (by omega) (by simpa [st1] using h) hs
    exact ⟨by simpa using e1, fun q => e2 (by omega), fun q => e3 (by omega)⟩
theorem st2_at (v : Value) : ∀ (L : List Slot) (i : Nat), i + 1 < L.length → (st2 L i v)[i]? = some (.val v) ∧ (st2 L i v)[i + 1]? = some .second
  | [], _, h => absurd h (by simp)
  | y :: [], 0, h => absurd h (by simp)
  | y :: z :: t, 0, _ => ⟨rfl, rfl⟩
  | y :: t, 1, h => by simpa [st2] using st2_at v t 0 (by simp at h; omega)
  | y :: t, k + 2, h => by simpa [st2] using st2_at v t (k + 1) (by simp at h; omega)
theorem st2_else (v : Value) : ∀ (L : List Slot) (i j : Nat) (s : Slot), j ≠ i → j ≠ i + 1 → (st2 L i v)[j]? = some s → s ≠ .unset → L[j]? = some s ∧ (j + 1 = i → ∀ w, s = .val w → w.category = 1) ∧ (j = i + 2 → s ≠ .second)
  | [], _, j, s, _, _, h, _ => by simp [st2] at h
  | y :: t, 0, 0, s, hj, _, _, _ => absurd rfl hj
  | y :: t, 0, 1, s, _, hj, _, _ => absurd rfl hj
  | y :: [], 0, j + 2, s, _, _, h, _ => by simp [st2] at h
  | y :: z :: t, 0, j + 2, s, hj, _, h, hs => by
    obtain ⟨e1, e2⟩ := hd1_e (t := t) (j := j) (by simpa [st2] using h) hs
    exact ⟨by simpa using e1, fun q => by omega, fun q => e2 (by omega)⟩
  | y :: t, 1, 0, s, hj, _, h, hs => by
    obtain ⟨e1, e2⟩ := kill2_e (y := y) (by simpa [st2] using h) hs
    exact ⟨by simp [e1], fun _ => e2, fun q => by omega⟩
  | y :: t, 1, j + 1, s, hj, hj', h, hs => by
    obtain ⟨e1, e2, e3⟩ := st2_else v t 0 j s (by omega) (by omega) (by simpa [st2] using h) hs
    exact ⟨by simpa using e1, fun q => by omega, fun q => e3 (by omega)⟩
  | y :: t, k + 2, 0, s, hj, _, h, hs => ⟨by simpa [st2] using h, fun q => by omega, fun q => by omega⟩
  | y :: t, k + 2, j + 1, s, hj, hj', h, hs => by
    obtain ⟨e1, e2, e3⟩ := st2_else v t (k + 1) j s (by omega) (by omega) (by simpa [st2] using h) hs
    exact ⟨by simpa using e1, fun q => e2 (by omega), fun q => e3 (by omega)⟩
theorem setAt_ok {l : Array Slot} {i : Nat} (h : i < l.size) (x : Slot) : setAt l i x = some (l.setIfInBounds i x) := if_pos h
/-- which neighbours a store at i wipes -/
def Bad (Ls : Array Slot) (i j : Nat) : Prop := (j + 1 = i ∧ Ls[i]? = some .second) ∨ (j = i + 1 ∧ ∃ o, Ls[i]? = some (.val o) ∧ o.category = 2)
def Pre1 (Ls Ls1 : Array Slot) (i : Nat) : Prop := Ls1.size = Ls.size ∧ ∀ j, j ≠ i → (¬ Bad Ls i j ∧ Ls1[j]? = Ls[j]?) ∨ (Bad Ls i j ∧ Ls1[j]? = some .unset)
theorem storeLocals_pre {Ls : Array Slot} (wf : WFs fun i => Ls[i]?) {i : Nat} (hi : i < Ls.size) (w : Value) : ∃ Ls1, Pre1 Ls Ls1 i ∧ storeLocals Ls i w = storeSelf Ls1 i w := by
  have hg : Ls[i]? = some Ls[i] := Array.getElem?_eq_getElem hi
  rcases hs : Ls[i] with _ | _ | old
  · rw [hs] at hg
    refine ⟨Ls, ⟨rfl, fun j hj => Or.inl ⟨?_, rfl⟩⟩, ?_⟩
    · rintro (⟨-, q⟩ | ⟨-, o, q, -⟩) <;> (rw [hg] at q; cases q)
    · show (Ls[i]?).bind _ = _; rw [hg]; rfl
  · rw [hs] at hg
    obtain ⟨j0, v, rfl, hv, hc⟩ := wf.1 i hg
    have h0 : j0 < Ls.size := by omega
    refine ⟨Ls.setIfInBounds j0 .unset, ⟨by simp, fun j hj => ?_⟩, ?_⟩
    · by_cases e : j = j0
      · subst e; right; exact ⟨Or.inl ⟨rfl, hg⟩, by simp [h0]⟩
      · left
        refine ⟨?_, by rw [Array.getElem?_setIfInBounds_ne (Ne.symm e)]⟩
        rintro (⟨q', q⟩ | ⟨-, o, q, -⟩)
        · exact e (by omega)
        · rw [hg] at q; cases q
    · show (Ls[j0 + 1]?).bind _ = _; rw [hg]
      show (setAt Ls (j0 + 1 - 1) .unset).bind _ = _
      rw [Nat.add_sub_cancel, setAt_ok h0]; rfl
  · rw [hs] at hg
    by_cases hc : old.category = 2
    · have h1 := wf.2 i old hg hc
      have h1' : i + 1 < Ls.size := (Array.getElem?_eq_some_iff.mp h1).1
      refine ⟨Ls.setIfInBounds (i + 1) .unset, ⟨by simp, fun j hj => ?_⟩, ?_⟩
      · by_cases e : j = i + 1
        · subst e; right; exact ⟨Or.inr ⟨rfl, old, hg, hc⟩, by simp [h1']⟩
        · left
          refine ⟨?_, by rw [Array.getElem?_setIfInBounds_ne (Ne.symm e)]⟩
          rintro (⟨-, q⟩ | ⟨q, -⟩)
          · rw [hg] at q; cases q
          · exact e q
      · show (Ls[i]?).bind _ = _; rw [hg]
        show (if old.category = 2 then _ else _) = _
        rw [if_pos hc]
        show (setAt Ls (i + 1) .unset).bind _ = _
        rw [setAt_ok h1']; rfl
    · refine ⟨Ls, ⟨rfl, fun j hj => Or.inl ⟨?_, rfl⟩⟩, ?_⟩
      · rintro (⟨-, q⟩ | ⟨-, o, q, q'⟩) <;> (rw [hg] at q; cases q)
        exact hc q'
      · show (Ls[i]?).bind _ = _; rw [hg]
        show (if old.category = 2 then _ else _) = _
        rw [if_neg hc]
section St
variable {Ls : Array Slot} {i j : Nat}
/-- a value of one word is not wiped -/
theorem not_bad_val (wf : WFs fun i => Ls[i]?) {w : Value} (hj : Ls[j]? = some (.val w)) (hw : j + 1 = i → w.category = 1) : ¬ Bad Ls i j := by
  rintro (⟨rfl, q⟩ | ⟨rfl, o, q, q'⟩)
  · obtain ⟨j0, v, e, h1, h2⟩ := wf.1 _ q
    obtain rfl : j0 = j := by omega
    cases h1.symm.trans hj
    rw [hw rfl] at h2; cases h2
  · have := wf.2 _ _ q q'
    cases this.symm.trans hj
theorem not_bad_second (wf : WFs fun i => Ls[i]?) (hj : Ls[j]? = some .second) (hne : j ≠ i + 1) : ¬ Bad Ls i j := by
  rintro (⟨rfl, q⟩ | ⟨q, -⟩)
  · obtain ⟨j0, v, e, h1, h2⟩ := wf.1 _ q
    obtain rfl : j0 = j := by omega
    cases h1.symm.trans hj
  · exact hne q
end St
theorem LR.store1 {ad : Nat → Addr} {L : List Slot} {Ls : Array Slot} (hL : LR ad L Ls) {i : Nat} (hi : i < L.length) {v : Value} (hv : v.category = 1) : ∃ Ls', storeLocals Ls i (rf ad v) = some Ls' ∧ LR ad (st1 L i v) Ls' ∧ Ls'.size = Ls.size := by
  obtain ⟨l1, l2, l3, wf⟩ := hL
  have hi' : i < Ls.size := l1 ▸ hi
  have hv' : (rf ad v).category = 1 := by rw [rf_cat]; exact hv
  obtain ⟨Ls1, ⟨p1, p2⟩, e⟩ := storeLocals_pre wf hi' (rf ad v)
  have hi1 : i < Ls1.size := by rw [p1]; exact hi'
  have e2 : storeSelf Ls1 i (rf ad v) = some (Ls1.setIfInBounds i (.val (rf ad v))) := by
    show (setAt Ls1 i _).bind _ = _
    rw [setAt_ok hi1]
    show (if (rf ad v).category = 2 then _ else _) = _
    rw [if_neg (by rw [hv']; decide)]
  have at_i : (Ls1.setIfInBounds i (.val (rf ad v)))[i]? = some (.val (rf ad v)) := by simp [hi1]
  have at_j : ∀ j, j ≠ i → (Ls1.setIfInBounds i (.val (rf ad v)))[j]? = Ls1[j]? := fun j hj => Array.getElem?_setIfInBounds_ne (Ne.symm hj)
  have good : ∀ j, j ≠ i → ¬ Bad Ls i j → (Ls1.setIfInBounds i (.val (rf ad v)))[j]? = Ls[j]? := fun j hj hb => by
    rw [at_j j hj]
    rcases p2 j hj with ⟨-, q⟩ | ⟨q, -⟩
    · exact q
    · exact absurd q hb
  have back : ∀ j s, j ≠ i → s ≠ .unset → (Ls1.setIfInBounds i (.val (rf ad v)))[j]? = some s → ¬ Bad Ls i j ∧ Ls[j]? = some s := fun j s hj hs h => by
    rw [at_j j hj] at h
    rcases p2 j hj with ⟨q, q'⟩ | ⟨-, q⟩
    · exact ⟨q, by rw [← q']; exact h⟩
    · rw [q] at h; cases h; exact absurd rfl hs
  refine ⟨_, e.trans e2, ⟨by rw [st1_len, l1]; simp [p1], fun j w hj => ?_, fun j hj => ?_, fun j hj => ?_, fun j w hj hc => ?_⟩, by simp [p1]⟩
  · by_cases q : j = i
    · subst q
      rw [st1_at v L j hi] at hj
      cases hj; exact at_i
    · obtain ⟨a1, a2, -⟩ := st1_else v L i j _ q hj (by simp)
      have b1 := l2 j w a1
      rw [good j q (not_bad_val wf b1 fun z => by rw [rf_cat]; exact a2 z w rfl)]; exact b1
  · by_cases q : j = i
    · subst q
      rw [st1_at v L j hi] at hj
      cases hj
    · obtain ⟨a1, -, a3⟩ := st1_else v L i j _ q hj (by simp)
      have b1 := l3 j a1
      rw [good j q (not_bad_second wf b1 fun z => a3 z rfl)]; exact b1
  · dsimp only at hj ⊢
    have q : j ≠ i := fun q => by subst q; rw [at_i] at hj; cases hj
    obtain ⟨b1, b2⟩ := back j _ q (by simp) hj
    obtain ⟨j0, v', rfl, h1, h2⟩ := wf.1 j b2
    refine ⟨j0, v', rfl, ?_, h2⟩
    have q0 : j0 ≠ i := fun z => b1 (Or.inr ⟨by omega, v', z ▸ h1, h2⟩)
    rw [good j0 q0 ?_]; exact h1
    rintro (⟨z, -⟩ | ⟨z, o, z1, z2⟩)
    · exact q z
    · have := wf.2 _ _ z1 z2
      rw [← z] at this
      cases this.symm.trans h1
  · dsimp only at hj ⊢
    have q : j ≠ i := fun q => by subst q; rw [at_i] at hj; cases hj; rw [hv'] at hc; cases hc
    obtain ⟨b1, b2⟩ := back j _ q (by simp) hj
    have h1 := wf.2 j w b2 hc
    dsimp only at h1
    have q0 : j + 1 ≠ i := fun z => b1 (Or.inl ⟨z, z ▸ h1⟩)
    rw [good (j + 1) q0 ?_]; exact h1
    rintro (⟨z, z1⟩ | ⟨z, -⟩)
    · obtain ⟨j1, v1, e1, e2, -⟩ := wf.1 _ z1
      obtain rfl : j1 = j + 1 := by omega
      cases h1.symm.trans e2
    · omega
theorem LR.store2 {ad : Nat → Addr} {L : List Slot} {Ls : Array Slot} (hL : LR ad L Ls) {i : Nat} (hi : i + 1 < L.length) {v : Value} (hv : v.category = 2) : ∃ Ls', storeLocals Ls i (rf ad v) = some Ls' ∧ LR ad (st2 L i v) Ls' ∧ Ls'.size = Ls.size := by
  obtain ⟨l1, l2, l3, wf⟩ := hL
  have hi' : i + 1 < Ls.size := l1 ▸ hi
  have hv' : (rf ad v).category = 2 := by rw [rf_cat]; exact hv
  obtain ⟨Ls1, ⟨p1, p2⟩, e⟩ := storeLocals_pre wf (by omega : i < Ls.size) (rf ad v)
  have hi1 : i < Ls1.size := by rw [p1]; omega
  have hi2 : i + 1 < Ls1.size := by rw [p1]; omega
  -- what the second half leaves: two slots, and the one behind wiped where a long began at i + 1
  have key : ∃ Ls', storeSelf Ls1 i (rf ad v) = some Ls' ∧ Ls'.size = Ls1.size ∧ Ls'[i]? = some (.val (rf ad v)) ∧ Ls'[i + 1]? = some .second ∧ ∀ j, j ≠ i → j ≠ i + 1 → (Ls'[j]? = Ls1[j]? ∧ ¬ (j = i + 2 ∧ ∃ o, Ls1[i + 1]? = some (.val o) ∧ o.category = 2)) ∨ (Ls'[j]? = some .unset ∧ j = i + 2 ∧ ∃ o, Ls1[i + 1]? = some (.val o) ∧ o.category = 2) := by
    have n1 : (Ls1.setIfInBounds i (.val (rf ad v)))[i + 1]? = Ls1[i + 1]? := Array.getElem?_setIfInBounds_ne (by omega)
    have g1 : Ls1[i + 1]? = some Ls1[i + 1] := Array.getElem?_eq_getElem hi2
    have open1 : storeSelf Ls1 i (rf ad v) = ((Ls1.setIfInBounds i (.val (rf ad v)))[i + 1]?).bind fun x => match x with
      | .val old => if old.category = 2 then (setAt (Ls1.setIfInBounds i (.val (rf ad v))) (i + 2) .unset).bind fun z => setAt z (i + 1) .second else setAt (Ls1.setIfInBounds i (.val (rf ad v))) (i + 1) .second
      | _ => setAt (Ls1.setIfInBounds i (.val (rf ad v))) (i + 1) .second := by
      show (setAt Ls1 i _).bind _ = _
      rw [setAt_ok hi1]
      show (if (rf ad v).category = 2 then _ else _) = _
      rw [if_pos hv']; rfl
    have plain : (∀ o, Ls1[i + 1]? = some (.val o) → o.category ≠ 2) → storeSelf Ls1 i (rf ad v) = setAt (Ls1.setIfInBounds i (.val (rf ad v))) (i + 1) .second := fun hno => by
      rw [open1, n1, g1]
      rcases hs : Ls1[i + 1] with _ | _ | old
      · rfl
      · rfl
      · show (if old.category = 2 then _ else _) = _
        rw [if_neg (hno old (by rw [g1, hs]))]
    have szz : i + 1 < (Ls1.setIfInBounds i (.val (rf ad v))).size := by simpa using hi2
    by_cases hb : ∃ o, Ls1[i + 1]? = some (.val o) ∧ o.category = 2
    · obtain ⟨o, ho, ho2⟩ := hb
      have b1 : Ls[i + 1]? = some (.val o) := by
        rcases p2 (i + 1) (by omega) with ⟨-, q⟩ | ⟨-, q⟩
        · rw [← q]; exact ho
        · rw [q] at ho; cases ho
      have h3 : i + 2 < Ls1.size := by rw [p1]; exact (Array.getElem?_eq_some_iff.mp (wf.2 _ _ b1 ho2)).1
      refine ⟨((Ls1.setIfInBounds i (.val (rf ad v))).setIfInBounds (i + 2) .unset).setIfInBounds (i + 1) .second, ?_, by simp, ?_, ?_, fun j hj hj' => ?_⟩
      · rw [open1, n1, ho]
        show (if o.category = 2 then _ else _) = _
        rw [if_pos ho2, setAt_ok (by simpa using h3)]
        show setAt _ (i + 1) .second = _
        rw [setAt_ok (by simpa using hi2)]
      · rw [Array.getElem?_setIfInBounds_ne (by omega), Array.getElem?_setIfInBounds_ne (by omega)]; simp [hi1]
      · simp [hi2]
      · rw [Array.getElem?_setIfInBounds_ne (by omega)]
        by_cases z : j = i + 2
        · subst z; right; exact ⟨by simp [h3], rfl, o, ho, ho2⟩
        · left; exact ⟨by rw [Array.getElem?_setIfInBounds_ne (by omega), Array.getElem?_setIfInBounds_ne (by omega)], fun q => z q.1⟩
    · refine ⟨(Ls1.setIfInBounds i (.val (rf ad v))).setIfInBounds (i + 1) .second, ?_, by simp, ?_, ?_, fun j hj hj' => Or.inl ⟨?_, fun q => hb q.2⟩⟩
      · rw [plain fun o ho q => hb ⟨o, ho, q⟩, setAt_ok szz]
      · rw [Array.getElem?_setIfInBounds_ne (by omega)]; simp [hi1]
      · simp [hi2]
      · rw [Array.getElem?_setIfInBounds_ne (by omega), Array.getElem?_setIfInBounds_ne (by omega)]
  obtain ⟨Ls', e2, sz, at_i, at_i1, at_j⟩ := key
  -- i + 1 seen from Ls
  have up : ∀ o, Ls1[i + 1]? = some (.val o) → Ls[i + 1]? = some (.val o) := fun o ho => by
    rcases p2 (i + 1) (by omega) with ⟨-, q⟩ | ⟨-, q⟩
    · rw [← q]; exact ho
    · rw [q] at ho; cases ho
  have good : ∀ j, j ≠ i → j ≠ i + 1 → ¬ Bad Ls i j → ¬ (j = i + 2 ∧ ∃ o, Ls[i + 1]? = some (.val o) ∧ o.category = 2) → Ls'[j]? = Ls[j]? := fun j hj hj' hb hb' => by
    rcases at_j j hj hj' with ⟨q, -⟩ | ⟨-, q1, o, q2, q3⟩
    · rw [q]
      rcases p2 j hj with ⟨-, q⟩ | ⟨q, -⟩
      · exact q
      · exact absurd q hb
    · exact absurd ⟨q1, o, up o q2, q3⟩ hb'
  have back : ∀ j s, j ≠ i → j ≠ i + 1 → s ≠ .unset → Ls'[j]? = some s → ¬ Bad Ls i j ∧ Ls[j]? = some s ∧ ¬ (j = i + 2 ∧ ∃ o, Ls1[i + 1]? = some (.val o) ∧ o.category = 2) := fun j s hj hj' hs h => by
    rcases at_j j hj hj' with ⟨q, q0⟩ | ⟨q, -⟩
    · rw [q] at h
      rcases p2 j hj with ⟨q1, q'⟩ | ⟨-, q'⟩
      · exact ⟨q1, by rw [← q']; exact h, q0⟩
      · rw [q'] at h; cases h; exact absurd rfl hs
    · rw [q] at h; cases h; exact absurd rfl hs
  have s2 := st2_at v L i hi
  refine ⟨_, e.trans e2, ⟨by rw [st2_len, l1, sz, p1], fun j w hj => ?_, fun j hj => ?_, fun j hj => ?_, fun j w hj hc => ?_⟩, by rw [sz, p1]⟩
  · by_cases q : j = i
    · subst q
      rw [s2.1] at hj
      cases hj; exact at_i
    · by_cases q1 : j = i + 1
      · subst q1; rw [s2.2] at hj; cases hj
      · obtain ⟨a1, a2, -⟩ := st2_else v L i j _ q q1 hj (by simp)
        have b1 := l2 j w a1
        rw [good j q q1 (not_bad_val wf b1 fun z => by rw [rf_cat]; exact a2 z w rfl) ?_]; exact b1
        rintro ⟨rfl, o, z1, z2⟩
        have := wf.2 _ _ z1 z2
        cases this.symm.trans b1
  · by_cases q : j = i
    · subst q
      rw [s2.1] at hj
      cases hj
    · by_cases q1 : j = i + 1
      · subst q1; exact at_i1
      · obtain ⟨a1, -, a3⟩ := st2_else v L i j _ q q1 hj (by simp)
        have b1 := l3 j a1
        rw [good j q q1 (not_bad_second wf b1 q1) fun z => a3 z.1 rfl]; exact b1
  · dsimp only at hj ⊢
    by_cases q1 : j = i + 1
    · subst q1; exact ⟨i, _, rfl, at_i, hv'⟩
    have q : j ≠ i := fun q => by subst q; rw [at_i] at hj; cases hj
    obtain ⟨b1, b2, b3⟩ := back j _ q q1 (by simp) hj
    obtain ⟨j0, v', rfl, h1, h2⟩ := wf.1 j b2
    dsimp only at h1
    have q0 : j0 ≠ i := fun z => b1 (Or.inr ⟨by omega, v', z ▸ h1, h2⟩)
    -- j0 = i + 1: then j = i + 2 was wiped
    have q0' : j0 ≠ i + 1 := fun z => by
      subst z
      rcases p2 (i + 1) (by omega) with ⟨-, w1⟩ | ⟨w1, -⟩
      · exact b3 ⟨rfl, v', by rw [w1]; exact h1, h2⟩
      · rcases w1 with ⟨w1, -⟩ | ⟨-, o, w1, w2⟩
        · omega
        · have := wf.2 _ _ w1 w2
          cases this.symm.trans h1
    refine ⟨j0, v', rfl, ?_, h2⟩
    rw [good j0 q0 q0' ?_ ?_]; exact h1
    · rintro (⟨z, -⟩ | ⟨z, -⟩)
      · exact q z
      · exact q0' z
    · rintro ⟨rfl, o, z1, z2⟩
      have := wf.2 _ _ z1 z2
      cases this.symm.trans h1
  · dsimp only at hj ⊢
    by_cases q1 : j = i
    · subst q1; exact at_i1
    have q : j ≠ i + 1 := fun q => by subst q; rw [at_i1] at hj; cases hj
    obtain ⟨b1, b2, -⟩ := back j _ q1 q (by simp) hj
    have h1 := wf.2 j w b2 hc
    dsimp only at h1
    have q0 : j + 1 ≠ i := fun z => b1 (Or.inl ⟨z, z ▸ h1⟩)
    rw [good (j + 1) q0 (by omega) ?_ ?_]; exact h1
    · rintro (⟨z, z1⟩ | ⟨z, -⟩)
      · obtain ⟨j1, v1, e1, e2, -⟩ := wf.1 _ z1
        obtain rfl : j1 = j + 1 := by omega
        cases h1.symm.trans e2
      · omega
    · rintro ⟨z, -⟩; omega
/-! what is known less of -/
def leL : List Slot → List Slot → Prop
  | [], [] => True
  | .unset :: a, _ :: b => leL a b
  | x :: a, y :: b => x = y ∧ leL a b
  | _, _ => False
theorem leL_len : ∀ {A B : List Slot}, leL A B → A.length = B.length
  | [], [], _ => rfl
  | .unset :: a, _ :: b, h => congrArg Nat.succ (leL_len (A := a) (B := b) h)
  | .second :: a, _ :: b, h => congrArg Nat.succ (leL_len (A := a) (B := b) h.2)
  | .val _ :: a, _ :: b, h => congrArg Nat.succ (leL_len (A := a) (B := b) h.2)
theorem leL_get : ∀ {A B : List Slot}, leL A B → ∀ {i : Nat} {s : Slot}, A[i]? = some s → s ≠ .unset → B[i]? = some s
  | [], [], _, i, s, h, _ => by simp at h
  | .unset :: a, _ :: b, _, 0, s, h, hs => by simp at h; exact absurd h.symm hs
  | .unset :: a, _ :: b, hl, i + 1, s, h, hs => by simpa using leL_get (A := a) (B := b) hl (by simpa using h) hs
  | .second :: a, _ :: b, hl, 0, s, h, hs => by simp at h; subst h; simp [← hl.1]
  | .second :: a, _ :: b, hl, i + 1, s, h, hs => by simpa using leL_get (A := a) (B := b) hl.2 (by simpa using h) hs
  | .val _ :: a, _ :: b, hl, 0, s, h, hs => by simp at h; subst h; simp [← hl.1]
  | .val _ :: a, _ :: b, hl, i + 1, s, h, hs => by simpa using leL_get (A := a) (B := b) hl.2 (by simpa using h) hs
theorem LR.weak {ad : Nat → Addr} {A B : List Slot} {Ls : Array Slot} (h : leL A B) (hL : LR ad B Ls) : LR ad A Ls :=
  ⟨(leL_len h).trans hL.1, fun i v q => hL.2.1 i v (leL_get h q (by simp)), fun i q => hL.2.2.1 i (leL_get h q (by simp)), hL.2.2.2⟩
theorem wf_cons {x : Slot} {M : List Slot} (hx : x = .unset ∨ ∃ v, x = .val v ∧ v.category = 1) (h : WFs fun i => M[i]?) : WFs fun i => (x :: M)[i]? := by
  refine ⟨fun i hi => ?_, fun i v hi hc => ?_⟩
  · cases i with
    | zero => rcases hx with rfl | ⟨v, rfl, -⟩ <;> (simp at hi)
    | succ i =>
      obtain ⟨j, v, rfl, h1, h2⟩ := h.1 i (by simpa using hi)
      exact ⟨j + 1, v, rfl, by simpa using h1, h2⟩
  · cases i with
    | zero =>
      rcases hx with rfl | ⟨w, rfl, hw⟩
      · simp at hi
      · simp at hi; subst hi; rw [hw] at hc; cases hc
    | succ i => simpa using h.2 i v (by simpa using hi) hc
theorem wf_cons2 {w : Value} {M : List Slot} (hw : w.category = 2) (h : WFs fun i => M[i]?) : WFs fun i => (.val w :: .second :: M)[i]? := by
  refine ⟨fun i hi => ?_, fun i v hi hc => ?_⟩
  · match i, hi with
    | 0, hi => simp at hi
    | 1, _ => exact ⟨0, w, rfl, rfl, hw⟩
    | i + 2, hi =>
      obtain ⟨j, v, rfl, h1, h2⟩ := h.1 i (by simpa using hi)
      exact ⟨j + 2, v, rfl, by simpa using h1, h2⟩
  · match i, hi with
    | 0, _ => rfl
    | 1, hi => simp at hi
    | i + 2, hi => simpa using h.2 i v (by simpa using hi) hc
/-- the local variables at the entry -/
def laid : List Value → List Slot
  | [] => []
  | v :: vs => if v.category = 2 then .val v :: .second :: laid vs else .val v :: laid vs
def entL (as : List Value) (n : Nat) : List Slot := laid as ++ List.replicate (n - (laid as).length) Slot.unset
theorem laid_rel (ad : Nat → Addr) (k : Nat) : ∀ as : List Value, (laid as ++ List.replicate k Slot.unset).length = (laid (as.map (rf ad)) ++ List.replicate k Slot.unset).length ∧ (∀ (i : Nat) (v : Value), (laid as ++ List.replicate k Slot.unset)[i]? = some (.val v) → (laid (as.map (rf ad)) ++ List.replicate k Slot.unset)[i]? = some (.val (rf ad v))) ∧
    (∀ i : Nat, (laid as ++ List.replicate k Slot.unset)[i]? = some .second → (laid (as.map (rf ad)) ++ List.replicate k Slot.unset)[i]? = some .second) ∧ WFs fun i => (laid (as.map (rf ad)) ++ List.replicate k Slot.unset)[i]?
  | [] => by
    refine ⟨rfl, fun i v h => ?_, fun i h => h, fun i h => ?_, fun i v h => ?_⟩
    · simp [laid, List.getElem?_replicate] at h
    · simp [laid, List.getElem?_replicate] at h
    · simp [laid, List.getElem?_replicate] at h
  | v :: vs => by
    obtain ⟨a1, a2, a3, a4⟩ := laid_rel ad k vs
    have hc : (rf ad v).category = v.category := rf_cat ad v
    by_cases h : v.category = 2
    · have e1 : laid (v :: vs) = .val v :: .second :: laid vs := if_pos h
      have e2 : laid ((v :: vs).map (rf ad)) = .val (rf ad v) :: .second :: laid (vs.map (rf ad)) := if_pos (hc.trans h)
      rw [e1, e2]
      refine ⟨by simpa using a1, fun i w hi => ?_, fun i hi => ?_, wf_cons2 (hc.trans h) a4⟩
      · match i, hi with
        | 0, hi => simp at hi; subst hi; rfl
        | 1, hi => simp at hi
        | i + 2, hi => simpa using a2 i w (by simpa using hi)
      · match i, hi with
        | 0, hi => simp at hi
        | 1, hi => rfl
        | i + 2, hi => simpa using a3 i (by simpa using hi)
    · have e1 : laid (v :: vs) = .val v :: laid vs := if_neg h
      have e2 : laid ((v :: vs).map (rf ad)) = .val (rf ad v) :: laid (vs.map (rf ad)) := if_neg (by rw [hc]; exact h)
      have h1 : (rf ad v).category = 1 := by
        rw [hc]; cases v <;> first | rfl | exact absurd rfl h
      rw [e1, e2]
      refine ⟨by simpa using a1, fun i w hi => ?_, fun i hi => ?_, wf_cons (Or.inr ⟨_, rfl, h1⟩) a4⟩
      · match i, hi with
        | 0, hi => simp at hi; subst hi; rfl
        | i + 1, hi => simpa using a2 i w (by simpa using hi)
      · match i, hi with
        | 0, hi => simp at hi
        | i + 1, hi => simpa using a3 i (by simpa using hi)
theorem laid_foldl : ∀ (as : List Value) (acc : Array Slot), (as.foldl (fun acc v => if v.category = 2 then (acc.push (.val v)).push .second else acc.push (.val v)) acc).toList = acc.toList ++ laid as
  | [], acc => by simp [laid]
  | v :: vs, acc => by
    show (List.foldl _ (if v.category = 2 then (acc.push (.val v)).push .second else acc.push (.val v)) vs : Array Slot).toList = _
    rw [laid_foldl vs]
    by_cases h : v.category = 2
    · rw [if_pos h, show laid (v :: vs) = .val v :: .second :: laid vs from if_pos h]; simp
    · rw [if_neg h, show laid (v :: vs) = .val v :: laid vs from if_neg h]; simp
theorem laid_map_len (ad : Nat → Addr) (as : List Value) : (laid (as.map (rf ad))).length = (laid as).length := by
  have := (laid_rel ad 0 as).1
  simpa using this.symm
theorem entry_LR (ad : Nat → Addr) (as : List Value) (n : Nat) (hn : (laid as).length ≤ n) : LR ad (entL as n) (argsToLocals (as.map (rf ad)).toArray n) ∧ (argsToLocals (as.map (rf ad)).toArray n).size = n := by
  have e : (argsToLocals (as.map (rf ad)).toArray n).toList = laid (as.map (rf ad)) ++ List.replicate (n - (laid as).length) Slot.unset := by
    have e1 := laid_foldl (as.map (rf ad)) #[]
    have e2 : ((as.map (rf ad)).toArray.foldl (fun acc v => if v.category = 2 then (acc.push (.val v)).push .second else acc.push (.val v)) #[] : Array Slot).toList = laid (as.map (rf ad)) := by
      rw [List.foldl_toArray']
      · rw [e1]; rfl
      · rfl
    have e3 : ((as.map (rf ad)).toArray.foldl (fun acc v => if v.category = 2 then (acc.push (.val v)).push .second else acc.push (.val v)) #[] : Array Slot).size = (laid as).length := by
      rw [← Array.length_toList, e2, laid_map_len]
    show (_ ++ Array.replicate (n - _) Slot.unset).toList = _
    rw [Array.toList_append, e2, Array.toList_replicate, e3]
  obtain ⟨a1, a2, a3, a4⟩ := laid_rel ad (n - (laid as).length) as
  have g : ∀ i : Nat, (argsToLocals (as.map (rf ad)).toArray n)[i]? = (laid (as.map (rf ad)) ++ List.replicate (n - (laid as).length) Slot.unset)[i]? := fun i => by rw [← e, Array.getElem?_toList]
  have sz : (argsToLocals (as.map (rf ad)).toArray n).size = (laid (as.map (rf ad)) ++ List.replicate (n - (laid as).length) Slot.unset).length := by rw [← e, Array.length_toList]
  refine ⟨⟨by rw [sz]; exact a1, fun i v h => by rw [g]; exact a2 i v h, fun i h => by rw [g]; exact a3 i h, ?_⟩, by rw [sz, ← a1]; simp; omega⟩
  have : (fun i => (argsToLocals (as.map (rf ad)).toArray n)[i]?) = fun i => (laid (as.map (rf ad)) ++ List.replicate (n - (laid as).length) Slot.unset)[i]? := funext g
  rw [this]; exact a4
/-! ## reading and writing a list as Java does an array -/
def rd {α : Type} (xs : List α) (i : Int32) : Option α := if i < 0 then none else xs[i.toNatClampNeg]?
def wr {α : Type} (xs : List α) (i : Int32) (x : α) : Option (List α) := if i < 0 then none else if i.toNatClampNeg < xs.length then some (xs.set i.toNatClampNeg x) else none
theorem rd_slots {α : Type} {f : α → Value} {sl : Array Value} {xs : List α} (h : sl.toList = xs.map f) {j : Int32} {x : α} (hx : rd xs j = some x) : ¬ (j < 0 ∨ sl.size ≤ j.toNatClampNeg) ∧ sl[j.toNatClampNeg]? = some (f x) := by
  unfold rd at hx
  by_cases hj : j < 0
  · rw [if_pos hj] at hx; cases hx
  · rw [if_neg hj] at hx
    have h1 : sl[j.toNatClampNeg]? = some (f x) := by rw [← Array.getElem?_toList, h, List.getElem?_map, hx]; rfl
    exact ⟨fun q => q.elim hj fun q => absurd (Array.getElem?_eq_some_iff.mp h1).1 (Nat.not_lt.mpr q), h1⟩
theorem wr_slots {α : Type} {f : α → Value} {cl : Cell} {xs xs' : List α} (h : cl.slots.toList = xs.map f) {j : Int32} {x : α} (hx : wr xs j x = some xs') : ¬ (j < 0 ∨ cl.slots.size ≤ j.toNatClampNeg) ∧ (cl.setSlot j.toNatClampNeg (f x)).slots.toList = xs'.map f := by
  unfold wr at hx
  by_cases hj : j < 0
  · rw [if_pos hj] at hx; cases hx
  · rw [if_neg hj] at hx
    by_cases hl : j.toNatClampNeg < xs.length
    · rw [if_pos hl] at hx; cases hx
      have sz : cl.slots.size = xs.length := by rw [← Array.length_toList, h, List.length_map]
      refine ⟨fun q => q.elim hj fun q => by omega, ?_⟩
      show (cl.slots.setIfInBounds _ _).toList = _
      rw [Array.toList_setIfInBounds, h, List.map_set]
    · rw [if_neg hl] at hx; cases hx
/-! ## the walk's promise, said of the small view -/
def Am (Z : State) (own mn : String) (bytes : ByteArray) (maxL : Nat) (ret : Option FieldType) (p : Program) (s : State) (m : MethodId) (meth : Method) (c : Code) : Prop :=
  p.tables.exec = Jvm.exec ∧ Z.Warmed39 s.vm ∧ c.code = bytes ∧ c.maxLocals = maxL ∧ meth.sig.returnType = ret ∧ meth.locks = false ∧ s.vm.findClass own = some m.cls ∧ meth.name = mn
def WP (l : Launch) (Z : State) (C : String) (lay : List (String × String)) (own mn : String) (bytes : ByteArray) (maxL : Nat) (ret : Option FieldType) (R : Room) (n0 ro : Nat) (Q : Option Value → List OwnC → Prop) (k n pc : Nat) (L : List Slot) (S : List Value) (H : List OwnC) : Prop :=
  ∀ (p : Program) (e : Env) (s : State) (m : MethodId) (args : Array Value) (below : List Frame) (meth : Method) (c : Code) (T : State) (locs : List Loc) (ad : Nat → Addr) (Ls : Array Slot),
    Stand p l e R s m args below meth c T locs k n → Am Z own mn bytes maxL ret p s m meth c → HR Z C lay n0 ro ad H T.heap → Fr n0 locs → LR ad L Ls → Ls.size = maxL →
    ∃ (s₂ : State) (v : Option Value) (H' : List OwnC) (locs' : List Loc),
      Steps p.tables e below (T.setTop (mkF m pc Ls (S.map (rf ad)))) s₂ ∧ s₂.status = .running ∧ Ended s₂ below (.returned (v.map (rf ad))) ∧ Q v H' ∧ HR Z C lay n0 ro ad H' s₂.heap ∧ Kp ad H.length T.heap s₂.heap ∧ Fr n0 locs' ∧ FrameEnd s (.returned (v.map (rf ad))) s₂ locs' R.cells R.slots
section Rules
variable {l : Launch} {Z : State} {a0 : Array Value} {C : String} {lay : List (String × String)} {own mn : String} {bytes : ByteArray} {maxL : Nat} {ret : Option FieldType} {R : Room} {n0 ro : Nat} {Q : Option Value → List OwnC → Prop} {k n pc pc' : Nat} {L L' : List Slot} {S S' : List Value} {H H' : List OwnC}
theorem WP.weak (h : leL L' L) (nx : WP l Z C lay own mn bytes maxL ret R n0 ro Q k n pc L' S H) : WP l Z C lay own mn bytes maxL ret R n0 ro Q k n pc L S H :=
  fun p e s m args below meth c T locs ad Ls X A hr N hL hz => nx p e s m args below meth c T locs ad Ls X A hr N (LR.weak h hL) hz
theorem WP.of (hs : ∀ (p : Program) (e : Env) (s : State) (m : MethodId) (args : Array Value) (below : List Frame) (meth : Method) (c : Code) (T : State) (locs : List Loc) (ad : Nat → Addr) (Ls : Array Slot), Stand p l e R s m args below meth c T locs k n → Am Z own mn bytes maxL ret p s m meth c → LR ad L Ls → Ls.size = maxL →
      ∃ Ls', LR ad L' Ls' ∧ Ls'.size = maxL ∧ ∀ t, Steps p.tables e below (T.setTop (mkF m pc' Ls' (S'.map (rf ad)))) t → Steps p.tables e below (T.setTop (mkF m pc Ls (S.map (rf ad)))) t)
    (nx : WP l Z C lay own mn bytes maxL ret R n0 ro Q k n pc' L' S' H) : WP l Z C lay own mn bytes maxL ret R n0 ro Q k n pc L S H := by
  intro p e s m args below meth c T locs ad Ls X A hr N hL hz
  obtain ⟨Ls', hL', hz', st⟩ := hs p e s m args below meth c T locs ad Ls X A hL hz
  obtain ⟨s₂, v, H', locs', h1, h2⟩ := nx p e s m args below meth c T locs ad Ls' X A hr N hL' hz'
  exact ⟨s₂, v, H', locs', st _ h1, h2⟩
theorem WP.iload {j : Nat} {x : Int32} (hd : decode bytes pc = .ok (.iload j, 2)) (hl : L[j]? = some (.val (.int x))) (nx : WP l Z C lay own mn bytes maxL ret R n0 ro Q k n (pc + 2) L (.int x :: S) H) : WP l Z C lay own mn bytes maxL ret R n0 ro Q k n pc L (S) H :=
  WP.of (fun p e s m args below meth c T locs ad Ls X A hL hz => ⟨Ls, hL, hz, fun t ht => XS.iload X.here A.1 rfl (hb A.2.2.1 hd) (hL.2.1 _ _ hl) ht⟩) nx
theorem WP.iloadN {j : Fin 4} {x : Int32} (hd : decode bytes pc = .ok (.iload_n j, 1)) (hl : L[j.val]? = some (.val (.int x))) (nx : WP l Z C lay own mn bytes maxL ret R n0 ro Q k n (pc + 1) L (.int x :: S) H) : WP l Z C lay own mn bytes maxL ret R n0 ro Q k n pc L (S) H :=
  WP.of (fun p e s m args below meth c T locs ad Ls X A hL hz => ⟨Ls, hL, hz, fun t ht => XS.iloadN X.here A.1 rfl (hb A.2.2.1 hd) (hL.2.1 _ _ hl) ht⟩) nx
theorem WP.lload {j : Nat} {x : Int64} (hd : decode bytes pc = .ok (.lload j, 2)) (hl : L[j]? = some (.val (.long x))) (nx : WP l Z C lay own mn bytes maxL ret R n0 ro Q k n (pc + 2) L (.long x :: S) H) : WP l Z C lay own mn bytes maxL ret R n0 ro Q k n pc L (S) H :=
  WP.of (fun p e s m args below meth c T locs ad Ls X A hL hz => ⟨Ls, hL, hz, fun t ht => XT.lload X.here A.1 rfl (hb A.2.2.1 hd) (hL.2.1 _ _ hl) ht⟩) nx
theorem WP.lloadN {j : Fin 4} {x : Int64} (hd : decode bytes pc = .ok (.lload_n j, 1)) (hl : L[j.val]? = some (.val (.long x))) (nx : WP l Z C lay own mn bytes maxL ret R n0 ro Q k n (pc + 1) L (.long x :: S) H) : WP l Z C lay own mn bytes maxL ret R n0 ro Q k n pc L (S) H :=
  WP.of (fun p e s m args below meth c T locs ad Ls X A hL hz => ⟨Ls, hL, hz, fun t ht => XT.lloadN X.here A.1 rfl (hb A.2.2.1 hd) (hL.2.1 _ _ hl) ht⟩) nx
theorem WP.aload {j : Nat} {i : Nat} (hd : decode bytes pc = .ok (.aload j, 2)) (hl : L[j]? = some (.val (.ref i))) (nx : WP l Z C lay own mn bytes maxL ret R n0 ro Q k n (pc + 2) L (.ref i :: S) H) : WP l Z C lay own mn bytes maxL ret R n0 ro Q k n pc L (S) H :=
  WP.of (fun p e s m args below meth c T locs ad Ls X A hL hz => ⟨Ls, hL, hz, fun t ht => XS.aload X.here A.1 rfl (hb A.2.2.1 hd) (hL.2.1 _ _ hl) rfl ht⟩) nx
theorem WP.aloadN {j : Fin 4} {i : Nat} (hd : decode bytes pc = .ok (.aload_n j, 1)) (hl : L[j.val]? = some (.val (.ref i))) (nx : WP l Z C lay own mn bytes maxL ret R n0 ro Q k n (pc + 1) L (.ref i :: S) H) : WP l Z C lay own mn bytes maxL ret R n0 ro Q k n pc L (S) H :=
  WP.of (fun p e s m args below meth c T locs ad Ls X A hL hz => ⟨Ls, hL, hz, fun t ht => XS.aloadN X.here A.1 rfl (hb A.2.2.1 hd) (hL.2.1 _ _ hl) rfl ht⟩) nx
theorem WP.iconst {i : Int} (v : Int32) (hd : decode bytes pc = .ok (.iconst i, 1)) (hv : Int32.ofInt i = v) (nx : WP l Z C lay own mn bytes maxL ret R n0 ro Q k n (pc + 1) L (.int v :: S) H) : WP l Z C lay own mn bytes maxL ret R n0 ro Q k n pc L (S) H :=
  WP.of (fun p e s m args below meth c T locs ad Ls X A hL hz => ⟨Ls, hL, hz, fun t ht => XS.iconst X.here A.1 rfl (hb A.2.2.1 hd) (by rw [hv]; exact ht)⟩) nx
theorem WP.bipush {i : Int} (v : Int32) (hd : decode bytes pc = .ok (.bipush i, 2)) (hv : (Int8.ofInt i).toInt32 = v) (nx : WP l Z C lay own mn bytes maxL ret R n0 ro Q k n (pc + 2) L (.int v :: S) H) : WP l Z C lay own mn bytes maxL ret R n0 ro Q k n pc L (S) H :=
  WP.of (fun p e s m args below meth c T locs ad Ls X A hL hz => ⟨Ls, hL, hz, fun t ht => XS.bipush X.here A.1 rfl (hb A.2.2.1 hd) (by rw [hv]; exact ht)⟩) nx
theorem WP.sipush {i : Int} (v : Int32) (hd : decode bytes pc = .ok (.sipush i, 3)) (hv : (Int16.ofInt i).toInt32 = v) (nx : WP l Z C lay own mn bytes maxL ret R n0 ro Q k n (pc + 3) L (.int v :: S) H) : WP l Z C lay own mn bytes maxL ret R n0 ro Q k n pc L (S) H :=
  WP.of (fun p e s m args below meth c T locs ad Ls X A hL hz => ⟨Ls, hL, hz, fun t ht => XS.sipush X.here A.1 rfl (hb A.2.2.1 hd) (by rw [hv]; exact ht)⟩) nx
theorem WP.lconst {j : Fin 2} (v : Int64) (hd : decode bytes pc = .ok (.lconst j, 1)) (hv : Int64.ofNat j = v) (nx : WP l Z C lay own mn bytes maxL ret R n0 ro Q k n (pc + 1) L (.long v :: S) H) : WP l Z C lay own mn bytes maxL ret R n0 ro Q k n pc L (S) H :=
  WP.of (fun p e s m args below meth c T locs ad Ls X A hL hz => ⟨Ls, hL, hz, fun t ht => XT.lconst X.here A.1 rfl (hb A.2.2.1 hd) (by rw [hv]; exact ht)⟩) nx
theorem WP.ldc {idx : Nat} {v : Int32} (hd : decode bytes pc = .ok (.ldc idx, 2)) (hw : (Cond.constant own idx v).before a0 Z = true) (nx : WP l Z C lay own mn bytes maxL ret R n0 ro Q k n (pc + 2) L (.int v :: S) H) : WP l Z C lay own mn bytes maxL ret R n0 ro Q k n pc L (S) H :=
  WP.of (fun p e s m args below meth c T locs ad Ls X A hL hz => ⟨Ls, hL, hz, fun t ht => X.ldcInt A.1 A.2.2.2.2.2.2.1 (mvT A.2.1 hw) (g := mkF m pc Ls (S.map (rf ad))) rfl (hb A.2.2.1 hd) t ht⟩) nx
theorem WP.ldcw {idx : Nat} {v : Int32} (hd : decode bytes pc = .ok (.ldc_w idx, 3)) (hw : (Cond.constant own idx v).before a0 Z = true) (nx : WP l Z C lay own mn bytes maxL ret R n0 ro Q k n (pc + 3) L (.int v :: S) H) : WP l Z C lay own mn bytes maxL ret R n0 ro Q k n pc L (S) H :=
  WP.of (fun p e s m args below meth c T locs ad Ls X A hL hz => ⟨Ls, hL, hz, fun t ht => X.ldcwInt A.1 A.2.2.2.2.2.2.1 (mvT A.2.1 hw) (g := mkF m pc Ls (S.map (rf ad))) rfl (hb A.2.2.1 hd) t ht⟩) nx
theorem WP.ldc2 {idx : Nat} {v : Int64} (hd : decode bytes pc = .ok (.ldc2_w idx, 3)) (hw : (Cond.constantLong own idx v).before a0 Z = true) (nx : WP l Z C lay own mn bytes maxL ret R n0 ro Q k n (pc + 3) L (.long v :: S) H) : WP l Z C lay own mn bytes maxL ret R n0 ro Q k n pc L (S) H :=
  WP.of (fun p e s m args below meth c T locs ad Ls X A hL hz => ⟨Ls, hL, hz, fun t ht => X.ldc2Long A.1 A.2.2.2.2.2.2.1 (mvT A.2.1 hw) (g := mkF m pc Ls (S.map (rf ad))) rfl (hb A.2.2.1 hd) t ht⟩) nx
theorem WP.iadd {x y : Int32} (hd : decode bytes pc = .ok (.iadd, 1)) (nx : WP l Z C lay own mn bytes maxL ret R n0 ro Q k n (pc + 1) L (.int (x + y) :: S) H) : WP l Z C lay own mn bytes maxL ret R n0 ro Q k n pc L (.int y :: .int x :: S) H :=
  WP.of (fun p e s m args below meth c T locs ad Ls X A hL hz => ⟨Ls, hL, hz, fun t ht => XS.iadd X.here A.1 rfl (hb A.2.2.1 hd) rfl ht⟩) nx
theorem WP.ladd {x y : Int64} (hd : decode bytes pc = .ok (.ladd, 1)) (nx : WP l Z C lay own mn bytes maxL ret R n0 ro Q k n (pc + 1) L (.long (x + y) :: S) H) : WP l Z C lay own mn bytes maxL ret R n0 ro Q k n pc L (.long y :: .long x :: S) H :=
  WP.of (fun p e s m args below meth c T locs ad Ls X A hL hz => ⟨Ls, hL, hz, fun t ht => XT.ladd X.here A.1 rfl (hb A.2.2.1 hd) rfl ht⟩) nx
theorem WP.isub {x y : Int32} (hd : decode bytes pc = .ok (.isub, 1)) (nx : WP l Z C lay own mn bytes maxL ret R n0 ro Q k n (pc + 1) L (.int (x - y) :: S) H) : WP l Z C lay own mn bytes maxL ret R n0 ro Q k n pc L (.int y :: .int x :: S) H :=
  WP.of (fun p e s m args below meth c T locs ad Ls X A hL hz => ⟨Ls, hL, hz, fun t ht => XS.isub X.here A.1 rfl (hb A.2.2.1 hd) rfl ht⟩) nx
theorem WP.lsub {x y : Int64} (hd : decode bytes pc = .ok (.lsub, 1)) (nx : WP l Z C lay own mn bytes maxL ret R n0 ro Q k n (pc + 1) L (.long (x - y) :: S) H) : WP l Z C lay own mn bytes maxL ret R n0 ro Q k n pc L (.long y :: .long x :: S) H :=
  WP.of (fun p e s m args below meth c T locs ad Ls X A hL hz => ⟨Ls, hL, hz, fun t ht => XT.lsub X.here A.1 rfl (hb A.2.2.1 hd) rfl ht⟩) nx
theorem WP.imul {x y : Int32} (hd : decode bytes pc = .ok (.imul, 1)) (nx : WP l Z C lay own mn bytes maxL ret R n0 ro Q k n (pc + 1) L (.int (x * y) :: S) H) : WP l Z C lay own mn bytes maxL ret R n0 ro Q k n pc L (.int y :: .int x :: S) H :=
  WP.of (fun p e s m args below meth c T locs ad Ls X A hL hz => ⟨Ls, hL, hz, fun t ht => XS.imul X.here A.1 rfl (hb A.2.2.1 hd) rfl ht⟩) nx
theorem WP.lmul {x y : Int64} (hd : decode bytes pc = .ok (.lmul, 1)) (nx : WP l Z C lay own mn bytes maxL ret R n0 ro Q k n (pc + 1) L (.long (x * y) :: S) H) : WP l Z C lay own mn bytes maxL ret R n0 ro Q k n pc L (.long y :: .long x :: S) H :=
  WP.of (fun p e s m args below meth c T locs ad Ls X A hL hz => ⟨Ls, hL, hz, fun t ht => XT.lmul X.here A.1 rfl (hb A.2.2.1 hd) rfl ht⟩) nx
theorem WP.iand {x y : Int32} (hd : decode bytes pc = .ok (.iand, 1)) (nx : WP l Z C lay own mn bytes maxL ret R n0 ro Q k n (pc + 1) L (.int (x &&& y) :: S) H) : WP l Z C lay own mn bytes maxL ret R n0 ro Q k n pc L (.int y :: .int x :: S) H :=
  WP.of (fun p e s m args below meth c T locs ad Ls X A hL hz => ⟨Ls, hL, hz, fun t ht => XS.iand X.here A.1 rfl (hb A.2.2.1 hd) rfl ht⟩) nx
theorem WP.land {x y : Int64} (hd : decode bytes pc = .ok (.land, 1)) (nx : WP l Z C lay own mn bytes maxL ret R n0 ro Q k n (pc + 1) L (.long (x &&& y) :: S) H) : WP l Z C lay own mn bytes maxL ret R n0 ro Q k n pc L (.long y :: .long x :: S) H :=
  WP.of (fun p e s m args below meth c T locs ad Ls X A hL hz => ⟨Ls, hL, hz, fun t ht => XT.land X.here A.1 rfl (hb A.2.2.1 hd) rfl ht⟩) nx
theorem WP.ior {x y : Int32} (hd : decode bytes pc = .ok (.ior, 1)) (nx : WP l Z C lay own mn bytes maxL ret R n0 ro Q k n (pc + 1) L (.int (x ||| y) :: S) H) : WP l Z C lay own mn bytes maxL ret R n0 ro Q k n pc L (.int y :: .int x :: S) H :=
  WP.of (fun p e s m args below meth c T locs ad Ls X A hL hz => ⟨Ls, hL, hz, fun t ht => XT.ior X.here A.1 rfl (hb A.2.2.1 hd) rfl ht⟩) nx
theorem WP.lor {x y : Int64} (hd : decode bytes pc = .ok (.lor, 1)) (nx : WP l Z C lay own mn bytes maxL ret R n0 ro Q k n (pc + 1) L (.long (x ||| y) :: S) H) : WP l Z C lay own mn bytes maxL ret R n0 ro Q k n pc L (.long y :: .long x :: S) H :=
  WP.of (fun p e s m args below meth c T locs ad Ls X A hL hz => ⟨Ls, hL, hz, fun t ht => XT.lor X.here A.1 rfl (hb A.2.2.1 hd) rfl ht⟩) nx
theorem WP.ixor {x y : Int32} (hd : decode bytes pc = .ok (.ixor, 1)) (nx : WP l Z C lay own mn bytes maxL ret R n0 ro Q k n (pc + 1) L (.int (x ^^^ y) :: S) H) : WP l Z C lay own mn bytes maxL ret R n0 ro Q k n pc L (.int y :: .int x :: S) H :=
  WP.of (fun p e s m args below meth c T locs ad Ls X A hL hz => ⟨Ls, hL, hz, fun t ht => XT.ixor X.here A.1 rfl (hb A.2.2.1 hd) rfl ht⟩) nx
theorem WP.lxor {x y : Int64} (hd : decode bytes pc = .ok (.lxor, 1)) (nx : WP l Z C lay own mn bytes maxL ret R n0 ro Q k n (pc + 1) L (.long (x ^^^ y) :: S) H) : WP l Z C lay own mn bytes maxL ret R n0 ro Q k n pc L (.long y :: .long x :: S) H :=
  WP.of (fun p e s m args below meth c T locs ad Ls X A hL hz => ⟨Ls, hL, hz, fun t ht => XT.lxor X.here A.1 rfl (hb A.2.2.1 hd) rfl ht⟩) nx
theorem WP.idiv {x y : Int32} (hd : decode bytes pc = .ok (.idiv, 1)) (hy : ¬ y = 0) (nx : WP l Z C lay own mn bytes maxL ret R n0 ro Q k n (pc + 1) L (.int (x / y) :: S) H) : WP l Z C lay own mn bytes maxL ret R n0 ro Q k n pc L (.int y :: .int x :: S) H :=
  WP.of (fun p e s m args below meth c T locs ad Ls X A hL hz => ⟨Ls, hL, hz, fun t ht => XS.idiv X.here A.1 rfl (hb A.2.2.1 hd) rfl hy ht⟩) nx
theorem WP.irem {x y : Int32} (hd : decode bytes pc = .ok (.irem, 1)) (hy : ¬ y = 0) (nx : WP l Z C lay own mn bytes maxL ret R n0 ro Q k n (pc + 1) L (.int (x % y) :: S) H) : WP l Z C lay own mn bytes maxL ret R n0 ro Q k n pc L (.int y :: .int x :: S) H :=
  WP.of (fun p e s m args below meth c T locs ad Ls X A hL hz => ⟨Ls, hL, hz, fun t ht => iremM X A.1 rfl (hb A.2.2.1 hd) rfl hy ht⟩) nx
theorem WP.ldiv {x y : Int64} (hd : decode bytes pc = .ok (.ldiv, 1)) (hy : ¬ y = 0) (nx : WP l Z C lay own mn bytes maxL ret R n0 ro Q k n (pc + 1) L (.long (x / y) :: S) H) : WP l Z C lay own mn bytes maxL ret R n0 ro Q k n pc L (.long y :: .long x :: S) H :=
  WP.of (fun p e s m args below meth c T locs ad Ls X A hL hz => ⟨Ls, hL, hz, fun t ht => XT.ldiv X.here A.1 rfl (hb A.2.2.1 hd) rfl hy ht⟩) nx
theorem lrem_mod (x y : Int64) : x - (x / y) * y = x % y := by
  apply Int64.toInt_inj.mp
  have h1 := Int64.le_toInt (x % y)
  have h2 := Int64.toInt_lt (x % y)
  rw [Int64.toInt_sub, Int64.toInt_mul, Int64.toInt_div, Int.bmod_mul_bmod, Int.sub_bmod_bmod, Int.mul_comm (x.toInt.tdiv y.toInt), ← Int.tmod_def, ← Int64.toInt_mod]
  exact Int.bmod_eq_of_le_mul_two (by omega) (by omega)
theorem WP.lrem {x y : Int64} (hd : decode bytes pc = .ok (.lrem, 1)) (hy : ¬ y = 0) (nx : WP l Z C lay own mn bytes maxL ret R n0 ro Q k n (pc + 1) L (.long (x % y) :: S) H) : WP l Z C lay own mn bytes maxL ret R n0 ro Q k n pc L (.long y :: .long x :: S) H :=
  WP.of (fun p e s m args below meth c T locs ad Ls X A hL hz => ⟨Ls, hL, hz, fun t ht => XT.lrem X.here A.1 rfl (hb A.2.2.1 hd) rfl hy (by rw [lrem_mod]; exact ht)⟩) nx
theorem WP.ishl {x y : Int32} (hd : decode bytes pc = .ok (.ishl, 1)) (nx : WP l Z C lay own mn bytes maxL ret R n0 ro Q k n (pc + 1) L (.int (x <<< (y &&& 31)) :: S) H) : WP l Z C lay own mn bytes maxL ret R n0 ro Q k n pc L (.int y :: .int x :: S) H :=
  WP.of (fun p e s m args below meth c T locs ad Ls X A hL hz => ⟨Ls, hL, hz, fun t ht => XT.ishl X.here A.1 rfl (hb A.2.2.1 hd) rfl ht⟩) nx
theorem WP.ishr {x y : Int32} (hd : decode bytes pc = .ok (.ishr, 1)) (nx : WP l Z C lay own mn bytes maxL ret R n0 ro Q k n (pc + 1) L (.int (x >>> (y &&& 31)) :: S) H) : WP l Z C lay own mn bytes maxL ret R n0 ro Q k n pc L (.int y :: .int x :: S) H :=
  WP.of (fun p e s m args below meth c T locs ad Ls X A hL hz => ⟨Ls, hL, hz, fun t ht => XT.ishr X.here A.1 rfl (hb A.2.2.1 hd) rfl ht⟩) nx
theorem WP.iushr {x y : Int32} (hd : decode bytes pc = .ok (.iushr, 1)) (nx : WP l Z C lay own mn bytes maxL ret R n0 ro Q k n (pc + 1) L (.int (XT.ushr x y) :: S) H) : WP l Z C lay own mn bytes maxL ret R n0 ro Q k n pc L (.int y :: .int x :: S) H :=
  WP.of (fun p e s m args below meth c T locs ad Ls X A hL hz => ⟨Ls, hL, hz, fun t ht => XT.iushr X.here A.1 rfl (hb A.2.2.1 hd) rfl ht⟩) nx
theorem WP.lshl {x : Int64} {y : Int32} (hd : decode bytes pc = .ok (.lshl, 1)) (nx : WP l Z C lay own mn bytes maxL ret R n0 ro Q k n (pc + 1) L (.long (x <<< (y.toInt64 &&& 63)) :: S) H) : WP l Z C lay own mn bytes maxL ret R n0 ro Q k n pc L (.int y :: .long x :: S) H :=
  WP.of (fun p e s m args below meth c T locs ad Ls X A hL hz => ⟨Ls, hL, hz, fun t ht => XT.lshl X.here A.1 rfl (hb A.2.2.1 hd) rfl ht⟩) nx
theorem WP.lshr {x : Int64} {y : Int32} (hd : decode bytes pc = .ok (.lshr, 1)) (nx : WP l Z C lay own mn bytes maxL ret R n0 ro Q k n (pc + 1) L (.long (x >>> (y.toInt64 &&& 63)) :: S) H) : WP l Z C lay own mn bytes maxL ret R n0 ro Q k n pc L (.int y :: .long x :: S) H :=
  WP.of (fun p e s m args below meth c T locs ad Ls X A hL hz => ⟨Ls, hL, hz, fun t ht => XT.lshr X.here A.1 rfl (hb A.2.2.1 hd) rfl ht⟩) nx
theorem WP.lushr {x : Int64} {y : Int32} (hd : decode bytes pc = .ok (.lushr, 1)) (nx : WP l Z C lay own mn bytes maxL ret R n0 ro Q k n (pc + 1) L (.long (XT.ushrL x y) :: S) H) : WP l Z C lay own mn bytes maxL ret R n0 ro Q k n pc L (.int y :: .long x :: S) H :=
  WP.of (fun p e s m args below meth c T locs ad Ls X A hL hz => ⟨Ls, hL, hz, fun t ht => XT.lushr X.here A.1 rfl (hb A.2.2.1 hd) rfl ht⟩) nx
theorem WP.ineg {x : Int32} (hd : decode bytes pc = .ok (.ineg, 1)) (nx : WP l Z C lay own mn bytes maxL ret R n0 ro Q k n (pc + 1) L (.int (-x) :: S) H) : WP l Z C lay own mn bytes maxL ret R n0 ro Q k n pc L (.int x :: S) H :=
  WP.of (fun p e s m args below meth c T locs ad Ls X A hL hz => ⟨Ls, hL, hz, fun t ht => XS.ineg X.here A.1 rfl (hb A.2.2.1 hd) rfl ht⟩) nx
theorem WP.lneg {x : Int64} (hd : decode bytes pc = .ok (.lneg, 1)) (nx : WP l Z C lay own mn bytes maxL ret R n0 ro Q k n (pc + 1) L (.long (-x) :: S) H) : WP l Z C lay own mn bytes maxL ret R n0 ro Q k n pc L (.long x :: S) H :=
  WP.of (fun p e s m args below meth c T locs ad Ls X A hL hz => ⟨Ls, hL, hz, fun t ht => XT.lneg X.here A.1 rfl (hb A.2.2.1 hd) rfl ht⟩) nx
theorem WP.i2l {x : Int32} (hd : decode bytes pc = .ok (.i2l, 1)) (nx : WP l Z C lay own mn bytes maxL ret R n0 ro Q k n (pc + 1) L (.long x.toInt64 :: S) H) : WP l Z C lay own mn bytes maxL ret R n0 ro Q k n pc L (.int x :: S) H :=
  WP.of (fun p e s m args below meth c T locs ad Ls X A hL hz => ⟨Ls, hL, hz, fun t ht => XT.i2l X.here A.1 rfl (hb A.2.2.1 hd) rfl ht⟩) nx
theorem WP.l2i {x : Int64} (hd : decode bytes pc = .ok (.l2i, 1)) (nx : WP l Z C lay own mn bytes maxL ret R n0 ro Q k n (pc + 1) L (.int x.toInt32 :: S) H) : WP l Z C lay own mn bytes maxL ret R n0 ro Q k n pc L (.long x :: S) H :=
  WP.of (fun p e s m args below meth c T locs ad Ls X A hL hz => ⟨Ls, hL, hz, fun t ht => XT.l2i X.here A.1 rfl (hb A.2.2.1 hd) rfl ht⟩) nx
theorem WP.lcmp {x y : Int64} (hd : decode bytes pc = .ok (.lcmp, 1)) (nx : WP l Z C lay own mn bytes maxL ret R n0 ro Q k n (pc + 1) L (.int (XT.cmpL x y) :: S) H) : WP l Z C lay own mn bytes maxL ret R n0 ro Q k n pc L (.long y :: .long x :: S) H :=
  WP.of (fun p e s m args below meth c T locs ad Ls X A hL hz => ⟨Ls, hL, hz, fun t ht => XT.lcmp X.here A.1 rfl (hb A.2.2.1 hd) rfl ht⟩) nx
theorem WP.dup {v : Value} (hd : decode bytes pc = .ok (.dup, 1)) (hc : v.category = 1) (nx : WP l Z C lay own mn bytes maxL ret R n0 ro Q k n (pc + 1) L (v :: v :: S) H) : WP l Z C lay own mn bytes maxL ret R n0 ro Q k n pc L (v :: S) H :=
  WP.of (fun p e s m args below meth c T locs ad Ls X A hL hz => ⟨Ls, hL, hz, fun t ht => XS.dup X.here A.1 rfl (hb A.2.2.1 hd) rfl (by rw [rf_cat]; exact hc) ht⟩) nx
theorem WP.dup2 {v w : Value} (hd : decode bytes pc = .ok (.dup2, 1)) (hc : v.category = 1) (hc' : w.category = 1) (nx : WP l Z C lay own mn bytes maxL ret R n0 ro Q k n (pc + 1) L (v :: w :: v :: w :: S) H) : WP l Z C lay own mn bytes maxL ret R n0 ro Q k n pc L (v :: w :: S) H :=
  WP.of (fun p e s m args below meth c T locs ad Ls X A hL hz => ⟨Ls, hL, hz, fun t ht => XT.dup2 X.here A.1 rfl (hb A.2.2.1 hd) rfl (by rw [rf_cat]; exact hc) (by rw [rf_cat]; exact hc') ht⟩) nx
theorem WP.dup2L {x : Int64} (hd : decode bytes pc = .ok (.dup2, 1)) (nx : WP l Z C lay own mn bytes maxL ret R n0 ro Q k n (pc + 1) L (.long x :: .long x :: S) H) : WP l Z C lay own mn bytes maxL ret R n0 ro Q k n pc L (.long x :: S) H :=
  WP.of (fun p e s m args below meth c T locs ad Ls X A hL hz => ⟨Ls, hL, hz, fun t ht => XT.dup2L X.here A.1 rfl (hb A.2.2.1 hd) rfl ht⟩) nx
theorem WP.pop {v : Value} (hd : decode bytes pc = .ok (.pop, 1)) (hc : v.category = 1) (nx : WP l Z C lay own mn bytes maxL ret R n0 ro Q k n (pc + 1) L (S) H) : WP l Z C lay own mn bytes maxL ret R n0 ro Q k n pc L (v :: S) H :=
  WP.of (fun p e s m args below meth c T locs ad Ls X A hL hz => ⟨Ls, hL, hz, fun t ht => XT.pop X.here A.1 rfl (hb A.2.2.1 hd) rfl (by rw [rf_cat]; exact hc) ht⟩) nx
theorem WP.istore {j : Nat} {x : Int32} (hd : decode bytes pc = .ok (.istore j, 2)) (hi : j < L.length) (hL' : st1 L j (.int x) = L') (nx : WP l Z C lay own mn bytes maxL ret R n0 ro Q k n (pc + 2) L' S H) : WP l Z C lay own mn bytes maxL ret R n0 ro Q k n pc L (.int x :: S) H :=
  WP.of (fun p e s m args below meth c T locs ad Ls X A hL hz => by
    obtain ⟨Ls', e1, e2, e3⟩ := hL.store1 hi (v := .int x) rfl
    exact ⟨Ls', hL' ▸ e2, e3.trans hz, fun t ht => XS.istore X.here A.1 rfl (hb A.2.2.1 hd) rfl e1 ht⟩) nx
theorem WP.istoreN {j : Fin 4} {x : Int32} (hd : decode bytes pc = .ok (.istore_n j, 1)) (hi : j.val < L.length) (hL' : st1 L j.val (.int x) = L') (nx : WP l Z C lay own mn bytes maxL ret R n0 ro Q k n (pc + 1) L' S H) : WP l Z C lay own mn bytes maxL ret R n0 ro Q k n pc L (.int x :: S) H :=
  WP.of (fun p e s m args below meth c T locs ad Ls X A hL hz => by
    obtain ⟨Ls', e1, e2, e3⟩ := hL.store1 hi (v := .int x) rfl
    exact ⟨Ls', hL' ▸ e2, e3.trans hz, fun t ht => XS.istoreN X.here A.1 rfl (hb A.2.2.1 hd) rfl e1 ht⟩) nx
theorem WP.astore {j : Nat} {i : Nat} (hd : decode bytes pc = .ok (.astore j, 2)) (hi : j < L.length) (hL' : st1 L j (.ref i) = L') (nx : WP l Z C lay own mn bytes maxL ret R n0 ro Q k n (pc + 2) L' S H) : WP l Z C lay own mn bytes maxL ret R n0 ro Q k n pc L (.ref i :: S) H :=
  WP.of (fun p e s m args below meth c T locs ad Ls X A hL hz => by
    obtain ⟨Ls', e1, e2, e3⟩ := hL.store1 hi (v := .ref i) rfl
    exact ⟨Ls', hL' ▸ e2, e3.trans hz, fun t ht => XS.astore X.here A.1 rfl (hb A.2.2.1 hd) rfl rfl e1 ht⟩) nx
theorem WP.astoreN {j : Fin 4} {i : Nat} (hd : decode bytes pc = .ok (.astore_n j, 1)) (hi : j.val < L.length) (hL' : st1 L j.val (.ref i) = L') (nx : WP l Z C lay own mn bytes maxL ret R n0 ro Q k n (pc + 1) L' S H) : WP l Z C lay own mn bytes maxL ret R n0 ro Q k n pc L (.ref i :: S) H :=
  WP.of (fun p e s m args below meth c T locs ad Ls X A hL hz => by
    obtain ⟨Ls', e1, e2, e3⟩ := hL.store1 hi (v := .ref i) rfl
    exact ⟨Ls', hL' ▸ e2, e3.trans hz, fun t ht => XS.astoreN X.here A.1 rfl (hb A.2.2.1 hd) rfl rfl e1 ht⟩) nx
theorem WP.lstore {j : Nat} {x : Int64} (hd : decode bytes pc = .ok (.lstore j, 2)) (hi : j + 1 < L.length) (hL' : st2 L j (.long x) = L') (nx : WP l Z C lay own mn bytes maxL ret R n0 ro Q k n (pc + 2) L' S H) : WP l Z C lay own mn bytes maxL ret R n0 ro Q k n pc L (.long x :: S) H :=
  WP.of (fun p e s m args below meth c T locs ad Ls X A hL hz => by
    obtain ⟨Ls', e1, e2, e3⟩ := hL.store2 hi (v := .long x) rfl
    exact ⟨Ls', hL' ▸ e2, e3.trans hz, fun t ht => XT.lstore X.here A.1 rfl (hb A.2.2.1 hd) rfl e1 ht⟩) nx
theorem WP.lstoreN {j : Fin 4} {x : Int64} (hd : decode bytes pc = .ok (.lstore_n j, 1)) (hi : j.val + 1 < L.length) (hL' : st2 L j.val (.long x) = L') (nx : WP l Z C lay own mn bytes maxL ret R n0 ro Q k n (pc + 1) L' S H) : WP l Z C lay own mn bytes maxL ret R n0 ro Q k n pc L (.long x :: S) H :=
  WP.of (fun p e s m args below meth c T locs ad Ls X A hL hz => by
    obtain ⟨Ls', e1, e2, e3⟩ := hL.store2 hi (v := .long x) rfl
    exact ⟨Ls', hL' ▸ e2, e3.trans hz, fun t ht => XT.lstoreN X.here A.1 rfl (hb A.2.2.1 hd) rfl e1 ht⟩) nx
theorem WP.iinc {j : Nat} {cst : Int} {x : Int32} (v : Int32) (hd : decode bytes pc = .ok (.iinc j cst, 3)) (hv : Int32.ofInt cst = v) (hl : L[j]? = some (.val (.int x))) (hL' : st1 L j (.int (x + v)) = L') (nx : WP l Z C lay own mn bytes maxL ret R n0 ro Q k n (pc + 3) L' S H) : WP l Z C lay own mn bytes maxL ret R n0 ro Q k n pc L S H :=
  WP.of (fun p e s m args below meth c T locs ad Ls X A hL hz => by
    subst hv
    obtain ⟨Ls', e1, e2, e3⟩ := hL.store1 (get_lt hl) (v := .int (x + Int32.ofInt cst)) rfl
    exact ⟨Ls', hL' ▸ e2, e3.trans hz, fun t ht => XS.iinc X.here A.1 rfl (hb A.2.2.1 hd) (hL.2.1 _ _ hl) e1 ht⟩) nx
theorem iincW {tb : Tables} [Ours tb] {e : Env} {below : List Frame} {T target : State} {m : MethodId} {c : Code} {g : JFrame} (h : At T m c below) (hx : tb.exec = Jvm.exec) (hg : g.method = m) {k : Nat} {cst : Int} {x : Int32} {l' : Array Slot} (hd : decode c.code g.pc = .ok (.iinc k cst, 6)) (hl : g.locals[k]? = some (.val (.int x))) (hl' : storeLocals g.locals k (.int (x + Int32.ofInt cst)) = some l')
    (hr : Steps tb e below (T.setTop { g with pc := g.pc + 6, locals := l' }) target) : Steps tb e below (T.setTop g) target := by
  subst hg
  jvm_step h [h.top, hx, hd, hl, hl']
  exact hr
theorem WP.iincW {j : Nat} {cst : Int} {x : Int32} (v : Int32) (hd : decode bytes pc = .ok (.iinc j cst, 6)) (hv : Int32.ofInt cst = v) (hl : L[j]? = some (.val (.int x))) (hL' : st1 L j (.int (x + v)) = L') (nx : WP l Z C lay own mn bytes maxL ret R n0 ro Q k n (pc + 6) L' S H) : WP l Z C lay own mn bytes maxL ret R n0 ro Q k n pc L S H :=
  WP.of (fun p e s m args below meth c T locs ad Ls X A hL hz => by
    subst hv
    obtain ⟨Ls', e1, e2, e3⟩ := hL.store1 (get_lt hl) (v := .int (x + Int32.ofInt cst)) rfl
    exact ⟨Ls', hL' ▸ e2, e3.trans hz, fun t ht => Own.iincW X.here A.1 rfl (hb A.2.2.1 hd) (hL.2.1 _ _ hl) e1 ht⟩) nx
theorem WP.goto {o : Int} (hd : decode bytes pc = .ok (.goto o, 3)) (ho : 0 ≤ (pc : Int) + o) (hp : ((pc : Int) + o).toNat = pc') (nx : WP l Z C lay own mn bytes maxL ret R n0 ro Q k n pc' L S H) : WP l Z C lay own mn bytes maxL ret R n0 ro Q k n pc L S H :=
  WP.of (fun p e s m args below meth c T locs ad Ls X A hL hz => ⟨Ls, hL, hz, fun t ht => XS.goto X.here A.1 rfl rfl (hb A.2.2.1 hd) ho hp ht⟩) nx
theorem WP.ifY {cd : ClassFile.Cond} {x : Int32} {o : Int} (hd : decode bytes pc = .ok (.ifCond cd o, 3)) (hc : ifCond.holds cd x = true) (ho : 0 ≤ (pc : Int) + o) (hp : ((pc : Int) + o).toNat = pc') (nx : WP l Z C lay own mn bytes maxL ret R n0 ro Q k n pc' L S H) : WP l Z C lay own mn bytes maxL ret R n0 ro Q k n pc L (.int x :: S) H :=
  WP.of (fun p e s m args below meth c T locs ad Ls X A hL hz => ⟨Ls, hL, hz, fun t ht => XS.ifYes X.here A.1 rfl rfl (hb A.2.2.1 hd) rfl hc ho hp ht⟩) nx
theorem WP.ifN {cd : ClassFile.Cond} {x : Int32} {o : Int} (hd : decode bytes pc = .ok (.ifCond cd o, 3)) (hc : ifCond.holds cd x = false) (nx : WP l Z C lay own mn bytes maxL ret R n0 ro Q k n (pc + 3) L S H) : WP l Z C lay own mn bytes maxL ret R n0 ro Q k n pc L (.int x :: S) H :=
  WP.of (fun p e s m args below meth c T locs ad Ls X A hL hz => ⟨Ls, hL, hz, fun t ht => XS.ifNo X.here A.1 rfl (hb A.2.2.1 hd) rfl hc ht⟩) nx
theorem WP.icmpY {cd : ClassFile.Cond} {x y : Int32} {o : Int} (hd : decode bytes pc = .ok (.if_icmp cd o, 3)) (hc : if_icmp.holds cd x y = true) (ho : 0 ≤ (pc : Int) + o) (hp : ((pc : Int) + o).toNat = pc') (nx : WP l Z C lay own mn bytes maxL ret R n0 ro Q k n pc' L S H) : WP l Z C lay own mn bytes maxL ret R n0 ro Q k n pc L (.int y :: .int x :: S) H :=
  WP.of (fun p e s m args below meth c T locs ad Ls X A hL hz => ⟨Ls, hL, hz, fun t ht => XS.icmpYes X.here A.1 rfl rfl (hb A.2.2.1 hd) rfl hc ho hp ht⟩) nx
theorem WP.icmpN {cd : ClassFile.Cond} {x y : Int32} {o : Int} (hd : decode bytes pc = .ok (.if_icmp cd o, 3)) (hc : if_icmp.holds cd x y = false) (nx : WP l Z C lay own mn bytes maxL ret R n0 ro Q k n (pc + 3) L S H) : WP l Z C lay own mn bytes maxL ret R n0 ro Q k n pc L (.int y :: .int x :: S) H :=
  WP.of (fun p e s m args below meth c T locs ad Ls X A hL hz => ⟨Ls, hL, hz, fun t ht => XS.icmpNo X.here A.1 rfl (hb A.2.2.1 hd) rfl hc ht⟩) nx
theorem WP.nonnull {i : Nat} {o : Int} (hd : decode bytes pc = .ok (.ifnonnull o, 3)) (ho : 0 ≤ (pc : Int) + o) (hp : ((pc : Int) + o).toNat = pc') (nx : WP l Z C lay own mn bytes maxL ret R n0 ro Q k n pc' L S H) : WP l Z C lay own mn bytes maxL ret R n0 ro Q k n pc L (.ref i :: S) H :=
  WP.of (fun p e s m args below meth c T locs ad Ls X A hL hz => ⟨Ls, hL, hz, fun t ht => XT.ifnonnullYes X.here A.1 rfl rfl (hb A.2.2.1 hd) rfl ho hp ht⟩) nx
theorem WP.tswIn {dflt low high o : Int} {offs : Array Int} {len : Nat} {i : Int32} (hd : decode bytes pc = .ok (.tableswitch dflt low high offs, len)) (hin : ¬ (i.toInt < low ∨ i.toInt > high)) (hoff : offs[(i.toInt - low).toNat]? = some o) (ho : 0 ≤ (pc : Int) + o) (hp : ((pc : Int) + o).toNat = pc') (nx : WP l Z C lay own mn bytes maxL ret R n0 ro Q k n pc' L S H) : WP l Z C lay own mn bytes maxL ret R n0 ro Q k n pc L (.int i :: S) H :=
  WP.of (fun p e s m args below meth c T locs ad Ls X A hL hz => ⟨Ls, hL, hz, fun t ht => XS.tswIn X.here A.1 rfl rfl (hb A.2.2.1 hd) rfl hin hoff ho hp ht⟩) nx
theorem WP.tswOut {dflt low high : Int} {offs : Array Int} {len : Nat} {i : Int32} (hd : decode bytes pc = .ok (.tableswitch dflt low high offs, len)) (hout : i.toInt < low ∨ i.toInt > high) (ho : 0 ≤ (pc : Int) + dflt) (hp : ((pc : Int) + dflt).toNat = pc') (nx : WP l Z C lay own mn bytes maxL ret R n0 ro Q k n pc' L S H) : WP l Z C lay own mn bytes maxL ret R n0 ro Q k n pc L (.int i :: S) H :=
  WP.of (fun p e s m args below meth c T locs ad Ls X A hL hz => ⟨Ls, hL, hz, fun t ht => XS.tswOut X.here A.1 rfl rfl (hb A.2.2.1 hd) rfl hout ho hp ht⟩) nx
theorem tsw_miss {i : Int32} {low high : Int} (h : ∀ z : Int, low ≤ z → z ≤ high → ¬ i = Int32.ofInt z) : i.toInt < low ∨ i.toInt > high := by
  by_cases a : i.toInt < low
  · exact Or.inl a
  · by_cases b : i.toInt > high
    · exact Or.inr b
    · exact absurd (by rw [Int32.ofInt_toInt]) (h i.toInt (by omega) (by omega))
theorem WP.moved (hs : ∀ (p : Program) (e : Env) (s : State) (m : MethodId) (args : Array Value) (below : List Frame) (meth : Method) (c : Code) (T : State) (locs : List Loc) (ad : Nat → Addr) (Ls : Array Slot), Stand p l e R s m args below meth c T locs k n → Am Z own mn bytes maxL ret p s m meth c → HR Z C lay n0 ro ad H T.heap → Fr n0 locs → LR ad L Ls → Ls.size = maxL →
      ∃ T' locs', Stand p l e R s m args below meth c T' locs' k' n' ∧ HR Z C lay n0 ro ad H' T'.heap ∧ Kp ad H.length T.heap T'.heap ∧ Fr n0 locs' ∧ ∀ t, Steps p.tables e below (T'.setTop (mkF m pc' Ls (S'.map (rf ad)))) t → Steps p.tables e below (T.setTop (mkF m pc Ls (S.map (rf ad)))) t)
    (nx : WP l Z C lay own mn bytes maxL ret R n0 ro Q k' n' pc' L S' H') : WP l Z C lay own mn bytes maxL ret R n0 ro Q k n pc L S H := by
  intro p e s m args below meth c T locs ad Ls X A hr N hL hz
  obtain ⟨T', locs', X', hr', K, N', st⟩ := hs p e s m args below meth c T locs ad Ls X A hr N hL hz
  obtain ⟨s₂, v, H2, locs2, h1, h2, h3, h4, h5, h6, h7⟩ := nx p e s m args below meth c T' locs' ad Ls X' A hr' N' hL hz
  exact ⟨s₂, v, H2, locs2, st _ h1, h2, h3, h4, h5, Kp.trans hr K h6, h7⟩
theorem WP.getfield {idx i j : Nat} {f d : String} {vs : List Value} {v : Value} (hd : decode bytes pc = .ok (.getfield idx, 3)) (hw : (Cond.fieldLink own idx C f d).before a0 Z = true) (hj : lay[j]? = some (f, d)) (hH : H[i]? = some (.inl vs)) (hv : vs[j]? = some v) (nx : WP l Z C lay own mn bytes maxL ret R n0 ro Q k n (pc + 3) L (v :: S) H) : WP l Z C lay own mn bytes maxL ret R n0 ro Q k n pc L (.ref i :: S) H :=
  WP.moved (fun p e s m args below meth c T locs ad Ls X A hr N hL hz => by
    have F := (hr.1 i _ hH).2 j _ v hj hv
    obtain ⟨T', X', e', st⟩ := getF X A.1 A.2.1 A.2.2.2.2.2.2.1 (host := "") (Or.inl hw) Via.refl rfl F (g := mkF m pc Ls (.ref (ad i) :: S.map (rf ad))) rfl rfl (hb A.2.2.1 hd)
    exact ⟨T', locs, X', by rw [e']; exact hr, by rw [e']; exact Kp.refl _ _ _, N, fun t ht => st t ht⟩) nx
theorem WP.iaload {i : Nat} {xs : List Int32} {j x : Int32} (hd : decode bytes pc = .ok (.iaload, 1)) (hH : H[i]? = some (cI xs)) (hx : rd xs j = some x) (nx : WP l Z C lay own mn bytes maxL ret R n0 ro Q k n (pc + 1) L (.int x :: S) H) : WP l Z C lay own mn bytes maxL ret R n0 ro Q k n pc L (.int j :: .ref i :: S) H :=
  WP.moved (fun p e s m args below meth c T locs ad Ls X A hr N hL hz => by
    obtain ⟨cl, Ar, hsl⟩ := hr.1 i _ hH
    obtain ⟨q1, q2⟩ := rd_slots hsl hx
    exact ⟨T, locs, X, hr, Kp.refl _ _ _, N, fun t ht => X.iaload A.1 (j := j) Ar.1 (State.isArrayOf_alike A.2.1.alike Ar.2.1) Ar.2.2 q1 q2 (g := mkF m pc Ls (.int j :: .ref (ad i) :: S.map (rf ad))) rfl rfl (hb A.2.2.1 hd) _ ht⟩) nx
theorem WP.laload {i : Nat} {xs : List Int64} {j : Int32} {x : Int64} (hd : decode bytes pc = .ok (.laload, 1)) (hH : H[i]? = some (cJ xs)) (hx : rd xs j = some x) (nx : WP l Z C lay own mn bytes maxL ret R n0 ro Q k n (pc + 1) L (.long x :: S) H) : WP l Z C lay own mn bytes maxL ret R n0 ro Q k n pc L (.int j :: .ref i :: S) H :=
  WP.moved (fun p e s m args below meth c T locs ad Ls X A hr N hL hz => by
    obtain ⟨cl, Ar, hsl⟩ := hr.1 i _ hH
    obtain ⟨q1, q2⟩ := rd_slots hsl hx
    exact ⟨T, locs, X, hr, Kp.refl _ _ _, N, fun t ht => X.laload A.1 (j := j) Ar.1 (State.isArrayOf_alike A.2.1.alike Ar.2.1) Ar.2.2 q1 q2 (g := mkF m pc Ls (.int j :: .ref (ad i) :: S.map (rf ad))) rfl rfl (hb A.2.2.1 hd) _ ht⟩) nx
theorem baloadZ {p : Program} {e : Env} {s : State} {m : MethodId} {args : Array Value} {below : List Frame} {meth : Method} {c : Code} {T : State} {locs : List Loc} {cells slots : Nat} (X : Stand p l e R s m args below meth c T locs cells slots) (hexec : p.tables.exec = Jvm.exec) {a : Addr} {cell : Cell} {j : Int32} {v : Value} (hcell : T.heap[a]? = some cell) (harr : s.isArrayOf cell .boolean) (hknown : cell.vm ≠ .unknown)
    (hin : ¬ (j < 0 ∨ cell.slots.size ≤ j.toNatClampNeg)) (hv : cell.slots[j.toNatClampNeg]? = some v) {g : JFrame} (hg : g.method = m) {rest : List Value} (hstack : g.stack = .int j :: .ref a :: rest) (hdg : decode c.code g.pc = .ok (.baload, 1)) (target : State)
    (hrest : Steps p.tables e below (T.setTop { g with pc := g.pc + 1, stack := v :: rest }) target) : Steps p.tables e below (T.setTop g) target := by
  have hT := State.isArrayOf_alike X.warmed.alike harr
  subst hg
  jvm_step X.here [hexec, hdg, baload.wp_booleans (e := e) (s := T) (f := g) X.here.top hstack hcell hT hin hknown hv]
  exact hrest
theorem WP.baload {i : Nat} {xs : List Int32} {j x : Int32} (hd : decode bytes pc = .ok (.baload, 1)) (hH : H[i]? = some (cZ xs)) (hx : rd xs j = some x) (nx : WP l Z C lay own mn bytes maxL ret R n0 ro Q k n (pc + 1) L (.int x :: S) H) : WP l Z C lay own mn bytes maxL ret R n0 ro Q k n pc L (.int j :: .ref i :: S) H :=
  WP.moved (fun p e s m args below meth c T locs ad Ls X A hr N hL hz => by
    obtain ⟨cl, Ar, hsl⟩ := hr.1 i _ hH
    obtain ⟨q1, q2⟩ := rd_slots hsl hx
    exact ⟨T, locs, X, hr, Kp.refl _ _ _, N, fun t ht => baloadZ X A.1 (j := j) Ar.1 (State.isArrayOf_alike A.2.1.alike Ar.2.1) Ar.2.2 q1 q2 (g := mkF m pc Ls (.int j :: .ref (ad i) :: S.map (rf ad))) rfl rfl (hb A.2.2.1 hd) _ ht⟩) nx
theorem WP.arraylength {i : Nat} {xs : List Int32} (hd : decode bytes pc = .ok (.arraylength, 1)) (hH : H[i]? = some (cI xs)) (nx : WP l Z C lay own mn bytes maxL ret R n0 ro Q k n (pc + 1) L (.int xs.length.toInt32 :: S) H) : WP l Z C lay own mn bytes maxL ret R n0 ro Q k n pc L (.ref i :: S) H :=
  WP.moved (fun p e s m args below meth c T locs ad Ls X A hr N hL hz => by
    obtain ⟨cl, Ar, hsl⟩ := hr.1 i _ hH
    have e1 : cl.slots.size = xs.length := by rw [← Array.length_toList, hsl, List.length_map]
    refine ⟨T, locs, X, hr, Kp.refl _ _ _, N, fun t ht => X.arraylength A.1 Ar.1 (State.isArrayOf_alike A.2.1.alike Ar.2.1) (g := mkF m pc Ls (.ref (ad i) :: S.map (rf ad))) rfl rfl (hb A.2.2.1 hd) _ ?_⟩
    rw [e1]; exact ht) nx
theorem WP.iastore {i : Nat} {xs xs' : List Int32} {j : Int32} {x : Int32} (hd : decode bytes pc = .ok (.iastore, 1)) (hH : H[i]? = some (cI xs)) (hi : ro ≤ i) (hx : wr xs j x = some xs') (hH' : H.set i (cI xs') = H') (nx : WP l Z C lay own mn bytes maxL ret R n0 ro Q k n (pc + 1) L S H') : WP l Z C lay own mn bytes maxL ret R n0 ro Q k n pc L (.int x :: .int j :: .ref i :: S) H :=
  WP.moved (fun p e s m args below meth c T locs ad Ls X A hr N hL hz => by
    obtain ⟨cl, Ar, hsl⟩ := hr.1 i _ hH
    obtain ⟨q1, q2⟩ := wr_slots hsl hx
    obtain ⟨T', h', X', e', w, st⟩ := stI X A.1 A.2.1 rfl Ar (j := j) (x := x) q1 (g := mkF m pc Ls (.int x :: .int j :: .ref (ad i) :: S.map (rf ad))) rfl rfl (hb A.2.2.1 hd)
    subst e'
    have hi' := get_lt hH
    have P := hr.put (h' := T'.heap) (c := cI xs') hi' w.size (fun a cz hne q => by
      obtain ⟨c', g1, -, -, -, g5, -⟩ := wr_at w q
      rw [g5 hne] at g1; exact g1) ⟨_, Ar.same w, q2⟩
    exact ⟨T', _, X', hH' ▸ P.1, P.2, Fr.snoc X' N (hr.2.2.2.1 i hi' hi), fun t ht => st t ht⟩) nx
theorem WP.lastore {i : Nat} {xs xs' : List Int64} {j : Int32} {x : Int64} (hd : decode bytes pc = .ok (.lastore, 1)) (hH : H[i]? = some (cJ xs)) (hi : ro ≤ i) (hx : wr xs j x = some xs') (hH' : H.set i (cJ xs') = H') (nx : WP l Z C lay own mn bytes maxL ret R n0 ro Q k n (pc + 1) L S H') : WP l Z C lay own mn bytes maxL ret R n0 ro Q k n pc L (.long x :: .int j :: .ref i :: S) H :=
  WP.moved (fun p e s m args below meth c T locs ad Ls X A hr N hL hz => by
    obtain ⟨cl, Ar, hsl⟩ := hr.1 i _ hH
    obtain ⟨q1, q2⟩ := wr_slots hsl hx
    obtain ⟨T', h', X', e', w, st⟩ := stJ X A.1 A.2.1 rfl Ar (j := j) (x := x) q1 (g := mkF m pc Ls (.long x :: .int j :: .ref (ad i) :: S.map (rf ad))) rfl rfl (hb A.2.2.1 hd)
    subst e'
    have hi' := get_lt hH
    have P := hr.put (h' := T'.heap) (c := cJ xs') hi' w.size (fun a cz hne q => by
      obtain ⟨c', g1, -, -, -, g5, -⟩ := wr_at w q
      rw [g5 hne] at g1; exact g1) ⟨_, Ar.same w, q2⟩
    exact ⟨T', _, X', hH' ▸ P.1, P.2, Fr.snoc X' N (hr.2.2.2.1 i hi' hi), fun t ht => st t ht⟩) nx
theorem WP.bastore {i : Nat} {xs xs' : List Int32} {j : Int32} {x : Int32} (hd : decode bytes pc = .ok (.bastore, 1)) (hH : H[i]? = some (cZ xs)) (hi : ro ≤ i) (hx : wr xs j (x &&& 1) = some xs') (hH' : H.set i (cZ xs') = H') (nx : WP l Z C lay own mn bytes maxL ret R n0 ro Q k n (pc + 1) L S H') : WP l Z C lay own mn bytes maxL ret R n0 ro Q k n pc L (.int x :: .int j :: .ref i :: S) H :=
  WP.moved (fun p e s m args below meth c T locs ad Ls X A hr N hL hz => by
    obtain ⟨cl, Ar, hsl⟩ := hr.1 i _ hH
    obtain ⟨q1, q2⟩ := wr_slots hsl hx
    obtain ⟨T', h', X', e', w, st⟩ := stZ X A.1 A.2.1 rfl Ar (j := j) (x := x) q1 (g := mkF m pc Ls (.int x :: .int j :: .ref (ad i) :: S.map (rf ad))) rfl rfl (hb A.2.2.1 hd)
    subst e'
    have hi' := get_lt hH
    have P := hr.put (h' := T'.heap) (c := cZ xs') hi' w.size (fun a cz hne q => by
      obtain ⟨c', g1, -, -, -, g5, -⟩ := wr_at w q
      rw [g5 hne] at g1; exact g1) ⟨_, Ar.same w, q2⟩
    exact ⟨T', _, X', hH' ▸ P.1, P.2, Fr.snoc X' N (hr.2.2.2.1 i hi' hi), fun t ht => st t ht⟩) nx
/-- a field of the one class is written -/
theorem WP.put {idx i j kk : Nat} {f d : String} {vs : List Value} {v v' old : Value} {ty : FieldType} (hd : decode bytes pc = .ok (.putfield idx, 3)) (hw : (Cond.fieldLink own idx C f d).before a0 Z = true) (hl : (Cond.lays C C f d).before a0 Z = true ∨ ((Cond.laysFinal C C f d).before a0 Z = true ∧ own = C ∧ mn = "<init>")) (wi : (Cond.instantiable C kk).before a0 Z = true)
    (hlay : ∀ (a b : Nat) (f g : String × String), lay[a]? = some f → lay[b]? = some g → a ≠ b → RoadKit.slotOf Z C f.1 f.2 ≠ RoadKit.slotOf Z C g.1 g.2) (hty : parseFieldDescriptor d = some ty) (hn : ∀ ad, narrow ty (rf ad v) = rf ad v') (hf : ∀ ad, fits ty (rf ad v') = true)
    (hj : lay[j]? = some (f, d)) (hH : H[i]? = some (.inl vs)) (hv : vs[j]? = some old) (hi : ro ≤ i) (hH' : H.set i (.inl (vs.set j v')) = H') (nx : WP l Z C lay own mn bytes maxL ret R n0 ro Q k n (pc + 3) L S H') : WP l Z C lay own mn bytes maxL ret R n0 ro Q k n pc L (v :: .ref i :: S) H :=
  WP.moved (fun p e s m args below meth c T locs ad Ls X A hr N hL hz => by
    obtain ⟨E, F⟩ := hr.1 i _ hH
    obtain ⟨T', h', X', e', w, st⟩ := putFN X A.1 A.2.1 A.2.2.2.2.2.2.1 hw Via.refl rfl (F j _ old hj hv) E (hl.imp id fun q => ⟨q.1, q.2.1, A.2.2.2.2.2.2.2.trans q.2.2⟩) wi hty (hn ad) (hf ad) (g := mkF m pc Ls (rf ad v :: .ref (ad i) :: S.map (rf ad))) rfl rfl (hb A.2.2.1 hd)
    subst e'
    have hi' := get_lt hH
    have P := hr.put (h' := T'.heap) (c := .inl (vs.set j v')) hi' w.size (fun a cz hne q => by
      obtain ⟨c', g1, -, -, -, g5, -⟩ := wr_at w q
      rw [g5 hne] at g1; exact g1) ⟨E.wr w, fun a g u hg hu => by
        rw [List.getElem?_set] at hu
        by_cases e : j = a
        · subst e
          cases hj.symm.trans hg
          rw [if_pos rfl, if_pos (get_lt hv)] at hu
          cases hu
          exact (F j _ old hj hv).same w
        · rw [if_neg e] at hu
          exact (F a g u hg hu).other w (Or.inr (hlay a j g (f, d) hg hj (Ne.symm e)))⟩
    exact ⟨T', _, X', hH' ▸ P.1, P.2, Fr.snoc X' N (hr.2.2.2.1 i hi' hi), fun t ht => st t ht⟩) nx
/-- newarray -/
theorem WP.newarray {aty : ArrayType} {c0 : OwnC} {cnt : Int32} (hd : decode bytes pc = .ok (.newarray aty, 2)) (hw : (Cond.arrayClass (newarray.typeOf aty)).before a0 Z = true) (hn : ¬ cnt < 0) (hb8 : cnt.toNatClampNeg * 8 ≤ 536870912) (hc : k + 1 ≤ R.cells) (hl : n + cnt.toNatClampNeg ≤ R.slots)
    (h0 : (aty = .int ∧ c0 = cI (List.replicate cnt.toNatClampNeg 0)) ∨ (aty = .long ∧ c0 = cJ (List.replicate cnt.toNatClampNeg 0)) ∨ (aty = .boolean ∧ c0 = cZ (List.replicate cnt.toNatClampNeg 0)))
    (nx : WP l Z C lay own mn bytes maxL ret R n0 ro Q (k + 1) (n + cnt.toNatClampNeg) (pc + 2) L (.ref H.length :: S) (H ++ [c0])) : WP l Z C lay own mn bytes maxL ret R n0 ro Q k n pc L (.int cnt :: S) H :=
  WP.moved (fun p e s m args below meth c T locs ad Ls X A hr N hL hz => by
    have hcb : componentBytes (newarray.typeOf aty) ≤ 8 := by cases aty <;> decide
    obtain ⟨cA, kA, comp, h1, h2, h3, X', st⟩ := X.newarrayPrim A.1 (mvA A.2.1 hw) (g := mkF m pc Ls (.int cnt :: S.map (rf ad))) rfl (hb A.2.2.1 hd) rfl hn (Nat.le_trans (Nat.mul_le_mul (Nat.le_refl _) hcb) hb8) hc hl
    rw [A.2.1.alike.findClass] at h1
    obtain ⟨kZ, z1, -⟩ := Vm.findClass_spec h1
    obtain ⟨k', z2, z3⟩ := A.2.1.alike.2.2 _ _ z1
    cases h2.symm.trans z2
    have hE : Ext T.heap (T.heap.push { cls := cA, slots := Array.replicate cnt.toNatClampNeg (defaultValue (newarray.typeOf aty)), vm := .none }) := ⟨by simp, fun a c h => by
      rw [Array.getElem?_push_lt (Array.getElem?_eq_some_iff.mp h).1]; exact (Array.getElem?_eq_getElem _).symm.trans h⟩
    have Ar : Arr Z (T.heap.push { cls := cA, slots := Array.replicate cnt.toNatClampNeg (defaultValue (newarray.typeOf aty)), vm := .none }) T.heap.size { cls := cA, slots := Array.replicate cnt.toNatClampNeg (defaultValue (newarray.typeOf aty)), vm := .none } (newarray.typeOf aty) :=
      ⟨by simp, ⟨by simp, kZ, z1, comp, by rw [← h3, z3]⟩, by simp⟩
    have hc0 : CelOk Z C lay ad (T.heap.push { cls := cA, slots := Array.replicate cnt.toNatClampNeg (defaultValue (newarray.typeOf aty)), vm := .none }) T.heap.size c0 := by
      rcases h0 with ⟨rfl, rfl⟩ | ⟨rfl, rfl⟩ | ⟨rfl, rfl⟩
      all_goals exact ⟨_, Ar, by simp [defaultValue, newarray.typeOf]⟩
    have P := hr.push (h' := T.heap.push _) (by simp) hE hc0
    refine ⟨_, locs, X', P.1, P.2.1, N, fun t ht => st t ?_⟩
    have e0 : (List.map (rf ad) (.ref H.length :: S)) = .ref T.heap.size :: S.map (rf ad) := by show (Value.ref (ad H.length) :: _) = _; rw [P.2.2]
    rw [e0] at ht; exact ht) nx
theorem rf_default (ad : Nat → Addr) (ty : FieldType) : rf ad (defaultValue ty) = defaultValue ty := by cases ty <;> rfl
/-- new -/
theorem WP.new {idx kk : Nat} {vs : List Value} (hd : decode bytes pc = .ok (.new idx, 3)) (hw : (Cond.classLink own idx C).before a0 Z = true) (wi : (Cond.instantiable C kk).before a0 Z = true) (wz : (Cond.initialized C).before a0 Z = true) (hc : k + 1 ≤ R.cells) (hl : n + kk ≤ R.slots)
    (h0 : ∀ (i : Nat) (f : String × String) (v : Value), lay[i]? = some f → vs[i]? = some v → Laid Z a0 C C f.1 f.2 ∧ ∃ ty, parseFieldDescriptor f.2 = some ty ∧ v = defaultValue ty)
    (nx : WP l Z C lay own mn bytes maxL ret R n0 ro Q (k + 1) (n + kk) (pc + 3) L (.ref H.length :: S) (H ++ [.inl vs])) : WP l Z C lay own mn bytes maxL ret R n0 ro Q k n pc L S H :=
  WP.moved (fun p e s m args below meth c T locs ad Ls X A hr N hL hz => by
    obtain ⟨vm', cC, kC, h1, h2, h3, h4, X', st⟩ := X.newCold A.1 A.2.2.2.2.2.2.1 (mv A.2.1 hw) (mv A.2.1 wi) (mv A.2.1 wz) (g := mkF m pc Ls (S.map (rf ad))) rfl (hb A.2.2.1 hd) hc hl
    rw [A.2.1.alike.findClass] at h1
    obtain ⟨kZ, z1, -⟩ := Vm.findClass_spec h1
    obtain ⟨k', z2, z3⟩ := A.2.1.alike.2.2 _ _ z1
    cases h2.symm.trans z2
    have ei : kC.instanceTypes = kZ.instanceTypes := by rw [z3]
    have hN : (T.heap.push { cls := cC, slots := kC.instanceTypes.map defaultValue, vm := .none })[T.heap.size]? = some { cls := cC, slots := kC.instanceTypes.map defaultValue, vm := .none } := by simp
    have hE : Ext T.heap (T.heap.push { cls := cC, slots := kC.instanceTypes.map defaultValue, vm := .none }) := ⟨by simp, fun a c h => by
      rw [Array.getElem?_push_lt (Array.getElem?_eq_some_iff.mp h).1]; exact (Array.getElem?_eq_getElem _).symm.trans h⟩
    have hc0 : CelOk Z C lay ad (T.heap.push { cls := cC, slots := kC.instanceTypes.map defaultValue, vm := .none }) T.heap.size (.inl vs) := by
      refine ⟨⟨_, kZ, hN, h1, z1, rfl, fun _ => by simp [ei]⟩, fun i f v hf hv => ?_⟩
      obtain ⟨La, ty, ht, rfl⟩ := h0 i f v hf hv
      obtain ⟨c1, k1, cf, kf, i1, f1, a1, a2, a3, a4, a5, a6, -⟩ := La.spec
      cases h1.symm.trans a1
      cases z1.symm.trans a2
      rw [rf_default]
      exact ⟨_, cf, kf, i1, f1, hN, a3, a4, by simp, rfl, a5, by simp [ei, a6, (State.fieldFound?_type a3 ht).2]⟩
    have P := hr.push (h' := T.heap.push _) (by simp) hE hc0
    refine ⟨_, locs, X', P.1, P.2.1, N, fun t ht => st t ?_⟩
    have e0 : (List.map (rf ad) (.ref H.length :: S)) = .ref T.heap.size :: S.map (rf ad) := by show (Value.ref (ad H.length) :: _) = _; rw [P.2.2]
    rw [e0] at ht; exact ht) nx
/-- Object.<init> -/
theorem WP.initO {idx i : Nat} (hd : decode bytes pc = .ok (.invokespecial idx, 3)) (w1 : (Cond.methodLink own idx Lib.objectInit).before a0 Z = true) (w2 : (Cond.instanceMethod Lib.objectInit).before a0 Z = true) (w3 : (Cond.code Lib.objectInit ⟨#[0xb1]⟩ 1 none).before a0 Z = true) (hf : 1 ≤ R.frames) (hl : (S.map fun v => v.category).sum + 12 ≤ R.locals)
    (nx : WP l Z C lay own mn bytes maxL ret R n0 ro Q k n (pc + 3) L S H) : WP l Z C lay own mn bytes maxL ret R n0 ro Q k n pc L (.ref i :: S) H :=
  WP.moved (fun p e s m args below meth c T locs ad Ls X A hr N hL hz => by
    obtain ⟨T', X', e', st⟩ := RoadKit.initO X A.1 A.2.1 A.2.2.2.2.2.2.1 w1 w2 w3 rfl (g := mkF m pc Ls (.ref (ad i) :: S.map (rf ad))) rfl (hz.trans A.2.2.2.1.symm) rfl (hb A.2.2.1 hd) hf (W := (S.map fun v => v.category).sum) (by show 2 * 0 + _ ≤ _; rw [rf_cats]; omega) hl
    exact ⟨T', locs, X', by rw [e']; exact hr, by rw [e']; exact Kp.refl _ _ _, N, fun t ht => st t ht⟩) nx
theorem WP.leave {v : Option Value} (hk : k ≤ R.cells) (hn : n ≤ R.slots) (hv : ret = none → v = none) (hq : Q v H)
    (hs : ∀ (p : Program) (e : Env) (s : State) (m : MethodId) (args : Array Value) (below : List Frame) (meth : Method) (c : Code) (T : State) (locs : List Loc) (ad : Nat → Addr) (Ls : Array Slot) (fs : List Frame), Stand p l e R s m args below meth c T locs k n → Am Z own mn bytes maxL ret p s m meth c →
      (∀ (f : JFrame) (acts : List Action), f.method = m → f.locked = none → f.entered = [] → (doReturn e (T.setTop f) acts (v.map (rf ad))).1 = T.setFrames fs) → Steps p.tables e below (T.setTop (mkF m pc Ls (S.map (rf ad)))) (T.setFrames fs)) : WP l Z C lay own mn bytes maxL ret R n0 ro Q k n pc L S H := by
  intro p e s m args below meth c T locs ad Ls X A hr N hL hz
  obtain ⟨fs, hr', hrun, hended, hW, hsame⟩ := X.leave (v := v.map (rf ad)) (fun q => by rw [hv (A.2.2.2.2.1.symm.trans q)]; rfl) A.2.2.2.2.2.1
  exact ⟨_, v, H, locs, hs p e s m args below meth c T locs ad Ls fs X A hr', hrun, hended, hq, hr, Kp.refl _ _ _, N, ⟨_, rfl⟩, hW, hsame.mono hk hn⟩
theorem retI' {p : Program} {e : Env} {s : State} {m : MethodId} {args : Array Value} {below : List Frame} {meth : Method} {c : Code} {T : State} {locs : List Loc} {cells slots : Nat} (X : Stand p l e R s m args below meth c T locs cells slots) (hx : p.tables.exec = Jvm.exec) {pc : Nat} {Ls : Array Slot} {z : Int32} {rest : List Value} (hret : meth.sig.returnType = some .int) (hd : decode c.code pc = .ok (.ireturn, 1)) {fs : List Frame}
    (hl : ∀ (f : JFrame) (acts : List Action), f.method = m → f.locked = none → f.entered = [] → (doReturn e (T.setTop f) acts (some (.int z))).1 = T.setFrames fs) : Steps p.tables e below (T.setTop (mkF m pc Ls (.int z :: rest))) (T.setFrames fs) := by
  have hm' : T.vm.method? m = some meth := X.method'
  have hn : narrow .int (.int z) = .int z := rfl
  show Steps p.tables e below (T.setTop { method := m, pc := pc, locals := Ls, stack := _ :: rest, locked := none }) _
  jvm_step X.here [X.here.top, hx, hd, hm', hret, hn]
  first | (intro acts; rw [hl _ acts rfl rfl rfl]) | rw [hl _ _ rfl rfl rfl]
  exact Steps.refl _
theorem WP.ireturn {x : Int32} (hd : decode bytes pc = .ok (.ireturn, 1)) (hret : ret = some .int) (hk : k ≤ R.cells) (hn : n ≤ R.slots) (hq : Q (some (.int x)) H) : WP l Z C lay own mn bytes maxL ret R n0 ro Q k n pc L (.int x :: S) H :=
  WP.leave (v := some (.int x)) hk hn (fun q => by rw [hret] at q; cases q) hq fun p e s m args below meth c T locs ad Ls fs X A hr' => retI' X A.1 (A.2.2.2.2.1.trans hret) (hb A.2.2.1 hd) hr'
theorem WP.zreturn {x : Int32} (hd : decode bytes pc = .ok (.ireturn, 1)) (hret : ret = some .boolean) (hk : k ≤ R.cells) (hn : n ≤ R.slots) (hq : Q (some (.int (x &&& 1))) H) : WP l Z C lay own mn bytes maxL ret R n0 ro Q k n pc L (.int x :: S) H :=
  WP.leave (v := some (.int (x &&& 1))) hk hn (fun q => by rw [hret] at q; cases q) hq fun p e s m args below meth c T locs ad Ls fs X A hr' => retN X A.1 (t := .boolean) (A.2.2.2.2.1.trans hret) (Or.inl rfl) (hb A.2.2.1 hd) hr'
theorem WP.lreturn {x : Int64} (hd : decode bytes pc = .ok (.lreturn, 1)) (hret : ret = some .long) (hk : k ≤ R.cells) (hn : n ≤ R.slots) (hq : Q (some (.long x)) H) : WP l Z C lay own mn bytes maxL ret R n0 ro Q k n pc L [.long x] H :=
  WP.leave (v := some (.long x)) hk hn (fun q => by rw [hret] at q; cases q) hq fun p e s m args below meth c T locs ad Ls fs X A hr' => X.lreturnOut A.1 (A.2.2.2.2.1.trans hret) (hb A.2.2.1 hd) hr'
theorem WP.vreturn (hd : decode bytes pc = .ok (.return_, 1)) (hret : ret = none) (hk : k ≤ R.cells) (hn : n ≤ R.slots) (hq : Q none H) : WP l Z C lay own mn bytes maxL ret R n0 ro Q k n pc L [] H :=
  WP.leave (v := none) hk hn (fun _ => rfl) hq fun p e s m args below meth c T locs ad Ls fs X A hr' => X.returnOut A.1 (A.2.2.2.2.1.trans hret) (hb A.2.2.1 hd) hr'
end Rules
/-! ## a callee's promise, said of the small view -/
def QQ (Z : State) (C : String) (lay : List (String × String)) (n0 ro : Nat) (ad : Nat → Addr) (N : Nat) (h : Heap) (Q : Option Value → List OwnC → Prop) (v : Option Value) (h' : Heap) (L : List Loc) : Prop :=
  ∃ w H', v = w.map (rf ad) ∧ Q w H' ∧ HR Z C lay n0 ro ad H' h' ∧ Kp ad N h h' ∧ Fr n0 L
def CS (l : Launch) (Z : State) (C : String) (lay : List (String × String)) (y : MethodName) (bytes : ByteArray) (maxL : Nat) (ret : Option FieldType) (R : Room) (ro : Nat) (as : List Value) (H : List OwnC) (Q : Option Value → List OwnC → Prop) : Prop :=
  ∀ (ws : List Cond) (n0 : Nat) (ad : Nat → Addr) (h : Heap), HR Z C lay n0 ro ad H h →
    MetFree l y (head1 (Cond.code y bytes maxL ret :: ws) R) (fun a U => a = (as.map (rf ad)).toArray ∧ Z.Warmed39 U.vm ∧ U.heap = h) (fun _ _ _ _ _ => True)
      (fun _ U o U' => ∃ v L, o = .returned v ∧ QQ Z C lay n0 ro ad H.length h Q v U'.heap L ∧ FrameEnd U o U' L R.cells R.slots)
section Calls
variable {l : Launch} {Z : State} {a0 : Array Value} {C : String} {lay : List (String × String)} {own mn : String} {bytes cb : ByteArray} {maxL cm : Nat} {ret cr : Option FieldType} {R Rc : Room} {n0 ro : Nat} {Q Qc : Option Value → List OwnC → Prop} {k n pc pc' : Nat} {L L' : List Slot} {S S0 as : List Value} {H H' : List OwnC} {y : MethodName}
theorem CS.of_wp (hx : plainName y.cls = true) (hn : (laid as).length ≤ maxL) (w : ∀ n0, WP l Z C lay y.cls y.name bytes maxL ret R n0 ro Q 0 0 0 (entL as maxL) [] H) : CS l Z C lay y bytes maxL ret R ro as H Q := by
  intro ws n0 ad h hr
  refine MetFree.of_bodySF (plainFor_of_name hx) hisR ?_
  intro p e s m args below meth c s₁ Bd hml0 hP hK
  obtain ⟨rfl, hZ, hh⟩ := hP
  have e0 : s₁.heap = h := by rw [← hh, Bd.state]; rfl
  obtain ⟨E1, E2⟩ := entry_LR ad as maxL hn
  obtain ⟨s₂, v, H', locs', h1, h2, h3, h4, h5, h6, h7, h8⟩ := w n0 p e s m _ below meth c s₁ [] ad _ (Stand.of_body Bd) ⟨Bd.exec, hZ, Bd.bytes, hml0, Bd.returns, Bd.notSynchronized, findClass_of_methodNamed Bd.named, (name_of_methodNamed Bd.named Bd.method).1⟩ (by rw [e0]; exact hr) (Fr.nil n0) E1 E2
  rw [e0] at h6
  exact ⟨s₂, _, h1, h2, h3, _, locs', rfl, ⟨v, H', rfl, h4, h5, h6, h7⟩, h8⟩
theorem CS.mono (cs : CS l Z C lay y bytes maxL ret R ro as H Q) (h : ∀ v H', Q v H' → Qc v H') : CS l Z C lay y bytes maxL ret R ro as H Qc := by
  intro ws n0 ad hh hr p e ha hc hk s m args below hf happ hP hK
  obtain ⟨N, o, h1, h2, h3, v, L, h4, ⟨w, H', g1, g2, g3⟩, h5⟩ := cs ws n0 ad hh hr p e ha hc hk s m args below hf happ hP hK
  exact ⟨N, o, h1, h2, h3, v, L, h4, ⟨w, H', g1, h _ _ g2, g3⟩, h5⟩
/-- what every call leaves: the walk goes on behind it -/
theorem go_on {p : Program} {e : Env} {s : State} {m : MethodId} {args : Array Value} {below : List Frame} {meth : Method} {c : Code} {T : State} {locs : List Loc} {ad : Nat → Addr} {Ls : Array Slot} {B : Pt} {v : Option Value} {Lc : List Loc} {s₀ : State}
    (nx : ∀ v H', Qc v H' → WP l Z C lay own mn bytes maxL ret R n0 ro Q (k + Rc.cells) (n + Rc.slots) (pc + 3) L (v.toList ++ S) H') (X : Stand p l e R s m args below meth c B.U B.locs B.cells B.slots) (A : Am Z own mn bytes maxL ret p s m meth c) (hr : HR Z C lay n0 ro ad H T.heap) (N : Fr n0 locs) (hL : LR ad L Ls) (hz : Ls.size = maxL)
    (hQ : QQ Z C lay n0 ro ad H.length T.heap Qc v B.U.heap Lc) (e1 : B.locs = locs ++ Lc) (e2 : B.cells = k + Rc.cells) (e3 : B.slots = n + Rc.slots) (st : Steps p.tables e below s₀ (B.U.setTop (mkF m (pc + 3) Ls (v.toList ++ S.map (rf ad))))) :
    ∃ (s₂ : State) (v : Option Value) (H' : List OwnC) (locs' : List Loc), Steps p.tables e below s₀ s₂ ∧ s₂.status = .running ∧ Ended s₂ below (.returned (v.map (rf ad))) ∧ Q v H' ∧ HR Z C lay n0 ro ad H' s₂.heap ∧ Kp ad H.length T.heap s₂.heap ∧ Fr n0 locs' ∧ FrameEnd s (.returned (v.map (rf ad))) s₂ locs' R.cells R.slots := by
  obtain ⟨w, H1, rfl, g2, g3, g4, g5⟩ := hQ
  rw [e1, e2, e3] at X
  obtain ⟨s₂, v, H2, locs2, h1, h2, h3, h4, h5, h6, h7⟩ := nx w H1 g2 p e s m args below meth c B.U _ ad Ls X A g3 (N.app g5) hL hz
  refine ⟨s₂, v, H2, locs2, st.trans ?_, h2, h3, h4, h5, Kp.trans hr g4 h6, h7⟩
  have e0 : (w.toList ++ S).map (rf ad) = (w.map (rf ad)).toList ++ S.map (rf ad) := by cases w <;> rfl
  rw [← e0]; exact h1
theorem stack_of (ad : Nat → Addr) (h : S0 = as.reverse ++ S) : S0.map (rf ad) = (as.map (rf ad)).reverse ++ S.map (rf ad) := by rw [h, List.map_append, List.map_reverse]
theorem stack_of1 {i : Nat} (ad : Nat → Addr) (h : S0 = as.reverse ++ .ref i :: S) : S0.map (rf ad) = (as.map (rf ad)).reverse ++ .ref (ad i) :: S.map (rf ad) := by rw [h, List.map_append, List.map_reverse]; rfl
theorem WP.callS {idx : Nat} (hd : decode bytes pc = .ok (.invokestatic idx, 3)) (w1 : (Cond.methodLink own idx y).before a0 Z = true) (w2 : (Cond.static y).before a0 Z = true) (w3 : (Cond.initialized y.cls).before a0 Z = true) (w4 : (Cond.code y cb cm cr).before a0 Z = true) (hy : y.cls ≠ "java/lang/invoke/MethodHandle" ∧ y.cls ≠ "java/lang/invoke/VarHandle")
    (cs : CS l Z C lay y cb cm cr Rc ro as H Qc) (hS : S0 = as.reverse ++ S) (hlen : ∀ sig, parseMethodDescriptor y.desc = some sig → as.length = sig.parameters.length) (hf : Rc.frames + 1 ≤ R.frames) (hl : (S.map fun v => v.category).sum + (cm + 11) + Rc.locals ≤ R.locals) (hc : k + Rc.cells ≤ R.cells) (hs : n + Rc.slots ≤ R.slots)
    (nx : ∀ v H', Qc v H' → WP l Z C lay own mn bytes maxL ret R n0 ro Q (k + Rc.cells) (n + Rc.slots) (pc + 3) L (v.toList ++ S) H') : WP l Z C lay own mn bytes maxL ret R n0 ro Q k n pc L S0 H := by
  intro p e s m args below meth c T locs ad Ls X A hr N hL hz
  obtain ⟨v, vm₁, B, hW₁, X', ⟨Lc, hQ, e1, e2, e3⟩, st⟩ := Jvm.LawKit.callS X A.1 (y := y) A.2.2.2.2.2.2.1 (mvT A.2.1 w1) (mvT A.2.1 w2) (mvT A.2.1 w3) (mvT A.2.1 w4) hy
    (backOf (W := (S.map fun v => v.category).sum) (cs [] n0 ad T.heap hr) A.2.1 w4 w3 hf hl) (g := mkF m pc Ls (S0.map (rf ad))) rfl (hz.trans A.2.2.2.1.symm) (argsL := as.map (rf ad)) (rest := S.map (rf ad)) (fun sig q => by rw [List.length_map]; exact hlen sig q) (stack_of ad hS) (by show 2 * 0 + _ ≤ _; rw [rf_cats]; omega) (hb A.2.2.1 hd) (fun _ _ => ⟨rfl, rfl, hc, hs⟩)
  exact go_on (T := T) nx X' A hr N hL hz hQ e1 e2 e3 (st _ (Steps.refl _))
theorem WP.callV {idx i : Nat} {vs : List Value} (hd : decode bytes pc = .ok (.invokevirtual idx, 3)) (w1 : (Cond.methodLink own idx y).before a0 Z = true) (w2 : (Cond.declares y).before a0 Z = true) (w3 : (Cond.selects C y y).before a0 Z = true) (w4 : (Cond.instanceMethod y).before a0 Z = true) (w5 : (Cond.code y cb cm cr).before a0 Z = true) (w6 : (Cond.initialized y.cls).before a0 Z = true) (hy : y.cls ≠ "java/lang/invoke/MethodHandle" ∧ y.cls ≠ "java/lang/invoke/VarHandle")
    (hH : H[i]? = some (.inl vs)) (cs : CS l Z C lay y cb cm cr Rc ro (.ref i :: as) H Qc) (hS : S0 = as.reverse ++ .ref i :: S) (hlen : ∀ sig, parseMethodDescriptor y.desc = some sig → as.length = sig.parameters.length) (hf : Rc.frames + 1 ≤ R.frames) (hl : (S.map fun v => v.category).sum + (cm + 11) + Rc.locals ≤ R.locals) (hc : k + Rc.cells ≤ R.cells) (hs : n + Rc.slots ≤ R.slots)
    (nx : ∀ v H', Qc v H' → WP l Z C lay own mn bytes maxL ret R n0 ro Q (k + Rc.cells) (n + Rc.slots) (pc + 3) L (v.toList ++ S) H') : WP l Z C lay own mn bytes maxL ret R n0 ro Q k n pc L S0 H := by
  intro p e s m args below meth c T locs ad Ls X A hr N hL hz
  obtain ⟨cq, kq, qa, qb, qc⟩ := isOf A.2.1 rfl (hr.1 i _ hH).1
  obtain ⟨v, vm₁, B, hW₁, X', ⟨Lc, hQ, e1, e2, e3⟩, st⟩ := X.virtualBack A.1 (y := y) (z := y) A.2.2.2.2.2.2.1 (mvT A.2.1 w1) (mvT A.2.1 w2) (notFace_of_selects (args := #[]) (mvT A.2.1 w3)) (mvT A.2.1 w3) (mvT A.2.1 w4) hy
    (backOf (W := (S.map fun v => v.category).sum) (cs [] n0 ad T.heap hr) A.2.1 w5 w6 hf hl) qa qc (g := mkF m pc Ls (S0.map (rf ad))) rfl (hz.trans A.2.2.2.1.symm) (Steps.refl _) (argsL := as.map (rf ad)) (rest := S.map (rf ad)) (fun sig q => by rw [List.length_map]; exact hlen sig q) (stack_of1 ad hS) (by show 2 * 0 + _ ≤ _; rw [rf_cats]; omega) (hb A.2.2.1 hd) (fun _ _ => ⟨rfl, rfl, hc, hs⟩)
  exact go_on (T := T) nx X' A hr N hL hz hQ e1 e2 e3 st
theorem WP.callP {idx i kk : Nat} {vs : List Value} (hd : decode bytes pc = .ok (.invokevirtual idx, 3)) (w1 : (Cond.methodLink own idx y).before a0 Z = true) (w2 : (Cond.privateMethod y).before a0 Z = true) (wi : (Cond.instantiable y.cls kk).before a0 Z = true) (w4 : (Cond.instanceMethod y).before a0 Z = true) (w5 : (Cond.code y cb cm cr).before a0 Z = true) (w6 : (Cond.initialized y.cls).before a0 Z = true) (hy : y.cls ≠ "java/lang/invoke/MethodHandle" ∧ y.cls ≠ "java/lang/invoke/VarHandle")
    (hH : H[i]? = some (.inl vs)) (cs : CS l Z C lay y cb cm cr Rc ro (.ref i :: as) H Qc) (hS : S0 = as.reverse ++ .ref i :: S) (hlen : ∀ sig, parseMethodDescriptor y.desc = some sig → as.length = sig.parameters.length) (hf : Rc.frames + 1 ≤ R.frames) (hl : (S.map fun v => v.category).sum + (cm + 11) + Rc.locals ≤ R.locals) (hc : k + Rc.cells ≤ R.cells) (hs : n + Rc.slots ≤ R.slots)
    (nx : ∀ v H', Qc v H' → WP l Z C lay own mn bytes maxL ret R n0 ro Q (k + Rc.cells) (n + Rc.slots) (pc + 3) L (v.toList ++ S) H') : WP l Z C lay own mn bytes maxL ret R n0 ro Q k n pc L S0 H := by
  intro p e s m args below meth c T locs ad Ls X A hr N hL hz
  obtain ⟨cq, q, q'⟩ := (hr.1 i _ hH).1.cell
  have hpr : s.PrivateAt y := Cond.privateMethod_at (mvP A.2.1 w2 (args := #[]))
  have hin : (Cond.instanceMethod y).before args s = true := mvT A.2.1 w4
  have hsel : (Cond.selects y.cls y y).before args s = true := by
    have wi' : (Cond.instantiable y.cls kk).before args s = true := mvT A.2.1 wi
    obtain ⟨c1, k1, g1, g2, g3, g4, -⟩ := Cond.instantiable_spec wi'
    have g5 : k1.isInterface = false := by
      cases hq : k1.isInterface
      · rfl
      · rw [hq] at g4; cases g4
    exact selects_self_of_private g1 g2 g5 hpr hin hy
  obtain ⟨v, vm₁, B, hW₁, X', ⟨Lc, hQ, e1, e2, e3⟩, st⟩ := X.privateBack A.1 (y := y) A.2.2.2.2.2.2.1 (mvT A.2.1 w1) hin hsel hpr (mvT A.2.1 w5) hy
    (backOf (W := (S.map fun v => v.category).sum) (cs [] n0 ad T.heap hr) A.2.1 w5 w6 hf hl) (g := mkF m pc Ls (S0.map (rf ad))) rfl (hz.trans A.2.2.2.1.symm) (Steps.refl _) q q' (argsL := as.map (rf ad)) (rest := S.map (rf ad)) (fun sig q => by rw [List.length_map]; exact hlen sig q) (stack_of1 ad hS) (by show 2 * 0 + _ ≤ _; rw [rf_cats]; omega) (hb A.2.2.1 hd) (fun _ _ => ⟨rfl, rfl, hc, hs⟩)
  exact go_on (T := T) nx X' A hr N hL hz hQ e1 e2 e3 st
theorem WP.callI {idx i : Nat} (hd : decode bytes pc = .ok (.invokespecial idx, 3)) (hn1 : y.name = "<init>") (w1 : (Cond.methodLink own idx y).before a0 Z = true) (w4 : (Cond.instanceMethod y).before a0 Z = true) (w5 : (Cond.code y cb cm none).before a0 Z = true) (w6 : (Cond.initialized y.cls).before a0 Z = true) (hy : y.cls ≠ "java/lang/invoke/MethodHandle" ∧ y.cls ≠ "java/lang/invoke/VarHandle")
    (cs : CS l Z C lay y cb cm none Rc ro (.ref i :: as) H Qc) (hS : S0 = as.reverse ++ .ref i :: S) (hlen : ∀ sig, parseMethodDescriptor y.desc = some sig → as.length = sig.parameters.length) (hf : Rc.frames + 1 ≤ R.frames) (hl : (S.map fun v => v.category).sum + (cm + 11) + Rc.locals ≤ R.locals) (hc : k + Rc.cells ≤ R.cells) (hs : n + Rc.slots ≤ R.slots)
    (nx : ∀ v H', Qc v H' → WP l Z C lay own mn bytes maxL ret R n0 ro Q (k + Rc.cells) (n + Rc.slots) (pc + 3) L (v.toList ++ S) H') : WP l Z C lay own mn bytes maxL ret R n0 ro Q k n pc L S0 H := by
  intro p e s m args below meth c T locs ad Ls X A hr N hL hz
  obtain ⟨v, vm₁, B, hW₁, X', ⟨Lc, hQ, e1, e2, e3⟩, st⟩ := X.specialBack A.1 (y := y) hn1 A.2.2.2.2.2.2.1 (mvT A.2.1 w1) (mvT A.2.1 w4) (mvT A.2.1 w5) hy
    (backOf (W := (S.map fun v => v.category).sum) (cs [] n0 ad T.heap hr) A.2.1 w5 w6 hf hl) (g := mkF m pc Ls (S0.map (rf ad))) rfl (hz.trans A.2.2.2.1.symm) (Steps.refl _) (a := ad i) (argsL := as.map (rf ad)) (rest := S.map (rf ad)) (fun sig q => by rw [List.length_map]; exact hlen sig q) (stack_of1 ad hS) (by show 2 * 0 + _ ≤ _; rw [rf_cats]; omega) (hb A.2.2.1 hd) (fun _ _ => ⟨rfl, rfl, hc, hs⟩)
  exact go_on (T := T) nx X' A hr N hL hz hQ e1 e2 e3 st
end Calls
/-! ## a callee that sees a part of the heap -/
def rn (ρ : Nat → Nat) : Value → Value
  | .ref i => .ref (ρ i)
  | .int x => .int x
  | .long x => .long x
  | .float x => .float x
  | .double x => .double x
  | .null => .null
  | .retAddr x => .retAddr x
theorem rf_rn (ad : Nat → Addr) (ρ : Nat → Nat) (v : Value) : rf ad (rn ρ v) = rf (fun j => ad (ρ j)) v := by cases v <;> rfl
def rnC (ρ : Nat → Nat) : OwnC → OwnC
  | .inl vs => .inl (vs.map (rn ρ))
  | .inr x => .inr x
theorem CelOk_rn {Z : State} {C : String} {lay : List (String × String)} {ad : Nat → Addr} {ρ : Nat → Nat} {h : Heap} {a : Addr} {c : OwnC} : CelOk Z C lay ad h a (rnC ρ c) ↔ CelOk Z C lay (fun j => ad (ρ j)) h a c := by
  rcases c with vs | xs | xs | xs
  · constructor
    · rintro ⟨E, F⟩
      refine ⟨E, fun i f v hf hv => ?_⟩
      have := F i f (rn ρ v) hf (by rw [List.getElem?_map, hv]; rfl)
      rwa [rf_rn] at this
    · rintro ⟨E, F⟩
      refine ⟨E, fun i f v hf hv => ?_⟩
      rw [List.getElem?_map] at hv
      obtain ⟨w, hw, rfl⟩ := Option.map_eq_some_iff.mp hv
      rw [rf_rn]; exact F i f w hf hw
  all_goals exact Iff.rfl
def patch (ρ : Nat → Nat) : List Nat → List OwnC → List OwnC → List OwnC
  | [], D, H => H ++ D.map (rnC ρ)
  | i :: is, c :: D, H => patch ρ is D (H.set i (rnC ρ c))
  | _ :: _, [], H => H
theorem patch_len (ρ : Nat → Nat) : ∀ (foot : List Nat) (D H : List OwnC), foot.length ≤ D.length → (patch ρ foot D H).length = H.length + (D.length - foot.length)
  | [], D, H, _ => by simp [patch]
  | i :: is, [], H, h => by simp at h
  | i :: is, c :: D, H, h => by
    show (patch ρ is D (H.set i (rnC ρ c))).length = _
    rw [patch_len ρ is D _ (by simpa using h)]; simp
theorem patch_out (ρ : Nat → Nat) : ∀ (foot : List Nat) (D H : List OwnC) (i : Nat), i < H.length → i ∉ foot → (patch ρ foot D H)[i]? = H[i]?
  | [], D, H, i, hi, _ => by simp [patch, List.getElem?_append_left hi]
  | j :: is, [], H, i, _, _ => rfl
  | j :: is, c :: D, H, i, hi, hn => by
    show (patch ρ is D (H.set j (rnC ρ c)))[i]? = _
    rw [patch_out ρ is D _ i (by simpa using hi) (fun q => hn (List.mem_cons_of_mem _ q)), List.getElem?_set_ne (fun q => hn (by rw [q]; exact List.mem_cons_self ..))]
theorem patch_new (ρ : Nat → Nat) : ∀ (foot : List Nat) (D H : List OwnC) (t : Nat), foot.length ≤ D.length → (patch ρ foot D H)[H.length + t]? = (D[foot.length + t]?).map (rnC ρ)
  | [], D, H, t, _ => by simp [patch, List.getElem?_append_right (Nat.le_add_right _ _)]
  | i :: is, [], H, _, h => by simp at h
  | i :: is, c :: D, H, t, h => by
    show (patch ρ is D (H.set i (rnC ρ c)))[H.length + t]? = _
    have := patch_new ρ is D (H.set i (rnC ρ c)) t (by simpa using h)
    rw [List.length_set] at this
    rw [this]; simp [Nat.add_right_comm _ 1 t]
theorem patch_in (ρ : Nat → Nat) : ∀ (foot : List Nat) (D H : List OwnC) (j i : Nat), foot.Nodup → (∀ x ∈ foot, x < H.length) → foot[j]? = some i → foot.length ≤ D.length → (patch ρ foot D H)[i]? = (D[j]?).map (rnC ρ)
  | [], D, H, j, i, _, _, h, _ => by simp at h
  | x :: is, [], H, j, i, _, _, _, h => by simp at h
  | x :: is, c :: D, H, 0, i, nd, hl, h, _ => by
    obtain rfl : x = i := by simpa using h
    show (patch ρ is D (H.set x (rnC ρ c)))[x]? = _
    rw [patch_out ρ is D _ x (by simpa using hl x (List.mem_cons_self ..)) (List.nodup_cons.mp nd).1]
    simp [hl x (List.mem_cons_self ..)]
  | x :: is, c :: D, H, j + 1, i, nd, hl, h, hd => by
    show (patch ρ is D (H.set x (rnC ρ c)))[i]? = _
    rw [patch_in ρ is D _ j i (List.nodup_cons.mp nd).2 (fun y hy => by simpa using hl y (List.mem_cons_of_mem _ hy)) (by simpa using h) (by simpa using hd)]
    simp
def ro1 (foot : List Nat) (N : Nat) (j : Nat) : Nat := if j < foot.length then foot.getD j 0 else N + (j - foot.length)
theorem ro1_in {foot : List Nat} {N j i : Nat} (h : foot[j]? = some i) : ro1 foot N j = i := by
  have hj := get_lt h
  unfold ro1
  rw [if_pos hj, List.getD_eq_getElem?_getD, h]; rfl
theorem ro1_new (foot : List Nat) (N t : Nat) : ro1 foot N (foot.length + t) = N + t := by
  unfold ro1
  rw [if_neg (by omega)]; omega
theorem CS.frame {l : Launch} {Z : State} {C : String} {lay : List (String × String)} {y : MethodName} {bytes : ByteArray} {maxL : Nat} {ret : Option FieldType} {R : Room} {ro roc : Nat} {as asc : List Value} {H Hc : List OwnC} {Qc : Option Value → List OwnC → Prop} (foot : List Nat)
    (cs : CS l Z C lay y bytes maxL ret R roc asc Hc Qc) (hlen : Hc.length = foot.length) (hnd : foot.Nodup) (hlt : ∀ x ∈ foot, x < H.length) (hcell : foot.map (fun i => H[i]?) = Hc.map (fun c => some (rnC (ro1 foot H.length) c))) (hro : ∀ x ∈ foot.drop roc, ro ≤ x) (has : asc.map (rn (ro1 foot H.length)) = as) :
    CS l Z C lay y bytes maxL ret R ro as H (fun v H' => ∃ vc D, Qc vc D ∧ v = vc.map (rn (ro1 foot H.length)) ∧ H' = patch (ro1 foot H.length) foot D H) := by
  intro ws n0 ad h hr
  obtain ⟨r1, r2, r3, r4, r5⟩ := hr
  have cellAt : ∀ (j i : Nat), foot[j]? = some i → ∃ c, Hc[j]? = some c ∧ H[i]? = some (rnC (ro1 foot H.length) c) := fun j i hj => by
    have h1 : (foot.map (fun i => H[i]?))[j]? = some H[i]? := by rw [List.getElem?_map, hj]; rfl
    rw [hcell, List.getElem?_map] at h1
    obtain ⟨c, e1, e2⟩ := Option.map_eq_some_iff.mp h1
    exact ⟨c, e1, e2.symm⟩
  have idx : ∀ j : Nat, j < foot.length → ∃ i, foot[j]? = some i ∧ i < H.length := fun j hj => ⟨_, List.getElem?_eq_getElem hj, hlt _ (List.getElem_mem hj)⟩
  have hrc : HR Z C lay n0 roc (fun j => ad (ro1 foot H.length j)) Hc h := by
    refine ⟨fun j c hj => ?_, fun i j hi hj q => ?_, fun t => ?_, fun j hj hr => ?_, r5⟩
    · obtain ⟨i, e1, e2⟩ := idx j (hlen ▸ get_lt hj)
      obtain ⟨c', g1, g2⟩ := cellAt j i e1
      cases g1.symm.trans hj
      show CelOk Z C lay (fun j => ad (ro1 foot H.length j)) h (ad (ro1 foot H.length j)) c
      rw [ro1_in e1]
      exact CelOk_rn.mp (r1 i _ g2)
    · rw [hlen] at hi hj
      obtain ⟨i', e1, e2⟩ := idx i hi
      obtain ⟨j', g1, g2⟩ := idx j hj
      dsimp only at q
      rw [ro1_in e1, ro1_in g1] at q
      have q' := r2 _ _ e2 g2 q
      subst q'
      exact (List.getElem?_inj hi hnd).mp (e1.trans g1.symm)
    · dsimp only
      rw [hlen, ro1_new]; exact r3 t
    · rw [hlen] at hj
      obtain ⟨i', e1, e2⟩ := idx j hj
      dsimp only
      rw [ro1_in e1]; refine r4 _ e2 (hro i' (List.mem_of_getElem? (i := j - roc) ?_)); rw [List.getElem?_drop, Nat.add_sub_cancel' hr]; exact e1
  intro p e ha hc hk s m args below hf happ hP hK
  have eas : (asc.map (rf fun j => ad (ro1 foot H.length j))) = as.map (rf ad) := by
    rw [← has, List.map_map]; congr 1; funext v; exact (rf_rn ad _ v).symm
  obtain ⟨N, o, h1, h2, h3, v, L, h4, ⟨w, D, rfl, g2, g3, g4, g5⟩, h5⟩ := cs ws n0 _ h hrc p e ha hc hk s m args below hf happ (by rw [eas]; exact hP) hK
  refine ⟨N, o, h1, h2, h3, _, L, h4, ⟨w.map (rn (ro1 foot H.length)), patch (ro1 foot H.length) foot D H, ?_, ⟨w, D, g2, rfl, rfl⟩, ?_, ?_, g5⟩, h5⟩
  · cases w with
    | none => rfl
    | some w => exact congrArg some (rf_rn ad _ w).symm
  · generalize hU : (stepsAlone p.tables e N s).heap = h' at g3 g4
    obtain ⟨d1, d2, d3, d4, d5⟩ := g3
    have hD : foot.length ≤ D.length := by
      by_cases q : foot.length ≤ D.length
      · exact q
      · exfalso
        obtain ⟨i, e1, e2⟩ := idx D.length (by omega)
        have z := d3 0
        simp only [Nat.add_zero] at z
        rw [ro1_in e1] at z
        obtain ⟨c', -, g2'⟩ := cellAt _ i e1
        have a1 := (r1 i _ g2').lt
        rw [z] at a1
        exact absurd a1 (Nat.not_lt.mpr g4.1)
    have hPl := patch_len (ro1 foot H.length) foot D H hD
    have old : ∀ i, i < H.length → ad i < h.size := fun i hi => (r1 i _ (List.getElem?_eq_getElem hi)).lt
    have new : ∀ i, H.length ≤ i → h.size ≤ ad i := fun i hi => by
      obtain ⟨t, rfl⟩ := Nat.exists_eq_add_of_le hi
      rw [r3 t]; exact Nat.le_add_right _ _
    refine ⟨fun i c hi => ?_, fun i j hi hj q => ?_, fun t => ?_, fun i hi hr => ?_, Nat.le_trans r5 g4.1⟩
    · by_cases hl : i < H.length
      · by_cases hm : i ∈ foot
        · obtain ⟨j, hj⟩ := List.getElem?_of_mem hm
          rw [patch_in _ foot D H j i hnd hlt hj hD] at hi
          obtain ⟨c', e1, rfl⟩ := Option.map_eq_some_iff.mp hi
          have := d1 j c' e1
          dsimp only at this
          rw [ro1_in hj] at this
          exact CelOk_rn.mpr this
        · rw [patch_out _ foot D H i hl hm] at hi
          refine (r1 i c hi).keep fun cz q => g4.2 _ cz q fun j hj q' => ?_
          rw [hlen] at hj
          obtain ⟨i', e1, e2⟩ := idx j hj
          dsimp only at q'
          rw [ro1_in e1] at q'
          have := r2 _ _ e2 hl q'
          subst this
          exact hm (List.mem_of_getElem? e1)
      · obtain ⟨t, rfl⟩ := Nat.exists_eq_add_of_le (Nat.le_of_not_lt hl)
        rw [patch_new _ foot D H t hD] at hi
        obtain ⟨c', e1, rfl⟩ := Option.map_eq_some_iff.mp hi
        have := d1 _ c' e1
        dsimp only at this
        rw [ro1_new] at this
        exact CelOk_rn.mpr this
    · by_cases a1 : i < H.length
      · by_cases a2 : j < H.length
        · exact r2 _ _ a1 a2 q
        · have b1 := old i a1
          rw [q] at b1
          exact absurd b1 (Nat.not_lt.mpr (new j (Nat.le_of_not_lt a2)))
      · by_cases a2 : j < H.length
        · have b1 := new i (Nat.le_of_not_lt a1)
          rw [q] at b1
          exact absurd (old j a2) (Nat.not_lt.mpr b1)
        · obtain ⟨t, rfl⟩ := Nat.exists_eq_add_of_le (Nat.le_of_not_lt a1)
          obtain ⟨t', rfl⟩ := Nat.exists_eq_add_of_le (Nat.le_of_not_lt a2)
          rw [r3, r3] at q; exact congrArg (H.length + ·) (Nat.add_left_cancel q)
    · have z := d3 t
      dsimp only at z
      have e1 : D.length + t = foot.length + (D.length - foot.length + t) := by omega
      rw [e1, ro1_new] at z
      rw [hPl, Nat.add_assoc]; exact z
    · by_cases a1 : i < H.length
      · exact r4 i a1 hr
      · exact Nat.le_trans r5 (new i (Nat.le_of_not_lt a1))
  · refine ⟨g4.1, fun a cz hz hn => g4.2 a cz hz fun j hj q => ?_⟩
    rw [hlen] at hj
    obtain ⟨i', e1, e2⟩ := idx j hj
    dsimp only at q
    rw [ro1_in e1] at q
    exact hn i' e2 q
/-! ## an object's state: ints (and booleans), longs, int[] (and boolean[]), long[], each by a number -/
abbrev St : Type := (Nat → Int32) × (Nat → Int64) × (Nat → List Int32) × (Nat → List Int64)
def upd {α : Type} (f : Nat → α) (i : Nat) (v : α) : Nat → α := fun j => if j = i then v else f j
def gI (s : St) (i : Nat) : Int32 := s.1 i
def gJ (s : St) (i : Nat) : Int64 := s.2.1 i
def gA (s : St) (i : Nat) : List Int32 := s.2.2.1 i
def gB (s : St) (i : Nat) : List Int64 := s.2.2.2 i
def sI (s : St) (i : Nat) (v : Int32) : St := (upd s.1 i v, s.2.1, s.2.2.1, s.2.2.2)
def sJ (s : St) (i : Nat) (v : Int64) : St := (s.1, upd s.2.1 i v, s.2.2.1, s.2.2.2)
def sA (s : St) (i : Nat) (v : List Int32) : St := (s.1, s.2.1, upd s.2.2.1 i v, s.2.2.2)
def sB (s : St) (i : Nat) (v : List Int64) : St := (s.1, s.2.1, s.2.2.1, upd s.2.2.2 i v)
theorem gI_sI (s : St) (i j : Nat) (v : Int32) : gI (sI s i v) j = if j = i then v else gI s j := rfl
theorem gI_sJ (s : St) (i j : Nat) (v : Int64) : gI (sJ s i v) j = gI s j := rfl
theorem gI_sA (s : St) (i j : Nat) (v : List Int32) : gI (sA s i v) j = gI s j := rfl
theorem gI_sB (s : St) (i j : Nat) (v : List Int64) : gI (sB s i v) j = gI s j := rfl
theorem gJ_sI (s : St) (i j : Nat) (v : Int32) : gJ (sI s i v) j = gJ s j := rfl
theorem gJ_sJ (s : St) (i j : Nat) (v : Int64) : gJ (sJ s i v) j = if j = i then v else gJ s j := rfl
theorem gJ_sA (s : St) (i j : Nat) (v : List Int32) : gJ (sA s i v) j = gJ s j := rfl
theorem gJ_sB (s : St) (i j : Nat) (v : List Int64) : gJ (sB s i v) j = gJ s j := rfl
theorem gA_sI (s : St) (i j : Nat) (v : Int32) : gA (sI s i v) j = gA s j := rfl
theorem gA_sJ (s : St) (i j : Nat) (v : Int64) : gA (sJ s i v) j = gA s j := rfl
theorem gA_sA (s : St) (i j : Nat) (v : List Int32) : gA (sA s i v) j = if j = i then v else gA s j := rfl
theorem gA_sB (s : St) (i j : Nat) (v : List Int64) : gA (sB s i v) j = gA s j := rfl
theorem gB_sI (s : St) (i j : Nat) (v : Int32) : gB (sI s i v) j = gB s j := rfl
theorem gB_sJ (s : St) (i j : Nat) (v : Int64) : gB (sJ s i v) j = gB s j := rfl
theorem gB_sA (s : St) (i j : Nat) (v : List Int32) : gB (sA s i v) j = gB s j := rfl
theorem gB_sB (s : St) (i j : Nat) (v : List Int64) : gB (sB s i v) j = if j = i then v else gB s j := rfl
def wrA (s : St) (i : Nat) (j x : Int32) : Option St := (wr (gA s i) j x).map (sA s i)
def wrB (s : St) (i : Nat) (j : Int32) (x : Int64) : Option St := (wr (gB s i) j x).map (sB s i)
theorem wrA_e {s s' : St} {i : Nat} {j x : Int32} (h : wrA s i j x = some s') : ∃ ys, wr (gA s i) j x = some ys ∧ s' = sA s i ys := by
  obtain ⟨ys, h1, h2⟩ := Option.map_eq_some_iff.mp h
  exact ⟨ys, h1, h2.symm⟩
theorem wrB_e {s s' : St} {i : Nat} {j : Int32} {x : Int64} (h : wrB s i j x = some s') : ∃ ys, wr (gB s i) j x = some ys ∧ s' = sB s i ys := by
  obtain ⟨ys, h1, h2⟩ := Option.map_eq_some_iff.mp h
  exact ⟨ys, h1, h2.symm⟩
def lt {α β : Type} (x : α) (f : α → β) : β := f x
theorem lt_e {α β : Type} {x : α} {f : α → β} {r : β} (h : lt x f = r) : ∃ y, y = x ∧ f y = r := ⟨x, rfl, h⟩
theorem ite_e {α : Type} {c : Prop} [Decidable c] {a b r : α} (h : (if c then a else b) = r) : (c ∧ a = r) ∨ (¬ c ∧ b = r) := by
  by_cases hc : c
  · rw [if_pos hc] at h; exact Or.inl ⟨hc, h⟩
  · rw [if_neg hc] at h; exact Or.inr ⟨hc, h⟩
theorem nz_e {α : Type} {c : Prop} [Decidable c] {b : Option α} {r : α} (h : (if c then none else b) = some r) : ¬ c ∧ b = some r := by
  by_cases hc : c
  · rw [if_pos hc] at h; cases h
  · rw [if_neg hc] at h; exact ⟨hc, h⟩
/-! the class's fields -/
def LaidAll (Z : State) (a0 : Array Value) (C : String) : List (String × String) → List Value → Prop
  | f :: fs, v :: vs => (Laid Z a0 C C f.1 f.2 ∧ ∃ ty, parseFieldDescriptor f.2 = some ty ∧ v = defaultValue ty) ∧ LaidAll Z a0 C fs vs
  | [], [] => True
  | _, _ => False
theorem LaidAll.new {Z : State} {a0 : Array Value} {C : String} : ∀ {lay : List (String × String)} {vs : List Value}, LaidAll Z a0 C lay vs → ∀ (i : Nat) (f : String × String) (v : Value), lay[i]? = some f → vs[i]? = some v → Laid Z a0 C C f.1 f.2 ∧ ∃ ty, parseFieldDescriptor f.2 = some ty ∧ v = defaultValue ty
  | [], [], _, i, f, v, h, _ => by simp at h
  | g :: fs, w :: vs, h, 0, f, v, h1, h2 => by
    obtain rfl : g = f := by simpa using h1
    obtain rfl : w = v := by simpa using h2
    exact h.1
  | g :: fs, w :: vs, h, i + 1, f, v, h1, h2 => LaidAll.new h.2 i f v (by simpa using h1) (by simpa using h2)
theorem LaidAll.len {Z : State} {a0 : Array Value} {C : String} : ∀ {lay : List (String × String)} {vs : List Value}, LaidAll Z a0 C lay vs → lay.length = vs.length
  | [], [], _ => rfl
  | g :: fs, w :: vs, h => congrArg Nat.succ (LaidAll.len h.2)
theorem LaidAll.ne {Z : State} {a0 : Array Value} {C : String} {lay : List (String × String)} {vs : List Value} (h : LaidAll Z a0 C lay vs) (nd : (lay.map Prod.fst).Nodup) : ∀ (a b : Nat) (f g : String × String), lay[a]? = some f → lay[b]? = some g → a ≠ b → RoadKit.slotOf Z C f.1 f.2 ≠ RoadKit.slotOf Z C g.1 g.2 := by
  intro a b f g ha hb' hne
  have la := get_lt ha
  have lb := get_lt hb'
  obtain ⟨L1, t1, e1, -⟩ := h.new a f _ ha (List.getElem?_eq_getElem (h.len ▸ la))
  obtain ⟨L2, t2, e2, -⟩ := h.new b g _ hb' (List.getElem?_eq_getElem (h.len ▸ lb))
  refine slot_ne L1 L2 (fun q => hne ?_) e1 e2
  have h1 : (lay.map Prod.fst)[a]? = some f.1 := by rw [List.getElem?_map, ha]; rfl
  have h2 : (lay.map Prod.fst)[b]? = some g.1 := by rw [List.getElem?_map, hb']; rfl
  exact (List.getElem?_inj (by simpa using la) nd).mp (h1.trans (by rw [q]; exact h2.symm))
section Puts
variable {l : Launch} {Z : State} {a0 : Array Value} {C : String} {lay : List (String × String)} {own mn : String} {bytes : ByteArray} {maxL : Nat} {ret : Option FieldType} {R : Room} {n0 ro : Nat} {Q : Option Value → List OwnC → Prop} {k n pc pc' : Nat} {L L' : List Slot} {S S' : List Value} {H H' : List OwnC}
theorem WP.putI {idx i j kk : Nat} {f : String} {vs : List Value} {x : Int32} {old : Value} (hd : decode bytes pc = .ok (.putfield idx, 3)) (hw : (Cond.fieldLink own idx C f "I").before a0 Z = true) (hl : (Cond.lays C C f "I").before a0 Z = true ∨ ((Cond.laysFinal C C f "I").before a0 Z = true ∧ own = C ∧ mn = "<init>")) (wi : (Cond.instantiable C kk).before a0 Z = true)
    (hlay : ∀ (a b : Nat) (f g : String × String), lay[a]? = some f → lay[b]? = some g → a ≠ b → RoadKit.slotOf Z C f.1 f.2 ≠ RoadKit.slotOf Z C g.1 g.2) (hj : lay[j]? = some (f, "I")) (hH : H[i]? = some (.inl vs)) (hv : vs[j]? = some old) (hi : ro ≤ i) (hH' : H.set i (.inl (vs.set j (.int x))) = H') (nx : WP l Z C lay own mn bytes maxL ret R n0 ro Q k n (pc + 3) L S H') : WP l Z C lay own mn bytes maxL ret R n0 ro Q k n pc L (.int x :: .ref i :: S) H :=
  WP.put hd hw hl wi hlay (ty := .int) (by decide) (fun _ => rfl) (fun _ => rfl) hj hH hv hi hH' nx
theorem WP.putJ {idx i j kk : Nat} {f : String} {vs : List Value} {x : Int64} {old : Value} (hd : decode bytes pc = .ok (.putfield idx, 3)) (hw : (Cond.fieldLink own idx C f "J").before a0 Z = true) (hl : (Cond.lays C C f "J").before a0 Z = true ∨ ((Cond.laysFinal C C f "J").before a0 Z = true ∧ own = C ∧ mn = "<init>")) (wi : (Cond.instantiable C kk).before a0 Z = true)
    (hlay : ∀ (a b : Nat) (f g : String × String), lay[a]? = some f → lay[b]? = some g → a ≠ b → RoadKit.slotOf Z C f.1 f.2 ≠ RoadKit.slotOf Z C g.1 g.2) (hj : lay[j]? = some (f, "J")) (hH : H[i]? = some (.inl vs)) (hv : vs[j]? = some old) (hi : ro ≤ i) (hH' : H.set i (.inl (vs.set j (.long x))) = H') (nx : WP l Z C lay own mn bytes maxL ret R n0 ro Q k n (pc + 3) L S H') : WP l Z C lay own mn bytes maxL ret R n0 ro Q k n pc L (.long x :: .ref i :: S) H :=
  WP.put hd hw hl wi hlay (ty := .long) (by decide) (fun _ => rfl) (fun _ => rfl) hj hH hv hi hH' nx
theorem WP.putZ {idx i j kk : Nat} {f : String} {vs : List Value} {x : Int32} {old : Value} (hd : decode bytes pc = .ok (.putfield idx, 3)) (hw : (Cond.fieldLink own idx C f "Z").before a0 Z = true) (hl : (Cond.lays C C f "Z").before a0 Z = true ∨ ((Cond.laysFinal C C f "Z").before a0 Z = true ∧ own = C ∧ mn = "<init>")) (wi : (Cond.instantiable C kk).before a0 Z = true)
    (hlay : ∀ (a b : Nat) (f g : String × String), lay[a]? = some f → lay[b]? = some g → a ≠ b → RoadKit.slotOf Z C f.1 f.2 ≠ RoadKit.slotOf Z C g.1 g.2) (hj : lay[j]? = some (f, "Z")) (hH : H[i]? = some (.inl vs)) (hv : vs[j]? = some old) (hi : ro ≤ i) (hH' : H.set i (.inl (vs.set j (.int (x &&& 1)))) = H') (nx : WP l Z C lay own mn bytes maxL ret R n0 ro Q k n (pc + 3) L S H') : WP l Z C lay own mn bytes maxL ret R n0 ro Q k n pc L (.int x :: .ref i :: S) H :=
  WP.put (v' := .int (x &&& 1)) hd hw hl wi hlay (ty := .boolean) (by decide) (fun _ => rfl) (fun _ => fits_nar_bool x) hj hH hv hi hH' nx
theorem WP.putR {idx i j kk i2 : Nat} {f d : String} {vs : List Value} {old : Value} {ty : FieldType} (hd : decode bytes pc = .ok (.putfield idx, 3)) (hw : (Cond.fieldLink own idx C f d).before a0 Z = true) (hl : (Cond.lays C C f d).before a0 Z = true ∨ ((Cond.laysFinal C C f d).before a0 Z = true ∧ own = C ∧ mn = "<init>")) (wi : (Cond.instantiable C kk).before a0 Z = true)
    (hlay : ∀ (a b : Nat) (f g : String × String), lay[a]? = some f → lay[b]? = some g → a ≠ b → RoadKit.slotOf Z C f.1 f.2 ≠ RoadKit.slotOf Z C g.1 g.2) (hty : parseFieldDescriptor d = some ty) (hn : ∀ a, narrow ty (.ref a) = .ref a) (hf : ∀ a, fits ty (.ref a) = true) (hj : lay[j]? = some (f, d)) (hH : H[i]? = some (.inl vs)) (hv : vs[j]? = some old) (hi : ro ≤ i) (hH' : H.set i (.inl (vs.set j (.ref i2))) = H') (nx : WP l Z C lay own mn bytes maxL ret R n0 ro Q k n (pc + 3) L S H') : WP l Z C lay own mn bytes maxL ret R n0 ro Q k n pc L (.ref i2 :: .ref i :: S) H :=
  WP.put (v' := .ref i2) hd hw hl wi hlay hty (fun ad => hn (ad i2)) (fun ad => hf (ad i2)) hj hH hv hi hH' nx
end Puts
/-! ## the start of a law -/
theorem HR.start0 (s : State) (C : String) (lay : List (String × String)) : HR s C lay s.heap.size 0 (fun t => s.heap.size + t) [] s.heap :=
  ⟨fun i c h => by simp at h, fun i j h => by simp at h, fun t => by simp, fun i h => by simp at h, Nat.le_refl _⟩
theorem script_ints {s : State} {a : Addr} {c : Cell} (hf : Fit s) (A : Arr s s.heap a c .int) : ∃ xs : List Int32, c.slots.toList = xs.map Value.int := by
  have h : ∀ v ∈ c.slots.toList, ∃ x : Int32, v = Value.int x := fun v hv => by
    obtain ⟨i, hi, e⟩ := List.mem_iff_getElem.mp hv
    have hi' : i < c.slots.size := by simpa using hi
    have q := hf A.1 hi'
    obtain ⟨hs, k, hk, comp, hkind⟩ := A.2.1
    have e2 : s.slotType? c.cls c.vm i = some .int := by
      cases hq : c.vm <;> first | exact absurd hq (hs _) | simp [State.slotType?, hk, hkind]
    have e3 : c.slots[i] = v := by rw [← e]; simp
    have q2 : fits .int v = true := by rw [← e3]; simpa [State.fitsSlot, e2] using q
    exact fit_I q2 (by simp)
  generalize c.slots.toList = L at h
  induction L with
  | nil => exact ⟨[], rfl⟩
  | cons v L ih =>
    obtain ⟨x, rfl⟩ := h v (List.mem_cons_self ..)
    obtain ⟨xs, rfl⟩ := ih fun w hw => h w (List.mem_cons_of_mem _ hw)
    exact ⟨x :: xs, rfl⟩
def ad1 (a N : Nat) : Nat → Addr
  | 0 => a
  | t + 1 => N + t
theorem HR.start1 {s : State} (C : String) (lay : List (String × String)) {a : Addr} {c : Cell} {xs : List Int32} (A : Arr s s.heap a c .int) (hx : c.slots.toList = xs.map Value.int) : HR s C lay s.heap.size 1 (ad1 a s.heap.size) [cI xs] s.heap := by
  refine ⟨fun i cc h => ?_, fun i j hi hj _ => ?_, fun t => ?_, fun i hi hr => ?_, Nat.le_refl _⟩
  · have hi := get_lt h
    simp at hi; subst hi
    simp at h; subst h
    exact ⟨c, A, hx⟩
  · simp at hi hj; omega
  · show ad1 a s.heap.size (1 + t) = _; rw [Nat.add_comm 1 t]; rfl
  · simp at hi; omega
theorem script_len {s : State} {a : Addr} {c : Cell} {n : Nat} {args : Array Value} {t : Term} (ev : t.eval args s none [] s = some (.ref a)) (A : Arr s s.heap a c .int) (e1 : c.slots.size = n) (h : (Cond.le (Term.length t) (Term.int (260 : Int32))).value args s none s [] = some true) : n ≤ 260 := by
  have hat := A.fin (Vm.Alike.refl _)
  have hl : (Term.length t).eval args s none [] s = if n < 2 ^ 31 then some (.int n.toInt32) else none := by
    simp only [Term.eval, ev, hat, Option.bind_eq_bind, Option.bind_some, e1]; rfl
  by_cases hn : n < 2 ^ 31
  · rw [if_pos hn] at hl
    have h1 := gotT (Cond.le_ints hl (Term.int_eval (260 : Int32))) h
    have h2 : n.toInt32.toInt = n := by
      show (Int32.ofNat n).toInt = n
      exact Int32.toInt_ofNat_of_lt hn
    have h3 := Int32.le_iff_toInt_le.mp h1
    rw [h2] at h3
    have : (260 : Int32).toInt = 260 := by decide
    omega
  · rw [if_neg hn] at hl
    simp [Cond.value, hl] at h
/-! ## plain laws -/
/-- with fuel enough it answers r -/
def Ev {α : Type} (f : Nat → Option α) (r : α) : Prop := ∃ N, ∀ n, N ≤ n → f n = some r
theorem Ev.const {α : Type} {x : Option α} {r : α} (h : x = some r) : Ev (fun _ => x) r := ⟨0, fun _ _ => h⟩
theorem Ev.get {α : Type} {f : Nat → Option α} {r : α} (h : Ev f r) : ∃ n, f n = some r := by obtain ⟨N, h⟩ := h; exact ⟨N, h N (Nat.le_refl _)⟩
theorem Ev.step {α : Type} {f g : Nat → Option α} {r : α} (e : ∀ n, f (n + 1) = g n) (h : Ev g r) : Ev f r := by
  obtain ⟨N, h⟩ := h
  refine ⟨N + 1, fun n hn => ?_⟩
  cases n with
  | zero => omega
  | succ n => rw [e n]; exact h n (by omega)
theorem Ev.congr {α : Type} {f g : Nat → Option α} {r : α} (e : ∀ n, f n = g n) (h : Ev g r) : Ev f r := by
  obtain ⟨N, h⟩ := h
  exact ⟨N, fun n hn => (e n).trans (h n hn)⟩
theorem Ev.bind {α β : Type} {f : Nat → Option β} {g : Nat → β → Option α} {c : β} {r : α} (h1 : Ev f c) (h2 : Ev (fun n => g n c) r) : Ev (fun n => (f n).bind (g n)) r := by
  obtain ⟨N, h1⟩ := h1
  obtain ⟨M, h2⟩ := h2
  refine ⟨N + M, fun n hn => ?_⟩
  show (f n).bind (g n) = some r
  rw [h1 n (by omega)]; exact h2 n (by omega)
theorem Ev.uniq {α : Type} {f : Nat → Option α} {r r' : α} (h : Ev f r) (h' : Ev f r') : r = r' := by
  obtain ⟨N, h⟩ := h
  obtain ⟨M, h'⟩ := h'
  exact Option.some.inj ((h (N + M) (by omega)).symm.trans (h' (N + M) (by omega)))
/-! Int32 as Int -/
theorem x32_lt {x y : Int32} : x < y ↔ x.toInt < y.toInt := Int32.lt_iff_toInt_lt
theorem x32_eq {x y : Int32} : x = y ↔ x.toInt = y.toInt := Int32.toInt_inj.symm
theorem x32_add {x y : Int32} (h1 : -2147483648 ≤ x.toInt + y.toInt) (h2 : x.toInt + y.toInt < 2147483648) : (x + y).toInt = x.toInt + y.toInt := by
  rw [Int32.toInt_add]; exact Int.bmod_eq_of_le (by omega) (by omega)
theorem x32_sub {x y : Int32} (h1 : -2147483648 ≤ x.toInt - y.toInt) (h2 : x.toInt - y.toInt < 2147483648) : (x - y).toInt = x.toInt - y.toInt := by
  rw [Int32.toInt_sub]; exact Int.bmod_eq_of_le (by omega) (by omega)
theorem x32_mul {x y : Int32} (h1 : -2147483648 ≤ x.toInt * y.toInt) (h2 : x.toInt * y.toInt < 2147483648) : (x * y).toInt = x.toInt * y.toInt := by
  rw [Int32.toInt_mul]; exact Int.bmod_eq_of_le (by omega) (by omega)
theorem clamp_nat (x : Int32) : x.toNatClampNeg = x.toInt.toNat := rfl
/-! reading and writing -/
theorem rd_of {α : Type} {xs : List α} {i : Int32} {k : Nat} {x : α} (hi : i.toInt = k) (h : xs[k]? = some x) : rd xs i = some x := by
  have h0 : ¬ i < 0 := by rw [x32_lt, hi]; show ¬ (k : Int) < 0; omega
  unfold rd
  rw [if_neg h0, clamp_nat, hi]; exact h
theorem wr_of {α : Type} {xs : List α} {i : Int32} {k : Nat} (x : α) (hi : i.toInt = k) (h : k < xs.length) : wr xs i x = some (xs.set k x) := by
  have h0 : ¬ i < 0 := by rw [x32_lt, hi]; show ¬ (k : Int) < 0; omega
  unfold wr
  rw [if_neg h0, clamp_nat, hi]; exact if_pos h
theorem wrA_of {s : St} {f : Nat} {i : Int32} {k : Nat} (x : Int32) (hi : i.toInt = k) (h : k < (gA s f).length) : wrA s f i x = some (sA s f ((gA s f).set k x)) := by
  unfold wrA; rw [wr_of x hi h]; rfl
theorem wrB_of {s : St} {f : Nat} {i : Int32} {k : Nat} (x : Int64) (hi : i.toInt = k) (h : k < (gB s f).length) : wrB s f i x = some (sB s f ((gB s f).set k x)) := by
  unfold wrB; rw [wr_of x hi h]; rfl
theorem nn_of {i : Int32} (h : ¬ i < 0) : ∃ k : Nat, i.toInt = k := ⟨i.toInt.toNat, by
  rw [x32_lt] at h
  have : (0 : Int32).toInt = 0 := by decide
  omega⟩
theorem Ev.all {α : Type} {f : Nat → Option α} {r : α} (h : ∀ n, f n = some r) : Ev f r := ⟨0, fun n _ => h n⟩
theorem ofN_int {k : Nat} (h : k < 2147483648) : (Int32.ofNat k).toInt = k := Int32.toInt_ofNat_of_lt (by omega)
theorem ofN_lt {i m : Nat} (hi : i < 2147483648) (hm : m < 2147483648) : Int32.ofNat i < Int32.ofNat m ↔ i < m := by
  rw [x32_lt, ofN_int hi, ofN_int hm]; omega
theorem ofN_succ (k : Nat) : Int32.ofNat k + 1 = Int32.ofNat (k + 1) := (Int32.ofNat_add k 1).symm
theorem ofN_eq {i m : Nat} (hi : i < 2147483648) (hm : m < 2147483648) : Int32.ofNat i = Int32.ofNat m ↔ i = m := by
  rw [x32_eq, ofN_int hi, ofN_int hm]; omega
theorem ofN_of {x : Int32} {k : Nat} (h : x.toInt = k) : x = Int32.ofNat k := by
  have h2 := Int32.toInt_lt x
  rw [x32_eq, ofN_int (by omega)]; exact h
/-- a loop that counts up to N -/
theorem loop_up {α σ : Type} {F : Nat → Int32 → σ → Option α} {E : Nat → σ → Option α} {N : Nat} (Inv : Nat → σ → Prop)
    (hstep : ∀ (i : Nat) (s : σ), i < N → Inv i s → ∃ s', Inv (i + 1) s' ∧ ∀ n, F (n + 1) (Int32.ofNat i) s = F n (Int32.ofNat (i + 1)) s')
    (hend : ∀ s, Inv N s → ∀ n, F (n + 1) (Int32.ofNat N) s = E n s) : ∀ (k i : Nat) (s : σ), i + k = N → Inv i s → ∃ s', Inv N s' ∧ ∀ r, Ev (fun n => E n s') r → Ev (fun n => F n (Int32.ofNat i) s) r := by
  intro k
  induction k with
  | zero =>
    intro i s hi h
    obtain rfl : i = N := by omega
    exact ⟨s, h, fun r hr => Ev.step (hend s h) hr⟩
  | succ k ih =>
    intro i s hi h
    obtain ⟨s', h1, h2⟩ := hstep i s (by omega) h
    obtain ⟨s2, h3, h4⟩ := ih (i + 1) s' (by omega) h1
    exact ⟨s2, h3, fun r hr => Ev.step h2 (h4 r hr)⟩
theorem set_len {α : Type} (xs : List α) (k : Nat) (x : α) : (xs.set k x).length = xs.length := List.length_set
theorem ofN_ltL {i m : Nat} (hi : i < 2147483648) (hm : m < 2147483648) : Int32.ofNat i < (OfNat.ofNat m : Int32) ↔ i < m := ofN_lt hi hm
theorem ofN_gtL {i m : Nat} (hi : i < 2147483648) (hm : m < 2147483648) : (OfNat.ofNat m : Int32) < Int32.ofNat i ↔ m < i := ofN_lt hm hi
theorem ofN_eqL {i m : Nat} (hi : i < 2147483648) (hm : m < 2147483648) : Int32.ofNat i = (OfNat.ofNat m : Int32) ↔ i = m := ofN_eq hi hm
theorem ofN_nn {i : Nat} (hi : i < 2147483648) : ¬ Int32.ofNat i < 0 := fun h => Nat.not_lt_zero _ ((ofN_ltL hi (by decide)).mp h)
theorem lit_int {m : Nat} (hm : m < 2147483648) : (OfNat.ofNat m : Int32).toInt = m := ofN_int hm
theorem upd_upd {α : Type} (f : Nat → α) (i : Nat) (x y : α) : upd (upd f i x) i y = upd f i y := by
  funext j; unfold upd; by_cases h : j = i <;> simp [h]
theorem upd_self {α : Type} (f : Nat → α) (i : Nat) : upd f i (f i) = f := by
  funext j; unfold upd; by_cases h : j = i <;> simp [h]
theorem sA_sA (s : St) (i : Nat) (x y : List Int32) : sA (sA s i x) i y = sA s i y := by unfold sA; dsimp only; rw [upd_upd]
theorem sB_sB (s : St) (i : Nat) (x y : List Int64) : sB (sB s i x) i y = sB s i y := by unfold sB; dsimp only; rw [upd_upd]
theorem sI_sI (s : St) (i : Nat) (x y : Int32) : sI (sI s i x) i y = sI s i y := by unfold sI; dsimp only; rw [upd_upd]
theorem sA_self {s : St} {i : Nat} {x : List Int32} (h : gA s i = x) : sA s i x = s := by
  subst h; unfold sA gA; rw [upd_self]
theorem sB_self {s : St} {i : Nat} {x : List Int64} (h : gB s i = x) : sB s i x = s := by
  subst h; unfold sB gB; rw [upd_self]
theorem sI_self {s : St} {i : Nat} {x : Int32} (h : gI s i = x) : sI s i x = s := by
  subst h; unfold sI gI; rw [upd_self]
theorem fill_set {α : Type} (a b : α) (n i : Nat) (h : i < n) : (List.replicate i a ++ List.replicate (n - i) b).set i a = List.replicate (i + 1) a ++ List.replicate (n - (i + 1)) b := by
  rw [List.set_append_right _ _ (by simp), List.length_replicate, Nat.sub_self]
  obtain ⟨m, hm⟩ : ∃ m, n - i = m + 1 := ⟨n - i - 1, by omega⟩
  have hm2 : n - (i + 1) = m := by omega
  rw [hm, hm2, List.replicate_succ, List.set_cons_zero, List.replicate_succ', List.append_assoc]; rfl
theorem and_nat (x : Int32) (m : Nat) (hm : m < 2147483648) : ∃ k, k ≤ m ∧ (x &&& Int32.ofNat m) = Int32.ofNat k := by
  refine ⟨(x.toBitVec &&& BitVec.ofNat 32 m).toNat, ?_, ?_⟩
  · rw [BitVec.toNat_and, BitVec.toNat_ofNat, Nat.mod_eq_of_lt (by omega)]
    exact Nat.and_le_right
  · apply Int32.toBitVec_inj.mp
    show x.toBitVec &&& BitVec.ofNat 32 m = BitVec.ofNat 32 _
    rw [BitVec.ofNat_toNat, BitVec.setWidth_eq]
theorem and_natL (x : Int32) (m : Nat) (hm : m < 2147483648) : ∃ k, k ≤ m ∧ (x &&& (OfNat.ofNat m : Int32)) = Int32.ofNat k := and_nat x m hm
theorem nat_lt {i : Int32} {m : Nat} (h : ¬ i < 0) (h2 : i < (OfNat.ofNat m : Int32)) (hm : m < 2147483648) : ∃ k : Nat, k < m ∧ i = Int32.ofNat k := by
  obtain ⟨k, hk⟩ := nn_of h
  rw [x32_lt, lit_int hm, hk] at h2
  exact ⟨k, by omega, ofN_of hk⟩
theorem nat_le {i : Int32} {m : Nat} (h : ¬ i < 0) (h2 : ¬ (OfNat.ofNat m : Int32) < i) (hm : m < 2147483648) : ∃ k : Nat, k ≤ m ∧ i = Int32.ofNat k := by
  obtain ⟨k, hk⟩ := nn_of h
  rw [x32_lt, lit_int hm, hk] at h2
  exact ⟨k, by omega, ofN_of hk⟩
theorem rd_at {α : Type} {xs : List α} {k : Nat} {x : α} (hk : k < 2147483648) (h : xs[k]? = some x) : rd xs (Int32.ofNat k) = some x := rd_of (ofN_int hk) h
theorem wr_at' {α : Type} {xs : List α} {k : Nat} (x : α) (hk : k < 2147483648) (h : k < xs.length) : wr xs (Int32.ofNat k) x = some (xs.set k x) := wr_of x (ofN_int hk) h
theorem rep_get {α : Type} {n k : Nat} (a : α) (h : k < n) : (List.replicate n a)[k]? = some a := by rw [List.getElem?_replicate, if_pos h]
theorem get_set_self {α : Type} {xs : List α} {k : Nat} (x : α) (h : k < xs.length) : (xs.set k x)[k]? = some x := by rw [List.getElem?_set_self h]
theorem get_set_ne {α : Type} {xs : List α} {k j : Nat} (x : α) (h : k ≠ j) : (xs.set k x)[j]? = xs[j]? := List.getElem?_set_ne h
theorem upd_comm {α : Type} (f : Nat → α) {i j : Nat} (h : i ≠ j) (x y : α) : upd (upd f i x) j y = upd (upd f j y) i x := by
  funext m; unfold upd
  by_cases h1 : m = j
  · subst h1; rw [if_pos rfl, if_neg (Ne.symm h), if_pos rfl]
  · rw [if_neg h1]; by_cases h2 : m = i
    · rw [if_pos h2, if_pos h2]
    · rw [if_neg h2, if_neg h2, if_neg h1]
theorem sA_comm {s : St} {i j : Nat} (h : i ≠ j) {x y : List Int32} : sA (sA s i x) j y = sA (sA s j y) i x := by unfold sA; dsimp only; rw [upd_comm _ h]
theorem sB_comm {s : St} {i j : Nat} (h : i ≠ j) {x y : List Int64} : sB (sB s i x) j y = sB (sB s j y) i x := by unfold sB; dsimp only; rw [upd_comm _ h]
theorem sI_comm {s : St} {i j : Nat} (h : i ≠ j) {x y : Int32} : sI (sI s i x) j y = sI (sI s j y) i x := by unfold sI; dsimp only; rw [upd_comm _ h]
theorem sJ_self {s : St} {i : Nat} {x : Int64} (h : gJ s i = x) : sJ s i x = s := by
  subst h; unfold sJ gJ; rw [upd_self]
theorem wrA_nop {s : St} {f N k : Nat} {v : Int32} (h : gA s f = List.replicate N v) (hk : k < N) (hN : N ≤ 2147483647) : wrA s f (Int32.ofNat k) v = some s := by
  rw [wrA_of (k := k) v (ofN_int (by omega)) (by rw [h, List.length_replicate]; exact hk), sA_self (by rw [h, List.set_replicate_self])]
theorem wrB_nop {s : St} {f N k : Nat} {v : Int64} (h : gB s f = List.replicate N v) (hk : k < N) (hN : N ≤ 2147483647) : wrB s f (Int32.ofNat k) v = some s := by
  rw [wrB_of (k := k) v (ofN_int (by omega)) (by rw [h, List.length_replicate]; exact hk), sB_self (by rw [h, List.set_replicate_self])]
/-- a loop that fills -/
theorem wrA_fill {s : St} {f N k : Nat} {u v : Int32} (hk : k < N) (hN : N ≤ 2147483647) : wrA (sA s f (List.replicate k v ++ List.replicate (N - k) u)) f (Int32.ofNat k) v = some (sA s f (List.replicate (k + 1) v ++ List.replicate (N - (k + 1)) u)) := by
  rw [wrA_of (k := k) v (ofN_int (by omega)) (by rw [gA_sA, if_pos rfl]; simp; omega), gA_sA, if_pos rfl, fill_set _ _ _ _ hk, sA_sA]
theorem fill_start {s : St} {f N : Nat} {u v : Int32} (h : gA s f = List.replicate N u) : s = sA s f (List.replicate 0 v ++ List.replicate (N - 0) u) := (sA_self (by rw [h]; rfl)).symm
theorem fill_end {s : St} {f N : Nat} {u v : Int32} : sA s f (List.replicate N v ++ List.replicate (N - N) u) = sA s f (List.replicate N v) := by rw [Nat.sub_self]; simp
theorem x32_neg {x : Int32} (h : -2147483648 < x.toInt) : (-x).toInt = -x.toInt := by
  have := Int32.toInt_lt x
  rw [Int32.toInt_neg]; exact Int.bmod_eq_of_le (by omega) (by omega)
theorem x64_neg {x : Int64} (h : -9223372036854775808 < x.toInt) : (-x).toInt = -x.toInt := by
  have := Int64.toInt_lt x
  rw [Int64.toInt_neg]; exact Int.bmod_eq_of_le (by omega) (by omega)
theorem x64_lt {x y : Int64} : x < y ↔ x.toInt < y.toInt := Int64.lt_iff_toInt_lt
theorem x64_eq {x y : Int64} : x = y ↔ x.toInt = y.toInt := Int64.toInt_inj.symm
theorem x64_add {x y : Int64} (h1 : -9223372036854775808 ≤ x.toInt + y.toInt) (h2 : x.toInt + y.toInt < 9223372036854775808) : (x + y).toInt = x.toInt + y.toInt := by
  rw [Int64.toInt_add]; exact Int.bmod_eq_of_le (by omega) (by omega)
theorem x64_sub {x y : Int64} (h1 : -9223372036854775808 ≤ x.toInt - y.toInt) (h2 : x.toInt - y.toInt < 9223372036854775808) : (x - y).toInt = x.toInt - y.toInt := by
  rw [Int64.toInt_sub]; exact Int.bmod_eq_of_le (by omega) (by omega)
theorem x64_mul {x y : Int64} (h1 : -9223372036854775808 ≤ x.toInt * y.toInt) (h2 : x.toInt * y.toInt < 9223372036854775808) : (x * y).toInt = x.toInt * y.toInt := by
  rw [Int64.toInt_mul]; exact Int.bmod_eq_of_le (by omega) (by omega)
end Jvm.Own
namespace Jvm.Pilot.@@N@@
open Jvm Jvm.ClassFile Sem Op Lib Jvm.Free Jvm.Stand Jvm.LawKit Jvm.RoadKit Bundle Jvm.Pilot.@@N@@.Jvm.D Jvm.Own
abbrev HW (a0 : Array Value) (Z : State) : Prop := ∀ d ∈ tables_1, d.before a0 Z = true
abbrev CN : String := "BillingRun"
def lay : List (String × String) := [("days", "I"), ("basis", "I"), ("todayDay", "I"), ("cycles", "I"), ("feeCents", "[I"), ("kind", "[I"), ("upTo", "[I"), ("price", "[I"), ("active", "[Z"), ("curPlan", "[I"), ("segCount", "[I"), ("credBal", "[J"), ("credIssued", "[J"), ("credApplied", "[J"), ("segStart", "[I"), ("segEnd", "[I"), ("segPlan", "[I"), ("segUsage", "[I"), ("invLines", "[I"), ("invSub", "[J"), ("invTax", "[J"), ("invCredit", "[J"), ("invTotal", "[J"), ("invCycle", "[I"), ("lineAmt", "[J"), ("lineTax", "[J"), ("rem", "[J"), ("picked", "[Z")]
abbrev vs0 : List Value := [.int 0, .int 0, .int 0, .int 0, .null, .null, .null, .null, .null, .null, .null, .null, .null, .null, .null, .null, .null, .null, .null, .null, .null, .null, .null, .null, .null, .null, .null, .null]
abbrev Hb (b : Nat) (s : St) : List OwnC := [cO [.int (gI s 0), .int (gI s 1), .int (gI s 2), .int (gI s 3), .ref (b + 1), .ref (b + 2), .ref (b + 3), .ref (b + 4), .ref (b + 5), .ref (b + 6), .ref (b + 7), .ref (b + 8), .ref (b + 9), .ref (b + 10), .ref (b + 11), .ref (b + 12), .ref (b + 13), .ref (b + 14), .ref (b + 15), .ref (b + 16), .ref (b + 17), .ref (b + 18), .ref (b + 19), .ref (b + 20), .ref (b + 21), .ref (b + 22), .ref (b + 23), .ref (b + 24)], cI (gA s 0), cI (gA s 1), cI (gA s 2), cI (gA s 3), cZ (gA s 4), cI (gA s 5), cI (gA s 6), cJ (gB s 0), cJ (gB s 1), cJ (gB s 2), cI (gA s 7), cI (gA s 8), cI (gA s 9), cI (gA s 10), cI (gA s 11), cJ (gB s 3), cJ (gB s 4), cJ (gB s 5), cJ (gB s 6), cI (gA s 12), cJ (gB s 7), cJ (gB s 8), cJ (gB s 9), cZ (gA s 13)]
def st0 : St := (fun _ => 0, fun _ => 0, fun i => ([List.replicate 8 0, List.replicate 8 0, List.replicate 32 0, List.replicate 32 0, List.replicate 16 0, List.replicate 16 0, List.replicate 16 0, List.replicate 64 0, List.replicate 64 0, List.replicate 64 0, List.replicate 64 0, List.replicate 16 0, List.replicate 16 0, List.replicate 8 0] : List (List Int32)).getD i [], fun i => ([List.replicate 16 0, List.replicate 16 0, List.replicate 16 0, List.replicate 16 0, List.replicate 16 0, List.replicate 16 0, List.replicate 16 0, List.replicate 128 0, List.replicate 128 0, List.replicate 8 0] : List (List Int64)).getD i [])
theorem m_0 : (Jvm.Cond.constant "BillingRunL3" (7 : Nat) (2147483647 : Int32)) ∈ tables_1 := List.mem_of_getElem? (i := 0) rfl
theorem m_1 : (Jvm.Cond.constant "BillingRunL3" (8 : Nat) (1000001 : Int32)) ∈ tables_1 := List.mem_of_getElem? (i := 1) rfl
theorem m_2 : (Jvm.Cond.constant "BillingRunL3" (9 : Nat) (100000001 : Int32)) ∈ tables_1 := List.mem_of_getElem? (i := 2) rfl
theorem m_3 : (Jvm.Cond.classLink "BillingRunL3" (10 : Nat) "BillingRun") ∈ tables_1 := List.mem_of_getElem? (i := 3) rfl
theorem m_4 : (Jvm.Cond.instantiable "BillingRun" (28 : Nat)) ∈ tables_1 := List.mem_of_getElem? (i := 4) rfl
theorem m_5 : (Jvm.Cond.initialized "BillingRun") ∈ tables_1 := List.mem_of_getElem? (i := 5) rfl
theorem m_6 : (Jvm.Cond.methodLink "BillingRunL3" (12 : Nat) ({ cls := "BillingRun", name := "<init>", desc := "(II)V" } : Jvm.MethodName)) ∈ tables_1 := List.mem_of_getElem? (i := 6) rfl
theorem m_7 : (Jvm.Cond.instanceMethod ({ cls := "BillingRun", name := "<init>", desc := "(II)V" } : Jvm.MethodName)) ∈ tables_1 := List.mem_of_getElem? (i := 7) rfl
theorem m_8 : (Jvm.Cond.code ({ cls := "BillingRun", name := "<init>", desc := "(II)V" } : Jvm.MethodName) prog_1_method_1_code (4 : Nat) (Option.none : Option Jvm.ClassFile.FieldType)) ∈ tables_1 := List.mem_of_getElem? (i := 8) rfl
theorem m_9 : (Jvm.Cond.methodLink "BillingRun" (1 : Nat) ({ cls := "java/lang/Object", name := "<init>", desc := "()V" } : Jvm.MethodName)) ∈ tables_1 := List.mem_of_getElem? (i := 9) rfl
theorem m_10 : (Jvm.Cond.instanceMethod ({ cls := "java/lang/Object", name := "<init>", desc := "()V" } : Jvm.MethodName)) ∈ tables_1 := List.mem_of_getElem? (i := 10) rfl
theorem m_11 : (Jvm.Cond.code ({ cls := "java/lang/Object", name := "<init>", desc := "()V" } : Jvm.MethodName) object_method_1_code (1 : Nat) (Option.none : Option Jvm.ClassFile.FieldType)) ∈ tables_1 := List.mem_of_getElem? (i := 11) rfl
theorem m_12 : (Jvm.Cond.arrayClass Jvm.ClassFile.FieldType.int) ∈ tables_1 := List.mem_of_getElem? (i := 12) rfl
theorem m_13 : (Jvm.Cond.fieldLink "BillingRun" (7 : Nat) "BillingRun" "feeCents" "[I") ∈ tables_1 := List.mem_of_getElem? (i := 13) rfl
theorem m_14 : (Jvm.Cond.lays "BillingRun" "BillingRun" "feeCents" "[I") ∈ tables_1 := List.mem_of_getElem? (i := 14) rfl
theorem m_15 : (Jvm.Cond.fieldLink "BillingRun" (13 : Nat) "BillingRun" "kind" "[I") ∈ tables_1 := List.mem_of_getElem? (i := 15) rfl
theorem m_16 : (Jvm.Cond.lays "BillingRun" "BillingRun" "kind" "[I") ∈ tables_1 := List.mem_of_getElem? (i := 16) rfl
theorem m_17 : (Jvm.Cond.fieldLink "BillingRun" (16 : Nat) "BillingRun" "upTo" "[I") ∈ tables_1 := List.mem_of_getElem? (i := 17) rfl
theorem m_18 : (Jvm.Cond.lays "BillingRun" "BillingRun" "upTo" "[I") ∈ tables_1 := List.mem_of_getElem? (i := 18) rfl
theorem m_19 : (Jvm.Cond.fieldLink "BillingRun" (19 : Nat) "BillingRun" "price" "[I") ∈ tables_1 := List.mem_of_getElem? (i := 19) rfl
theorem m_20 : (Jvm.Cond.lays "BillingRun" "BillingRun" "price" "[I") ∈ tables_1 := List.mem_of_getElem? (i := 20) rfl
theorem m_21 : (Jvm.Cond.arrayClass Jvm.ClassFile.FieldType.boolean) ∈ tables_1 := List.mem_of_getElem? (i := 21) rfl
theorem m_22 : (Jvm.Cond.fieldLink "BillingRun" (22 : Nat) "BillingRun" "active" "[Z") ∈ tables_1 := List.mem_of_getElem? (i := 22) rfl
theorem m_23 : (Jvm.Cond.lays "BillingRun" "BillingRun" "active" "[Z") ∈ tables_1 := List.mem_of_getElem? (i := 23) rfl
theorem m_24 : (Jvm.Cond.fieldLink "BillingRun" (26 : Nat) "BillingRun" "curPlan" "[I") ∈ tables_1 := List.mem_of_getElem? (i := 24) rfl
theorem m_25 : (Jvm.Cond.lays "BillingRun" "BillingRun" "curPlan" "[I") ∈ tables_1 := List.mem_of_getElem? (i := 25) rfl
theorem m_26 : (Jvm.Cond.fieldLink "BillingRun" (29 : Nat) "BillingRun" "segCount" "[I") ∈ tables_1 := List.mem_of_getElem? (i := 26) rfl
theorem m_27 : (Jvm.Cond.lays "BillingRun" "BillingRun" "segCount" "[I") ∈ tables_1 := List.mem_of_getElem? (i := 27) rfl
theorem m_28 : (Jvm.Cond.arrayClass Jvm.ClassFile.FieldType.long) ∈ tables_1 := List.mem_of_getElem? (i := 28) rfl
theorem m_29 : (Jvm.Cond.fieldLink "BillingRun" (32 : Nat) "BillingRun" "credBal" "[J") ∈ tables_1 := List.mem_of_getElem? (i := 29) rfl
theorem m_30 : (Jvm.Cond.lays "BillingRun" "BillingRun" "credBal" "[J") ∈ tables_1 := List.mem_of_getElem? (i := 30) rfl
theorem m_31 : (Jvm.Cond.fieldLink "BillingRun" (36 : Nat) "BillingRun" "credIssued" "[J") ∈ tables_1 := List.mem_of_getElem? (i := 31) rfl
theorem m_32 : (Jvm.Cond.lays "BillingRun" "BillingRun" "credIssued" "[J") ∈ tables_1 := List.mem_of_getElem? (i := 32) rfl
theorem m_33 : (Jvm.Cond.fieldLink "BillingRun" (39 : Nat) "BillingRun" "credApplied" "[J") ∈ tables_1 := List.mem_of_getElem? (i := 33) rfl
theorem m_34 : (Jvm.Cond.lays "BillingRun" "BillingRun" "credApplied" "[J") ∈ tables_1 := List.mem_of_getElem? (i := 34) rfl
theorem m_35 : (Jvm.Cond.fieldLink "BillingRun" (42 : Nat) "BillingRun" "segStart" "[I") ∈ tables_1 := List.mem_of_getElem? (i := 35) rfl
theorem m_36 : (Jvm.Cond.lays "BillingRun" "BillingRun" "segStart" "[I") ∈ tables_1 := List.mem_of_getElem? (i := 36) rfl
theorem m_37 : (Jvm.Cond.fieldLink "BillingRun" (45 : Nat) "BillingRun" "segEnd" "[I") ∈ tables_1 := List.mem_of_getElem? (i := 37) rfl
theorem m_38 : (Jvm.Cond.lays "BillingRun" "BillingRun" "segEnd" "[I") ∈ tables_1 := List.mem_of_getElem? (i := 38) rfl
theorem m_39 : (Jvm.Cond.fieldLink "BillingRun" (48 : Nat) "BillingRun" "segPlan" "[I") ∈ tables_1 := List.mem_of_getElem? (i := 39) rfl
theorem m_40 : (Jvm.Cond.lays "BillingRun" "BillingRun" "segPlan" "[I") ∈ tables_1 := List.mem_of_getElem? (i := 40) rfl
theorem m_41 : (Jvm.Cond.fieldLink "BillingRun" (51 : Nat) "BillingRun" "segUsage" "[I") ∈ tables_1 := List.mem_of_getElem? (i := 41) rfl
theorem m_42 : (Jvm.Cond.lays "BillingRun" "BillingRun" "segUsage" "[I") ∈ tables_1 := List.mem_of_getElem? (i := 42) rfl
theorem m_43 : (Jvm.Cond.fieldLink "BillingRun" (54 : Nat) "BillingRun" "invLines" "[I") ∈ tables_1 := List.mem_of_getElem? (i := 43) rfl
theorem m_44 : (Jvm.Cond.lays "BillingRun" "BillingRun" "invLines" "[I") ∈ tables_1 := List.mem_of_getElem? (i := 44) rfl
theorem m_45 : (Jvm.Cond.fieldLink "BillingRun" (57 : Nat) "BillingRun" "invSub" "[J") ∈ tables_1 := List.mem_of_getElem? (i := 45) rfl
theorem m_46 : (Jvm.Cond.lays "BillingRun" "BillingRun" "invSub" "[J") ∈ tables_1 := List.mem_of_getElem? (i := 46) rfl
theorem m_47 : (Jvm.Cond.fieldLink "BillingRun" (60 : Nat) "BillingRun" "invTax" "[J") ∈ tables_1 := List.mem_of_getElem? (i := 47) rfl
theorem m_48 : (Jvm.Cond.lays "BillingRun" "BillingRun" "invTax" "[J") ∈ tables_1 := List.mem_of_getElem? (i := 48) rfl
theorem m_49 : (Jvm.Cond.fieldLink "BillingRun" (63 : Nat) "BillingRun" "invCredit" "[J") ∈ tables_1 := List.mem_of_getElem? (i := 49) rfl
theorem m_50 : (Jvm.Cond.lays "BillingRun" "BillingRun" "invCredit" "[J") ∈ tables_1 := List.mem_of_getElem? (i := 50) rfl
theorem m_51 : (Jvm.Cond.fieldLink "BillingRun" (66 : Nat) "BillingRun" "invTotal" "[J") ∈ tables_1 := List.mem_of_getElem? (i := 51) rfl
theorem m_52 : (Jvm.Cond.lays "BillingRun" "BillingRun" "invTotal" "[J") ∈ tables_1 := List.mem_of_getElem? (i := 52) rfl
theorem m_53 : (Jvm.Cond.fieldLink "BillingRun" (69 : Nat) "BillingRun" "invCycle" "[I") ∈ tables_1 := List.mem_of_getElem? (i := 53) rfl
theorem m_54 : (Jvm.Cond.lays "BillingRun" "BillingRun" "invCycle" "[I") ∈ tables_1 := List.mem_of_getElem? (i := 54) rfl
theorem m_55 : (Jvm.Cond.fieldLink "BillingRun" (72 : Nat) "BillingRun" "lineAmt" "[J") ∈ tables_1 := List.mem_of_getElem? (i := 55) rfl
theorem m_56 : (Jvm.Cond.lays "BillingRun" "BillingRun" "lineAmt" "[J") ∈ tables_1 := List.mem_of_getElem? (i := 56) rfl
theorem m_57 : (Jvm.Cond.fieldLink "BillingRun" (75 : Nat) "BillingRun" "lineTax" "[J") ∈ tables_1 := List.mem_of_getElem? (i := 57) rfl
theorem m_58 : (Jvm.Cond.lays "BillingRun" "BillingRun" "lineTax" "[J") ∈ tables_1 := List.mem_of_getElem? (i := 58) rfl
theorem m_59 : (Jvm.Cond.fieldLink "BillingRun" (78 : Nat) "BillingRun" "rem" "[J") ∈ tables_1 := List.mem_of_getElem? (i := 59) rfl
theorem m_60 : (Jvm.Cond.lays "BillingRun" "BillingRun" "rem" "[J") ∈ tables_1 := List.mem_of_getElem? (i := 60) rfl
theorem m_61 : (Jvm.Cond.fieldLink "BillingRun" (81 : Nat) "BillingRun" "picked" "[Z") ∈ tables_1 := List.mem_of_getElem? (i := 61) rfl
theorem m_62 : (Jvm.Cond.lays "BillingRun" "BillingRun" "picked" "[Z") ∈ tables_1 := List.mem_of_getElem? (i := 62) rfl
theorem m_63 : (Jvm.Cond.methodLink "BillingRun" (84 : Nat) ({ cls := "BillingRun", name := "clamp", desc := "(III)I" } : Jvm.MethodName)) ∈ tables_1 := List.mem_of_getElem? (i := 63) rfl
theorem m_64 : (Jvm.Cond.static ({ cls := "BillingRun", name := "clamp", desc := "(III)I" } : Jvm.MethodName)) ∈ tables_1 := List.mem_of_getElem? (i := 64) rfl
theorem m_65 : (Jvm.Cond.code ({ cls := "BillingRun", name := "clamp", desc := "(III)I" } : Jvm.MethodName) prog_1_method_2_code (3 : Nat) (Option.some Jvm.ClassFile.FieldType.int)) ∈ tables_1 := List.mem_of_getElem? (i := 65) rfl
theorem m_66 : (Jvm.Cond.fieldLink "BillingRun" (88 : Nat) "BillingRun" "days" "I") ∈ tables_1 := List.mem_of_getElem? (i := 66) rfl
theorem m_67 : (Jvm.Cond.lays "BillingRun" "BillingRun" "days" "I") ∈ tables_1 := List.mem_of_getElem? (i := 67) rfl
theorem m_68 : (Jvm.Cond.fieldLink "BillingRun" (92 : Nat) "BillingRun" "basis" "I") ∈ tables_1 := List.mem_of_getElem? (i := 68) rfl
theorem m_69 : (Jvm.Cond.lays "BillingRun" "BillingRun" "basis" "I") ∈ tables_1 := List.mem_of_getElem? (i := 69) rfl
theorem m_70 : (Jvm.Cond.constant "BillingRun" (95 : Nat) (1000000 : Int32)) ∈ tables_1 := List.mem_of_getElem? (i := 70) rfl
theorem m_71 : (Jvm.Cond.methodLink "BillingRunL3" (15 : Nat) ({ cls := "BillingRun", name := "setPlan", desc := "(III)Z" } : Jvm.MethodName)) ∈ tables_1 := List.mem_of_getElem? (i := 71) rfl
theorem m_72 : (Jvm.Cond.declares ({ cls := "BillingRun", name := "setPlan", desc := "(III)Z" } : Jvm.MethodName)) ∈ tables_1 := List.mem_of_getElem? (i := 72) rfl
theorem m_73 : (Jvm.Cond.instanceMethod ({ cls := "BillingRun", name := "setPlan", desc := "(III)Z" } : Jvm.MethodName)) ∈ tables_1 := List.mem_of_getElem? (i := 73) rfl
theorem m_74 : (Jvm.Cond.selects "BillingRun" ({ cls := "BillingRun", name := "setPlan", desc := "(III)Z" } : Jvm.MethodName) ({ cls := "BillingRun", name := "setPlan", desc := "(III)Z" } : Jvm.MethodName)) ∈ tables_1 := List.mem_of_getElem? (i := 74) rfl
theorem m_75 : (Jvm.Cond.code ({ cls := "BillingRun", name := "setPlan", desc := "(III)Z" } : Jvm.MethodName) prog_1_method_6_code (4 : Nat) (Option.some Jvm.ClassFile.FieldType.boolean)) ∈ tables_1 := List.mem_of_getElem? (i := 75) rfl
theorem m_76 : (Jvm.Cond.methodLink "BillingRun" (99 : Nat) ({ cls := "BillingRun", name := "validPlan", desc := "(I)Z" } : Jvm.MethodName)) ∈ tables_1 := List.mem_of_getElem? (i := 76) rfl
theorem m_77 : (Jvm.Cond.instanceMethod ({ cls := "BillingRun", name := "validPlan", desc := "(I)Z" } : Jvm.MethodName)) ∈ tables_1 := List.mem_of_getElem? (i := 77) rfl
theorem m_78 : (Jvm.Cond.privateMethod ({ cls := "BillingRun", name := "validPlan", desc := "(I)Z" } : Jvm.MethodName)) ∈ tables_1 := List.mem_of_getElem? (i := 78) rfl
theorem m_79 : (Jvm.Cond.code ({ cls := "BillingRun", name := "validPlan", desc := "(I)Z" } : Jvm.MethodName) prog_1_method_4_code (2 : Nat) (Option.some Jvm.ClassFile.FieldType.boolean)) ∈ tables_1 := List.mem_of_getElem? (i := 79) rfl
theorem m_80 : (Jvm.Cond.methodLink "BillingRunL3" (19 : Nat) ({ cls := "BillingRun", name := "setTier", desc := "(IIII)Z" } : Jvm.MethodName)) ∈ tables_1 := List.mem_of_getElem? (i := 80) rfl
theorem m_81 : (Jvm.Cond.declares ({ cls := "BillingRun", name := "setTier", desc := "(IIII)Z" } : Jvm.MethodName)) ∈ tables_1 := List.mem_of_getElem? (i := 81) rfl
theorem m_82 : (Jvm.Cond.instanceMethod ({ cls := "BillingRun", name := "setTier", desc := "(IIII)Z" } : Jvm.MethodName)) ∈ tables_1 := List.mem_of_getElem? (i := 82) rfl
theorem m_83 : (Jvm.Cond.selects "BillingRun" ({ cls := "BillingRun", name := "setTier", desc := "(IIII)Z" } : Jvm.MethodName) ({ cls := "BillingRun", name := "setTier", desc := "(IIII)Z" } : Jvm.MethodName)) ∈ tables_1 := List.mem_of_getElem? (i := 83) rfl
theorem m_84 : (Jvm.Cond.code ({ cls := "BillingRun", name := "setTier", desc := "(IIII)Z" } : Jvm.MethodName) prog_1_method_7_code (5 : Nat) (Option.some Jvm.ClassFile.FieldType.boolean)) ∈ tables_1 := List.mem_of_getElem? (i := 84) rfl
theorem m_85 : (Jvm.Cond.constant "BillingRun" (103 : Nat) (100000000 : Int32)) ∈ tables_1 := List.mem_of_getElem? (i := 85) rfl
theorem m_86 : (Jvm.Cond.constant "BillingRunL3" (23 : Nat) (1000000 : Int32)) ∈ tables_1 := List.mem_of_getElem? (i := 86) rfl
theorem m_87 : (Jvm.Cond.methodLink "BillingRunL3" (24 : Nat) ({ cls := "BillingRun", name := "subscribe", desc := "(III)Z" } : Jvm.MethodName)) ∈ tables_1 := List.mem_of_getElem? (i := 87) rfl
theorem m_88 : (Jvm.Cond.declares ({ cls := "BillingRun", name := "subscribe", desc := "(III)Z" } : Jvm.MethodName)) ∈ tables_1 := List.mem_of_getElem? (i := 88) rfl
theorem m_89 : (Jvm.Cond.instanceMethod ({ cls := "BillingRun", name := "subscribe", desc := "(III)Z" } : Jvm.MethodName)) ∈ tables_1 := List.mem_of_getElem? (i := 89) rfl
theorem m_90 : (Jvm.Cond.selects "BillingRun" ({ cls := "BillingRun", name := "subscribe", desc := "(III)Z" } : Jvm.MethodName) ({ cls := "BillingRun", name := "subscribe", desc := "(III)Z" } : Jvm.MethodName)) ∈ tables_1 := List.mem_of_getElem? (i := 90) rfl
theorem m_91 : (Jvm.Cond.code ({ cls := "BillingRun", name := "subscribe", desc := "(III)Z" } : Jvm.MethodName) prog_1_method_15_code (4 : Nat) (Option.some Jvm.ClassFile.FieldType.boolean)) ∈ tables_1 := List.mem_of_getElem? (i := 91) rfl
theorem m_92 : (Jvm.Cond.methodLink "BillingRun" (122 : Nat) ({ cls := "BillingRun", name := "validCustomer", desc := "(I)Z" } : Jvm.MethodName)) ∈ tables_1 := List.mem_of_getElem? (i := 92) rfl
theorem m_93 : (Jvm.Cond.instanceMethod ({ cls := "BillingRun", name := "validCustomer", desc := "(I)Z" } : Jvm.MethodName)) ∈ tables_1 := List.mem_of_getElem? (i := 93) rfl
theorem m_94 : (Jvm.Cond.privateMethod ({ cls := "BillingRun", name := "validCustomer", desc := "(I)Z" } : Jvm.MethodName)) ∈ tables_1 := List.mem_of_getElem? (i := 94) rfl
theorem m_95 : (Jvm.Cond.code ({ cls := "BillingRun", name := "validCustomer", desc := "(I)Z" } : Jvm.MethodName) prog_1_method_3_code (2 : Nat) (Option.some Jvm.ClassFile.FieldType.boolean)) ∈ tables_1 := List.mem_of_getElem? (i := 95) rfl
theorem m_96 : (Jvm.Cond.methodLink "BillingRun" (125 : Nat) ({ cls := "BillingRun", name := "validDay", desc := "(I)Z" } : Jvm.MethodName)) ∈ tables_1 := List.mem_of_getElem? (i := 96) rfl
theorem m_97 : (Jvm.Cond.instanceMethod ({ cls := "BillingRun", name := "validDay", desc := "(I)Z" } : Jvm.MethodName)) ∈ tables_1 := List.mem_of_getElem? (i := 97) rfl
theorem m_98 : (Jvm.Cond.privateMethod ({ cls := "BillingRun", name := "validDay", desc := "(I)Z" } : Jvm.MethodName)) ∈ tables_1 := List.mem_of_getElem? (i := 98) rfl
theorem m_99 : (Jvm.Cond.code ({ cls := "BillingRun", name := "validDay", desc := "(I)Z" } : Jvm.MethodName) prog_1_method_5_code (2 : Nat) (Option.some Jvm.ClassFile.FieldType.boolean)) ∈ tables_1 := List.mem_of_getElem? (i := 99) rfl
theorem m_100 : (Jvm.Cond.fieldLink "BillingRun" (96 : Nat) "BillingRun" "todayDay" "I") ∈ tables_1 := List.mem_of_getElem? (i := 100) rfl
theorem m_101 : (Jvm.Cond.lays "BillingRun" "BillingRun" "todayDay" "I") ∈ tables_1 := List.mem_of_getElem? (i := 101) rfl
theorem m_102 : (Jvm.Cond.methodLink "BillingRun" (128 : Nat) ({ cls := "BillingRun", name := "appendSegment", desc := "(III)V" } : Jvm.MethodName)) ∈ tables_1 := List.mem_of_getElem? (i := 102) rfl
theorem m_103 : (Jvm.Cond.instanceMethod ({ cls := "BillingRun", name := "appendSegment", desc := "(III)V" } : Jvm.MethodName)) ∈ tables_1 := List.mem_of_getElem? (i := 103) rfl
theorem m_104 : (Jvm.Cond.privateMethod ({ cls := "BillingRun", name := "appendSegment", desc := "(III)V" } : Jvm.MethodName)) ∈ tables_1 := List.mem_of_getElem? (i := 104) rfl
theorem m_105 : (Jvm.Cond.code ({ cls := "BillingRun", name := "appendSegment", desc := "(III)V" } : Jvm.MethodName) prog_1_method_13_code (6 : Nat) (Option.none : Option Jvm.ClassFile.FieldType)) ∈ tables_1 := List.mem_of_getElem? (i := 105) rfl
theorem m_106 : (Jvm.Cond.methodLink "BillingRunL3" (27 : Nat) ({ cls := "BillingRun", name := "recordUsage", desc := "(III)Z" } : Jvm.MethodName)) ∈ tables_1 := List.mem_of_getElem? (i := 106) rfl
theorem m_107 : (Jvm.Cond.declares ({ cls := "BillingRun", name := "recordUsage", desc := "(III)Z" } : Jvm.MethodName)) ∈ tables_1 := List.mem_of_getElem? (i := 107) rfl
theorem m_108 : (Jvm.Cond.instanceMethod ({ cls := "BillingRun", name := "recordUsage", desc := "(III)Z" } : Jvm.MethodName)) ∈ tables_1 := List.mem_of_getElem? (i := 108) rfl
theorem m_109 : (Jvm.Cond.selects "BillingRun" ({ cls := "BillingRun", name := "recordUsage", desc := "(III)Z" } : Jvm.MethodName) ({ cls := "BillingRun", name := "recordUsage", desc := "(III)Z" } : Jvm.MethodName)) ∈ tables_1 := List.mem_of_getElem? (i := 109) rfl
theorem m_110 : (Jvm.Cond.code ({ cls := "BillingRun", name := "recordUsage", desc := "(III)Z" } : Jvm.MethodName) prog_1_method_18_code (5 : Nat) (Option.some Jvm.ClassFile.FieldType.boolean)) ∈ tables_1 := List.mem_of_getElem? (i := 110) rfl
theorem m_111 : (Jvm.Cond.methodLink "BillingRun" (132 : Nat) ({ cls := "BillingRun", name := "openSlot", desc := "(I)I" } : Jvm.MethodName)) ∈ tables_1 := List.mem_of_getElem? (i := 111) rfl
theorem m_112 : (Jvm.Cond.instanceMethod ({ cls := "BillingRun", name := "openSlot", desc := "(I)I" } : Jvm.MethodName)) ∈ tables_1 := List.mem_of_getElem? (i := 112) rfl
theorem m_113 : (Jvm.Cond.privateMethod ({ cls := "BillingRun", name := "openSlot", desc := "(I)I" } : Jvm.MethodName)) ∈ tables_1 := List.mem_of_getElem? (i := 113) rfl
theorem m_114 : (Jvm.Cond.code ({ cls := "BillingRun", name := "openSlot", desc := "(I)I" } : Jvm.MethodName) prog_1_method_14_code (3 : Nat) (Option.some Jvm.ClassFile.FieldType.int)) ∈ tables_1 := List.mem_of_getElem? (i := 114) rfl
theorem m_115 : (Jvm.Cond.methodLink "BillingRunL3" (30 : Nat) ({ cls := "BillingRun", name := "closeCycle", desc := "()I" } : Jvm.MethodName)) ∈ tables_1 := List.mem_of_getElem? (i := 115) rfl
theorem m_116 : (Jvm.Cond.declares ({ cls := "BillingRun", name := "closeCycle", desc := "()I" } : Jvm.MethodName)) ∈ tables_1 := List.mem_of_getElem? (i := 116) rfl
theorem m_117 : (Jvm.Cond.instanceMethod ({ cls := "BillingRun", name := "closeCycle", desc := "()I" } : Jvm.MethodName)) ∈ tables_1 := List.mem_of_getElem? (i := 117) rfl
theorem m_118 : (Jvm.Cond.selects "BillingRun" ({ cls := "BillingRun", name := "closeCycle", desc := "()I" } : Jvm.MethodName) ({ cls := "BillingRun", name := "closeCycle", desc := "()I" } : Jvm.MethodName)) ∈ tables_1 := List.mem_of_getElem? (i := 118) rfl
theorem m_119 : (Jvm.Cond.code ({ cls := "BillingRun", name := "closeCycle", desc := "()I" } : Jvm.MethodName) prog_1_method_20_code (4 : Nat) (Option.some Jvm.ClassFile.FieldType.int)) ∈ tables_1 := List.mem_of_getElem? (i := 119) rfl
theorem m_120 : (Jvm.Cond.fieldLink "BillingRun" (136 : Nat) "BillingRun" "cycles" "I") ∈ tables_1 := List.mem_of_getElem? (i := 120) rfl
theorem m_121 : (Jvm.Cond.lays "BillingRun" "BillingRun" "cycles" "I") ∈ tables_1 := List.mem_of_getElem? (i := 121) rfl
theorem m_122 : (Jvm.Cond.methodLink "BillingRun" (139 : Nat) ({ cls := "BillingRun", name := "buildInvoice", desc := "(I)V" } : Jvm.MethodName)) ∈ tables_1 := List.mem_of_getElem? (i := 122) rfl
theorem m_123 : (Jvm.Cond.instanceMethod ({ cls := "BillingRun", name := "buildInvoice", desc := "(I)V" } : Jvm.MethodName)) ∈ tables_1 := List.mem_of_getElem? (i := 123) rfl
theorem m_124 : (Jvm.Cond.privateMethod ({ cls := "BillingRun", name := "buildInvoice", desc := "(I)V" } : Jvm.MethodName)) ∈ tables_1 := List.mem_of_getElem? (i := 124) rfl
theorem m_125 : (Jvm.Cond.code ({ cls := "BillingRun", name := "buildInvoice", desc := "(I)V" } : Jvm.MethodName) prog_1_method_23_code (12 : Nat) (Option.none : Option Jvm.ClassFile.FieldType)) ∈ tables_1 := List.mem_of_getElem? (i := 125) rfl
theorem m_126 : (Jvm.Cond.methodLink "BillingRun" (145 : Nat) ({ cls := "BillingRun", name := "fillLines", desc := "(II)J" } : Jvm.MethodName)) ∈ tables_1 := List.mem_of_getElem? (i := 126) rfl
theorem m_127 : (Jvm.Cond.instanceMethod ({ cls := "BillingRun", name := "fillLines", desc := "(II)J" } : Jvm.MethodName)) ∈ tables_1 := List.mem_of_getElem? (i := 127) rfl
theorem m_128 : (Jvm.Cond.privateMethod ({ cls := "BillingRun", name := "fillLines", desc := "(II)J" } : Jvm.MethodName)) ∈ tables_1 := List.mem_of_getElem? (i := 128) rfl
theorem m_129 : (Jvm.Cond.code ({ cls := "BillingRun", name := "fillLines", desc := "(II)J" } : Jvm.MethodName) prog_1_method_21_code (17 : Nat) (Option.some Jvm.ClassFile.FieldType.long)) ∈ tables_1 := List.mem_of_getElem? (i := 129) rfl
theorem m_130 : (Jvm.Cond.constantLong "BillingRun" (143 : Nat) (10000 : Int64)) ∈ tables_1 := List.mem_of_getElem? (i := 130) rfl
theorem m_131 : (Jvm.Cond.methodLink "BillingRun" (148 : Nat) ({ cls := "BillingRun", name := "spreadTax", desc := "(IIJ)V" } : Jvm.MethodName)) ∈ tables_1 := List.mem_of_getElem? (i := 131) rfl
theorem m_132 : (Jvm.Cond.instanceMethod ({ cls := "BillingRun", name := "spreadTax", desc := "(IIJ)V" } : Jvm.MethodName)) ∈ tables_1 := List.mem_of_getElem? (i := 132) rfl
theorem m_133 : (Jvm.Cond.privateMethod ({ cls := "BillingRun", name := "spreadTax", desc := "(IIJ)V" } : Jvm.MethodName)) ∈ tables_1 := List.mem_of_getElem? (i := 133) rfl
theorem m_134 : (Jvm.Cond.code ({ cls := "BillingRun", name := "spreadTax", desc := "(IIJ)V" } : Jvm.MethodName) prog_1_method_22_code (13 : Nat) (Option.none : Option Jvm.ClassFile.FieldType)) ∈ tables_1 := List.mem_of_getElem? (i := 134) rfl
theorem m_135 : (Jvm.Cond.constantLong "BillingRun" (104 : Nat) (1000000 : Int64)) ∈ tables_1 := List.mem_of_getElem? (i := 135) rfl
theorem m_136 : (Jvm.Cond.methodLink "BillingRun" (119 : Nat) ({ cls := "BillingRun", name := "charge", desc := "(IJ)J" } : Jvm.MethodName)) ∈ tables_1 := List.mem_of_getElem? (i := 136) rfl
theorem m_137 : (Jvm.Cond.instanceMethod ({ cls := "BillingRun", name := "charge", desc := "(IJ)J" } : Jvm.MethodName)) ∈ tables_1 := List.mem_of_getElem? (i := 137) rfl
theorem m_138 : (Jvm.Cond.privateMethod ({ cls := "BillingRun", name := "charge", desc := "(IJ)J" } : Jvm.MethodName)) ∈ tables_1 := List.mem_of_getElem? (i := 138) rfl
theorem m_139 : (Jvm.Cond.code ({ cls := "BillingRun", name := "charge", desc := "(IJ)J" } : Jvm.MethodName) prog_1_method_11_code (4 : Nat) (Option.some Jvm.ClassFile.FieldType.long)) ∈ tables_1 := List.mem_of_getElem? (i := 139) rfl
theorem m_140 : (Jvm.Cond.methodLink "BillingRun" (114 : Nat) ({ cls := "BillingRun", name := "chargeGraduated", desc := "(IJ)J" } : Jvm.MethodName)) ∈ tables_1 := List.mem_of_getElem? (i := 140) rfl
theorem m_141 : (Jvm.Cond.instanceMethod ({ cls := "BillingRun", name := "chargeGraduated", desc := "(IJ)J" } : Jvm.MethodName)) ∈ tables_1 := List.mem_of_getElem? (i := 141) rfl
theorem m_142 : (Jvm.Cond.privateMethod ({ cls := "BillingRun", name := "chargeGraduated", desc := "(IJ)J" } : Jvm.MethodName)) ∈ tables_1 := List.mem_of_getElem? (i := 142) rfl
theorem m_143 : (Jvm.Cond.code ({ cls := "BillingRun", name := "chargeGraduated", desc := "(IJ)J" } : Jvm.MethodName) prog_1_method_9_code (13 : Nat) (Option.some Jvm.ClassFile.FieldType.long)) ∈ tables_1 := List.mem_of_getElem? (i := 143) rfl
theorem m_144 : (Jvm.Cond.methodLink "BillingRun" (106 : Nat) ({ cls := "BillingRun", name := "effBound", desc := "(II)J" } : Jvm.MethodName)) ∈ tables_1 := List.mem_of_getElem? (i := 144) rfl
theorem m_145 : (Jvm.Cond.instanceMethod ({ cls := "BillingRun", name := "effBound", desc := "(II)J" } : Jvm.MethodName)) ∈ tables_1 := List.mem_of_getElem? (i := 145) rfl
theorem m_146 : (Jvm.Cond.privateMethod ({ cls := "BillingRun", name := "effBound", desc := "(II)J" } : Jvm.MethodName)) ∈ tables_1 := List.mem_of_getElem? (i := 146) rfl
theorem m_147 : (Jvm.Cond.code ({ cls := "BillingRun", name := "effBound", desc := "(II)J" } : Jvm.MethodName) prog_1_method_8_code (8 : Nat) (Option.some Jvm.ClassFile.FieldType.long)) ∈ tables_1 := List.mem_of_getElem? (i := 147) rfl
theorem m_148 : (Jvm.Cond.constantLong "BillingRunL3" (34 : Nat) (1000000 : Int64)) ∈ tables_1 := List.mem_of_getElem? (i := 148) rfl
theorem m_149 : (Jvm.Cond.constantLong "BillingRunL3" (36 : Nat) (30 : Int64)) ∈ tables_1 := List.mem_of_getElem? (i := 149) rfl
theorem m_150 : (Jvm.Cond.constantLong "BillingRunL3" (38 : Nat) (7000 : Int64)) ∈ tables_1 := List.mem_of_getElem? (i := 150) rfl
theorem m_151 : (Jvm.Cond.constantLong "BillingRunL3" (40 : Nat) (10000 : Int64)) ∈ tables_1 := List.mem_of_getElem? (i := 151) rfl
theorem m_152 : (Jvm.Cond.constantLong "BillingRunL3" (42 : Nat) (2 : Int64)) ∈ tables_1 := List.mem_of_getElem? (i := 152) rfl
theorem m_153 : (Jvm.Cond.methodLink "BillingRunL3" (44 : Nat) ({ cls := "BillingRun", name := "getInvoice", desc := "(II)J" } : Jvm.MethodName)) ∈ tables_1 := List.mem_of_getElem? (i := 153) rfl
theorem m_154 : (Jvm.Cond.declares ({ cls := "BillingRun", name := "getInvoice", desc := "(II)J" } : Jvm.MethodName)) ∈ tables_1 := List.mem_of_getElem? (i := 154) rfl
theorem m_155 : (Jvm.Cond.instanceMethod ({ cls := "BillingRun", name := "getInvoice", desc := "(II)J" } : Jvm.MethodName)) ∈ tables_1 := List.mem_of_getElem? (i := 155) rfl
theorem m_156 : (Jvm.Cond.selects "BillingRun" ({ cls := "BillingRun", name := "getInvoice", desc := "(II)J" } : Jvm.MethodName) ({ cls := "BillingRun", name := "getInvoice", desc := "(II)J" } : Jvm.MethodName)) ∈ tables_1 := List.mem_of_getElem? (i := 156) rfl
theorem m_157 : (Jvm.Cond.code ({ cls := "BillingRun", name := "getInvoice", desc := "(II)J" } : Jvm.MethodName) prog_1_method_26_code (3 : Nat) (Option.some Jvm.ClassFile.FieldType.long)) ∈ tables_1 := List.mem_of_getElem? (i := 157) rfl
theorem m_158 : (Jvm.Cond.methodLink "BillingRunL3" (48 : Nat) ({ cls := "BillingRun", name := "getLine", desc := "(II)J" } : Jvm.MethodName)) ∈ tables_1 := List.mem_of_getElem? (i := 158) rfl
theorem m_159 : (Jvm.Cond.declares ({ cls := "BillingRun", name := "getLine", desc := "(II)J" } : Jvm.MethodName)) ∈ tables_1 := List.mem_of_getElem? (i := 159) rfl
theorem m_160 : (Jvm.Cond.instanceMethod ({ cls := "BillingRun", name := "getLine", desc := "(II)J" } : Jvm.MethodName)) ∈ tables_1 := List.mem_of_getElem? (i := 160) rfl
theorem m_161 : (Jvm.Cond.selects "BillingRun" ({ cls := "BillingRun", name := "getLine", desc := "(II)J" } : Jvm.MethodName) ({ cls := "BillingRun", name := "getLine", desc := "(II)J" } : Jvm.MethodName)) ∈ tables_1 := List.mem_of_getElem? (i := 161) rfl
theorem m_162 : (Jvm.Cond.code ({ cls := "BillingRun", name := "getLine", desc := "(II)J" } : Jvm.MethodName) prog_1_method_24_code (3 : Nat) (Option.some Jvm.ClassFile.FieldType.long)) ∈ tables_1 := List.mem_of_getElem? (i := 162) rfl
theorem m_163 : (Jvm.Cond.methodLink "BillingRunL3" (51 : Nat) ({ cls := "BillingRun", name := "getLineTax", desc := "(II)J" } : Jvm.MethodName)) ∈ tables_1 := List.mem_of_getElem? (i := 163) rfl
theorem m_164 : (Jvm.Cond.declares ({ cls := "BillingRun", name := "getLineTax", desc := "(II)J" } : Jvm.MethodName)) ∈ tables_1 := List.mem_of_getElem? (i := 164) rfl
theorem m_165 : (Jvm.Cond.instanceMethod ({ cls := "BillingRun", name := "getLineTax", desc := "(II)J" } : Jvm.MethodName)) ∈ tables_1 := List.mem_of_getElem? (i := 165) rfl
theorem m_166 : (Jvm.Cond.selects "BillingRun" ({ cls := "BillingRun", name := "getLineTax", desc := "(II)J" } : Jvm.MethodName) ({ cls := "BillingRun", name := "getLineTax", desc := "(II)J" } : Jvm.MethodName)) ∈ tables_1 := List.mem_of_getElem? (i := 166) rfl
theorem m_167 : (Jvm.Cond.code ({ cls := "BillingRun", name := "getLineTax", desc := "(II)J" } : Jvm.MethodName) prog_1_method_25_code (3 : Nat) (Option.some Jvm.ClassFile.FieldType.long)) ∈ tables_1 := List.mem_of_getElem? (i := 167) rfl
theorem m_168 : (Jvm.Cond.methodLink "BillingRunL3" (54 : Nat) ({ cls := "BillingRun", name := "rate", desc := "(II)J" } : Jvm.MethodName)) ∈ tables_1 := List.mem_of_getElem? (i := 168) rfl
theorem m_169 : (Jvm.Cond.declares ({ cls := "BillingRun", name := "rate", desc := "(II)J" } : Jvm.MethodName)) ∈ tables_1 := List.mem_of_getElem? (i := 169) rfl
theorem m_170 : (Jvm.Cond.instanceMethod ({ cls := "BillingRun", name := "rate", desc := "(II)J" } : Jvm.MethodName)) ∈ tables_1 := List.mem_of_getElem? (i := 170) rfl
theorem m_171 : (Jvm.Cond.selects "BillingRun" ({ cls := "BillingRun", name := "rate", desc := "(II)J" } : Jvm.MethodName) ({ cls := "BillingRun", name := "rate", desc := "(II)J" } : Jvm.MethodName)) ∈ tables_1 := List.mem_of_getElem? (i := 171) rfl
theorem m_172 : (Jvm.Cond.code ({ cls := "BillingRun", name := "rate", desc := "(II)J" } : Jvm.MethodName) prog_1_method_12_code (3 : Nat) (Option.some Jvm.ClassFile.FieldType.long)) ∈ tables_1 := List.mem_of_getElem? (i := 172) rfl
theorem m_173 : (Jvm.Cond.methodLink "BillingRunL3" (57 : Nat) ({ cls := "BillingRun", name := "getCustomer", desc := "(II)J" } : Jvm.MethodName)) ∈ tables_1 := List.mem_of_getElem? (i := 173) rfl
theorem m_174 : (Jvm.Cond.declares ({ cls := "BillingRun", name := "getCustomer", desc := "(II)J" } : Jvm.MethodName)) ∈ tables_1 := List.mem_of_getElem? (i := 174) rfl
theorem m_175 : (Jvm.Cond.instanceMethod ({ cls := "BillingRun", name := "getCustomer", desc := "(II)J" } : Jvm.MethodName)) ∈ tables_1 := List.mem_of_getElem? (i := 175) rfl
theorem m_176 : (Jvm.Cond.selects "BillingRun" ({ cls := "BillingRun", name := "getCustomer", desc := "(II)J" } : Jvm.MethodName) ({ cls := "BillingRun", name := "getCustomer", desc := "(II)J" } : Jvm.MethodName)) ∈ tables_1 := List.mem_of_getElem? (i := 176) rfl
theorem m_177 : (Jvm.Cond.code ({ cls := "BillingRun", name := "getCustomer", desc := "(II)J" } : Jvm.MethodName) prog_1_method_28_code (3 : Nat) (Option.some Jvm.ClassFile.FieldType.long)) ∈ tables_1 := List.mem_of_getElem? (i := 177) rfl
theorem m_178 : (Jvm.Cond.methodLink "BillingRunL3" (60 : Nat) ({ cls := "BillingRun", name := "getSegment", desc := "(III)J" } : Jvm.MethodName)) ∈ tables_1 := List.mem_of_getElem? (i := 178) rfl
theorem m_179 : (Jvm.Cond.declares ({ cls := "BillingRun", name := "getSegment", desc := "(III)J" } : Jvm.MethodName)) ∈ tables_1 := List.mem_of_getElem? (i := 179) rfl
theorem m_180 : (Jvm.Cond.instanceMethod ({ cls := "BillingRun", name := "getSegment", desc := "(III)J" } : Jvm.MethodName)) ∈ tables_1 := List.mem_of_getElem? (i := 180) rfl
theorem m_181 : (Jvm.Cond.selects "BillingRun" ({ cls := "BillingRun", name := "getSegment", desc := "(III)J" } : Jvm.MethodName) ({ cls := "BillingRun", name := "getSegment", desc := "(III)J" } : Jvm.MethodName)) ∈ tables_1 := List.mem_of_getElem? (i := 181) rfl
theorem m_182 : (Jvm.Cond.code ({ cls := "BillingRun", name := "getSegment", desc := "(III)J" } : Jvm.MethodName) prog_1_method_27_code (5 : Nat) (Option.some Jvm.ClassFile.FieldType.long)) ∈ tables_1 := List.mem_of_getElem? (i := 182) rfl
theorem m_183 : (Jvm.Cond.methodLink "BillingRunL3" (64 : Nat) ({ cls := "BillingRun", name := "today", desc := "()I" } : Jvm.MethodName)) ∈ tables_1 := List.mem_of_getElem? (i := 183) rfl
theorem m_184 : (Jvm.Cond.declares ({ cls := "BillingRun", name := "today", desc := "()I" } : Jvm.MethodName)) ∈ tables_1 := List.mem_of_getElem? (i := 184) rfl
theorem m_185 : (Jvm.Cond.instanceMethod ({ cls := "BillingRun", name := "today", desc := "()I" } : Jvm.MethodName)) ∈ tables_1 := List.mem_of_getElem? (i := 185) rfl
theorem m_186 : (Jvm.Cond.selects "BillingRun" ({ cls := "BillingRun", name := "today", desc := "()I" } : Jvm.MethodName) ({ cls := "BillingRun", name := "today", desc := "()I" } : Jvm.MethodName)) ∈ tables_1 := List.mem_of_getElem? (i := 186) rfl
theorem m_187 : (Jvm.Cond.code ({ cls := "BillingRun", name := "today", desc := "()I" } : Jvm.MethodName) prog_1_method_29_code (1 : Nat) (Option.some Jvm.ClassFile.FieldType.int)) ∈ tables_1 := List.mem_of_getElem? (i := 187) rfl
theorem m_188 : (Jvm.Cond.constantLong "BillingRun" (117 : Nat) (-1 : Int64)) ∈ tables_1 := List.mem_of_getElem? (i := 188) rfl
theorem laid0 {Z : State} {a0 : Array Value} (hw : HW a0 Z) : LaidAll Z a0 CN lay vs0 :=
  ⟨⟨Or.inl (hw _ m_67), .int, by decide, rfl⟩, ⟨Or.inl (hw _ m_69), .int, by decide, rfl⟩, ⟨Or.inl (hw _ m_101), .int, by decide, rfl⟩, ⟨Or.inl (hw _ m_121), .int, by decide, rfl⟩, ⟨Or.inl (hw _ m_14), .array .int, by decide, rfl⟩, ⟨Or.inl (hw _ m_16), .array .int, by decide, rfl⟩, ⟨Or.inl (hw _ m_18), .array .int, by decide, rfl⟩, ⟨Or.inl (hw _ m_20), .array .int, by decide, rfl⟩, ⟨Or.inl (hw _ m_23), .array .boolean, by decide, rfl⟩, ⟨Or.inl (hw _ m_25), .array .int, by decide, rfl⟩, ⟨Or.inl (hw _ m_27), .array .int, by decide, rfl⟩, ⟨Or.inl (hw _ m_30), .array .long, by decide, rfl⟩, ⟨Or.inl (hw _ m_32), .array .long, by decide, rfl⟩, ⟨Or.inl (hw _ m_34), .array .long, by decide, rfl⟩, ⟨Or.inl (hw _ m_36), .array .int, by decide, rfl⟩, ⟨Or.inl (hw _ m_38), .array .int, by decide, rfl⟩, ⟨Or.inl (hw _ m_40), .array .int, by decide, rfl⟩, ⟨Or.inl (hw _ m_42), .array .int, by decide, rfl⟩, ⟨Or.inl (hw _ m_44), .array .int, by decide, rfl⟩, ⟨Or.inl (hw _ m_46), .array .long, by decide, rfl⟩, ⟨Or.inl (hw _ m_48), .array .long, by decide, rfl⟩, ⟨Or.inl (hw _ m_50), .array .long, by decide, rfl⟩, ⟨Or.inl (hw _ m_52), .array .long, by decide, rfl⟩, ⟨Or.inl (hw _ m_54), .array .int, by decide, rfl⟩, ⟨Or.inl (hw _ m_56), .array .long, by decide, rfl⟩, ⟨Or.inl (hw _ m_58), .array .long, by decide, rfl⟩, ⟨Or.inl (hw _ m_60), .array .long, by decide, rfl⟩, ⟨Or.inl (hw _ m_62), .array .boolean, by decide, rfl⟩, trivial⟩
theorem hlay {Z : State} {a0 : Array Value} (hw : HW a0 Z) : ∀ (a b : Nat) (f g : String × String), lay[a]? = some f → lay[b]? = some g → a ≠ b → RoadKit.slotOf Z CN f.1 f.2 ≠ RoadKit.slotOf Z CN g.1 g.2 := (laid0 hw).ne (by decide)
theorem vs0_ok {Z : State} {a0 : Array Value} (hw : HW a0 Z) : ∀ (i : Nat) (f : String × String) (v : Value), lay[i]? = some f → vs0[i]? = some v → Laid Z a0 CN CN f.1 f.2 ∧ ∃ ty, parseFieldDescriptor f.2 = some ty ∧ v = defaultValue ty := (laid0 hw).new
theorem pn_cls : plainName CN = true := by first | (simp [plainName, overriddenIn]; done) | decide +kernel
theorem pn_law : plainName "BillingRunL3" = true := by first | (simp [plainName, overriddenIn]; done) | decide +kernel
theorem d1_0 : dc prog_1_method_2_code 0 (.iload_n 0) 1 := by decide +kernel
theorem d1_1 : dc prog_1_method_2_code 1 (.iload_n 1) 1 := by decide +kernel
theorem d1_2 : dc prog_1_method_2_code 2 (.if_icmp .ge 5) 3 := by decide +kernel
theorem d1_5 : dc prog_1_method_2_code 5 (.iload_n 1) 1 := by decide +kernel
theorem d1_6 : dc prog_1_method_2_code 6 (.ireturn) 1 := by decide +kernel
theorem d1_7 : dc prog_1_method_2_code 7 (.iload_n 0) 1 := by decide +kernel
theorem d1_8 : dc prog_1_method_2_code 8 (.iload_n 2) 1 := by decide +kernel
theorem d1_9 : dc prog_1_method_2_code 9 (.if_icmp .le 5) 3 := by decide +kernel
theorem d1_12 : dc prog_1_method_2_code 12 (.iload_n 2) 1 := by decide +kernel
theorem d1_13 : dc prog_1_method_2_code 13 (.ireturn) 1 := by decide +kernel
theorem d1_14 : dc prog_1_method_2_code 14 (.iload_n 0) 1 := by decide +kernel
theorem d1_15 : dc prog_1_method_2_code 15 (.ireturn) 1 := by decide +kernel
abbrev y1 : MethodName := ⟨"BillingRun", "clamp", "(III)I"⟩
theorem hy1 : y1.cls ≠ "java/lang/invoke/MethodHandle" ∧ y1.cls ≠ "java/lang/invoke/VarHandle" := by decide
theorem pd1 : parseMethodDescriptor y1.desc = some ⟨[.int, .int, .int], some .int⟩ := by decide +kernel
abbrev R1 : Room := { frames := 0, cells := 0, slots := 0, locals := 0 }
abbrev P1 (r : Int32) : Option Value → List OwnC → Prop := fun v H' => v = some (.int r) ∧ H' = ([] : List OwnC)
abbrev W1 (l : Launch) (Z : State) (n0 : Nat) (Q : Option Value → List OwnC → Prop) (k n pc : Nat) (L : List Slot) (S : List Value) (H : List OwnC) : Prop := WP l Z CN lay "BillingRun" "clamp" prog_1_method_2_code 3 (some FieldType.int) R1 n0 0 Q k n pc L S H
def f_clamp (p0 : Int32) (p1 : Int32) (p2 : Int32) : Option (Int32) :=
  if p0 < p1 then
    some p1
  else
    if p2 < p0 then
      some p2
    else
      some p0
set_option maxRecDepth 65536 in
set_option maxHeartbeats 4000000 in
theorem ok1 (l : Launch) (Z : State) (a0 : Array Value) (hw : HW a0 Z) (p0 : Int32) (p1 : Int32) (p2 : Int32) (r : Int32) (h : f_clamp p0 p1 p2 = some r) : CS l Z CN lay y1 prog_1_method_2_code 3 (some FieldType.int) R1 0 [.int p0, .int p1, .int p2] ([] : List OwnC) (P1 r) := by
  refine CS.of_wp pn_cls (leb rfl) fun n0 => ?_
  show W1 l Z n0 (P1 r) 0 0 0 [.val (.int p0), .val (.int p1), .val (.int p2)] [] ([] : List OwnC)
  unfold f_clamp at h
  refine WP.iloadN d1_0 rfl ?_
  refine WP.iloadN d1_1 rfl ?_
  rcases ite_e h with ⟨hc1, h⟩ | ⟨hc1, h⟩
  ·
    refine WP.icmpN d1_2 (XT.ii_ge_f hc1) ?_
    refine WP.iloadN d1_5 rfl ?_
    cases h
    exact WP.ireturn d1_6 rfl (leb rfl) (leb rfl) ⟨rfl, rfl⟩
  ·
    refine WP.icmpY (pc' := 7) d1_2 (XT.ii_ge_t hc1) (by decide) rfl ?_
    refine WP.iloadN d1_7 rfl ?_
    refine WP.iloadN d1_8 rfl ?_
    rcases ite_e h with ⟨hc2, h⟩ | ⟨hc2, h⟩
    ·
      refine WP.icmpN d1_9 (XT.ii_le_f hc2) ?_
      refine WP.iloadN d1_12 rfl ?_
      cases h
      exact WP.ireturn d1_13 rfl (leb rfl) (leb rfl) ⟨rfl, rfl⟩
    ·
      refine WP.icmpY (pc' := 14) d1_9 (XT.ii_le_t hc2) (by decide) rfl ?_
      refine WP.iloadN d1_14 rfl ?_
      cases h
      exact WP.ireturn d1_15 rfl (leb rfl) (leb rfl) ⟨rfl, rfl⟩
def fr0_f : List Nat := []
theorem fr0_c (x0 : St) : fr0_f.map (fun i => (Hb 0 x0)[i]?) = ([] : List OwnC).map (fun c => some (rnC (ro1 fr0_f (Hb 0 x0).length) c)) := rfl
theorem fr0_l (x0 : St) : ∀ x ∈ fr0_f, x < (Hb 0 x0).length := by show ∀ x ∈ fr0_f, x < 25; decide
theorem fr0_p (x0 : St) : patch (ro1 fr0_f (Hb 0 x0).length) fr0_f ([] : List OwnC) (Hb 0 x0) = (Hb 0 x0) := rfl
theorem d0_0 : dc prog_1_method_1_code 0 (.aload_n 0) 1 := by decide +kernel
theorem d0_1 : dc prog_1_method_1_code 1 (.invokespecial 1) 3 := by decide +kernel
theorem d0_4 : dc prog_1_method_1_code 4 (.aload_n 0) 1 := by decide +kernel
theorem d0_5 : dc prog_1_method_1_code 5 (.bipush 8) 2 := by decide +kernel
theorem d0_7 : dc prog_1_method_1_code 7 (.newarray .int) 2 := by decide +kernel
theorem d0_9 : dc prog_1_method_1_code 9 (.putfield 7) 3 := by decide +kernel
theorem d0_12 : dc prog_1_method_1_code 12 (.aload_n 0) 1 := by decide +kernel
theorem d0_13 : dc prog_1_method_1_code 13 (.bipush 8) 2 := by decide +kernel
theorem d0_15 : dc prog_1_method_1_code 15 (.newarray .int) 2 := by decide +kernel
theorem d0_17 : dc prog_1_method_1_code 17 (.putfield 13) 3 := by decide +kernel
theorem d0_20 : dc prog_1_method_1_code 20 (.aload_n 0) 1 := by decide +kernel
theorem d0_21 : dc prog_1_method_1_code 21 (.bipush 32) 2 := by decide +kernel
theorem d0_23 : dc prog_1_method_1_code 23 (.newarray .int) 2 := by decide +kernel
theorem d0_25 : dc prog_1_method_1_code 25 (.putfield 16) 3 := by decide +kernel
theorem d0_28 : dc prog_1_method_1_code 28 (.aload_n 0) 1 := by decide +kernel
theorem d0_29 : dc prog_1_method_1_code 29 (.bipush 32) 2 := by decide +kernel
theorem d0_31 : dc prog_1_method_1_code 31 (.newarray .int) 2 := by decide +kernel
theorem d0_33 : dc prog_1_method_1_code 33 (.putfield 19) 3 := by decide +kernel
theorem d0_36 : dc prog_1_method_1_code 36 (.aload_n 0) 1 := by decide +kernel
theorem d0_37 : dc prog_1_method_1_code 37 (.bipush 16) 2 := by decide +kernel
theorem d0_39 : dc prog_1_method_1_code 39 (.newarray .boolean) 2 := by decide +kernel
theorem d0_41 : dc prog_1_method_1_code 41 (.putfield 22) 3 := by decide +kernel
theorem d0_44 : dc prog_1_method_1_code 44 (.aload_n 0) 1 := by decide +kernel
theorem d0_45 : dc prog_1_method_1_code 45 (.bipush 16) 2 := by decide +kernel
theorem d0_47 : dc prog_1_method_1_code 47 (.newarray .int) 2 := by decide +kernel
theorem d0_49 : dc prog_1_method_1_code 49 (.putfield 26) 3 := by decide +kernel
theorem d0_52 : dc prog_1_method_1_code 52 (.aload_n 0) 1 := by decide +kernel
theorem d0_53 : dc prog_1_method_1_code 53 (.bipush 16) 2 := by decide +kernel
theorem d0_55 : dc prog_1_method_1_code 55 (.newarray .int) 2 := by decide +kernel
theorem d0_57 : dc prog_1_method_1_code 57 (.putfield 29) 3 := by decide +kernel
theorem d0_60 : dc prog_1_method_1_code 60 (.aload_n 0) 1 := by decide +kernel
theorem d0_61 : dc prog_1_method_1_code 61 (.bipush 16) 2 := by decide +kernel
theorem d0_63 : dc prog_1_method_1_code 63 (.newarray .long) 2 := by decide +kernel
theorem d0_65 : dc prog_1_method_1_code 65 (.putfield 32) 3 := by decide +kernel
theorem d0_68 : dc prog_1_method_1_code 68 (.aload_n 0) 1 := by decide +kernel
theorem d0_69 : dc prog_1_method_1_code 69 (.bipush 16) 2 := by decide +kernel
theorem d0_71 : dc prog_1_method_1_code 71 (.newarray .long) 2 := by decide +kernel
theorem d0_73 : dc prog_1_method_1_code 73 (.putfield 36) 3 := by decide +kernel
theorem d0_76 : dc prog_1_method_1_code 76 (.aload_n 0) 1 := by decide +kernel
theorem d0_77 : dc prog_1_method_1_code 77 (.bipush 16) 2 := by decide +kernel
theorem d0_79 : dc prog_1_method_1_code 79 (.newarray .long) 2 := by decide +kernel
theorem d0_81 : dc prog_1_method_1_code 81 (.putfield 39) 3 := by decide +kernel
theorem d0_84 : dc prog_1_method_1_code 84 (.aload_n 0) 1 := by decide +kernel
theorem d0_85 : dc prog_1_method_1_code 85 (.bipush 64) 2 := by decide +kernel
theorem d0_87 : dc prog_1_method_1_code 87 (.newarray .int) 2 := by decide +kernel
theorem d0_89 : dc prog_1_method_1_code 89 (.putfield 42) 3 := by decide +kernel
theorem d0_92 : dc prog_1_method_1_code 92 (.aload_n 0) 1 := by decide +kernel
theorem d0_93 : dc prog_1_method_1_code 93 (.bipush 64) 2 := by decide +kernel
theorem d0_95 : dc prog_1_method_1_code 95 (.newarray .int) 2 := by decide +kernel
theorem d0_97 : dc prog_1_method_1_code 97 (.putfield 45) 3 := by decide +kernel
theorem d0_100 : dc prog_1_method_1_code 100 (.aload_n 0) 1 := by decide +kernel
theorem d0_101 : dc prog_1_method_1_code 101 (.bipush 64) 2 := by decide +kernel
theorem d0_103 : dc prog_1_method_1_code 103 (.newarray .int) 2 := by decide +kernel
theorem d0_105 : dc prog_1_method_1_code 105 (.putfield 48) 3 := by decide +kernel
theorem d0_108 : dc prog_1_method_1_code 108 (.aload_n 0) 1 := by decide +kernel
theorem d0_109 : dc prog_1_method_1_code 109 (.bipush 64) 2 := by decide +kernel
theorem d0_111 : dc prog_1_method_1_code 111 (.newarray .int) 2 := by decide +kernel
theorem d0_113 : dc prog_1_method_1_code 113 (.putfield 51) 3 := by decide +kernel
theorem d0_116 : dc prog_1_method_1_code 116 (.aload_n 0) 1 := by decide +kernel
theorem d0_117 : dc prog_1_method_1_code 117 (.bipush 16) 2 := by decide +kernel
theorem d0_119 : dc prog_1_method_1_code 119 (.newarray .int) 2 := by decide +kernel
theorem d0_121 : dc prog_1_method_1_code 121 (.putfield 54) 3 := by decide +kernel
theorem d0_124 : dc prog_1_method_1_code 124 (.aload_n 0) 1 := by decide +kernel
theorem d0_125 : dc prog_1_method_1_code 125 (.bipush 16) 2 := by decide +kernel
theorem d0_127 : dc prog_1_method_1_code 127 (.newarray .long) 2 := by decide +kernel
theorem d0_129 : dc prog_1_method_1_code 129 (.putfield 57) 3 := by decide +kernel
theorem d0_132 : dc prog_1_method_1_code 132 (.aload_n 0) 1 := by decide +kernel
theorem d0_133 : dc prog_1_method_1_code 133 (.bipush 16) 2 := by decide +kernel
theorem d0_135 : dc prog_1_method_1_code 135 (.newarray .long) 2 := by decide +kernel
theorem d0_137 : dc prog_1_method_1_code 137 (.putfield 60) 3 := by decide +kernel
theorem d0_140 : dc prog_1_method_1_code 140 (.aload_n 0) 1 := by decide +kernel
theorem d0_141 : dc prog_1_method_1_code 141 (.bipush 16) 2 := by decide +kernel
theorem d0_143 : dc prog_1_method_1_code 143 (.newarray .long) 2 := by decide +kernel
theorem d0_145 : dc prog_1_method_1_code 145 (.putfield 63) 3 := by decide +kernel
theorem d0_148 : dc prog_1_method_1_code 148 (.aload_n 0) 1 := by decide +kernel
theorem d0_149 : dc prog_1_method_1_code 149 (.bipush 16) 2 := by decide +kernel
theorem d0_151 : dc prog_1_method_1_code 151 (.newarray .long) 2 := by decide +kernel
theorem d0_153 : dc prog_1_method_1_code 153 (.putfield 66) 3 := by decide +kernel
theorem d0_156 : dc prog_1_method_1_code 156 (.aload_n 0) 1 := by decide +kernel
theorem d0_157 : dc prog_1_method_1_code 157 (.bipush 16) 2 := by decide +kernel
theorem d0_159 : dc prog_1_method_1_code 159 (.newarray .int) 2 := by decide +kernel
theorem d0_161 : dc prog_1_method_1_code 161 (.putfield 69) 3 := by decide +kernel
theorem d0_164 : dc prog_1_method_1_code 164 (.aload_n 0) 1 := by decide +kernel
theorem d0_165 : dc prog_1_method_1_code 165 (.sipush 128) 3 := by decide +kernel
theorem d0_168 : dc prog_1_method_1_code 168 (.newarray .long) 2 := by decide +kernel
theorem d0_170 : dc prog_1_method_1_code 170 (.putfield 72) 3 := by decide +kernel
theorem d0_173 : dc prog_1_method_1_code 173 (.aload_n 0) 1 := by decide +kernel
theorem d0_174 : dc prog_1_method_1_code 174 (.sipush 128) 3 := by decide +kernel
theorem d0_177 : dc prog_1_method_1_code 177 (.newarray .long) 2 := by decide +kernel
theorem d0_179 : dc prog_1_method_1_code 179 (.putfield 75) 3 := by decide +kernel
theorem d0_182 : dc prog_1_method_1_code 182 (.aload_n 0) 1 := by decide +kernel
theorem d0_183 : dc prog_1_method_1_code 183 (.bipush 8) 2 := by decide +kernel
theorem d0_185 : dc prog_1_method_1_code 185 (.newarray .long) 2 := by decide +kernel
theorem d0_187 : dc prog_1_method_1_code 187 (.putfield 78) 3 := by decide +kernel
theorem d0_190 : dc prog_1_method_1_code 190 (.aload_n 0) 1 := by decide +kernel
theorem d0_191 : dc prog_1_method_1_code 191 (.bipush 8) 2 := by decide +kernel
theorem d0_193 : dc prog_1_method_1_code 193 (.newarray .boolean) 2 := by decide +kernel
theorem d0_195 : dc prog_1_method_1_code 195 (.putfield 81) 3 := by decide +kernel
theorem d0_198 : dc prog_1_method_1_code 198 (.aload_n 0) 1 := by decide +kernel
theorem d0_199 : dc prog_1_method_1_code 199 (.iload_n 1) 1 := by decide +kernel
theorem d0_200 : dc prog_1_method_1_code 200 (.bipush 7) 2 := by decide +kernel
theorem d0_202 : dc prog_1_method_1_code 202 (.bipush 31) 2 := by decide +kernel
theorem d0_204 : dc prog_1_method_1_code 204 (.invokestatic 84) 3 := by decide +kernel
theorem d0_207 : dc prog_1_method_1_code 207 (.putfield 88) 3 := by decide +kernel
theorem d0_210 : dc prog_1_method_1_code 210 (.aload_n 0) 1 := by decide +kernel
theorem d0_211 : dc prog_1_method_1_code 211 (.iload_n 2) 1 := by decide +kernel
theorem d0_212 : dc prog_1_method_1_code 212 (.iconst 0) 1 := by decide +kernel
theorem d0_213 : dc prog_1_method_1_code 213 (.sipush 3000) 3 := by decide +kernel
theorem d0_216 : dc prog_1_method_1_code 216 (.invokestatic 84) 3 := by decide +kernel
theorem d0_219 : dc prog_1_method_1_code 219 (.putfield 92) 3 := by decide +kernel
theorem d0_222 : dc prog_1_method_1_code 222 (.iconst 0) 1 := by decide +kernel
theorem d0_223 : dc prog_1_method_1_code 223 (.istore_n 3) 1 := by decide +kernel
theorem d0_224 : dc prog_1_method_1_code 224 (.iload_n 3) 1 := by decide +kernel
theorem d0_225 : dc prog_1_method_1_code 225 (.bipush 32) 2 := by decide +kernel
theorem d0_227 : dc prog_1_method_1_code 227 (.if_icmp .ge 24) 3 := by decide +kernel
theorem d0_230 : dc prog_1_method_1_code 230 (.aload_n 0) 1 := by decide +kernel
theorem d0_231 : dc prog_1_method_1_code 231 (.getfield 16) 3 := by decide +kernel
theorem d0_234 : dc prog_1_method_1_code 234 (.iload_n 3) 1 := by decide +kernel
theorem d0_235 : dc prog_1_method_1_code 235 (.ldc 95) 2 := by decide +kernel
theorem d0_237 : dc prog_1_method_1_code 237 (.iastore) 1 := by decide +kernel
theorem d0_238 : dc prog_1_method_1_code 238 (.aload_n 0) 1 := by decide +kernel
theorem d0_239 : dc prog_1_method_1_code 239 (.getfield 19) 3 := by decide +kernel
theorem d0_242 : dc prog_1_method_1_code 242 (.iload_n 3) 1 := by decide +kernel
theorem d0_243 : dc prog_1_method_1_code 243 (.iconst 0) 1 := by decide +kernel
theorem d0_244 : dc prog_1_method_1_code 244 (.iastore) 1 := by decide +kernel
theorem d0_245 : dc prog_1_method_1_code 245 (.iinc 3 1) 3 := by decide +kernel
theorem d0_248 : dc prog_1_method_1_code 248 (.goto (-24)) 3 := by decide +kernel
theorem d0_251 : dc prog_1_method_1_code 251 (.iconst 0) 1 := by decide +kernel
theorem d0_252 : dc prog_1_method_1_code 252 (.istore_n 3) 1 := by decide +kernel
theorem d0_253 : dc prog_1_method_1_code 253 (.iload_n 3) 1 := by decide +kernel
theorem d0_254 : dc prog_1_method_1_code 254 (.bipush 16) 2 := by decide +kernel
theorem d0_256 : dc prog_1_method_1_code 256 (.if_icmp .ge 16) 3 := by decide +kernel
theorem d0_259 : dc prog_1_method_1_code 259 (.aload_n 0) 1 := by decide +kernel
theorem d0_260 : dc prog_1_method_1_code 260 (.getfield 26) 3 := by decide +kernel
theorem d0_263 : dc prog_1_method_1_code 263 (.iload_n 3) 1 := by decide +kernel
theorem d0_264 : dc prog_1_method_1_code 264 (.iconst 0) 1 := by decide +kernel
theorem d0_265 : dc prog_1_method_1_code 265 (.iastore) 1 := by decide +kernel
theorem d0_266 : dc prog_1_method_1_code 266 (.iinc 3 1) 3 := by decide +kernel
theorem d0_269 : dc prog_1_method_1_code 269 (.goto (-16)) 3 := by decide +kernel
theorem d0_272 : dc prog_1_method_1_code 272 (.return_) 1 := by decide +kernel
abbrev y0 : MethodName := ⟨"BillingRun", "<init>", "(II)V"⟩
theorem hy0 : y0.cls ≠ "java/lang/invoke/MethodHandle" ∧ y0.cls ≠ "java/lang/invoke/VarHandle" := by decide
theorem pd0 : parseMethodDescriptor y0.desc = some ⟨[.int, .int], none⟩ := by decide +kernel
abbrev R0 : Room := { frames := 1, cells := 24, slots := 800, locals := 15 }
abbrev P0 (r : St) : Option Value → List OwnC → Prop := fun v H' => v = none ∧ H' = (Hb 0 r)
abbrev W0 (l : Launch) (Z : State) (n0 : Nat) (Q : Option Value → List OwnC → Prop) (k n pc : Nat) (L : List Slot) (S : List Value) (H : List OwnC) : Prop := WP l Z CN lay "BillingRun" "<init>" prog_1_method_1_code 4 (none) R0 n0 0 Q k n pc L S H
def g_init_253 (k253 : Int32 → St → Option (St)) (n : Nat) (v3 : Int32) (s : St) : Option (St) :=
  if v3 < (16 : Int32) then
    (wrA s 5 v3 (0 : Int32)).bind fun s2 =>
    lt (v3 + (1 : Int32)) fun x3 =>
    k253 x3 s2
  else
    some s
set_option maxRecDepth 65536 in
set_option maxHeartbeats 4000000 in
theorem okg0_253 (l : Launch) (Z : State) (a0 : Array Value) (hw : HW a0 Z) (n0 : Nat) (k253 : Int32 → St → Option (St)) (hk253 : ∀ (v3 : Int32) (s : St) (r : St), k253 v3 s = some r → W0 l Z n0 (P0 r) 24 800 253 [.val (.ref 0), .unset, .unset, .val (.int v3)] [] (Hb 0 s)) (n : Nat) (v3 : Int32) (s : St) (r : St) (h : g_init_253 k253 n v3 s = some r) : W0 l Z n0 (P0 r) 24 800 253 [.val (.ref 0), .unset, .unset, .val (.int v3)] [] (Hb 0 s) := by
  unfold g_init_253 at h
  refine WP.iloadN d0_253 rfl ?_
  refine WP.bipush (16 : Int32) d0_254 rfl ?_
  rcases ite_e h with ⟨hc1, h⟩ | ⟨hc1, h⟩
  ·
    refine WP.icmpN d0_256 (XT.ii_ge_f hc1) ?_
    refine WP.aloadN d0_259 rfl ?_
    refine WP.getfield (i := 0) (j := 9) d0_260 (hw _ m_24) rfl rfl rfl ?_
    refine WP.iloadN d0_263 rfl ?_
    refine WP.iconst (0 : Int32) d0_264 rfl ?_
    obtain ⟨s2, hs2, h⟩ := Option.bind_eq_some_iff.mp h
    obtain ⟨ys2, gs2, es2⟩ := wrA_e hs2
    refine WP.iastore (i := 6) (xs := gA s 5) (H' := (Hb 0 s2)) d0_265 rfl (leb rfl) gs2 (by subst es2; rfl) ?_
    obtain ⟨x3, ex3, h⟩ := lt_e h
    refine WP.iinc (L' := [.val (.ref 0), .unset, .unset, .val (.int x3)]) (1 : Int32) d0_266 rfl rfl (by subst ex3; rfl) ?_
    refine WP.goto (pc' := 253) d0_269 (by decide) rfl ?_
    exact WP.weak (L' := [.val (.ref 0), .unset, .unset, .val (.int x3)]) ⟨rfl, rfl, trivial⟩ (hk253 x3 s2 _ h)
  ·
    refine WP.icmpY (pc' := 272) d0_256 (XT.ii_ge_t hc1) (by decide) rfl ?_
    cases h
    exact WP.vreturn d0_272 rfl (leb rfl) (leb rfl) ⟨rfl, rfl⟩
def f_init_253 : Nat → Int32 → St → Option (St)
  | 0 => fun _ _ => none
  | n + 1 => g_init_253 (f_init_253 n) n
theorem ok0_253 (l : Launch) (Z : State) (a0 : Array Value) (hw : HW a0 Z) (n0 : Nat) : ∀ (n : Nat) (v3 : Int32) (s : St) (r : St), f_init_253 n v3 s = some r → W0 l Z n0 (P0 r) 24 800 253 [.val (.ref 0), .unset, .unset, .val (.int v3)] [] (Hb 0 s)
  | 0, v3, s, r, h => nomatch (show none = some r from h)
  | n + 1, v3, s, r, h => okg0_253 l Z a0 hw n0 _ (ok0_253 l Z a0 hw n0 n) n v3 s r h
def g_init_224 (k224 : Int32 → St → Option (St)) (n : Nat) (v3 : Int32) (s : St) : Option (St) :=
  if v3 < (32 : Int32) then
    (wrA s 2 v3 (1000000 : Int32)).bind fun s2 =>
    (wrA s2 3 v3 (0 : Int32)).bind fun s3 =>
    lt (v3 + (1 : Int32)) fun x4 =>
    k224 x4 s3
  else
    f_init_253 n (0 : Int32) s
set_option maxRecDepth 65536 in
set_option maxHeartbeats 4000000 in
theorem okg0_224 (l : Launch) (Z : State) (a0 : Array Value) (hw : HW a0 Z) (n0 : Nat) (k224 : Int32 → St → Option (St)) (hk224 : ∀ (v3 : Int32) (s : St) (r : St), k224 v3 s = some r → W0 l Z n0 (P0 r) 24 800 224 [.val (.ref 0), .unset, .unset, .val (.int v3)] [] (Hb 0 s)) (n : Nat) (v3 : Int32) (s : St) (r : St) (h : g_init_224 k224 n v3 s = some r) : W0 l Z n0 (P0 r) 24 800 224 [.val (.ref 0), .unset, .unset, .val (.int v3)] [] (Hb 0 s) := by
  unfold g_init_224 at h
  refine WP.iloadN d0_224 rfl ?_
  refine WP.bipush (32 : Int32) d0_225 rfl ?_
  rcases ite_e h with ⟨hc1, h⟩ | ⟨hc1, h⟩
  ·
    refine WP.icmpN d0_227 (XT.ii_ge_f hc1) ?_
    refine WP.aloadN d0_230 rfl ?_
    refine WP.getfield (i := 0) (j := 6) d0_231 (hw _ m_17) rfl rfl rfl ?_
    refine WP.iloadN d0_234 rfl ?_
    refine WP.ldc d0_235 (hw _ m_70) ?_
    obtain ⟨s2, hs2, h⟩ := Option.bind_eq_some_iff.mp h
    obtain ⟨ys2, gs2, es2⟩ := wrA_e hs2
    refine WP.iastore (i := 3) (xs := gA s 2) (H' := (Hb 0 s2)) d0_237 rfl (leb rfl) gs2 (by subst es2; rfl) ?_
    refine WP.aloadN d0_238 rfl ?_
    refine WP.getfield (i := 0) (j := 7) d0_239 (hw _ m_19) rfl rfl rfl ?_
    refine WP.iloadN d0_242 rfl ?_
    refine WP.iconst (0 : Int32) d0_243 rfl ?_
    obtain ⟨s3, hs3, h⟩ := Option.bind_eq_some_iff.mp h
    obtain ⟨ys3, gs3, es3⟩ := wrA_e hs3
    refine WP.iastore (i := 4) (xs := gA s2 3) (H' := (Hb 0 s3)) d0_244 rfl (leb rfl) gs3 (by subst es3; rfl) ?_
    obtain ⟨x4, ex4, h⟩ := lt_e h
    refine WP.iinc (L' := [.val (.ref 0), .unset, .unset, .val (.int x4)]) (1 : Int32) d0_245 rfl rfl (by subst ex4; rfl) ?_
    refine WP.goto (pc' := 224) d0_248 (by decide) rfl ?_
    exact WP.weak (L' := [.val (.ref 0), .unset, .unset, .val (.int x4)]) ⟨rfl, rfl, trivial⟩ (hk224 x4 s3 _ h)
  ·
    refine WP.icmpY (pc' := 251) d0_227 (XT.ii_ge_t hc1) (by decide) rfl ?_
    refine WP.iconst (0 : Int32) d0_251 rfl ?_
    refine WP.istoreN (L' := [.val (.ref 0), .unset, .unset, .val (.int (0 : Int32))]) d0_252 (leb rfl) rfl ?_
    exact WP.weak (L' := [.val (.ref 0), .unset, .unset, .val (.int (0 : Int32))]) ⟨rfl, rfl, trivial⟩ (ok0_253 l Z a0 hw n0 n (0 : Int32) s _ h)
def f_init_224 : Nat → Int32 → St → Option (St)
  | 0 => fun _ _ => none
  | n + 1 => g_init_224 (f_init_224 n) n
theorem ok0_224 (l : Launch) (Z : State) (a0 : Array Value) (hw : HW a0 Z) (n0 : Nat) : ∀ (n : Nat) (v3 : Int32) (s : St) (r : St), f_init_224 n v3 s = some r → W0 l Z n0 (P0 r) 24 800 224 [.val (.ref 0), .unset, .unset, .val (.int v3)] [] (Hb 0 s)
  | 0, v3, s, r, h => nomatch (show none = some r from h)
  | n + 1, v3, s, r, h => okg0_224 l Z a0 hw n0 _ (ok0_224 l Z a0 hw n0 n) n v3 s r h
def f_init (n : Nat) (p1 : Int32) (p2 : Int32) : Option (St) :=
  lt (st0) fun s1 =>
  (f_clamp p1 (7 : Int32) (31 : Int32)).bind fun c2 =>
  lt (sI s1 0 c2) fun s3 =>
  (f_clamp p2 (0 : Int32) (3000 : Int32)).bind fun c4 =>
  lt (sI s3 1 c4) fun s5 =>
  f_init_224 n (0 : Int32) s5
set_option maxRecDepth 65536 in
set_option maxHeartbeats 4000000 in
theorem ok0 (l : Launch) (Z : State) (a0 : Array Value) (hw : HW a0 Z) (n : Nat) (p1 : Int32) (p2 : Int32) (r : St) (h : f_init n p1 p2 = some r) : CS l Z CN lay y0 prog_1_method_1_code 4 (none) R0 0 [.ref 0, .int p1, .int p2] [cO vs0] (P0 r) := by
  refine CS.of_wp pn_cls (leb rfl) fun n0 => ?_
  show W0 l Z n0 (P0 r) 0 0 0 [.val (.ref 0), .val (.int p1), .val (.int p2), .unset] [] [cO vs0]
  unfold f_init at h
  refine WP.aloadN d0_0 rfl ?_
  refine WP.initO d0_1 (hw _ m_9) (hw _ m_10) (hw _ m_11) (leb rfl) (leb rfl) ?_
  refine WP.aloadN d0_4 rfl ?_
  refine WP.bipush (8 : Int32) d0_5 rfl ?_
  refine WP.newarray d0_7 (hw _ m_12) (by decide) (leb rfl) (leb rfl) (leb rfl) (Or.inl ⟨rfl, rfl⟩) ?_
  show W0 l Z n0 (P0 r) 1 8 9 [.val (.ref 0), .val (.int p1), .val (.int p2), .unset] [.ref 1, .ref 0] ([cO [.int (0 : Int32), .int (0 : Int32), .int (0 : Int32), .int (0 : Int32), .null, .null, .null, .null, .null, .null, .null, .null, .null, .null, .null, .null, .null, .null, .null, .null, .null, .null, .null, .null, .null, .null, .null, .null], cI (List.replicate 8 0)] : List OwnC)
  refine WP.putR (ty := .array .int) (i := 0) (j := 4) (H' := ([cO [.int (0 : Int32), .int (0 : Int32), .int (0 : Int32), .int (0 : Int32), .ref 1, .null, .null, .null, .null, .null, .null, .null, .null, .null, .null, .null, .null, .null, .null, .null, .null, .null, .null, .null, .null, .null, .null, .null], cI (List.replicate 8 0)] : List OwnC)) d0_9 (hw _ m_13) (Or.inl (hw _ m_14)) (hw _ m_4) (hlay hw) (by decide) (fun _ => rfl) (fun _ => rfl) rfl rfl rfl (leb rfl) rfl ?_
  refine WP.aloadN d0_12 rfl ?_
  refine WP.bipush (8 : Int32) d0_13 rfl ?_
  refine WP.newarray d0_15 (hw _ m_12) (by decide) (leb rfl) (leb rfl) (leb rfl) (Or.inl ⟨rfl, rfl⟩) ?_
  show W0 l Z n0 (P0 r) 2 16 17 [.val (.ref 0), .val (.int p1), .val (.int p2), .unset] [.ref 2, .ref 0] ([cO [.int (0 : Int32), .int (0 : Int32), .int (0 : Int32), .int (0 : Int32), .ref 1, .null, .null, .null, .null, .null, .null, .null, .null, .null, .null, .null, .null, .null, .null, .null, .null, .null, .null, .null, .null, .null, .null, .null], cI (List.replicate 8 0), cI (List.replicate 8 0)] : List OwnC)
  refine WP.putR (ty := .array .int) (i := 0) (j := 5) (H' := ([cO [.int (0 : Int32), .int (0 : Int32), .int (0 : Int32), .int (0 : Int32), .ref 1, .ref 2, .null, .null, .null, .null, .null, .null, .null, .null, .null, .null, .null, .null, .null, .null, .null, .null, .null, .null, .null, .null, .null, .null], cI (List.replicate 8 0), cI (List.replicate 8 0)] : List OwnC)) d0_17 (hw _ m_15) (Or.inl (hw _ m_16)) (hw _ m_4) (hlay hw) (by decide) (fun _ => rfl) (fun _ => rfl) rfl rfl rfl (leb rfl) rfl ?_
  refine WP.aloadN d0_20 rfl ?_
  refine WP.bipush (32 : Int32) d0_21 rfl ?_
  refine WP.newarray d0_23 (hw _ m_12) (by decide) (leb rfl) (leb rfl) (leb rfl) (Or.inl ⟨rfl, rfl⟩) ?_
  show W0 l Z n0 (P0 r) 3 48 25 [.val (.ref 0), .val (.int p1), .val (.int p2), .unset] [.ref 3, .ref 0] ([cO [.int (0 : Int32), .int (0 : Int32), .int (0 : Int32), .int (0 : Int32), .ref 1, .ref 2, .null, .null, .null, .null, .null, .null, .null, .null, .null, .null, .null, .null, .null, .null, .null, .null, .null, .null, .null, .null, .null, .null], cI (List.replicate 8 0), cI (List.replicate 8 0), cI (List.replicate 32 0)] : List OwnC)
  refine WP.putR (ty := .array .int) (i := 0) (j := 6) (H' := ([cO [.int (0 : Int32), .int (0 : Int32), .int (0 : Int32), .int (0 : Int32), .ref 1, .ref 2, .ref 3, .null, .null, .null, .null, .null, .null, .null, .null, .null, .null, .null, .null, .null, .null, .null, .null, .null, .null, .null, .null, .null], cI (List.replicate 8 0), cI (List.replicate 8 0), cI (List.replicate 32 0)] : List OwnC)) d0_25 (hw _ m_17) (Or.inl (hw _ m_18)) (hw _ m_4) (hlay hw) (by decide) (fun _ => rfl) (fun _ => rfl) rfl rfl rfl (leb rfl) rfl ?_
  refine WP.aloadN d0_28 rfl ?_
  refine WP.bipush (32 : Int32) d0_29 rfl ?_
  refine WP.newarray d0_31 (hw _ m_12) (by decide) (leb rfl) (leb rfl) (leb rfl) (Or.inl ⟨rfl, rfl⟩) ?_
  show W0 l Z n0 (P0 r) 4 80 33 [.val (.ref 0), .val (.int p1), .val (.int p2), .unset] [.ref 4, .ref 0] ([cO [.int (0 : Int32), .int (0 : Int32), .int (0 : Int32), .int (0 : Int32), .ref 1, .ref 2, .ref 3, .null, .null, .null, .null, .null, .null, .null, .null, .null, .null, .null, .null, .null, .null, .null, .null, .null, .null, .null, .null, .null], cI (List.replicate 8 0), cI (List.replicate 8 0), cI (List.replicate 32 0), cI (List.replicate 32 0)] : List OwnC)
  refine WP.putR (ty := .array .int) (i := 0) (j := 7) (H' := ([cO [.int (0 : Int32), .int (0 : Int32), .int (0 : Int32), .int (0 : Int32), .ref 1, .ref 2, .ref 3, .ref 4, .null, .null, .null, .null, .null, .null, .null, .null, .null, .null, .null, .null, .null, .null, .null, .null, .null, .null, .null, .null], cI (List.replicate 8 0), cI (List.replicate 8 0), cI (List.replicate 32 0), cI (List.replicate 32 0)] : List OwnC)) d0_33 (hw _ m_19) (Or.inl (hw _ m_20)) (hw _ m_4) (hlay hw) (by decide) (fun _ => rfl) (fun _ => rfl) rfl rfl rfl (leb rfl) rfl ?_
  refine WP.aloadN d0_36 rfl ?_
  refine WP.bipush (16 : Int32) d0_37 rfl ?_
  refine WP.newarray d0_39 (hw _ m_21) (by decide) (leb rfl) (leb rfl) (leb rfl) (Or.inr (Or.inr ⟨rfl, rfl⟩)) ?_
  show W0 l Z n0 (P0 r) 5 96 41 [.val (.ref 0), .val (.int p1), .val (.int p2), .unset] [.ref 5, .ref 0] ([cO [.int (0 : Int32), .int (0 : Int32), .int (0 : Int32), .int (0 : Int32), .ref 1, .ref 2, .ref 3, .ref 4, .null, .null, .null, .null, .null, .null, .null, .null, .null, .null, .null, .null, .null, .null, .null, .null, .null, .null, .null, .null], cI (List.replicate 8 0), cI (List.replicate 8 0), cI (List.replicate 32 0), cI (List.replicate 32 0), cZ (List.replicate 16 0)] : List OwnC)
  refine WP.putR (ty := .array .boolean) (i := 0) (j := 8) (H' := ([cO [.int (0 : Int32), .int (0 : Int32), .int (0 : Int32), .int (0 : Int32), .ref 1, .ref 2, .ref 3, .ref 4, .ref 5, .null, .null, .null, .null, .null, .null, .null, .null, .null, .null, .null, .null, .null, .null, .null, .null, .null, .null, .null], cI (List.replicate 8 0), cI (List.replicate 8 0), cI (List.replicate 32 0), cI (List.replicate 32 0), cZ (List.replicate 16 0)] : List OwnC)) d0_41 (hw _ m_22) (Or.inl (hw _ m_23)) (hw _ m_4) (hlay hw) (by decide) (fun _ => rfl) (fun _ => rfl) rfl rfl rfl (leb rfl) rfl ?_
  refine WP.aloadN d0_44 rfl ?_
  refine WP.bipush (16 : Int32) d0_45 rfl ?_
  refine WP.newarray d0_47 (hw _ m_12) (by decide) (leb rfl) (leb rfl) (leb rfl) (Or.inl ⟨rfl, rfl⟩) ?_
  show W0 l Z n0 (P0 r) 6 112 49 [.val (.ref 0), .val (.int p1), .val (.int p2), .unset] [.ref 6, .ref 0] ([cO [.int (0 : Int32), .int (0 : Int32), .int (0 : Int32), .int (0 : Int32), .ref 1, .ref 2, .ref 3, .ref 4, .ref 5, .null, .null, .null, .null, .null, .null, .null, .null, .null, .null, .null, .null, .null, .null, .null, .null, .null, .null, .null], cI (List.replicate 8 0), cI (List.replicate 8 0), cI (List.replicate 32 0), cI (List.replicate 32 0), cZ (List.replicate 16 0), cI (List.replicate 16 0)] : List OwnC)
  refine WP.putR (ty := .array .int) (i := 0) (j := 9) (H' := ([cO [.int (0 : Int32), .int (0 : Int32), .int (0 : Int32), .int (0 : Int32), .ref 1, .ref 2, .ref 3, .ref 4, .ref 5, .ref 6, .null, .null, .null, .null, .null, .null, .null, .null, .null, .null, .null, .null, .null, .null, .null, .null, .null, .null], cI (List.replicate 8 0), cI (List.replicate 8 0), cI (List.replicate 32 0), cI (List.replicate 32 0), cZ (List.replicate 16 0), cI (List.replicate 16 0)] : List OwnC)) d0_49 (hw _ m_24) (Or.inl (hw _ m_25)) (hw _ m_4) (hlay hw) (by decide) (fun _ => rfl) (fun _ => rfl) rfl rfl rfl (leb rfl) rfl ?_
  refine WP.aloadN d0_52 rfl ?_
  refine WP.bipush (16 : Int32) d0_53 rfl ?_
  refine WP.newarray d0_55 (hw _ m_12) (by decide) (leb rfl) (leb rfl) (leb rfl) (Or.inl ⟨rfl, rfl⟩) ?_
  show W0 l Z n0 (P0 r) 7 128 57 [.val (.ref 0), .val (.int p1), .val (.int p2), .unset] [.ref 7, .ref 0] ([cO [.int (0 : Int32), .int (0 : Int32), .int (0 : Int32), .int (0 : Int32), .ref 1, .ref 2, .ref 3, .ref 4, .ref 5, .ref 6, .null, .null, .null, .null, .null, .null, .null, .null, .null, .null, .null, .null, .null, .null, .null, .null, .null, .null], cI (List.replicate 8 0), cI (List.replicate 8 0), cI (List.replicate 32 0), cI (List.replicate 32 0), cZ (List.replicate 16 0), cI (List.replicate 16 0), cI (List.replicate 16 0)] : List OwnC)
  refine WP.putR (ty := .array .int) (i := 0) (j := 10) (H' := ([cO [.int (0 : Int32), .int (0 : Int32), .int (0 : Int32), .int (0 : Int32), .ref 1, .ref 2, .ref 3, .ref 4, .ref 5, .ref 6, .ref 7, .null, .null, .null, .null, .null, .null, .null, .null, .null, .null, .null, .null, .null, .null, .null, .null, .null], cI (List.replicate 8 0), cI (List.replicate 8 0), cI (List.replicate 32 0), cI (List.replicate 32 0), cZ (List.replicate 16 0), cI (List.replicate 16 0), cI (List.replicate 16 0)] : List OwnC)) d0_57 (hw _ m_26) (Or.inl (hw _ m_27)) (hw _ m_4) (hlay hw) (by decide) (fun _ => rfl) (fun _ => rfl) rfl rfl rfl (leb rfl) rfl ?_
  refine WP.aloadN d0_60 rfl ?_
  refine WP.bipush (16 : Int32) d0_61 rfl ?_
  refine WP.newarray d0_63 (hw _ m_28) (by decide) (leb rfl) (leb rfl) (leb rfl) (Or.inr (Or.inl ⟨rfl, rfl⟩)) ?_
  show W0 l Z n0 (P0 r) 8 144 65 [.val (.ref 0), .val (.int p1), .val (.int p2), .unset] [.ref 8, .ref 0] ([cO [.int (0 : Int32), .int (0 : Int32), .int (0 : Int32), .int (0 : Int32), .ref 1, .ref 2, .ref 3, .ref 4, .ref 5, .ref 6, .ref 7, .null, .null, .null, .null, .null, .null, .null, .null, .null, .null, .null, .null, .null, .null, .null, .null, .null], cI (List.replicate 8 0), cI (List.replicate 8 0), cI (List.replicate 32 0), cI (List.replicate 32 0), cZ (List.replicate 16 0), cI (List.replicate 16 0), cI (List.replicate 16 0), cJ (List.replicate 16 0)] : List OwnC)
  refine WP.putR (ty := .array .long) (i := 0) (j := 11) (H' := ([cO [.int (0 : Int32), .int (0 : Int32), .int (0 : Int32), .int (0 : Int32), .ref 1, .ref 2, .ref 3, .ref 4, .ref 5, .ref 6, .ref 7, .ref 8, .null, .null, .null, .null, .null, .null, .null, .null, .null, .null, .null, .null, .null, .null, .null, .null], cI (List.replicate 8 0), cI (List.replicate 8 0), cI (List.replicate 32 0), cI (List.replicate 32 0), cZ (List.replicate 16 0), cI (List.replicate 16 0), cI (List.replicate 16 0), cJ (List.replicate 16 0)] : List OwnC)) d0_65 (hw _ m_29) (Or.inl (hw _ m_30)) (hw _ m_4) (hlay hw) (by decide) (fun _ => rfl) (fun _ => rfl) rfl rfl rfl (leb rfl) rfl ?_
  refine WP.aloadN d0_68 rfl ?_
  refine WP.bipush (16 : Int32) d0_69 rfl ?_
  refine WP.newarray d0_71 (hw _ m_28) (by decide) (leb rfl) (leb rfl) (leb rfl) (Or.inr (Or.inl ⟨rfl, rfl⟩)) ?_
  show W0 l Z n0 (P0 r) 9 160 73 [.val (.ref 0), .val (.int p1), .val (.int p2), .unset] [.ref 9, .ref 0] ([cO [.int (0 : Int32), .int (0 : Int32), .int (0 : Int32), .int (0 : Int32), .ref 1, .ref 2, .ref 3, .ref 4, .ref 5, .ref 6, .ref 7, .ref 8, .null, .null, .null, .null, .null, .null, .null, .null, .null, .null, .null, .null, .null, .null, .null, .null], cI (List.replicate 8 0), cI (List.replicate 8 0), cI (List.replicate 32 0), cI (List.replicate 32 0), cZ (List.replicate 16 0), cI (List.replicate 16 0), cI (List.replicate 16 0), cJ (List.replicate 16 0), cJ (List.replicate 16 0)] : List OwnC)
  refine WP.putR (ty := .array .long) (i := 0) (j := 12) (H' := ([cO [.int (0 : Int32), .int (0 : Int32), .int (0 : Int32), .int (0 : Int32), .ref 1, .ref 2, .ref 3, .ref 4, .ref 5, .ref 6, .ref 7, .ref 8, .ref 9, .null, .null, .null, .null, .null, .null, .null, .null, .null, .null, .null, .null, .null, .null, .null], cI (List.replicate 8 0), cI (List.replicate 8 0), cI (List.replicate 32 0), cI (List.replicate 32 0), cZ (List.replicate 16 0), cI (List.replicate 16 0), cI (List.replicate 16 0), cJ (List.replicate 16 0), cJ (List.replicate 16 0)] : List OwnC)) d0_73 (hw _ m_31) (Or.inl (hw _ m_32)) (hw _ m_4) (hlay hw) (by decide) (fun _ => rfl) (fun _ => rfl) rfl rfl rfl (leb rfl) rfl ?_
  refine WP.aloadN d0_76 rfl ?_
  refine WP.bipush (16 : Int32) d0_77 rfl ?_
  refine WP.newarray d0_79 (hw _ m_28) (by decide) (leb rfl) (leb rfl) (leb rfl) (Or.inr (Or.inl ⟨rfl, rfl⟩)) ?_
  show W0 l Z n0 (P0 r) 10 176 81 [.val (.ref 0), .val (.int p1), .val (.int p2), .unset] [.ref 10, .ref 0] ([cO [.int (0 : Int32), .int (0 : Int32), .int (0 : Int32), .int (0 : Int32), .ref 1, .ref 2, .ref 3, .ref 4, .ref 5, .ref 6, .ref 7, .ref 8, .ref 9, .null, .null, .null, .null, .null, .null, .null, .null, .null, .null, .null, .null, .null, .null, .null], cI (List.replicate 8 0), cI (List.replicate 8 0), cI (List.replicate 32 0), cI (List.replicate 32 0), cZ (List.replicate 16 0), cI (List.replicate 16 0), cI (List.replicate 16 0), cJ (List.replicate 16 0), cJ (List.replicate 16 0), cJ (List.replicate 16 0)] : List OwnC)
  refine WP.putR (ty := .array .long) (i := 0) (j := 13) (H' := ([cO [.int (0 : Int32), .int (0 : Int32), .int (0 : Int32), .int (0 : Int32), .ref 1, .ref 2, .ref 3, .ref 4, .ref 5, .ref 6, .ref 7, .ref 8, .ref 9, .ref 10, .null, .null, .null, .null, .null, .null, .null, .null, .null, .null, .null, .null, .null, .null], cI (List.replicate 8 0), cI (List.replicate 8 0), cI (List.replicate 32 0), cI (List.replicate 32 0), cZ (List.replicate 16 0), cI (List.replicate 16 0), cI (List.replicate 16 0), cJ (List.replicate 16 0), cJ (List.replicate 16 0), cJ (List.replicate 16 0)] : List OwnC)) d0_81 (hw _ m_33) (Or.inl (hw _ m_34)) (hw _ m_4) (hlay hw) (by decide) (fun _ => rfl) (fun _ => rfl) rfl rfl rfl (leb rfl) rfl ?_
  refine WP.aloadN d0_84 rfl ?_
  refine WP.bipush (64 : Int32) d0_85 rfl ?_
  refine WP.newarray d0_87 (hw _ m_12) (by decide) (leb rfl) (leb rfl) (leb rfl) (Or.inl ⟨rfl, rfl⟩) ?_
  show W0 l Z n0 (P0 r) 11 240 89 [.val (.ref 0), .val (.int p1), .val (.int p2), .unset] [.ref 11, .ref 0] ([cO [.int (0 : Int32), .int (0 : Int32), .int (0 : Int32), .int (0 : Int32), .ref 1, .ref 2, .ref 3, .ref 4, .ref 5, .ref 6, .ref 7, .ref 8, .ref 9, .ref 10, .null, .null, .null, .null, .null, .null, .null, .null, .null, .null, .null, .null, .null, .null], cI (List.replicate 8 0), cI (List.replicate 8 0), cI (List.replicate 32 0), cI (List.replicate 32 0), cZ (List.replicate 16 0), cI (List.replicate 16 0), cI (List.replicate 16 0), cJ (List.replicate 16 0), cJ (List.replicate 16 0), cJ (List.replicate 16 0), cI (List.replicate 64 0)] : List OwnC)
  refine WP.putR (ty := .array .int) (i := 0) (j := 14) (H' := ([cO [.int (0 : Int32), .int (0 : Int32), .int (0 : Int32), .int (0 : Int32), .ref 1, .ref 2, .ref 3, .ref 4, .ref 5, .ref 6, .ref 7, .ref 8, .ref 9, .ref 10, .ref 11, .null, .null, .null, .null, .null, .null, .null, .null, .null, .null, .null, .null, .null], cI (List.replicate 8 0), cI (List.replicate 8 0), cI (List.replicate 32 0), cI (List.replicate 32 0), cZ (List.replicate 16 0), cI (List.replicate 16 0), cI (List.replicate 16 0), cJ (List.replicate 16 0), cJ (List.replicate 16 0), cJ (List.replicate 16 0), cI (List.replicate 64 0)] : List OwnC)) d0_89 (hw _ m_35) (Or.inl (hw _ m_36)) (hw _ m_4) (hlay hw) (by decide) (fun _ => rfl) (fun _ => rfl) rfl rfl rfl (leb rfl) rfl ?_
  refine WP.aloadN d0_92 rfl ?_
  refine WP.bipush (64 : Int32) d0_93 rfl ?_
  refine WP.newarray d0_95 (hw _ m_12) (by decide) (leb rfl) (leb rfl) (leb rfl) (Or.inl ⟨rfl, rfl⟩) ?_
  show W0 l Z n0 (P0 r) 12 304 97 [.val (.ref 0), .val (.int p1), .val (.int p2), .unset] [.ref 12, .ref 0] ([cO [.int (0 : Int32), .int (0 : Int32), .int (0 : Int32), .int (0 : Int32), .ref 1, .ref 2, .ref 3, .ref 4, .ref 5, .ref 6, .ref 7, .ref 8, .ref 9, .ref 10, .ref 11, .null, .null, .null, .null, .null, .null, .null, .null, .null, .null, .null, .null, .null], cI (List.replicate 8 0), cI (List.replicate 8 0), cI (List.replicate 32 0), cI (List.replicate 32 0), cZ (List.replicate 16 0), cI (List.replicate 16 0), cI (List.replicate 16 0), cJ (List.replicate 16 0), cJ (List.replicate 16 0), cJ (List.replicate 16 0), cI (List.replicate 64 0), cI (List.replicate 64 0)] : List OwnC)
  refine WP.putR (ty := .array .int) (i := 0) (j := 15) (H' := ([cO [.int (0 : Int32), .int (0 : Int32), .int (0 : Int32), .int (0 : Int32), .ref 1, .ref 2, .ref 3, .ref 4, .ref 5, .ref 6, .ref 7, .ref 8, .ref 9, .ref 10, .ref 11, .ref 12, .null, .null, .null, .null, .null, .null, .null, .null, .null, .null, .null, .null], cI (List.replicate 8 0), cI (List.replicate 8 0), cI (List.replicate 32 0), cI (List.replicate 32 0), cZ (List.replicate 16 0), cI (List.replicate 16 0), cI (List.replicate 16 0), cJ (List.replicate 16 0), cJ (List.replicate 16 0), cJ (List.replicate 16 0), cI (List.replicate 64 0), cI (List.replicate 64 0)] : List OwnC)) d0_97 (hw _ m_37) (Or.inl (hw _ m_38)) (hw _ m_4) (hlay hw) (by decide) (fun _ => rfl) (fun _ => rfl) rfl rfl rfl (leb rfl) rfl ?_
  refine WP.aloadN d0_100 rfl ?_
  refine WP.bipush (64 : Int32) d0_101 rfl ?_
  refine WP.newarray d0_103 (hw _ m_12) (by decide) (leb rfl) (leb rfl) (leb rfl) (Or.inl ⟨rfl, rfl⟩) ?_
  show W0 l Z n0 (P0 r) 13 368 105 [.val (.ref 0), .val (.int p1), .val (.int p2), .unset] [.ref 13, .ref 0] ([cO [.int (0 : Int32), .int (0 : Int32), .int (0 : Int32), .int (0 : Int32), .ref 1, .ref 2, .ref 3, .ref 4, .ref 5, .ref 6, .ref 7, .ref 8, .ref 9, .ref 10, .ref 11, .ref 12, .null, .null, .null, .null, .null, .null, .null, .null, .null, .null, .null, .null], cI (List.replicate 8 0), cI (List.replicate 8 0), cI (List.replicate 32 0), cI (List.replicate 32 0), cZ (List.replicate 16 0), cI (List.replicate 16 0), cI (List.replicate 16 0), cJ (List.replicate 16 0), cJ (List.replicate 16 0), cJ (List.replicate 16 0), cI (List.replicate 64 0), cI (List.replicate 64 0), cI (List.replicate 64 0)] : List OwnC)
  refine WP.putR (ty := .array .int) (i := 0) (j := 16) (H' := ([cO [.int (0 : Int32), .int (0 : Int32), .int (0 : Int32), .int (0 : Int32), .ref 1, .ref 2, .ref 3, .ref 4, .ref 5, .ref 6, .ref 7, .ref 8, .ref 9, .ref 10, .ref 11, .ref 12, .ref 13, .null, .null, .null, .null, .null, .null, .null, .null, .null, .null, .null], cI (List.replicate 8 0), cI (List.replicate 8 0), cI (List.replicate 32 0), cI (List.replicate 32 0), cZ (List.replicate 16 0), cI (List.replicate 16 0), cI (List.replicate 16 0), cJ (List.replicate 16 0), cJ (List.replicate 16 0), cJ (List.replicate 16 0), cI (List.replicate 64 0), cI (List.replicate 64 0), cI (List.replicate 64 0)] : List OwnC)) d0_105 (hw _ m_39) (Or.inl (hw _ m_40)) (hw _ m_4) (hlay hw) (by decide) (fun _ => rfl) (fun _ => rfl) rfl rfl rfl (leb rfl) rfl ?_
  refine WP.aloadN d0_108 rfl ?_
  refine WP.bipush (64 : Int32) d0_109 rfl ?_
  refine WP.newarray d0_111 (hw _ m_12) (by decide) (leb rfl) (leb rfl) (leb rfl) (Or.inl ⟨rfl, rfl⟩) ?_
  show W0 l Z n0 (P0 r) 14 432 113 [.val (.ref 0), .val (.int p1), .val (.int p2), .unset] [.ref 14, .ref 0] ([cO [.int (0 : Int32), .int (0 : Int32), .int (0 : Int32), .int (0 : Int32), .ref 1, .ref 2, .ref 3, .ref 4, .ref 5, .ref 6, .ref 7, .ref 8, .ref 9, .ref 10, .ref 11, .ref 12, .ref 13, .null, .null, .null, .null, .null, .null, .null, .null, .null, .null, .null], cI (List.replicate 8 0), cI (List.replicate 8 0), cI (List.replicate 32 0), cI (List.replicate 32 0), cZ (List.replicate 16 0), cI (List.replicate 16 0), cI (List.replicate 16 0), cJ (List.replicate 16 0), cJ (List.replicate 16 0), cJ (List.replicate 16 0), cI (List.replicate 64 0), cI (List.replicate 64 0), cI (List.replicate 64 0), cI (List.replicate 64 0)] : List OwnC)
  refine WP.putR (ty := .array .int) (i := 0) (j := 17) (H' := ([cO [.int (0 : Int32), .int (0 : Int32), .int (0 : Int32), .int (0 : Int32), .ref 1, .ref 2, .ref 3, .ref 4, .ref 5, .ref 6, .ref 7, .ref 8, .ref 9, .ref 10, .ref 11, .ref 12, .ref 13, .ref 14, .null, .null, .null, .null, .null, .null, .null, .null, .null, .null], cI (List.replicate 8 0), cI (List.replicate 8 0), cI (List.replicate 32 0), cI (List.replicate 32 0), cZ (List.replicate 16 0), cI (List.replicate 16 0), cI (List.replicate 16 0), cJ (List.replicate 16 0), cJ (List.replicate 16 0), cJ (List.replicate 16 0), cI (List.replicate 64 0), cI (List.replicate 64 0), cI (List.replicate 64 0), cI (List.replicate 64 0)] : List OwnC)) d0_113 (hw _ m_41) (Or.inl (hw _ m_42)) (hw _ m_4) (hlay hw) (by decide) (fun _ => rfl) (fun _ => rfl) rfl rfl rfl (leb rfl) rfl ?_
  refine WP.aloadN d0_116 rfl ?_
  refine WP.bipush (16 : Int32) d0_117 rfl ?_
  refine WP.newarray d0_119 (hw _ m_12) (by decide) (leb rfl) (leb rfl) (leb rfl) (Or.inl ⟨rfl, rfl⟩) ?_
  show W0 l Z n0 (P0 r) 15 448 121 [.val (.ref 0), .val (.int p1), .val (.int p2), .unset] [.ref 15, .ref 0] ([cO [.int (0 : Int32), .int (0 : Int32), .int (0 : Int32), .int (0 : Int32), .ref 1, .ref 2, .ref 3, .ref 4, .ref 5, .ref 6, .ref 7, .ref 8, .ref 9, .ref 10, .ref 11, .ref 12, .ref 13, .ref 14, .null, .null, .null, .null, .null, .null, .null, .null, .null, .null], cI (List.replicate 8 0), cI (List.replicate 8 0), cI (List.replicate 32 0), cI (List.replicate 32 0), cZ (List.replicate 16 0), cI (List.replicate 16 0), cI (List.replicate 16 0), cJ (List.replicate 16 0), cJ (List.replicate 16 0), cJ (List.replicate 16 0), cI (List.replicate 64 0), cI (List.replicate 64 0), cI (List.replicate 64 0), cI (List.replicate 64 0), cI (List.replicate 16 0)] : List OwnC)
  refine WP.putR (ty := .array .int) (i := 0) (j := 18) (H' := ([cO [.int (0 : Int32), .int (0 : Int32), .int (0 : Int32), .int (0 : Int32), .ref 1, .ref 2, .ref 3, .ref 4, .ref 5, .ref 6, .ref 7, .ref 8, .ref 9, .ref 10, .ref 11, .ref 12, .ref 13, .ref 14, .ref 15, .null, .null, .null, .null, .null, .null, .null, .null, .null], cI (List.replicate 8 0), cI (List.replicate 8 0), cI (List.replicate 32 0), cI (List.replicate 32 0), cZ (List.replicate 16 0), cI (List.replicate 16 0), cI (List.replicate 16 0), cJ (List.replicate 16 0), cJ (List.replicate 16 0), cJ (List.replicate 16 0), cI (List.replicate 64 0), cI (List.replicate 64 0), cI (List.replicate 64 0), cI (List.replicate 64 0), cI (List.replicate 16 0)] : List OwnC)) d0_121 (hw _ m_43) (Or.inl (hw _ m_44)) (hw _ m_4) (hlay hw) (by decide) (fun _ => rfl) (fun _ => rfl) rfl rfl rfl (leb rfl) rfl ?_
  refine WP.aloadN d0_124 rfl ?_
  refine WP.bipush (16 : Int32) d0_125 rfl ?_
  refine WP.newarray d0_127 (hw _ m_28) (by decide) (leb rfl) (leb rfl) (leb rfl) (Or.inr (Or.inl ⟨rfl, rfl⟩)) ?_
  show W0 l Z n0 (P0 r) 16 464 129 [.val (.ref 0), .val (.int p1), .val (.int p2), .unset] [.ref 16, .ref 0] ([cO [.int (0 : Int32), .int (0 : Int32), .int (0 : Int32), .int (0 : Int32), .ref 1, .ref 2, .ref 3, .ref 4, .ref 5, .ref 6, .ref 7, .ref 8, .ref 9, .ref 10, .ref 11, .ref 12, .ref 13, .ref 14, .ref 15, .null, .null, .null, .null, .null, .null, .null, .null, .null], cI (List.replicate 8 0), cI (List.replicate 8 0), cI (List.replicate 32 0), cI (List.replicate 32 0), cZ (List.replicate 16 0), cI (List.replicate 16 0), cI (List.replicate 16 0), cJ (List.replicate 16 0), cJ (List.replicate 16 0), cJ (List.replicate 16 0), cI (List.replicate 64 0), cI (List.replicate 64 0), cI (List.replicate 64 0), cI (List.replicate 64 0), cI (List.replicate 16 0), cJ (List.replicate 16 0)] : List OwnC)
  refine WP.putR (ty := .array .long) (i := 0) (j := 19) (H' := ([cO [.int (0 : Int32), .int (0 : Int32), .int (0 : Int32), .int (0 : Int32), .ref 1, .ref 2, .ref 3, .ref 4, .ref 5, .ref 6, .ref 7, .ref 8, .ref 9, .ref 10, .ref 11, .ref 12, .ref 13, .ref 14, .ref 15, .ref 16, .null, .null, .null, .null, .null, .null, .null, .null], cI (List.replicate 8 0), cI (List.replicate 8 0), cI (List.replicate 32 0), cI (List.replicate 32 0), cZ (List.replicate 16 0), cI (List.replicate 16 0), cI (List.replicate 16 0), cJ (List.replicate 16 0), cJ (List.replicate 16 0), cJ (List.replicate 16 0), cI (List.replicate 64 0), cI (List.replicate 64 0), cI (List.replicate 64 0), cI (List.replicate 64 0), cI (List.replicate 16 0), cJ (List.replicate 16 0)] : List OwnC)) d0_129 (hw _ m_45) (Or.inl (hw _ m_46)) (hw _ m_4) (hlay hw) (by decide) (fun _ => rfl) (fun _ => rfl) rfl rfl rfl (leb rfl) rfl ?_
  refine WP.aloadN d0_132 rfl ?_
  refine WP.bipush (16 : Int32) d0_133 rfl ?_
  refine WP.newarray d0_135 (hw _ m_28) (by decide) (leb rfl) (leb rfl) (leb rfl) (Or.inr (Or.inl ⟨rfl, rfl⟩)) ?_
  show W0 l Z n0 (P0 r) 17 480 137 [.val (.ref 0), .val (.int p1), .val (.int p2), .unset] [.ref 17, .ref 0] ([cO [.int (0 : Int32), .int (0 : Int32), .int (0 : Int32), .int (0 : Int32), .ref 1, .ref 2, .ref 3, .ref 4, .ref 5, .ref 6, .ref 7, .ref 8, .ref 9, .ref 10, .ref 11, .ref 12, .ref 13, .ref 14, .ref 15, .ref 16, .null, .null, .null, .null, .null, .null, .null, .null], cI (List.replicate 8 0), cI (List.replicate 8 0), cI (List.replicate 32 0), cI (List.replicate 32 0), cZ (List.replicate 16 0), cI (List.replicate 16 0), cI (List.replicate 16 0), cJ (List.replicate 16 0), cJ (List.replicate 16 0), cJ (List.replicate 16 0), cI (List.replicate 64 0), cI (List.replicate 64 0), cI (List.replicate 64 0), cI (List.replicate 64 0), cI (List.replicate 16 0), cJ (List.replicate 16 0), cJ (List.replicate 16 0)] : List OwnC)
  refine WP.putR (ty := .array .long) (i := 0) (j := 20) (H' := ([cO [.int (0 : Int32), .int (0 : Int32), .int (0 : Int32), .int (0 : Int32), .ref 1, .ref 2, .ref 3, .ref 4, .ref 5, .ref 6, .ref 7, .ref 8, .ref 9, .ref 10, .ref 11, .ref 12, .ref 13, .ref 14, .ref 15, .ref 16, .ref 17, .null, .null, .null, .null, .null, .null, .null], cI (List.replicate 8 0), cI (List.replicate 8 0), cI (List.replicate 32 0), cI (List.replicate 32 0), cZ (List.replicate 16 0), cI (List.replicate 16 0), cI (List.replicate 16 0), cJ (List.replicate 16 0), cJ (List.replicate 16 0), cJ (List.replicate 16 0), cI (List.replicate 64 0), cI (List.replicate 64 0), cI (List.replicate 64 0), cI (List.replicate 64 0), cI (List.replicate 16 0), cJ (List.replicate 16 0), cJ (List.replicate 16 0)] : List OwnC)) d0_137 (hw _ m_47) (Or.inl (hw _ m_48)) (hw _ m_4) (hlay hw) (by decide) (fun _ => rfl) (fun _ => rfl) rfl rfl rfl (leb rfl) rfl ?_
  refine WP.aloadN d0_140 rfl ?_
  refine WP.bipush (16 : Int32) d0_141 rfl ?_
  refine WP.newarray d0_143 (hw _ m_28) (by decide) (leb rfl) (leb rfl) (leb rfl) (Or.inr (Or.inl ⟨rfl, rfl⟩)) ?_
  show W0 l Z n0 (P0 r) 18 496 145 [.val (.ref 0), .val (.int p1), .val (.int p2), .unset] [.ref 18, .ref 0] ([cO [.int (0 : Int32), .int (0 : Int32), .int (0 : Int32), .int (0 : Int32), .ref 1, .ref 2, .ref 3, .ref 4, .ref 5, .ref 6, .ref 7, .ref 8, .ref 9, .ref 10, .ref 11, .ref 12, .ref 13, .ref 14, .ref 15, .ref 16, .ref 17, .null, .null, .null, .null, .null, .null, .null], cI (List.replicate 8 0), cI (List.replicate 8 0), cI (List.replicate 32 0), cI (List.replicate 32 0), cZ (List.replicate 16 0), cI (List.replicate 16 0), cI (List.replicate 16 0), cJ (List.replicate 16 0), cJ (List.replicate 16 0), cJ (List.replicate 16 0), cI (List.replicate 64 0), cI (List.replicate 64 0), cI (List.replicate 64 0), cI (List.replicate 64 0), cI (List.replicate 16 0), cJ (List.replicate 16 0), cJ (List.replicate 16 0), cJ (List.replicate 16 0)] : List OwnC)
  refine WP.putR (ty := .array .long) (i := 0) (j := 21) (H' := ([cO [.int (0 : Int32), .int (0 : Int32), .int (0 : Int32), .int (0 : Int32), .ref 1, .ref 2, .ref 3, .ref 4, .ref 5, .ref 6, .ref 7, .ref 8, .ref 9, .ref 10, .ref 11, .ref 12, .ref 13, .ref 14, .ref 15, .ref 16, .ref 17, .ref 18, .null, .null, .null, .null, .null, .null], cI (List.replicate 8 0), cI (List.replicate 8 0), cI (List.replicate 32 0), cI (List.replicate 32 0), cZ (List.replicate 16 0), cI (List.replicate 16 0), cI (List.replicate 16 0), cJ (List.replicate 16 0), cJ (List.replicate 16 0), cJ (List.replicate 16 0), cI (List.replicate 64 0), cI (List.replicate 64 0), cI (List.replicate 64 0), cI (List.replicate 64 0), cI (List.replicate 16 0), cJ (List.replicate 16 0), cJ (List.replicate 16 0), cJ (List.replicate 16 0)] : List OwnC)) d0_145 (hw _ m_49) (Or.inl (hw _ m_50)) (hw _ m_4) (hlay hw) (by decide) (fun _ => rfl) (fun _ => rfl) rfl rfl rfl (leb rfl) rfl ?_
  refine WP.aloadN d0_148 rfl ?_
  refine WP.bipush (16 : Int32) d0_149 rfl ?_
  refine WP.newarray d0_151 (hw _ m_28) (by decide) (leb rfl) (leb rfl) (leb rfl) (Or.inr (Or.inl ⟨rfl, rfl⟩)) ?_
  show W0 l Z n0 (P0 r) 19 512 153 [.val (.ref 0), .val (.int p1), .val (.int p2), .unset] [.ref 19, .ref 0] ([cO [.int (0 : Int32), .int (0 : Int32), .int (0 : Int32), .int (0 : Int32), .ref 1, .ref 2, .ref 3, .ref 4, .ref 5, .ref 6, .ref 7, .ref 8, .ref 9, .ref 10, .ref 11, .ref 12, .ref 13, .ref 14, .ref 15, .ref 16, .ref 17, .ref 18, .null, .null, .null, .null, .null, .null], cI (List.replicate 8 0), cI (List.replicate 8 0), cI (List.replicate 32 0), cI (List.replicate 32 0), cZ (List.replicate 16 0), cI (List.replicate 16 0), cI (List.replicate 16 0), cJ (List.replicate 16 0), cJ (List.replicate 16 0), cJ (List.replicate 16 0), cI (List.replicate 64 0), cI (List.replicate 64 0), cI (List.replicate 64 0), cI (List.replicate 64 0), cI (List.replicate 16 0), cJ (List.replicate 16 0), cJ (List.replicate 16 0), cJ (List.replicate 16 0), cJ (List.replicate 16 0)] : List OwnC)
  refine WP.putR (ty := .array .long) (i := 0) (j := 22) (H' := ([cO [.int (0 : Int32), .int (0 : Int32), .int (0 : Int32), .int (0 : Int32), .ref 1, .ref 2, .ref 3, .ref 4, .ref 5, .ref 6, .ref 7, .ref 8, .ref 9, .ref 10, .ref 11, .ref 12, .ref 13, .ref 14, .ref 15, .ref 16, .ref 17, .ref 18, .ref 19, .null, .null, .null, .null, .null], cI (List.replicate 8 0), cI (List.replicate 8 0), cI (List.replicate 32 0), cI (List.replicate 32 0), cZ (List.replicate 16 0), cI (List.replicate 16 0), cI (List.replicate 16 0), cJ (List.replicate 16 0), cJ (List.replicate 16 0), cJ (List.replicate 16 0), cI (List.replicate 64 0), cI (List.replicate 64 0), cI (List.replicate 64 0), cI (List.replicate 64 0), cI (List.replicate 16 0), cJ (List.replicate 16 0), cJ (List.replicate 16 0), cJ (List.replicate 16 0), cJ (List.replicate 16 0)] : List OwnC)) d0_153 (hw _ m_51) (Or.inl (hw _ m_52)) (hw _ m_4) (hlay hw) (by decide) (fun _ => rfl) (fun _ => rfl) rfl rfl rfl (leb rfl) rfl ?_
  refine WP.aloadN d0_156 rfl ?_
  refine WP.bipush (16 : Int32) d0_157 rfl ?_
  refine WP.newarray d0_159 (hw _ m_12) (by decide) (leb rfl) (leb rfl) (leb rfl) (Or.inl ⟨rfl, rfl⟩) ?_
  show W0 l Z n0 (P0 r) 20 528 161 [.val (.ref 0), .val (.int p1), .val (.int p2), .unset] [.ref 20, .ref 0] ([cO [.int (0 : Int32), .int (0 : Int32), .int (0 : Int32), .int (0 : Int32), .ref 1, .ref 2, .ref 3, .ref 4, .ref 5, .ref 6, .ref 7, .ref 8, .ref 9, .ref 10, .ref 11, .ref 12, .ref 13, .ref 14, .ref 15, .ref 16, .ref 17, .ref 18, .ref 19, .null, .null, .null, .null, .null], cI (List.replicate 8 0), cI (List.replicate 8 0), cI (List.replicate 32 0), cI (List.replicate 32 0), cZ (List.replicate 16 0), cI (List.replicate 16 0), cI (List.replicate 16 0), cJ (List.replicate 16 0), cJ (List.replicate 16 0), cJ (List.replicate 16 0), cI (List.replicate 64 0), cI (List.replicate 64 0), cI (List.replicate 64 0), cI (List.replicate 64 0), cI (List.replicate 16 0), cJ (List.replicate 16 0), cJ (List.replicate 16 0), cJ (List.replicate 16 0), cJ (List.replicate 16 0), cI (List.replicate 16 0)] : List OwnC)
  refine WP.putR (ty := .array .int) (i := 0) (j := 23) (H' := ([cO [.int (0 : Int32), .int (0 : Int32), .int (0 : Int32), .int (0 : Int32), .ref 1, .ref 2, .ref 3, .ref 4, .ref 5, .ref 6, .ref 7, .ref 8, .ref 9, .ref 10, .ref 11, .ref 12, .ref 13, .ref 14, .ref 15, .ref 16, .ref 17, .ref 18, .ref 19, .ref 20, .null, .null, .null, .null], cI (List.replicate 8 0), cI (List.replicate 8 0), cI (List.replicate 32 0), cI (List.replicate 32 0), cZ (List.replicate 16 0), cI (List.replicate 16 0), cI (List.replicate 16 0), cJ (List.replicate 16 0), cJ (List.replicate 16 0), cJ (List.replicate 16 0), cI (List.replicate 64 0), cI (List.replicate 64 0), cI (List.replicate 64 0), cI (List.replicate 64 0), cI (List.replicate 16 0), cJ (List.replicate 16 0), cJ (List.replicate 16 0), cJ (List.replicate 16 0), cJ (List.replicate 16 0), cI (List.replicate 16 0)] : List OwnC)) d0_161 (hw _ m_53) (Or.inl (hw _ m_54)) (hw _ m_4) (hlay hw) (by decide) (fun _ => rfl) (fun _ => rfl) rfl rfl rfl (leb rfl) rfl ?_
  refine WP.aloadN d0_164 rfl ?_
  refine WP.sipush (128 : Int32) d0_165 rfl ?_
  refine WP.newarray d0_168 (hw _ m_28) (by decide) (leb rfl) (leb rfl) (leb rfl) (Or.inr (Or.inl ⟨rfl, rfl⟩)) ?_
  show W0 l Z n0 (P0 r) 21 656 170 [.val (.ref 0), .val (.int p1), .val (.int p2), .unset] [.ref 21, .ref 0] ([cO [.int (0 : Int32), .int (0 : Int32), .int (0 : Int32), .int (0 : Int32), .ref 1, .ref 2, .ref 3, .ref 4, .ref 5, .ref 6, .ref 7, .ref 8, .ref 9, .ref 10, .ref 11, .ref 12, .ref 13, .ref 14, .ref 15, .ref 16, .ref 17, .ref 18, .ref 19, .ref 20, .null, .null, .null, .null], cI (List.replicate 8 0), cI (List.replicate 8 0), cI (List.replicate 32 0), cI (List.replicate 32 0), cZ (List.replicate 16 0), cI (List.replicate 16 0), cI (List.replicate 16 0), cJ (List.replicate 16 0), cJ (List.replicate 16 0), cJ (List.replicate 16 0), cI (List.replicate 64 0), cI (List.replicate 64 0), cI (List.replicate 64 0), cI (List.replicate 64 0), cI (List.replicate 16 0), cJ (List.replicate 16 0), cJ (List.replicate 16 0), cJ (List.replicate 16 0), cJ (List.replicate 16 0), cI (List.replicate 16 0), cJ (List.replicate 128 0)] : List OwnC)
  refine WP.putR (ty := .array .long) (i := 0) (j := 24) (H' := ([cO [.int (0 : Int32), .int (0 : Int32), .int (0 : Int32), .int (0 : Int32), .ref 1, .ref 2, .ref 3, .ref 4, .ref 5, .ref 6, .ref 7, .ref 8, .ref 9, .ref 10, .ref 11, .ref 12, .ref 13, .ref 14, .ref 15, .ref 16, .ref 17, .ref 18, .ref 19, .ref 20, .ref 21, .null, .null, .null], cI (List.replicate 8 0), cI (List.replicate 8 0), cI (List.replicate 32 0), cI (List.replicate 32 0), cZ (List.replicate 16 0), cI (List.replicate 16 0), cI (List.replicate 16 0), cJ (List.replicate 16 0), cJ (List.replicate 16 0), cJ (List.replicate 16 0), cI (List.replicate 64 0), cI (List.replicate 64 0), cI (List.replicate 64 0), cI (List.replicate 64 0), cI (List.replicate 16 0), cJ (List.replicate 16 0), cJ (List.replicate 16 0), cJ (List.replicate 16 0), cJ (List.replicate 16 0), cI (List.replicate 16 0), cJ (List.replicate 128 0)] : List OwnC)) d0_170 (hw _ m_55) (Or.inl (hw _ m_56)) (hw _ m_4) (hlay hw) (by decide) (fun _ => rfl) (fun _ => rfl) rfl rfl rfl (leb rfl) rfl ?_
  refine WP.aloadN d0_173 rfl ?_
  refine WP.sipush (128 : Int32) d0_174 rfl ?_
  refine WP.newarray d0_177 (hw _ m_28) (by decide) (leb rfl) (leb rfl) (leb rfl) (Or.inr (Or.inl ⟨rfl, rfl⟩)) ?_
  show W0 l Z n0 (P0 r) 22 784 179 [.val (.ref 0), .val (.int p1), .val (.int p2), .unset] [.ref 22, .ref 0] ([cO [.int (0 : Int32), .int (0 : Int32), .int (0 : Int32), .int (0 : Int32), .ref 1, .ref 2, .ref 3, .ref 4, .ref 5, .ref 6, .ref 7, .ref 8, .ref 9, .ref 10, .ref 11, .ref 12, .ref 13, .ref 14, .ref 15, .ref 16, .ref 17, .ref 18, .ref 19, .ref 20, .ref 21, .null, .null, .null], cI (List.replicate 8 0), cI (List.replicate 8 0), cI (List.replicate 32 0), cI (List.replicate 32 0), cZ (List.replicate 16 0), cI (List.replicate 16 0), cI (List.replicate 16 0), cJ (List.replicate 16 0), cJ (List.replicate 16 0), cJ (List.replicate 16 0), cI (List.replicate 64 0), cI (List.replicate 64 0), cI (List.replicate 64 0), cI (List.replicate 64 0), cI (List.replicate 16 0), cJ (List.replicate 16 0), cJ (List.replicate 16 0), cJ (List.replicate 16 0), cJ (List.replicate 16 0), cI (List.replicate 16 0), cJ (List.replicate 128 0), cJ (List.replicate 128 0)] : List OwnC)
  refine WP.putR (ty := .array .long) (i := 0) (j := 25) (H' := ([cO [.int (0 : Int32), .int (0 : Int32), .int (0 : Int32), .int (0 : Int32), .ref 1, .ref 2, .ref 3, .ref 4, .ref 5, .ref 6, .ref 7, .ref 8, .ref 9, .ref 10, .ref 11, .ref 12, .ref 13, .ref 14, .ref 15, .ref 16, .ref 17, .ref 18, .ref 19, .ref 20, .ref 21, .ref 22, .null, .null], cI (List.replicate 8 0), cI (List.replicate 8 0), cI (List.replicate 32 0), cI (List.replicate 32 0), cZ (List.replicate 16 0), cI (List.replicate 16 0), cI (List.replicate 16 0), cJ (List.replicate 16 0), cJ (List.replicate 16 0), cJ (List.replicate 16 0), cI (List.replicate 64 0), cI (List.replicate 64 0), cI (List.replicate 64 0), cI (List.replicate 64 0), cI (List.replicate 16 0), cJ (List.replicate 16 0), cJ (List.replicate 16 0), cJ (List.replicate 16 0), cJ (List.replicate 16 0), cI (List.replicate 16 0), cJ (List.replicate 128 0), cJ (List.replicate 128 0)] : List OwnC)) d0_179 (hw _ m_57) (Or.inl (hw _ m_58)) (hw _ m_4) (hlay hw) (by decide) (fun _ => rfl) (fun _ => rfl) rfl rfl rfl (leb rfl) rfl ?_
  refine WP.aloadN d0_182 rfl ?_
  refine WP.bipush (8 : Int32) d0_183 rfl ?_
  refine WP.newarray d0_185 (hw _ m_28) (by decide) (leb rfl) (leb rfl) (leb rfl) (Or.inr (Or.inl ⟨rfl, rfl⟩)) ?_
  show W0 l Z n0 (P0 r) 23 792 187 [.val (.ref 0), .val (.int p1), .val (.int p2), .unset] [.ref 23, .ref 0] ([cO [.int (0 : Int32), .int (0 : Int32), .int (0 : Int32), .int (0 : Int32), .ref 1, .ref 2, .ref 3, .ref 4, .ref 5, .ref 6, .ref 7, .ref 8, .ref 9, .ref 10, .ref 11, .ref 12, .ref 13, .ref 14, .ref 15, .ref 16, .ref 17, .ref 18, .ref 19, .ref 20, .ref 21, .ref 22, .null, .null], cI (List.replicate 8 0), cI (List.replicate 8 0), cI (List.replicate 32 0), cI (List.replicate 32 0), cZ (List.replicate 16 0), cI (List.replicate 16 0), cI (List.replicate 16 0), cJ (List.replicate 16 0), cJ (List.replicate 16 0), cJ (List.replicate 16 0), cI (List.replicate 64 0), cI (List.replicate 64 0), cI (List.replicate 64 0), cI (List.replicate 64 0), cI (List.replicate 16 0), cJ (List.replicate 16 0), cJ (List.replicate 16 0), cJ (List.replicate 16 0), cJ (List.replicate 16 0), cI (List.replicate 16 0), cJ (List.replicate 128 0), cJ (List.replicate 128 0), cJ (List.replicate 8 0)] : List OwnC)
  refine WP.putR (ty := .array .long) (i := 0) (j := 26) (H' := ([cO [.int (0 : Int32), .int (0 : Int32), .int (0 : Int32), .int (0 : Int32), .ref 1, .ref 2, .ref 3, .ref 4, .ref 5, .ref 6, .ref 7, .ref 8, .ref 9, .ref 10, .ref 11, .ref 12, .ref 13, .ref 14, .ref 15, .ref 16, .ref 17, .ref 18, .ref 19, .ref 20, .ref 21, .ref 22, .ref 23, .null], cI (List.replicate 8 0), cI (List.replicate 8 0), cI (List.replicate 32 0), cI (List.replicate 32 0), cZ (List.replicate 16 0), cI (List.replicate 16 0), cI (List.replicate 16 0), cJ (List.replicate 16 0), cJ (List.replicate 16 0), cJ (List.replicate 16 0), cI (List.replicate 64 0), cI (List.replicate 64 0), cI (List.replicate 64 0), cI (List.replicate 64 0), cI (List.replicate 16 0), cJ (List.replicate 16 0), cJ (List.replicate 16 0), cJ (List.replicate 16 0), cJ (List.replicate 16 0), cI (List.replicate 16 0), cJ (List.replicate 128 0), cJ (List.replicate 128 0), cJ (List.replicate 8 0)] : List OwnC)) d0_187 (hw _ m_59) (Or.inl (hw _ m_60)) (hw _ m_4) (hlay hw) (by decide) (fun _ => rfl) (fun _ => rfl) rfl rfl rfl (leb rfl) rfl ?_
  refine WP.aloadN d0_190 rfl ?_
  refine WP.bipush (8 : Int32) d0_191 rfl ?_
  refine WP.newarray d0_193 (hw _ m_21) (by decide) (leb rfl) (leb rfl) (leb rfl) (Or.inr (Or.inr ⟨rfl, rfl⟩)) ?_
  show W0 l Z n0 (P0 r) 24 800 195 [.val (.ref 0), .val (.int p1), .val (.int p2), .unset] [.ref 24, .ref 0] ([cO [.int (0 : Int32), .int (0 : Int32), .int (0 : Int32), .int (0 : Int32), .ref 1, .ref 2, .ref 3, .ref 4, .ref 5, .ref 6, .ref 7, .ref 8, .ref 9, .ref 10, .ref 11, .ref 12, .ref 13, .ref 14, .ref 15, .ref 16, .ref 17, .ref 18, .ref 19, .ref 20, .ref 21, .ref 22, .ref 23, .null], cI (List.replicate 8 0), cI (List.replicate 8 0), cI (List.replicate 32 0), cI (List.replicate 32 0), cZ (List.replicate 16 0), cI (List.replicate 16 0), cI (List.replicate 16 0), cJ (List.replicate 16 0), cJ (List.replicate 16 0), cJ (List.replicate 16 0), cI (List.replicate 64 0), cI (List.replicate 64 0), cI (List.replicate 64 0), cI (List.replicate 64 0), cI (List.replicate 16 0), cJ (List.replicate 16 0), cJ (List.replicate 16 0), cJ (List.replicate 16 0), cJ (List.replicate 16 0), cI (List.replicate 16 0), cJ (List.replicate 128 0), cJ (List.replicate 128 0), cJ (List.replicate 8 0), cZ (List.replicate 8 0)] : List OwnC)
  obtain ⟨s1, es1, h⟩ := lt_e h
  refine WP.putR (ty := .array .boolean) (i := 0) (j := 27) (H' := (Hb 0 s1)) d0_195 (hw _ m_61) (Or.inl (hw _ m_62)) (hw _ m_4) (hlay hw) (by decide) (fun _ => rfl) (fun _ => rfl) rfl rfl rfl (leb rfl) (by subst es1; rfl) ?_
  refine WP.aloadN d0_198 rfl ?_
  refine WP.iloadN d0_199 rfl ?_
  refine WP.bipush (7 : Int32) d0_200 rfl ?_
  refine WP.bipush (31 : Int32) d0_202 rfl ?_
  obtain ⟨c2, hc2, h⟩ := Option.bind_eq_some_iff.mp h
  refine WP.callS (y := y1) (as := [.int p1, .int (7 : Int32), .int (31 : Int32)]) (S := [.ref 0]) d0_204 (hw _ m_63) (hw _ m_64) (hw _ m_5) (hw _ m_65) hy1 (CS.frame (ro := 0) (H := (Hb 0 s1)) (as := [.int p1, .int (7 : Int32), .int (31 : Int32)]) fr0_f (ok1 l Z a0 hw p1 (7 : Int32) (31 : Int32) _ hc2) rfl (by decide) (fr0_l s1) (fr0_c s1) (by decide) rfl) rfl (lenOf pd1 rfl) (leb rfl) (leb rfl) (leb rfl) (leb rfl) ?_
  rintro _ _ ⟨_, _, ⟨rfl, rfl⟩, rfl, rfl⟩
  rw [fr0_p s1]
  show W0 l Z n0 (P0 r) 24 800 207 [.val (.ref 0), .val (.int p1), .val (.int p2), .unset] [.int c2, .ref 0] (Hb 0 s1)
  obtain ⟨s3, es3, h⟩ := lt_e h
  refine WP.putI (i := 0) (j := 0) (H' := (Hb 0 s3)) d0_207 (hw _ m_66) (Or.inl (hw _ m_67)) (hw _ m_4) (hlay hw) rfl rfl rfl (leb rfl) (by subst es3; rfl) ?_
  refine WP.aloadN d0_210 rfl ?_
  refine WP.iloadN d0_211 rfl ?_
  refine WP.iconst (0 : Int32) d0_212 rfl ?_
  refine WP.sipush (3000 : Int32) d0_213 rfl ?_
  obtain ⟨c4, hc4, h⟩ := Option.bind_eq_some_iff.mp h
  refine WP.callS (y := y1) (as := [.int p2, .int (0 : Int32), .int (3000 : Int32)]) (S := [.ref 0]) d0_216 (hw _ m_63) (hw _ m_64) (hw _ m_5) (hw _ m_65) hy1 (CS.frame (ro := 0) (H := (Hb 0 s3)) (as := [.int p2, .int (0 : Int32), .int (3000 : Int32)]) fr0_f (ok1 l Z a0 hw p2 (0 : Int32) (3000 : Int32) _ hc4) rfl (by decide) (fr0_l s3) (fr0_c s3) (by decide) rfl) rfl (lenOf pd1 rfl) (leb rfl) (leb rfl) (leb rfl) (leb rfl) ?_
  rintro _ _ ⟨_, _, ⟨rfl, rfl⟩, rfl, rfl⟩
  rw [fr0_p s3]
  show W0 l Z n0 (P0 r) 24 800 219 [.val (.ref 0), .val (.int p1), .val (.int p2), .unset] [.int c4, .ref 0] (Hb 0 s3)
  obtain ⟨s5, es5, h⟩ := lt_e h
  refine WP.putI (i := 0) (j := 1) (H' := (Hb 0 s5)) d0_219 (hw _ m_68) (Or.inl (hw _ m_69)) (hw _ m_4) (hlay hw) rfl rfl rfl (leb rfl) (by subst es5; rfl) ?_
  refine WP.iconst (0 : Int32) d0_222 rfl ?_
  refine WP.istoreN (L' := [.val (.ref 0), .val (.int p1), .val (.int p2), .val (.int (0 : Int32))]) d0_223 (leb rfl) rfl ?_
  exact WP.weak (L' := [.val (.ref 0), .unset, .unset, .val (.int (0 : Int32))]) ⟨rfl, rfl, trivial⟩ (ok0_224 l Z a0 hw n0 n (0 : Int32) s5 _ h)
theorem d3_0 : dc prog_1_method_4_code 0 (.iload_n 1) 1 := by decide +kernel
theorem d3_1 : dc prog_1_method_4_code 1 (.ifCond .lt 13) 3 := by decide +kernel
theorem d3_4 : dc prog_1_method_4_code 4 (.iload_n 1) 1 := by decide +kernel
theorem d3_5 : dc prog_1_method_4_code 5 (.bipush 8) 2 := by decide +kernel
theorem d3_7 : dc prog_1_method_4_code 7 (.if_icmp .ge 7) 3 := by decide +kernel
theorem d3_10 : dc prog_1_method_4_code 10 (.iconst 1) 1 := by decide +kernel
theorem d3_11 : dc prog_1_method_4_code 11 (.goto 4) 3 := by decide +kernel
theorem d3_14 : dc prog_1_method_4_code 14 (.iconst 0) 1 := by decide +kernel
theorem d3_15 : dc prog_1_method_4_code 15 (.ireturn) 1 := by decide +kernel
abbrev y3 : MethodName := ⟨"BillingRun", "validPlan", "(I)Z"⟩
theorem hy3 : y3.cls ≠ "java/lang/invoke/MethodHandle" ∧ y3.cls ≠ "java/lang/invoke/VarHandle" := by decide
theorem pd3 : parseMethodDescriptor y3.desc = some ⟨[.int], some .boolean⟩ := by decide +kernel
abbrev R3 : Room := { frames := 0, cells := 0, slots := 0, locals := 0 }
abbrev P3 (s : St) (r : Int32) : Option Value → List OwnC → Prop := fun v H' => v = some (.int r) ∧ H' = (Hb 0 s)
abbrev W3 (l : Launch) (Z : State) (n0 : Nat) (Q : Option Value → List OwnC → Prop) (k n pc : Nat) (L : List Slot) (S : List Value) (H : List OwnC) : Prop := WP l Z CN lay "BillingRun" "validPlan" prog_1_method_4_code 2 (some FieldType.boolean) R3 n0 0 Q k n pc L S H
def f_validPlan_15 (t0 : Int32) (s : St) : Option (Int32) :=
  some (t0 &&& 1)
set_option maxRecDepth 65536 in
set_option maxHeartbeats 4000000 in
theorem ok3_15 (l : Launch) (Z : State) (a0 : Array Value) (hw : HW a0 Z) (n0 : Nat) (t0 : Int32) (s : St) (r : Int32) (h : f_validPlan_15 t0 s = some r) : W3 l Z n0 (P3 s r) 0 0 15 [.unset, .unset] [.int t0] (Hb 0 s) := by
  unfold f_validPlan_15 at h
  cases h
  exact WP.zreturn d3_15 rfl (leb rfl) (leb rfl) ⟨rfl, rfl⟩
def f_validPlan_14 (s : St) : Option (Int32) :=
  f_validPlan_15 (0 : Int32) s
set_option maxRecDepth 65536 in
set_option maxHeartbeats 4000000 in
theorem ok3_14 (l : Launch) (Z : State) (a0 : Array Value) (hw : HW a0 Z) (n0 : Nat) (s : St) (r : Int32) (h : f_validPlan_14 s = some r) : W3 l Z n0 (P3 s r) 0 0 14 [.unset, .unset] [] (Hb 0 s) := by
  unfold f_validPlan_14 at h
  refine WP.iconst (0 : Int32) d3_14 rfl ?_
  exact WP.weak (L' := [.unset, .unset]) trivial (ok3_15 l Z a0 hw n0 (0 : Int32) s _ h)
def f_validPlan (p1 : Int32) (s : St) : Option (Int32) :=
  if p1 < 0 then
    f_validPlan_14 s
  else
    if p1 < (8 : Int32) then
      f_validPlan_15 (1 : Int32) s
    else
      f_validPlan_14 s
set_option maxRecDepth 65536 in
set_option maxHeartbeats 4000000 in
theorem ok3 (l : Launch) (Z : State) (a0 : Array Value) (hw : HW a0 Z) (p1 : Int32) (s : St) (r : Int32) (h : f_validPlan p1 s = some r) : CS l Z CN lay y3 prog_1_method_4_code 2 (some FieldType.boolean) R3 0 [.ref 0, .int p1] (Hb 0 s) (P3 s r) := by
  refine CS.of_wp pn_cls (leb rfl) fun n0 => ?_
  show W3 l Z n0 (P3 s r) 0 0 0 [.val (.ref 0), .val (.int p1)] [] (Hb 0 s)
  unfold f_validPlan at h
  refine WP.iloadN d3_0 rfl ?_
  rcases ite_e h with ⟨hc1, h⟩ | ⟨hc1, h⟩
  ·
    refine WP.ifY (pc' := 14) d3_1 (XT.i0_lt_t hc1) (by decide) rfl ?_
    exact WP.weak (L' := [.unset, .unset]) trivial (ok3_14 l Z a0 hw n0 s _ h)
  ·
    refine WP.ifN d3_1 (XT.i0_lt_f hc1) ?_
    refine WP.iloadN d3_4 rfl ?_
    refine WP.bipush (8 : Int32) d3_5 rfl ?_
    rcases ite_e h with ⟨hc2, h⟩ | ⟨hc2, h⟩
    ·
      refine WP.icmpN d3_7 (XT.ii_ge_f hc2) ?_
      refine WP.iconst (1 : Int32) d3_10 rfl ?_
      refine WP.goto (pc' := 15) d3_11 (by decide) rfl ?_
      exact WP.weak (L' := [.unset, .unset]) trivial (ok3_15 l Z a0 hw n0 (1 : Int32) s _ h)
    ·
      refine WP.icmpY (pc' := 14) d3_7 (XT.ii_ge_t hc2) (by decide) rfl ?_
      exact WP.weak (L' := [.unset, .unset]) trivial (ok3_14 l Z a0 hw n0 s _ h)
theorem d2_0 : dc prog_1_method_6_code 0 (.aload_n 0) 1 := by decide +kernel
theorem d2_1 : dc prog_1_method_6_code 1 (.iload_n 1) 1 := by decide +kernel
theorem d2_2 : dc prog_1_method_6_code 2 (.invokevirtual 99) 3 := by decide +kernel
theorem d2_5 : dc prog_1_method_6_code 5 (.ifCond .eq 13) 3 := by decide +kernel
theorem d2_8 : dc prog_1_method_6_code 8 (.iload_n 2) 1 := by decide +kernel
theorem d2_9 : dc prog_1_method_6_code 9 (.ifCond .lt 9) 3 := by decide +kernel
theorem d2_12 : dc prog_1_method_6_code 12 (.iload_n 2) 1 := by decide +kernel
theorem d2_13 : dc prog_1_method_6_code 13 (.ldc 95) 2 := by decide +kernel
theorem d2_15 : dc prog_1_method_6_code 15 (.if_icmp .le 5) 3 := by decide +kernel
theorem d2_18 : dc prog_1_method_6_code 18 (.iconst 0) 1 := by decide +kernel
theorem d2_19 : dc prog_1_method_6_code 19 (.ireturn) 1 := by decide +kernel
theorem d2_20 : dc prog_1_method_6_code 20 (.iload_n 3) 1 := by decide +kernel
theorem d2_21 : dc prog_1_method_6_code 21 (.ifCond .eq 10) 3 := by decide +kernel
theorem d2_24 : dc prog_1_method_6_code 24 (.iload_n 3) 1 := by decide +kernel
theorem d2_25 : dc prog_1_method_6_code 25 (.iconst 1) 1 := by decide +kernel
theorem d2_26 : dc prog_1_method_6_code 26 (.if_icmp .eq 5) 3 := by decide +kernel
theorem d2_29 : dc prog_1_method_6_code 29 (.iconst 0) 1 := by decide +kernel
theorem d2_30 : dc prog_1_method_6_code 30 (.ireturn) 1 := by decide +kernel
theorem d2_31 : dc prog_1_method_6_code 31 (.aload_n 0) 1 := by decide +kernel
theorem d2_32 : dc prog_1_method_6_code 32 (.getfield 7) 3 := by decide +kernel
theorem d2_35 : dc prog_1_method_6_code 35 (.iload_n 1) 1 := by decide +kernel
theorem d2_36 : dc prog_1_method_6_code 36 (.iload_n 2) 1 := by decide +kernel
theorem d2_37 : dc prog_1_method_6_code 37 (.iastore) 1 := by decide +kernel
theorem d2_38 : dc prog_1_method_6_code 38 (.aload_n 0) 1 := by decide +kernel
theorem d2_39 : dc prog_1_method_6_code 39 (.getfield 13) 3 := by decide +kernel
theorem d2_42 : dc prog_1_method_6_code 42 (.iload_n 1) 1 := by decide +kernel
theorem d2_43 : dc prog_1_method_6_code 43 (.iload_n 3) 1 := by decide +kernel
theorem d2_44 : dc prog_1_method_6_code 44 (.iastore) 1 := by decide +kernel
theorem d2_45 : dc prog_1_method_6_code 45 (.iconst 1) 1 := by decide +kernel
theorem d2_46 : dc prog_1_method_6_code 46 (.ireturn) 1 := by decide +kernel
abbrev y2 : MethodName := ⟨"BillingRun", "setPlan", "(III)Z"⟩
theorem hy2 : y2.cls ≠ "java/lang/invoke/MethodHandle" ∧ y2.cls ≠ "java/lang/invoke/VarHandle" := by decide
theorem pd2 : parseMethodDescriptor y2.desc = some ⟨[.int, .int, .int], some .boolean⟩ := by decide +kernel
abbrev R2 : Room := { frames := 1, cells := 0, slots := 0, locals := 13 }
abbrev P2 (r : Int32 × St) : Option Value → List OwnC → Prop := fun v H' => v = some (.int r.1) ∧ H' = (Hb 0 r.2)
abbrev W2 (l : Launch) (Z : State) (n0 : Nat) (Q : Option Value → List OwnC → Prop) (k n pc : Nat) (L : List Slot) (S : List Value) (H : List OwnC) : Prop := WP l Z CN lay "BillingRun" "setPlan" prog_1_method_6_code 4 (some FieldType.boolean) R2 n0 0 Q k n pc L S H
def f_setPlan_18 (s : St) : Option (Int32 × St) :=
  some ((0 : Int32), s)
set_option maxRecDepth 65536 in
set_option maxHeartbeats 4000000 in
theorem ok2_18 (l : Launch) (Z : State) (a0 : Array Value) (hw : HW a0 Z) (n0 : Nat) (s : St) (r : Int32 × St) (h : f_setPlan_18 s = some r) : W2 l Z n0 (P2 r) 0 0 18 [.unset, .unset, .unset, .unset] [] (Hb 0 s) := by
  unfold f_setPlan_18 at h
  refine WP.iconst (0 : Int32) d2_18 rfl ?_
  cases h
  exact WP.zreturn d2_19 rfl (leb rfl) (leb rfl) ⟨rfl, rfl⟩
def f_setPlan_31 (v1 : Int32) (v2 : Int32) (v3 : Int32) (s : St) : Option (Int32 × St) :=
  (wrA s 0 v1 v2).bind fun s1 =>
  (wrA s1 1 v1 v3).bind fun s2 =>
  some ((1 : Int32), s2)
set_option maxRecDepth 65536 in
set_option maxHeartbeats 4000000 in
theorem ok2_31 (l : Launch) (Z : State) (a0 : Array Value) (hw : HW a0 Z) (n0 : Nat) (v1 : Int32) (v2 : Int32) (v3 : Int32) (s : St) (r : Int32 × St) (h : f_setPlan_31 v1 v2 v3 s = some r) : W2 l Z n0 (P2 r) 0 0 31 [.val (.ref 0), .val (.int v1), .val (.int v2), .val (.int v3)] [] (Hb 0 s) := by
  unfold f_setPlan_31 at h
  refine WP.aloadN d2_31 rfl ?_
  refine WP.getfield (i := 0) (j := 4) d2_32 (hw _ m_13) rfl rfl rfl ?_
  refine WP.iloadN d2_35 rfl ?_
  refine WP.iloadN d2_36 rfl ?_
  obtain ⟨s1, hs1, h⟩ := Option.bind_eq_some_iff.mp h
  obtain ⟨ys1, gs1, es1⟩ := wrA_e hs1
  refine WP.iastore (i := 1) (xs := gA s 0) (H' := (Hb 0 s1)) d2_37 rfl (leb rfl) gs1 (by subst es1; rfl) ?_
  refine WP.aloadN d2_38 rfl ?_
  refine WP.getfield (i := 0) (j := 5) d2_39 (hw _ m_15) rfl rfl rfl ?_
  refine WP.iloadN d2_42 rfl ?_
  refine WP.iloadN d2_43 rfl ?_
  obtain ⟨s2, hs2, h⟩ := Option.bind_eq_some_iff.mp h
  obtain ⟨ys2, gs2, es2⟩ := wrA_e hs2
  refine WP.iastore (i := 2) (xs := gA s1 1) (H' := (Hb 0 s2)) d2_44 rfl (leb rfl) gs2 (by subst es2; rfl) ?_
  refine WP.iconst (1 : Int32) d2_45 rfl ?_
  cases h
  exact WP.zreturn d2_46 rfl (leb rfl) (leb rfl) ⟨rfl, rfl⟩
def f_setPlan (p1 : Int32) (p2 : Int32) (p3 : Int32) (s : St) : Option (Int32 × St) :=
  (f_validPlan p1 s).bind fun c1 =>
  if c1 = 0 then
    f_setPlan_18 s
  else
    if p2 < 0 then
      f_setPlan_18 s
    else
      if (1000000 : Int32) < p2 then
        f_setPlan_18 s
      else
        if p3 = 0 then
          f_setPlan_31 p1 p2 p3 s
        else
          if p3 = (1 : Int32) then
            f_setPlan_31 p1 p2 p3 s
          else
            some ((0 : Int32), s)
set_option maxRecDepth 65536 in
set_option maxHeartbeats 4000000 in
theorem ok2 (l : Launch) (Z : State) (a0 : Array Value) (hw : HW a0 Z) (p1 : Int32) (p2 : Int32) (p3 : Int32) (s : St) (r : Int32 × St) (h : f_setPlan p1 p2 p3 s = some r) : CS l Z CN lay y2 prog_1_method_6_code 4 (some FieldType.boolean) R2 0 [.ref 0, .int p1, .int p2, .int p3] (Hb 0 s) (P2 r) := by
  refine CS.of_wp pn_cls (leb rfl) fun n0 => ?_
  show W2 l Z n0 (P2 r) 0 0 0 [.val (.ref 0), .val (.int p1), .val (.int p2), .val (.int p3)] [] (Hb 0 s)
  unfold f_setPlan at h
  refine WP.aloadN d2_0 rfl ?_
  refine WP.iloadN d2_1 rfl ?_
  obtain ⟨c1, hc1, h⟩ := Option.bind_eq_some_iff.mp h
  refine WP.callP (i := 0) (y := y3) (as := [.int p1]) (S := []) d2_2 (hw _ m_76) (hw _ m_78) (hw _ m_4) (hw _ m_77) (hw _ m_79) (hw _ m_5) hy3 rfl (ok3 l Z a0 hw p1 s _ hc1) rfl (lenOf pd3 rfl) (leb rfl) (leb rfl) (leb rfl) (leb rfl) ?_
  rintro _ _ ⟨rfl, rfl⟩
  show W2 l Z n0 (P2 r) 0 0 5 [.val (.ref 0), .val (.int p1), .val (.int p2), .val (.int p3)] [.int c1] (Hb 0 s)
  rcases ite_e h with ⟨hc2, h⟩ | ⟨hc2, h⟩
  ·
    refine WP.ifY (pc' := 18) d2_5 (XT.i0_eq_t hc2) (by decide) rfl ?_
    exact WP.weak (L' := [.unset, .unset, .unset, .unset]) trivial (ok2_18 l Z a0 hw n0 s _ h)
  ·
    refine WP.ifN d2_5 (XT.i0_eq_f hc2) ?_
    refine WP.iloadN d2_8 rfl ?_
    rcases ite_e h with ⟨hc3, h⟩ | ⟨hc3, h⟩
    ·
      refine WP.ifY (pc' := 18) d2_9 (XT.i0_lt_t hc3) (by decide) rfl ?_
      exact WP.weak (L' := [.unset, .unset, .unset, .unset]) trivial (ok2_18 l Z a0 hw n0 s _ h)
    ·
      refine WP.ifN d2_9 (XT.i0_lt_f hc3) ?_
      refine WP.iloadN d2_12 rfl ?_
      refine WP.ldc d2_13 (hw _ m_70) ?_
      rcases ite_e h with ⟨hc4, h⟩ | ⟨hc4, h⟩
      ·
        refine WP.icmpN d2_15 (XT.ii_le_f hc4) ?_
        exact WP.weak (L' := [.unset, .unset, .unset, .unset]) trivial (ok2_18 l Z a0 hw n0 s _ h)
      ·
        refine WP.icmpY (pc' := 20) d2_15 (XT.ii_le_t hc4) (by decide) rfl ?_
        refine WP.iloadN d2_20 rfl ?_
        rcases ite_e h with ⟨hc5, h⟩ | ⟨hc5, h⟩
        ·
          refine WP.ifY (pc' := 31) d2_21 (XT.i0_eq_t hc5) (by decide) rfl ?_
          exact WP.weak (L' := [.val (.ref 0), .val (.int p1), .val (.int p2), .val (.int p3)]) ⟨rfl, rfl, rfl, rfl, trivial⟩ (ok2_31 l Z a0 hw n0 p1 p2 p3 s _ h)
        ·
          refine WP.ifN d2_21 (XT.i0_eq_f hc5) ?_
          refine WP.iloadN d2_24 rfl ?_
          refine WP.iconst (1 : Int32) d2_25 rfl ?_
          rcases ite_e h with ⟨hc6, h⟩ | ⟨hc6, h⟩
          ·
            refine WP.icmpY (pc' := 31) d2_26 (XT.ii_eq_t hc6) (by decide) rfl ?_
            exact WP.weak (L' := [.val (.ref 0), .val (.int p1), .val (.int p2), .val (.int p3)]) ⟨rfl, rfl, rfl, rfl, trivial⟩ (ok2_31 l Z a0 hw n0 p1 p2 p3 s _ h)
          ·
            refine WP.icmpN d2_26 (XT.ii_eq_f hc6) ?_
            refine WP.iconst (0 : Int32) d2_29 rfl ?_
            cases h
            exact WP.zreturn d2_30 rfl (leb rfl) (leb rfl) ⟨rfl, rfl⟩
theorem d4_0 : dc prog_1_method_7_code 0 (.aload_n 0) 1 := by decide +kernel
theorem d4_1 : dc prog_1_method_7_code 1 (.iload_n 1) 1 := by decide +kernel
theorem d4_2 : dc prog_1_method_7_code 2 (.invokevirtual 99) 3 := by decide +kernel
theorem d4_5 : dc prog_1_method_7_code 5 (.ifCond .eq 12) 3 := by decide +kernel
theorem d4_8 : dc prog_1_method_7_code 8 (.iload_n 2) 1 := by decide +kernel
theorem d4_9 : dc prog_1_method_7_code 9 (.ifCond .lt 8) 3 := by decide +kernel
theorem d4_12 : dc prog_1_method_7_code 12 (.iload_n 2) 1 := by decide +kernel
theorem d4_13 : dc prog_1_method_7_code 13 (.iconst 4) 1 := by decide +kernel
theorem d4_14 : dc prog_1_method_7_code 14 (.if_icmp .lt 5) 3 := by decide +kernel
theorem d4_17 : dc prog_1_method_7_code 17 (.iconst 0) 1 := by decide +kernel
theorem d4_18 : dc prog_1_method_7_code 18 (.ireturn) 1 := by decide +kernel
theorem d4_19 : dc prog_1_method_7_code 19 (.iload_n 3) 1 := by decide +kernel
theorem d4_20 : dc prog_1_method_7_code 20 (.ifCond .lt 21) 3 := by decide +kernel
theorem d4_23 : dc prog_1_method_7_code 23 (.iload_n 3) 1 := by decide +kernel
theorem d4_24 : dc prog_1_method_7_code 24 (.ldc 95) 2 := by decide +kernel
theorem d4_26 : dc prog_1_method_7_code 26 (.if_icmp .gt 15) 3 := by decide +kernel
theorem d4_29 : dc prog_1_method_7_code 29 (.iload 4) 2 := by decide +kernel
theorem d4_31 : dc prog_1_method_7_code 31 (.ifCond .lt 10) 3 := by decide +kernel
theorem d4_34 : dc prog_1_method_7_code 34 (.iload 4) 2 := by decide +kernel
theorem d4_36 : dc prog_1_method_7_code 36 (.ldc 103) 2 := by decide +kernel
theorem d4_38 : dc prog_1_method_7_code 38 (.if_icmp .le 5) 3 := by decide +kernel
theorem d4_41 : dc prog_1_method_7_code 41 (.iconst 0) 1 := by decide +kernel
theorem d4_42 : dc prog_1_method_7_code 42 (.ireturn) 1 := by decide +kernel
theorem d4_43 : dc prog_1_method_7_code 43 (.aload_n 0) 1 := by decide +kernel
theorem d4_44 : dc prog_1_method_7_code 44 (.getfield 16) 3 := by decide +kernel
theorem d4_47 : dc prog_1_method_7_code 47 (.iload_n 1) 1 := by decide +kernel
theorem d4_48 : dc prog_1_method_7_code 48 (.iconst 4) 1 := by decide +kernel
theorem d4_49 : dc prog_1_method_7_code 49 (.imul) 1 := by decide +kernel
theorem d4_50 : dc prog_1_method_7_code 50 (.iload_n 2) 1 := by decide +kernel
theorem d4_51 : dc prog_1_method_7_code 51 (.iadd) 1 := by decide +kernel
theorem d4_52 : dc prog_1_method_7_code 52 (.iload_n 3) 1 := by decide +kernel
theorem d4_53 : dc prog_1_method_7_code 53 (.iastore) 1 := by decide +kernel
theorem d4_54 : dc prog_1_method_7_code 54 (.aload_n 0) 1 := by decide +kernel
theorem d4_55 : dc prog_1_method_7_code 55 (.getfield 19) 3 := by decide +kernel
theorem d4_58 : dc prog_1_method_7_code 58 (.iload_n 1) 1 := by decide +kernel
theorem d4_59 : dc prog_1_method_7_code 59 (.iconst 4) 1 := by decide +kernel
theorem d4_60 : dc prog_1_method_7_code 60 (.imul) 1 := by decide +kernel
theorem d4_61 : dc prog_1_method_7_code 61 (.iload_n 2) 1 := by decide +kernel
theorem d4_62 : dc prog_1_method_7_code 62 (.iadd) 1 := by decide +kernel
theorem d4_63 : dc prog_1_method_7_code 63 (.iload 4) 2 := by decide +kernel
theorem d4_65 : dc prog_1_method_7_code 65 (.iastore) 1 := by decide +kernel
theorem d4_66 : dc prog_1_method_7_code 66 (.iconst 1) 1 := by decide +kernel
theorem d4_67 : dc prog_1_method_7_code 67 (.ireturn) 1 := by decide +kernel
abbrev y4 : MethodName := ⟨"BillingRun", "setTier", "(IIII)Z"⟩
theorem hy4 : y4.cls ≠ "java/lang/invoke/MethodHandle" ∧ y4.cls ≠ "java/lang/invoke/VarHandle" := by decide
theorem pd4 : parseMethodDescriptor y4.desc = some ⟨[.int, .int, .int, .int], some .boolean⟩ := by decide +kernel
abbrev R4 : Room := { frames := 1, cells := 0, slots := 0, locals := 13 }
abbrev P4 (r : Int32 × St) : Option Value → List OwnC → Prop := fun v H' => v = some (.int r.1) ∧ H' = (Hb 0 r.2)
abbrev W4 (l : Launch) (Z : State) (n0 : Nat) (Q : Option Value → List OwnC → Prop) (k n pc : Nat) (L : List Slot) (S : List Value) (H : List OwnC) : Prop := WP l Z CN lay "BillingRun" "setTier" prog_1_method_7_code 5 (some FieldType.boolean) R4 n0 0 Q k n pc L S H
def f_setTier_17 (s : St) : Option (Int32 × St) :=
  some ((0 : Int32), s)
set_option maxRecDepth 65536 in
set_option maxHeartbeats 4000000 in
theorem ok4_17 (l : Launch) (Z : State) (a0 : Array Value) (hw : HW a0 Z) (n0 : Nat) (s : St) (r : Int32 × St) (h : f_setTier_17 s = some r) : W4 l Z n0 (P4 r) 0 0 17 [.unset, .unset, .unset, .unset, .unset] [] (Hb 0 s) := by
  unfold f_setTier_17 at h
  refine WP.iconst (0 : Int32) d4_17 rfl ?_
  cases h
  exact WP.zreturn d4_18 rfl (leb rfl) (leb rfl) ⟨rfl, rfl⟩
def f_setTier_41 (s : St) : Option (Int32 × St) :=
  some ((0 : Int32), s)
set_option maxRecDepth 65536 in
set_option maxHeartbeats 4000000 in
theorem ok4_41 (l : Launch) (Z : State) (a0 : Array Value) (hw : HW a0 Z) (n0 : Nat) (s : St) (r : Int32 × St) (h : f_setTier_41 s = some r) : W4 l Z n0 (P4 r) 0 0 41 [.unset, .unset, .unset, .unset, .unset] [] (Hb 0 s) := by
  unfold f_setTier_41 at h
  refine WP.iconst (0 : Int32) d4_41 rfl ?_
  cases h
  exact WP.zreturn d4_42 rfl (leb rfl) (leb rfl) ⟨rfl, rfl⟩
def f_setTier (p1 : Int32) (p2 : Int32) (p3 : Int32) (p4 : Int32) (s : St) : Option (Int32 × St) :=
  (f_validPlan p1 s).bind fun c1 =>
  if c1 = 0 then
    f_setTier_17 s
  else
    if p2 < 0 then
      f_setTier_17 s
    else
      if p2 < (4 : Int32) then
        if p3 < 0 then
          f_setTier_41 s
        else
          if (1000000 : Int32) < p3 then
            f_setTier_41 s
          else
            if p4 < 0 then
              f_setTier_41 s
            else
              if (100000000 : Int32) < p4 then
                f_setTier_41 s
              else
                (wrA s 2 ((p1 * (4 : Int32)) + p2) p3).bind fun s9 =>
                (wrA s9 3 ((p1 * (4 : Int32)) + p2) p4).bind fun s10 =>
                some ((1 : Int32), s10)
      else
        f_setTier_17 s
set_option maxRecDepth 65536 in
set_option maxHeartbeats 4000000 in
theorem ok4 (l : Launch) (Z : State) (a0 : Array Value) (hw : HW a0 Z) (p1 : Int32) (p2 : Int32) (p3 : Int32) (p4 : Int32) (s : St) (r : Int32 × St) (h : f_setTier p1 p2 p3 p4 s = some r) : CS l Z CN lay y4 prog_1_method_7_code 5 (some FieldType.boolean) R4 0 [.ref 0, .int p1, .int p2, .int p3, .int p4] (Hb 0 s) (P4 r) := by
  refine CS.of_wp pn_cls (leb rfl) fun n0 => ?_
  show W4 l Z n0 (P4 r) 0 0 0 [.val (.ref 0), .val (.int p1), .val (.int p2), .val (.int p3), .val (.int p4)] [] (Hb 0 s)
  unfold f_setTier at h
  refine WP.aloadN d4_0 rfl ?_
  refine WP.iloadN d4_1 rfl ?_
  obtain ⟨c1, hc1, h⟩ := Option.bind_eq_some_iff.mp h
  refine WP.callP (i := 0) (y := y3) (as := [.int p1]) (S := []) d4_2 (hw _ m_76) (hw _ m_78) (hw _ m_4) (hw _ m_77) (hw _ m_79) (hw _ m_5) hy3 rfl (ok3 l Z a0 hw p1 s _ hc1) rfl (lenOf pd3 rfl) (leb rfl) (leb rfl) (leb rfl) (leb rfl) ?_
  rintro _ _ ⟨rfl, rfl⟩
  show W4 l Z n0 (P4 r) 0 0 5 [.val (.ref 0), .val (.int p1), .val (.int p2), .val (.int p3), .val (.int p4)] [.int c1] (Hb 0 s)
  rcases ite_e h with ⟨hc2, h⟩ | ⟨hc2, h⟩
  ·
    refine WP.ifY (pc' := 17) d4_5 (XT.i0_eq_t hc2) (by decide) rfl ?_
    exact WP.weak (L' := [.unset, .unset, .unset, .unset, .unset]) trivial (ok4_17 l Z a0 hw n0 s _ h)
  ·
    refine WP.ifN d4_5 (XT.i0_eq_f hc2) ?_
    refine WP.iloadN d4_8 rfl ?_
    rcases ite_e h with ⟨hc3, h⟩ | ⟨hc3, h⟩
    ·
      refine WP.ifY (pc' := 17) d4_9 (XT.i0_lt_t hc3) (by decide) rfl ?_
      exact WP.weak (L' := [.unset, .unset, .unset, .unset, .unset]) trivial (ok4_17 l Z a0 hw n0 s _ h)
    ·
      refine WP.ifN d4_9 (XT.i0_lt_f hc3) ?_
      refine WP.iloadN d4_12 rfl ?_
      refine WP.iconst (4 : Int32) d4_13 rfl ?_
      rcases ite_e h with ⟨hc4, h⟩ | ⟨hc4, h⟩
      ·
        refine WP.icmpY (pc' := 19) d4_14 (XT.ii_lt_t hc4) (by decide) rfl ?_
        refine WP.iloadN d4_19 rfl ?_
        rcases ite_e h with ⟨hc5, h⟩ | ⟨hc5, h⟩
        ·
          refine WP.ifY (pc' := 41) d4_20 (XT.i0_lt_t hc5) (by decide) rfl ?_
          exact WP.weak (L' := [.unset, .unset, .unset, .unset, .unset]) trivial (ok4_41 l Z a0 hw n0 s _ h)
        ·
          refine WP.ifN d4_20 (XT.i0_lt_f hc5) ?_
          refine WP.iloadN d4_23 rfl ?_
          refine WP.ldc d4_24 (hw _ m_70) ?_
          rcases ite_e h with ⟨hc6, h⟩ | ⟨hc6, h⟩
          ·
            refine WP.icmpY (pc' := 41) d4_26 (XT.ii_gt_t hc6) (by decide) rfl ?_
            exact WP.weak (L' := [.unset, .unset, .unset, .unset, .unset]) trivial (ok4_41 l Z a0 hw n0 s _ h)
          ·
            refine WP.icmpN d4_26 (XT.ii_gt_f hc6) ?_
            refine WP.iload d4_29 rfl ?_
            rcases ite_e h with ⟨hc7, h⟩ | ⟨hc7, h⟩
            ·
              refine WP.ifY (pc' := 41) d4_31 (XT.i0_lt_t hc7) (by decide) rfl ?_
              exact WP.weak (L' := [.unset, .unset, .unset, .unset, .unset]) trivial (ok4_41 l Z a0 hw n0 s _ h)
            ·
              refine WP.ifN d4_31 (XT.i0_lt_f hc7) ?_
              refine WP.iload d4_34 rfl ?_
              refine WP.ldc d4_36 (hw _ m_85) ?_
              rcases ite_e h with ⟨hc8, h⟩ | ⟨hc8, h⟩
              ·
                refine WP.icmpN d4_38 (XT.ii_le_f hc8) ?_
                exact WP.weak (L' := [.unset, .unset, .unset, .unset, .unset]) trivial (ok4_41 l Z a0 hw n0 s _ h)
              ·
                refine WP.icmpY (pc' := 43) d4_38 (XT.ii_le_t hc8) (by decide) rfl ?_
                refine WP.aloadN d4_43 rfl ?_
                refine WP.getfield (i := 0) (j := 6) d4_44 (hw _ m_17) rfl rfl rfl ?_
                refine WP.iloadN d4_47 rfl ?_
                refine WP.iconst (4 : Int32) d4_48 rfl ?_
                refine WP.imul d4_49 ?_
                refine WP.iloadN d4_50 rfl ?_
                refine WP.iadd d4_51 ?_
                refine WP.iloadN d4_52 rfl ?_
                obtain ⟨s9, hs9, h⟩ := Option.bind_eq_some_iff.mp h
                obtain ⟨ys9, gs9, es9⟩ := wrA_e hs9
                refine WP.iastore (i := 3) (xs := gA s 2) (H' := (Hb 0 s9)) d4_53 rfl (leb rfl) gs9 (by subst es9; rfl) ?_
                refine WP.aloadN d4_54 rfl ?_
                refine WP.getfield (i := 0) (j := 7) d4_55 (hw _ m_19) rfl rfl rfl ?_
                refine WP.iloadN d4_58 rfl ?_
                refine WP.iconst (4 : Int32) d4_59 rfl ?_
                refine WP.imul d4_60 ?_
                refine WP.iloadN d4_61 rfl ?_
                refine WP.iadd d4_62 ?_
                refine WP.iload d4_63 rfl ?_
                obtain ⟨s10, hs10, h⟩ := Option.bind_eq_some_iff.mp h
                obtain ⟨ys10, gs10, es10⟩ := wrA_e hs10
                refine WP.iastore (i := 4) (xs := gA s9 3) (H' := (Hb 0 s10)) d4_65 rfl (leb rfl) gs10 (by subst es10; rfl) ?_
                refine WP.iconst (1 : Int32) d4_66 rfl ?_
                cases h
                exact WP.zreturn d4_67 rfl (leb rfl) (leb rfl) ⟨rfl, rfl⟩
      ·
        refine WP.icmpN d4_14 (XT.ii_lt_f hc4) ?_
        exact WP.weak (L' := [.unset, .unset, .unset, .unset, .unset]) trivial (ok4_17 l Z a0 hw n0 s _ h)
theorem d6_0 : dc prog_1_method_3_code 0 (.iload_n 1) 1 := by decide +kernel
theorem d6_1 : dc prog_1_method_3_code 1 (.ifCond .lt 13) 3 := by decide +kernel
theorem d6_4 : dc prog_1_method_3_code 4 (.iload_n 1) 1 := by decide +kernel
theorem d6_5 : dc prog_1_method_3_code 5 (.bipush 16) 2 := by decide +kernel
theorem d6_7 : dc prog_1_method_3_code 7 (.if_icmp .ge 7) 3 := by decide +kernel
theorem d6_10 : dc prog_1_method_3_code 10 (.iconst 1) 1 := by decide +kernel
theorem d6_11 : dc prog_1_method_3_code 11 (.goto 4) 3 := by decide +kernel
theorem d6_14 : dc prog_1_method_3_code 14 (.iconst 0) 1 := by decide +kernel
theorem d6_15 : dc prog_1_method_3_code 15 (.ireturn) 1 := by decide +kernel
abbrev y6 : MethodName := ⟨"BillingRun", "validCustomer", "(I)Z"⟩
theorem hy6 : y6.cls ≠ "java/lang/invoke/MethodHandle" ∧ y6.cls ≠ "java/lang/invoke/VarHandle" := by decide
theorem pd6 : parseMethodDescriptor y6.desc = some ⟨[.int], some .boolean⟩ := by decide +kernel
abbrev R6 : Room := { frames := 0, cells := 0, slots := 0, locals := 0 }
abbrev P6 (s : St) (r : Int32) : Option Value → List OwnC → Prop := fun v H' => v = some (.int r) ∧ H' = (Hb 0 s)
abbrev W6 (l : Launch) (Z : State) (n0 : Nat) (Q : Option Value → List OwnC → Prop) (k n pc : Nat) (L : List Slot) (S : List Value) (H : List OwnC) : Prop := WP l Z CN lay "BillingRun" "validCustomer" prog_1_method_3_code 2 (some FieldType.boolean) R6 n0 0 Q k n pc L S H
def f_validCustomer_15 (t0 : Int32) (s : St) : Option (Int32) :=
  some (t0 &&& 1)
set_option maxRecDepth 65536 in
set_option maxHeartbeats 4000000 in
theorem ok6_15 (l : Launch) (Z : State) (a0 : Array Value) (hw : HW a0 Z) (n0 : Nat) (t0 : Int32) (s : St) (r : Int32) (h : f_validCustomer_15 t0 s = some r) : W6 l Z n0 (P6 s r) 0 0 15 [.unset, .unset] [.int t0] (Hb 0 s) := by
  unfold f_validCustomer_15 at h
  cases h
  exact WP.zreturn d6_15 rfl (leb rfl) (leb rfl) ⟨rfl, rfl⟩
def f_validCustomer_14 (s : St) : Option (Int32) :=
  f_validCustomer_15 (0 : Int32) s
set_option maxRecDepth 65536 in
set_option maxHeartbeats 4000000 in
theorem ok6_14 (l : Launch) (Z : State) (a0 : Array Value) (hw : HW a0 Z) (n0 : Nat) (s : St) (r : Int32) (h : f_validCustomer_14 s = some r) : W6 l Z n0 (P6 s r) 0 0 14 [.unset, .unset] [] (Hb 0 s) := by
  unfold f_validCustomer_14 at h
  refine WP.iconst (0 : Int32) d6_14 rfl ?_
  exact WP.weak (L' := [.unset, .unset]) trivial (ok6_15 l Z a0 hw n0 (0 : Int32) s _ h)
def f_validCustomer (p1 : Int32) (s : St) : Option (Int32) :=
  if p1 < 0 then
    f_validCustomer_14 s
  else
    if p1 < (16 : Int32) then
      f_validCustomer_15 (1 : Int32) s
    else
      f_validCustomer_14 s
set_option maxRecDepth 65536 in
set_option maxHeartbeats 4000000 in
theorem ok6 (l : Launch) (Z : State) (a0 : Array Value) (hw : HW a0 Z) (p1 : Int32) (s : St) (r : Int32) (h : f_validCustomer p1 s = some r) : CS l Z CN lay y6 prog_1_method_3_code 2 (some FieldType.boolean) R6 0 [.ref 0, .int p1] (Hb 0 s) (P6 s r) := by
  refine CS.of_wp pn_cls (leb rfl) fun n0 => ?_
  show W6 l Z n0 (P6 s r) 0 0 0 [.val (.ref 0), .val (.int p1)] [] (Hb 0 s)
  unfold f_validCustomer at h
  refine WP.iloadN d6_0 rfl ?_
  rcases ite_e h with ⟨hc1, h⟩ | ⟨hc1, h⟩
  ·
    refine WP.ifY (pc' := 14) d6_1 (XT.i0_lt_t hc1) (by decide) rfl ?_
    exact WP.weak (L' := [.unset, .unset]) trivial (ok6_14 l Z a0 hw n0 s _ h)
  ·
    refine WP.ifN d6_1 (XT.i0_lt_f hc1) ?_
    refine WP.iloadN d6_4 rfl ?_
    refine WP.bipush (16 : Int32) d6_5 rfl ?_
    rcases ite_e h with ⟨hc2, h⟩ | ⟨hc2, h⟩
    ·
      refine WP.icmpN d6_7 (XT.ii_ge_f hc2) ?_
      refine WP.iconst (1 : Int32) d6_10 rfl ?_
      refine WP.goto (pc' := 15) d6_11 (by decide) rfl ?_
      exact WP.weak (L' := [.unset, .unset]) trivial (ok6_15 l Z a0 hw n0 (1 : Int32) s _ h)
    ·
      refine WP.icmpY (pc' := 14) d6_7 (XT.ii_ge_t hc2) (by decide) rfl ?_
      exact WP.weak (L' := [.unset, .unset]) trivial (ok6_14 l Z a0 hw n0 s _ h)
theorem d7_0 : dc prog_1_method_5_code 0 (.iload_n 1) 1 := by decide +kernel
theorem d7_1 : dc prog_1_method_5_code 1 (.aload_n 0) 1 := by decide +kernel
theorem d7_2 : dc prog_1_method_5_code 2 (.getfield 96) 3 := by decide +kernel
theorem d7_5 : dc prog_1_method_5_code 5 (.if_icmp .lt 17) 3 := by decide +kernel
theorem d7_8 : dc prog_1_method_5_code 8 (.iload_n 1) 1 := by decide +kernel
theorem d7_9 : dc prog_1_method_5_code 9 (.aload_n 0) 1 := by decide +kernel
theorem d7_10 : dc prog_1_method_5_code 10 (.getfield 88) 3 := by decide +kernel
theorem d7_13 : dc prog_1_method_5_code 13 (.iconst 1) 1 := by decide +kernel
theorem d7_14 : dc prog_1_method_5_code 14 (.isub) 1 := by decide +kernel
theorem d7_15 : dc prog_1_method_5_code 15 (.if_icmp .gt 7) 3 := by decide +kernel
theorem d7_18 : dc prog_1_method_5_code 18 (.iconst 1) 1 := by decide +kernel
theorem d7_19 : dc prog_1_method_5_code 19 (.goto 4) 3 := by decide +kernel
theorem d7_22 : dc prog_1_method_5_code 22 (.iconst 0) 1 := by decide +kernel
theorem d7_23 : dc prog_1_method_5_code 23 (.ireturn) 1 := by decide +kernel
abbrev y7 : MethodName := ⟨"BillingRun", "validDay", "(I)Z"⟩
theorem hy7 : y7.cls ≠ "java/lang/invoke/MethodHandle" ∧ y7.cls ≠ "java/lang/invoke/VarHandle" := by decide
theorem pd7 : parseMethodDescriptor y7.desc = some ⟨[.int], some .boolean⟩ := by decide +kernel
abbrev R7 : Room := { frames := 0, cells := 0, slots := 0, locals := 0 }
abbrev P7 (s : St) (r : Int32) : Option Value → List OwnC → Prop := fun v H' => v = some (.int r) ∧ H' = (Hb 0 s)
abbrev W7 (l : Launch) (Z : State) (n0 : Nat) (Q : Option Value → List OwnC → Prop) (k n pc : Nat) (L : List Slot) (S : List Value) (H : List OwnC) : Prop := WP l Z CN lay "BillingRun" "validDay" prog_1_method_5_code 2 (some FieldType.boolean) R7 n0 0 Q k n pc L S H
def f_validDay_23 (t0 : Int32) (s : St) : Option (Int32) :=
  some (t0 &&& 1)
set_option maxRecDepth 65536 in
set_option maxHeartbeats 4000000 in
theorem ok7_23 (l : Launch) (Z : State) (a0 : Array Value) (hw : HW a0 Z) (n0 : Nat) (t0 : Int32) (s : St) (r : Int32) (h : f_validDay_23 t0 s = some r) : W7 l Z n0 (P7 s r) 0 0 23 [.unset, .unset] [.int t0] (Hb 0 s) := by
  unfold f_validDay_23 at h
  cases h
  exact WP.zreturn d7_23 rfl (leb rfl) (leb rfl) ⟨rfl, rfl⟩
def f_validDay_22 (s : St) : Option (Int32) :=
  f_validDay_23 (0 : Int32) s
set_option maxRecDepth 65536 in
set_option maxHeartbeats 4000000 in
theorem ok7_22 (l : Launch) (Z : State) (a0 : Array Value) (hw : HW a0 Z) (n0 : Nat) (s : St) (r : Int32) (h : f_validDay_22 s = some r) : W7 l Z n0 (P7 s r) 0 0 22 [.unset, .unset] [] (Hb 0 s) := by
  unfold f_validDay_22 at h
  refine WP.iconst (0 : Int32) d7_22 rfl ?_
  exact WP.weak (L' := [.unset, .unset]) trivial (ok7_23 l Z a0 hw n0 (0 : Int32) s _ h)
def f_validDay (p1 : Int32) (s : St) : Option (Int32) :=
  if p1 < (gI s 2) then
    f_validDay_22 s
  else
    if ((gI s 0) - (1 : Int32)) < p1 then
      f_validDay_22 s
    else
      f_validDay_23 (1 : Int32) s
set_option maxRecDepth 65536 in
set_option maxHeartbeats 4000000 in
theorem ok7 (l : Launch) (Z : State) (a0 : Array Value) (hw : HW a0 Z) (p1 : Int32) (s : St) (r : Int32) (h : f_validDay p1 s = some r) : CS l Z CN lay y7 prog_1_method_5_code 2 (some FieldType.boolean) R7 0 [.ref 0, .int p1] (Hb 0 s) (P7 s r) := by
  refine CS.of_wp pn_cls (leb rfl) fun n0 => ?_
  show W7 l Z n0 (P7 s r) 0 0 0 [.val (.ref 0), .val (.int p1)] [] (Hb 0 s)
  unfold f_validDay at h
  refine WP.iloadN d7_0 rfl ?_
  refine WP.aloadN d7_1 rfl ?_
  refine WP.getfield (i := 0) (j := 2) d7_2 (hw _ m_100) rfl rfl rfl ?_
  rcases ite_e h with ⟨hc1, h⟩ | ⟨hc1, h⟩
  ·
    refine WP.icmpY (pc' := 22) d7_5 (XT.ii_lt_t hc1) (by decide) rfl ?_
    exact WP.weak (L' := [.unset, .unset]) trivial (ok7_22 l Z a0 hw n0 s _ h)
  ·
    refine WP.icmpN d7_5 (XT.ii_lt_f hc1) ?_
    refine WP.iloadN d7_8 rfl ?_
    refine WP.aloadN d7_9 rfl ?_
    refine WP.getfield (i := 0) (j := 0) d7_10 (hw _ m_66) rfl rfl rfl ?_
    refine WP.iconst (1 : Int32) d7_13 rfl ?_
    refine WP.isub d7_14 ?_
    rcases ite_e h with ⟨hc2, h⟩ | ⟨hc2, h⟩
    ·
      refine WP.icmpY (pc' := 22) d7_15 (XT.ii_gt_t hc2) (by decide) rfl ?_
      exact WP.weak (L' := [.unset, .unset]) trivial (ok7_22 l Z a0 hw n0 s _ h)
    ·
      refine WP.icmpN d7_15 (XT.ii_gt_f hc2) ?_
      refine WP.iconst (1 : Int32) d7_18 rfl ?_
      refine WP.goto (pc' := 23) d7_19 (by decide) rfl ?_
      exact WP.weak (L' := [.unset, .unset]) trivial (ok7_23 l Z a0 hw n0 (1 : Int32) s _ h)
theorem d8_0 : dc prog_1_method_13_code 0 (.aload_n 0) 1 := by decide +kernel
theorem d8_1 : dc prog_1_method_13_code 1 (.getfield 29) 3 := by decide +kernel
theorem d8_4 : dc prog_1_method_13_code 4 (.iload_n 1) 1 := by decide +kernel
theorem d8_5 : dc prog_1_method_13_code 5 (.iaload) 1 := by decide +kernel
theorem d8_6 : dc prog_1_method_13_code 6 (.istore 4) 2 := by decide +kernel
theorem d8_8 : dc prog_1_method_13_code 8 (.iload 4) 2 := by decide +kernel
theorem d8_10 : dc prog_1_method_13_code 10 (.ifCond .lt 9) 3 := by decide +kernel
theorem d8_13 : dc prog_1_method_13_code 13 (.iload 4) 2 := by decide +kernel
theorem d8_15 : dc prog_1_method_13_code 15 (.iconst 4) 1 := by decide +kernel
theorem d8_16 : dc prog_1_method_13_code 16 (.if_icmp .lt 4) 3 := by decide +kernel
theorem d8_19 : dc prog_1_method_13_code 19 (.return_) 1 := by decide +kernel
theorem d8_20 : dc prog_1_method_13_code 20 (.iload_n 1) 1 := by decide +kernel
theorem d8_21 : dc prog_1_method_13_code 21 (.iconst 4) 1 := by decide +kernel
theorem d8_22 : dc prog_1_method_13_code 22 (.imul) 1 := by decide +kernel
theorem d8_23 : dc prog_1_method_13_code 23 (.iload 4) 2 := by decide +kernel
theorem d8_25 : dc prog_1_method_13_code 25 (.iadd) 1 := by decide +kernel
theorem d8_26 : dc prog_1_method_13_code 26 (.istore 5) 2 := by decide +kernel
theorem d8_28 : dc prog_1_method_13_code 28 (.aload_n 0) 1 := by decide +kernel
theorem d8_29 : dc prog_1_method_13_code 29 (.getfield 42) 3 := by decide +kernel
theorem d8_32 : dc prog_1_method_13_code 32 (.iload 5) 2 := by decide +kernel
theorem d8_34 : dc prog_1_method_13_code 34 (.iload_n 2) 1 := by decide +kernel
theorem d8_35 : dc prog_1_method_13_code 35 (.iastore) 1 := by decide +kernel
theorem d8_36 : dc prog_1_method_13_code 36 (.aload_n 0) 1 := by decide +kernel
theorem d8_37 : dc prog_1_method_13_code 37 (.getfield 45) 3 := by decide +kernel
theorem d8_40 : dc prog_1_method_13_code 40 (.iload 5) 2 := by decide +kernel
theorem d8_42 : dc prog_1_method_13_code 42 (.iconst (-1)) 1 := by decide +kernel
theorem d8_43 : dc prog_1_method_13_code 43 (.iastore) 1 := by decide +kernel
theorem d8_44 : dc prog_1_method_13_code 44 (.aload_n 0) 1 := by decide +kernel
theorem d8_45 : dc prog_1_method_13_code 45 (.getfield 48) 3 := by decide +kernel
theorem d8_48 : dc prog_1_method_13_code 48 (.iload 5) 2 := by decide +kernel
theorem d8_50 : dc prog_1_method_13_code 50 (.iload_n 3) 1 := by decide +kernel
theorem d8_51 : dc prog_1_method_13_code 51 (.iastore) 1 := by decide +kernel
theorem d8_52 : dc prog_1_method_13_code 52 (.aload_n 0) 1 := by decide +kernel
theorem d8_53 : dc prog_1_method_13_code 53 (.getfield 51) 3 := by decide +kernel
theorem d8_56 : dc prog_1_method_13_code 56 (.iload 5) 2 := by decide +kernel
theorem d8_58 : dc prog_1_method_13_code 58 (.iconst 0) 1 := by decide +kernel
theorem d8_59 : dc prog_1_method_13_code 59 (.iastore) 1 := by decide +kernel
theorem d8_60 : dc prog_1_method_13_code 60 (.aload_n 0) 1 := by decide +kernel
theorem d8_61 : dc prog_1_method_13_code 61 (.getfield 29) 3 := by decide +kernel
theorem d8_64 : dc prog_1_method_13_code 64 (.iload_n 1) 1 := by decide +kernel
theorem d8_65 : dc prog_1_method_13_code 65 (.iload 4) 2 := by decide +kernel
theorem d8_67 : dc prog_1_method_13_code 67 (.iconst 1) 1 := by decide +kernel
theorem d8_68 : dc prog_1_method_13_code 68 (.iadd) 1 := by decide +kernel
theorem d8_69 : dc prog_1_method_13_code 69 (.iastore) 1 := by decide +kernel
theorem d8_70 : dc prog_1_method_13_code 70 (.return_) 1 := by decide +kernel
abbrev y8 : MethodName := ⟨"BillingRun", "appendSegment", "(III)V"⟩
theorem hy8 : y8.cls ≠ "java/lang/invoke/MethodHandle" ∧ y8.cls ≠ "java/lang/invoke/VarHandle" := by decide
theorem pd8 : parseMethodDescriptor y8.desc = some ⟨[.int, .int, .int], none⟩ := by decide +kernel
abbrev R8 : Room := { frames := 0, cells := 0, slots := 0, locals := 0 }
abbrev P8 (r : St) : Option Value → List OwnC → Prop := fun v H' => v = none ∧ H' = (Hb 0 r)
abbrev W8 (l : Launch) (Z : State) (n0 : Nat) (Q : Option Value → List OwnC → Prop) (k n pc : Nat) (L : List Slot) (S : List Value) (H : List OwnC) : Prop := WP l Z CN lay "BillingRun" "appendSegment" prog_1_method_13_code 6 (none) R8 n0 0 Q k n pc L S H
def f_appendSegment_19 (s : St) : Option (St) :=
  some s
set_option maxRecDepth 65536 in
set_option maxHeartbeats 4000000 in
theorem ok8_19 (l : Launch) (Z : State) (a0 : Array Value) (hw : HW a0 Z) (n0 : Nat) (s : St) (r : St) (h : f_appendSegment_19 s = some r) : W8 l Z n0 (P8 r) 0 0 19 [.unset, .unset, .unset, .unset, .unset, .unset] [] (Hb 0 s) := by
  unfold f_appendSegment_19 at h
  cases h
  exact WP.vreturn d8_19 rfl (leb rfl) (leb rfl) ⟨rfl, rfl⟩
def f_appendSegment (p1 : Int32) (p2 : Int32) (p3 : Int32) (s : St) : Option (St) :=
  (rd (gA s 6) p1).bind fun x1 =>
  if x1 < 0 then
    f_appendSegment_19 s
  else
    if x1 < (4 : Int32) then
      lt ((p1 * (4 : Int32)) + x1) fun x4 =>
      (wrA s 7 x4 p2).bind fun s5 =>
      (wrA s5 8 x4 (-1 : Int32)).bind fun s6 =>
      (wrA s6 9 x4 p3).bind fun s7 =>
      (wrA s7 10 x4 (0 : Int32)).bind fun s8 =>
      (wrA s8 6 p1 (x1 + (1 : Int32))).bind fun s9 =>
      some s9
    else
      f_appendSegment_19 s
set_option maxRecDepth 65536 in
set_option maxHeartbeats 4000000 in
theorem ok8 (l : Launch) (Z : State) (a0 : Array Value) (hw : HW a0 Z) (p1 : Int32) (p2 : Int32) (p3 : Int32) (s : St) (r : St) (h : f_appendSegment p1 p2 p3 s = some r) : CS l Z CN lay y8 prog_1_method_13_code 6 (none) R8 0 [.ref 0, .int p1, .int p2, .int p3] (Hb 0 s) (P8 r) := by
  refine CS.of_wp pn_cls (leb rfl) fun n0 => ?_
  show W8 l Z n0 (P8 r) 0 0 0 [.val (.ref 0), .val (.int p1), .val (.int p2), .val (.int p3), .unset, .unset] [] (Hb 0 s)
  unfold f_appendSegment at h
  refine WP.aloadN d8_0 rfl ?_
  refine WP.getfield (i := 0) (j := 10) d8_1 (hw _ m_26) rfl rfl rfl ?_
  refine WP.iloadN d8_4 rfl ?_
  obtain ⟨x1, hx1, h⟩ := Option.bind_eq_some_iff.mp h
  refine WP.iaload (i := 7) d8_5 rfl hx1 ?_
  refine WP.istore (L' := [.val (.ref 0), .val (.int p1), .val (.int p2), .val (.int p3), .val (.int x1), .unset]) d8_6 (leb rfl) rfl ?_
  refine WP.iload d8_8 rfl ?_
  rcases ite_e h with ⟨hc2, h⟩ | ⟨hc2, h⟩
  ·
    refine WP.ifY (pc' := 19) d8_10 (XT.i0_lt_t hc2) (by decide) rfl ?_
    exact WP.weak (L' := [.unset, .unset, .unset, .unset, .unset, .unset]) trivial (ok8_19 l Z a0 hw n0 s _ h)
  ·
    refine WP.ifN d8_10 (XT.i0_lt_f hc2) ?_
    refine WP.iload d8_13 rfl ?_
    refine WP.iconst (4 : Int32) d8_15 rfl ?_
    rcases ite_e h with ⟨hc3, h⟩ | ⟨hc3, h⟩
    ·
      refine WP.icmpY (pc' := 20) d8_16 (XT.ii_lt_t hc3) (by decide) rfl ?_
      refine WP.iloadN d8_20 rfl ?_
      refine WP.iconst (4 : Int32) d8_21 rfl ?_
      refine WP.imul d8_22 ?_
      refine WP.iload d8_23 rfl ?_
      refine WP.iadd d8_25 ?_
      obtain ⟨x4, ex4, h⟩ := lt_e h
      refine WP.istore (L' := [.val (.ref 0), .val (.int p1), .val (.int p2), .val (.int p3), .val (.int x1), .val (.int x4)]) d8_26 (leb rfl) (by subst ex4; rfl) ?_
      refine WP.aloadN d8_28 rfl ?_
      refine WP.getfield (i := 0) (j := 14) d8_29 (hw _ m_35) rfl rfl rfl ?_
      refine WP.iload d8_32 rfl ?_
      refine WP.iloadN d8_34 rfl ?_
      obtain ⟨s5, hs5, h⟩ := Option.bind_eq_some_iff.mp h
      obtain ⟨ys5, gs5, es5⟩ := wrA_e hs5
      refine WP.iastore (i := 11) (xs := gA s 7) (H' := (Hb 0 s5)) d8_35 rfl (leb rfl) gs5 (by subst es5; rfl) ?_
      refine WP.aloadN d8_36 rfl ?_
      refine WP.getfield (i := 0) (j := 15) d8_37 (hw _ m_37) rfl rfl rfl ?_
      refine WP.iload d8_40 rfl ?_
      refine WP.iconst (-1 : Int32) d8_42 rfl ?_
      obtain ⟨s6, hs6, h⟩ := Option.bind_eq_some_iff.mp h
      obtain ⟨ys6, gs6, es6⟩ := wrA_e hs6
      refine WP.iastore (i := 12) (xs := gA s5 8) (H' := (Hb 0 s6)) d8_43 rfl (leb rfl) gs6 (by subst es6; rfl) ?_
      refine WP.aloadN d8_44 rfl ?_
      refine WP.getfield (i := 0) (j := 16) d8_45 (hw _ m_39) rfl rfl rfl ?_
      refine WP.iload d8_48 rfl ?_
      refine WP.iloadN d8_50 rfl ?_
      obtain ⟨s7, hs7, h⟩ := Option.bind_eq_some_iff.mp h
      obtain ⟨ys7, gs7, es7⟩ := wrA_e hs7
      refine WP.iastore (i := 13) (xs := gA s6 9) (H' := (Hb 0 s7)) d8_51 rfl (leb rfl) gs7 (by subst es7; rfl) ?_
      refine WP.aloadN d8_52 rfl ?_
      refine WP.getfield (i := 0) (j := 17) d8_53 (hw _ m_41) rfl rfl rfl ?_
      refine WP.iload d8_56 rfl ?_
      refine WP.iconst (0 : Int32) d8_58 rfl ?_
      obtain ⟨s8, hs8, h⟩ := Option.bind_eq_some_iff.mp h
      obtain ⟨ys8, gs8, es8⟩ := wrA_e hs8
      refine WP.iastore (i := 14) (xs := gA s7 10) (H' := (Hb 0 s8)) d8_59 rfl (leb rfl) gs8 (by subst es8; rfl) ?_
      refine WP.aloadN d8_60 rfl ?_
      refine WP.getfield (i := 0) (j := 10) d8_61 (hw _ m_26) rfl rfl rfl ?_
      refine WP.iloadN d8_64 rfl ?_
      refine WP.iload d8_65 rfl ?_
      refine WP.iconst (1 : Int32) d8_67 rfl ?_
      refine WP.iadd d8_68 ?_
      obtain ⟨s9, hs9, h⟩ := Option.bind_eq_some_iff.mp h
      obtain ⟨ys9, gs9, es9⟩ := wrA_e hs9
      refine WP.iastore (i := 7) (xs := gA s8 6) (H' := (Hb 0 s9)) d8_69 rfl (leb rfl) gs9 (by subst es9; rfl) ?_
      cases h
      exact WP.vreturn d8_70 rfl (leb rfl) (leb rfl) ⟨rfl, rfl⟩
    ·
      refine WP.icmpN d8_16 (XT.ii_lt_f hc3) ?_
      exact WP.weak (L' := [.unset, .unset, .unset, .unset, .unset, .unset]) trivial (ok8_19 l Z a0 hw n0 s _ h)
theorem d5_0 : dc prog_1_method_15_code 0 (.aload_n 0) 1 := by decide +kernel
theorem d5_1 : dc prog_1_method_15_code 1 (.iload_n 1) 1 := by decide +kernel
theorem d5_2 : dc prog_1_method_15_code 2 (.invokevirtual 122) 3 := by decide +kernel
theorem d5_5 : dc prog_1_method_15_code 5 (.ifCond .eq 20) 3 := by decide +kernel
theorem d5_8 : dc prog_1_method_15_code 8 (.aload_n 0) 1 := by decide +kernel
theorem d5_9 : dc prog_1_method_15_code 9 (.getfield 22) 3 := by decide +kernel
theorem d5_12 : dc prog_1_method_15_code 12 (.iload_n 1) 1 := by decide +kernel
theorem d5_13 : dc prog_1_method_15_code 13 (.baload) 1 := by decide +kernel
theorem d5_14 : dc prog_1_method_15_code 14 (.ifCond .ne 11) 3 := by decide +kernel
theorem d5_17 : dc prog_1_method_15_code 17 (.aload_n 0) 1 := by decide +kernel
theorem d5_18 : dc prog_1_method_15_code 18 (.iload_n 2) 1 := by decide +kernel
theorem d5_19 : dc prog_1_method_15_code 19 (.invokevirtual 99) 3 := by decide +kernel
theorem d5_22 : dc prog_1_method_15_code 22 (.ifCond .ne 5) 3 := by decide +kernel
theorem d5_25 : dc prog_1_method_15_code 25 (.iconst 0) 1 := by decide +kernel
theorem d5_26 : dc prog_1_method_15_code 26 (.ireturn) 1 := by decide +kernel
theorem d5_27 : dc prog_1_method_15_code 27 (.aload_n 0) 1 := by decide +kernel
theorem d5_28 : dc prog_1_method_15_code 28 (.iload_n 3) 1 := by decide +kernel
theorem d5_29 : dc prog_1_method_15_code 29 (.invokevirtual 125) 3 := by decide +kernel
theorem d5_32 : dc prog_1_method_15_code 32 (.ifCond .eq 13) 3 := by decide +kernel
theorem d5_35 : dc prog_1_method_15_code 35 (.aload_n 0) 1 := by decide +kernel
theorem d5_36 : dc prog_1_method_15_code 36 (.getfield 29) 3 := by decide +kernel
theorem d5_39 : dc prog_1_method_15_code 39 (.iload_n 1) 1 := by decide +kernel
theorem d5_40 : dc prog_1_method_15_code 40 (.iaload) 1 := by decide +kernel
theorem d5_41 : dc prog_1_method_15_code 41 (.iconst 4) 1 := by decide +kernel
theorem d5_42 : dc prog_1_method_15_code 42 (.if_icmp .lt 5) 3 := by decide +kernel
theorem d5_45 : dc prog_1_method_15_code 45 (.iconst 0) 1 := by decide +kernel
theorem d5_46 : dc prog_1_method_15_code 46 (.ireturn) 1 := by decide +kernel
theorem d5_47 : dc prog_1_method_15_code 47 (.aload_n 0) 1 := by decide +kernel
theorem d5_48 : dc prog_1_method_15_code 48 (.iload_n 1) 1 := by decide +kernel
theorem d5_49 : dc prog_1_method_15_code 49 (.iload_n 3) 1 := by decide +kernel
theorem d5_50 : dc prog_1_method_15_code 50 (.iload_n 2) 1 := by decide +kernel
theorem d5_51 : dc prog_1_method_15_code 51 (.invokevirtual 128) 3 := by decide +kernel
theorem d5_54 : dc prog_1_method_15_code 54 (.aload_n 0) 1 := by decide +kernel
theorem d5_55 : dc prog_1_method_15_code 55 (.getfield 22) 3 := by decide +kernel
theorem d5_58 : dc prog_1_method_15_code 58 (.iload_n 1) 1 := by decide +kernel
theorem d5_59 : dc prog_1_method_15_code 59 (.iconst 1) 1 := by decide +kernel
theorem d5_60 : dc prog_1_method_15_code 60 (.bastore) 1 := by decide +kernel
theorem d5_61 : dc prog_1_method_15_code 61 (.aload_n 0) 1 := by decide +kernel
theorem d5_62 : dc prog_1_method_15_code 62 (.getfield 26) 3 := by decide +kernel
theorem d5_65 : dc prog_1_method_15_code 65 (.iload_n 1) 1 := by decide +kernel
theorem d5_66 : dc prog_1_method_15_code 66 (.iload_n 2) 1 := by decide +kernel
theorem d5_67 : dc prog_1_method_15_code 67 (.iastore) 1 := by decide +kernel
theorem d5_68 : dc prog_1_method_15_code 68 (.aload_n 0) 1 := by decide +kernel
theorem d5_69 : dc prog_1_method_15_code 69 (.iload_n 3) 1 := by decide +kernel
theorem d5_70 : dc prog_1_method_15_code 70 (.putfield 96) 3 := by decide +kernel
theorem d5_73 : dc prog_1_method_15_code 73 (.iconst 1) 1 := by decide +kernel
theorem d5_74 : dc prog_1_method_15_code 74 (.ireturn) 1 := by decide +kernel
abbrev y5 : MethodName := ⟨"BillingRun", "subscribe", "(III)Z"⟩
theorem hy5 : y5.cls ≠ "java/lang/invoke/MethodHandle" ∧ y5.cls ≠ "java/lang/invoke/VarHandle" := by decide
theorem pd5 : parseMethodDescriptor y5.desc = some ⟨[.int, .int, .int], some .boolean⟩ := by decide +kernel
abbrev R5 : Room := { frames := 1, cells := 0, slots := 0, locals := 17 }
abbrev P5 (r : Int32 × St) : Option Value → List OwnC → Prop := fun v H' => v = some (.int r.1) ∧ H' = (Hb 0 r.2)
abbrev W5 (l : Launch) (Z : State) (n0 : Nat) (Q : Option Value → List OwnC → Prop) (k n pc : Nat) (L : List Slot) (S : List Value) (H : List OwnC) : Prop := WP l Z CN lay "BillingRun" "subscribe" prog_1_method_15_code 4 (some FieldType.boolean) R5 n0 0 Q k n pc L S H
def f_subscribe_25 (s : St) : Option (Int32 × St) :=
  some ((0 : Int32), s)
set_option maxRecDepth 65536 in
set_option maxHeartbeats 4000000 in
theorem ok5_25 (l : Launch) (Z : State) (a0 : Array Value) (hw : HW a0 Z) (n0 : Nat) (s : St) (r : Int32 × St) (h : f_subscribe_25 s = some r) : W5 l Z n0 (P5 r) 0 0 25 [.unset, .unset, .unset, .unset] [] (Hb 0 s) := by
  unfold f_subscribe_25 at h
  refine WP.iconst (0 : Int32) d5_25 rfl ?_
  cases h
  exact WP.zreturn d5_26 rfl (leb rfl) (leb rfl) ⟨rfl, rfl⟩
def f_subscribe_45 (s : St) : Option (Int32 × St) :=
  some ((0 : Int32), s)
set_option maxRecDepth 65536 in
set_option maxHeartbeats 4000000 in
theorem ok5_45 (l : Launch) (Z : State) (a0 : Array Value) (hw : HW a0 Z) (n0 : Nat) (s : St) (r : Int32 × St) (h : f_subscribe_45 s = some r) : W5 l Z n0 (P5 r) 0 0 45 [.unset, .unset, .unset, .unset] [] (Hb 0 s) := by
  unfold f_subscribe_45 at h
  refine WP.iconst (0 : Int32) d5_45 rfl ?_
  cases h
  exact WP.zreturn d5_46 rfl (leb rfl) (leb rfl) ⟨rfl, rfl⟩
def f_subscribe (p1 : Int32) (p2 : Int32) (p3 : Int32) (s : St) : Option (Int32 × St) :=
  (f_validCustomer p1 s).bind fun c1 =>
  if c1 = 0 then
    f_subscribe_25 s
  else
    (rd (gA s 4) p1).bind fun x3 =>
    if x3 = 0 then
      (f_validPlan p2 s).bind fun c5 =>
      if c5 = 0 then
        f_subscribe_25 s
      else
        (f_validDay p3 s).bind fun c7 =>
        if c7 = 0 then
          f_subscribe_45 s
        else
          (rd (gA s 6) p1).bind fun x9 =>
          if x9 < (4 : Int32) then
            (f_appendSegment p1 p3 p2 s).bind fun c11 =>
            (wrA c11 4 p1 (1 : Int32)).bind fun s12 =>
            (wrA s12 5 p1 p2).bind fun s13 =>
            lt (sI s13 2 p3) fun s14 =>
            some ((1 : Int32), s14)
          else
            f_subscribe_45 s
    else
      f_subscribe_25 s
set_option maxRecDepth 65536 in
set_option maxHeartbeats 4000000 in
theorem ok5 (l : Launch) (Z : State) (a0 : Array Value) (hw : HW a0 Z) (p1 : Int32) (p2 : Int32) (p3 : Int32) (s : St) (r : Int32 × St) (h : f_subscribe p1 p2 p3 s = some r) : CS l Z CN lay y5 prog_1_method_15_code 4 (some FieldType.boolean) R5 0 [.ref 0, .int p1, .int p2, .int p3] (Hb 0 s) (P5 r) := by
  refine CS.of_wp pn_cls (leb rfl) fun n0 => ?_
  show W5 l Z n0 (P5 r) 0 0 0 [.val (.ref 0), .val (.int p1), .val (.int p2), .val (.int p3)] [] (Hb 0 s)
  unfold f_subscribe at h
  refine WP.aloadN d5_0 rfl ?_
  refine WP.iloadN d5_1 rfl ?_
  obtain ⟨c1, hc1, h⟩ := Option.bind_eq_some_iff.mp h
  refine WP.callP (i := 0) (y := y6) (as := [.int p1]) (S := []) d5_2 (hw _ m_92) (hw _ m_94) (hw _ m_4) (hw _ m_93) (hw _ m_95) (hw _ m_5) hy6 rfl (ok6 l Z a0 hw p1 s _ hc1) rfl (lenOf pd6 rfl) (leb rfl) (leb rfl) (leb rfl) (leb rfl) ?_
  rintro _ _ ⟨rfl, rfl⟩
  show W5 l Z n0 (P5 r) 0 0 5 [.val (.ref 0), .val (.int p1), .val (.int p2), .val (.int p3)] [.int c1] (Hb 0 s)
  rcases ite_e h with ⟨hc2, h⟩ | ⟨hc2, h⟩
  ·
    refine WP.ifY (pc' := 25) d5_5 (XT.i0_eq_t hc2) (by decide) rfl ?_
    exact WP.weak (L' := [.unset, .unset, .unset, .unset]) trivial (ok5_25 l Z a0 hw n0 s _ h)
  ·
    refine WP.ifN d5_5 (XT.i0_eq_f hc2) ?_
    refine WP.aloadN d5_8 rfl ?_
    refine WP.getfield (i := 0) (j := 8) d5_9 (hw _ m_22) rfl rfl rfl ?_
    refine WP.iloadN d5_12 rfl ?_
    obtain ⟨x3, hx3, h⟩ := Option.bind_eq_some_iff.mp h
    refine WP.baload (i := 5) d5_13 rfl hx3 ?_
    rcases ite_e h with ⟨hc4, h⟩ | ⟨hc4, h⟩
    ·
      refine WP.ifN d5_14 (XT.i0_ne_f hc4) ?_
      refine WP.aloadN d5_17 rfl ?_
      refine WP.iloadN d5_18 rfl ?_
      obtain ⟨c5, hc5, h⟩ := Option.bind_eq_some_iff.mp h
      refine WP.callP (i := 0) (y := y3) (as := [.int p2]) (S := []) d5_19 (hw _ m_76) (hw _ m_78) (hw _ m_4) (hw _ m_77) (hw _ m_79) (hw _ m_5) hy3 rfl (ok3 l Z a0 hw p2 s _ hc5) rfl (lenOf pd3 rfl) (leb rfl) (leb rfl) (leb rfl) (leb rfl) ?_
      rintro _ _ ⟨rfl, rfl⟩
      show W5 l Z n0 (P5 r) 0 0 22 [.val (.ref 0), .val (.int p1), .val (.int p2), .val (.int p3)] [.int c5] (Hb 0 s)
      rcases ite_e h with ⟨hc6, h⟩ | ⟨hc6, h⟩
      ·
        refine WP.ifN d5_22 (XT.i0_ne_f hc6) ?_
        exact WP.weak (L' := [.unset, .unset, .unset, .unset]) trivial (ok5_25 l Z a0 hw n0 s _ h)
      ·
        refine WP.ifY (pc' := 27) d5_22 (XT.i0_ne_t hc6) (by decide) rfl ?_
        refine WP.aloadN d5_27 rfl ?_
        refine WP.iloadN d5_28 rfl ?_
        obtain ⟨c7, hc7, h⟩ := Option.bind_eq_some_iff.mp h
        refine WP.callP (i := 0) (y := y7) (as := [.int p3]) (S := []) d5_29 (hw _ m_96) (hw _ m_98) (hw _ m_4) (hw _ m_97) (hw _ m_99) (hw _ m_5) hy7 rfl (ok7 l Z a0 hw p3 s _ hc7) rfl (lenOf pd7 rfl) (leb rfl) (leb rfl) (leb rfl) (leb rfl) ?_
        rintro _ _ ⟨rfl, rfl⟩
        show W5 l Z n0 (P5 r) 0 0 32 [.val (.ref 0), .val (.int p1), .val (.int p2), .val (.int p3)] [.int c7] (Hb 0 s)
        rcases ite_e h with ⟨hc8, h⟩ | ⟨hc8, h⟩
        ·
          refine WP.ifY (pc' := 45) d5_32 (XT.i0_eq_t hc8) (by decide) rfl ?_
          exact WP.weak (L' := [.unset, .unset, .unset, .unset]) trivial (ok5_45 l Z a0 hw n0 s _ h)
        ·
          refine WP.ifN d5_32 (XT.i0_eq_f hc8) ?_
          refine WP.aloadN d5_35 rfl ?_
          refine WP.getfield (i := 0) (j := 10) d5_36 (hw _ m_26) rfl rfl rfl ?_
          refine WP.iloadN d5_39 rfl ?_
          obtain ⟨x9, hx9, h⟩ := Option.bind_eq_some_iff.mp h
          refine WP.iaload (i := 7) d5_40 rfl hx9 ?_
          refine WP.iconst (4 : Int32) d5_41 rfl ?_
          rcases ite_e h with ⟨hc10, h⟩ | ⟨hc10, h⟩
          ·
            refine WP.icmpY (pc' := 47) d5_42 (XT.ii_lt_t hc10) (by decide) rfl ?_
            refine WP.aloadN d5_47 rfl ?_
            refine WP.iloadN d5_48 rfl ?_
            refine WP.iloadN d5_49 rfl ?_
            refine WP.iloadN d5_50 rfl ?_
            obtain ⟨c11, hc11, h⟩ := Option.bind_eq_some_iff.mp h
            refine WP.callP (i := 0) (y := y8) (as := [.int p1, .int p3, .int p2]) (S := []) d5_51 (hw _ m_102) (hw _ m_104) (hw _ m_4) (hw _ m_103) (hw _ m_105) (hw _ m_5) hy8 rfl (ok8 l Z a0 hw p1 p3 p2 s _ hc11) rfl (lenOf pd8 rfl) (leb rfl) (leb rfl) (leb rfl) (leb rfl) ?_
            rintro _ _ ⟨rfl, rfl⟩
            show W5 l Z n0 (P5 r) 0 0 54 [.val (.ref 0), .val (.int p1), .val (.int p2), .val (.int p3)] [] (Hb 0 c11)
            refine WP.aloadN d5_54 rfl ?_
            refine WP.getfield (i := 0) (j := 8) d5_55 (hw _ m_22) rfl rfl rfl ?_
            refine WP.iloadN d5_58 rfl ?_
            refine WP.iconst (1 : Int32) d5_59 rfl ?_
            obtain ⟨s12, hs12, h⟩ := Option.bind_eq_some_iff.mp h
            obtain ⟨ys12, gs12, es12⟩ := wrA_e hs12
            refine WP.bastore (i := 5) (xs := gA c11 4) (H' := (Hb 0 s12)) d5_60 rfl (leb rfl) gs12 (by subst es12; rfl) ?_
            refine WP.aloadN d5_61 rfl ?_
            refine WP.getfield (i := 0) (j := 9) d5_62 (hw _ m_24) rfl rfl rfl ?_
            refine WP.iloadN d5_65 rfl ?_
            refine WP.iloadN d5_66 rfl ?_
            obtain ⟨s13, hs13, h⟩ := Option.bind_eq_some_iff.mp h
            obtain ⟨ys13, gs13, es13⟩ := wrA_e hs13
            refine WP.iastore (i := 6) (xs := gA s12 5) (H' := (Hb 0 s13)) d5_67 rfl (leb rfl) gs13 (by subst es13; rfl) ?_
            refine WP.aloadN d5_68 rfl ?_
            refine WP.iloadN d5_69 rfl ?_
            obtain ⟨s14, es14, h⟩ := lt_e h
            refine WP.putI (i := 0) (j := 2) (H' := (Hb 0 s14)) d5_70 (hw _ m_100) (Or.inl (hw _ m_101)) (hw _ m_4) (hlay hw) rfl rfl rfl (leb rfl) (by subst es14; rfl) ?_
            refine WP.iconst (1 : Int32) d5_73 rfl ?_
            cases h
            exact WP.zreturn d5_74 rfl (leb rfl) (leb rfl) ⟨rfl, rfl⟩
          ·
            refine WP.icmpN d5_42 (XT.ii_lt_f hc10) ?_
            exact WP.weak (L' := [.unset, .unset, .unset, .unset]) trivial (ok5_45 l Z a0 hw n0 s _ h)
    ·
      refine WP.ifY (pc' := 25) d5_14 (XT.i0_ne_t hc4) (by decide) rfl ?_
      exact WP.weak (L' := [.unset, .unset, .unset, .unset]) trivial (ok5_25 l Z a0 hw n0 s _ h)
theorem d10_0 : dc prog_1_method_14_code 0 (.aload_n 0) 1 := by decide +kernel
theorem d10_1 : dc prog_1_method_14_code 1 (.getfield 22) 3 := by decide +kernel
theorem d10_4 : dc prog_1_method_14_code 4 (.iload_n 1) 1 := by decide +kernel
theorem d10_5 : dc prog_1_method_14_code 5 (.baload) 1 := by decide +kernel
theorem d10_6 : dc prog_1_method_14_code 6 (.ifCond .ne 5) 3 := by decide +kernel
theorem d10_9 : dc prog_1_method_14_code 9 (.iconst (-1)) 1 := by decide +kernel
theorem d10_10 : dc prog_1_method_14_code 10 (.ireturn) 1 := by decide +kernel
theorem d10_11 : dc prog_1_method_14_code 11 (.aload_n 0) 1 := by decide +kernel
theorem d10_12 : dc prog_1_method_14_code 12 (.getfield 29) 3 := by decide +kernel
theorem d10_15 : dc prog_1_method_14_code 15 (.iload_n 1) 1 := by decide +kernel
theorem d10_16 : dc prog_1_method_14_code 16 (.iaload) 1 := by decide +kernel
theorem d10_17 : dc prog_1_method_14_code 17 (.istore_n 2) 1 := by decide +kernel
theorem d10_18 : dc prog_1_method_14_code 18 (.iload_n 2) 1 := by decide +kernel
theorem d10_19 : dc prog_1_method_14_code 19 (.iconst 1) 1 := by decide +kernel
theorem d10_20 : dc prog_1_method_14_code 20 (.if_icmp .lt 8) 3 := by decide +kernel
theorem d10_23 : dc prog_1_method_14_code 23 (.iload_n 2) 1 := by decide +kernel
theorem d10_24 : dc prog_1_method_14_code 24 (.iconst 4) 1 := by decide +kernel
theorem d10_25 : dc prog_1_method_14_code 25 (.if_icmp .le 5) 3 := by decide +kernel
theorem d10_28 : dc prog_1_method_14_code 28 (.iconst (-1)) 1 := by decide +kernel
theorem d10_29 : dc prog_1_method_14_code 29 (.ireturn) 1 := by decide +kernel
theorem d10_30 : dc prog_1_method_14_code 30 (.iload_n 1) 1 := by decide +kernel
theorem d10_31 : dc prog_1_method_14_code 31 (.iconst 4) 1 := by decide +kernel
theorem d10_32 : dc prog_1_method_14_code 32 (.imul) 1 := by decide +kernel
theorem d10_33 : dc prog_1_method_14_code 33 (.iload_n 2) 1 := by decide +kernel
theorem d10_34 : dc prog_1_method_14_code 34 (.iadd) 1 := by decide +kernel
theorem d10_35 : dc prog_1_method_14_code 35 (.iconst 1) 1 := by decide +kernel
theorem d10_36 : dc prog_1_method_14_code 36 (.isub) 1 := by decide +kernel
theorem d10_37 : dc prog_1_method_14_code 37 (.ireturn) 1 := by decide +kernel
abbrev y10 : MethodName := ⟨"BillingRun", "openSlot", "(I)I"⟩
theorem hy10 : y10.cls ≠ "java/lang/invoke/MethodHandle" ∧ y10.cls ≠ "java/lang/invoke/VarHandle" := by decide
theorem pd10 : parseMethodDescriptor y10.desc = some ⟨[.int], some .int⟩ := by decide +kernel
abbrev R10 : Room := { frames := 0, cells := 0, slots := 0, locals := 0 }
abbrev P10 (s : St) (r : Int32) : Option Value → List OwnC → Prop := fun v H' => v = some (.int r) ∧ H' = (Hb 0 s)
abbrev W10 (l : Launch) (Z : State) (n0 : Nat) (Q : Option Value → List OwnC → Prop) (k n pc : Nat) (L : List Slot) (S : List Value) (H : List OwnC) : Prop := WP l Z CN lay "BillingRun" "openSlot" prog_1_method_14_code 3 (some FieldType.int) R10 n0 0 Q k n pc L S H
def f_openSlot_28 (s : St) : Option (Int32) :=
  some (-1 : Int32)
set_option maxRecDepth 65536 in
set_option maxHeartbeats 4000000 in
theorem ok10_28 (l : Launch) (Z : State) (a0 : Array Value) (hw : HW a0 Z) (n0 : Nat) (s : St) (r : Int32) (h : f_openSlot_28 s = some r) : W10 l Z n0 (P10 s r) 0 0 28 [.unset, .unset, .unset] [] (Hb 0 s) := by
  unfold f_openSlot_28 at h
  refine WP.iconst (-1 : Int32) d10_28 rfl ?_
  cases h
  exact WP.ireturn d10_29 rfl (leb rfl) (leb rfl) ⟨rfl, rfl⟩
def f_openSlot (p1 : Int32) (s : St) : Option (Int32) :=
  (rd (gA s 4) p1).bind fun x1 =>
  if x1 = 0 then
    some (-1 : Int32)
  else
    (rd (gA s 6) p1).bind fun x3 =>
    if x3 < (1 : Int32) then
      f_openSlot_28 s
    else
      if (4 : Int32) < x3 then
        f_openSlot_28 s
      else
        some (((p1 * (4 : Int32)) + x3) - (1 : Int32))
set_option maxRecDepth 65536 in
set_option maxHeartbeats 4000000 in
theorem ok10 (l : Launch) (Z : State) (a0 : Array Value) (hw : HW a0 Z) (p1 : Int32) (s : St) (r : Int32) (h : f_openSlot p1 s = some r) : CS l Z CN lay y10 prog_1_method_14_code 3 (some FieldType.int) R10 0 [.ref 0, .int p1] (Hb 0 s) (P10 s r) := by
  refine CS.of_wp pn_cls (leb rfl) fun n0 => ?_
  show W10 l Z n0 (P10 s r) 0 0 0 [.val (.ref 0), .val (.int p1), .unset] [] (Hb 0 s)
  unfold f_openSlot at h
  refine WP.aloadN d10_0 rfl ?_
  refine WP.getfield (i := 0) (j := 8) d10_1 (hw _ m_22) rfl rfl rfl ?_
  refine WP.iloadN d10_4 rfl ?_
  obtain ⟨x1, hx1, h⟩ := Option.bind_eq_some_iff.mp h
  refine WP.baload (i := 5) d10_5 rfl hx1 ?_
  rcases ite_e h with ⟨hc2, h⟩ | ⟨hc2, h⟩
  ·
    refine WP.ifN d10_6 (XT.i0_ne_f hc2) ?_
    refine WP.iconst (-1 : Int32) d10_9 rfl ?_
    cases h
    exact WP.ireturn d10_10 rfl (leb rfl) (leb rfl) ⟨rfl, rfl⟩
  ·
    refine WP.ifY (pc' := 11) d10_6 (XT.i0_ne_t hc2) (by decide) rfl ?_
    refine WP.aloadN d10_11 rfl ?_
    refine WP.getfield (i := 0) (j := 10) d10_12 (hw _ m_26) rfl rfl rfl ?_
    refine WP.iloadN d10_15 rfl ?_
    obtain ⟨x3, hx3, h⟩ := Option.bind_eq_some_iff.mp h
    refine WP.iaload (i := 7) d10_16 rfl hx3 ?_
    refine WP.istoreN (L' := [.val (.ref 0), .val (.int p1), .val (.int x3)]) d10_17 (leb rfl) rfl ?_
    refine WP.iloadN d10_18 rfl ?_
    refine WP.iconst (1 : Int32) d10_19 rfl ?_
    rcases ite_e h with ⟨hc4, h⟩ | ⟨hc4, h⟩
    ·
      refine WP.icmpY (pc' := 28) d10_20 (XT.ii_lt_t hc4) (by decide) rfl ?_
      exact WP.weak (L' := [.unset, .unset, .unset]) trivial (ok10_28 l Z a0 hw n0 s _ h)
    ·
      refine WP.icmpN d10_20 (XT.ii_lt_f hc4) ?_
      refine WP.iloadN d10_23 rfl ?_
      refine WP.iconst (4 : Int32) d10_24 rfl ?_
      rcases ite_e h with ⟨hc5, h⟩ | ⟨hc5, h⟩
      ·
        refine WP.icmpN d10_25 (XT.ii_le_f hc5) ?_
        exact WP.weak (L' := [.unset, .unset, .unset]) trivial (ok10_28 l Z a0 hw n0 s _ h)
      ·
        refine WP.icmpY (pc' := 30) d10_25 (XT.ii_le_t hc5) (by decide) rfl ?_
        refine WP.iloadN d10_30 rfl ?_
        refine WP.iconst (4 : Int32) d10_31 rfl ?_
        refine WP.imul d10_32 ?_
        refine WP.iloadN d10_33 rfl ?_
        refine WP.iadd d10_34 ?_
        refine WP.iconst (1 : Int32) d10_35 rfl ?_
        refine WP.isub d10_36 ?_
        cases h
        exact WP.ireturn d10_37 rfl (leb rfl) (leb rfl) ⟨rfl, rfl⟩
theorem d9_0 : dc prog_1_method_18_code 0 (.aload_n 0) 1 := by decide +kernel
theorem d9_1 : dc prog_1_method_18_code 1 (.iload_n 1) 1 := by decide +kernel
theorem d9_2 : dc prog_1_method_18_code 2 (.invokevirtual 122) 3 := by decide +kernel
theorem d9_5 : dc prog_1_method_18_code 5 (.ifCond .eq 20) 3 := by decide +kernel
theorem d9_8 : dc prog_1_method_18_code 8 (.aload_n 0) 1 := by decide +kernel
theorem d9_9 : dc prog_1_method_18_code 9 (.getfield 22) 3 := by decide +kernel
theorem d9_12 : dc prog_1_method_18_code 12 (.iload_n 1) 1 := by decide +kernel
theorem d9_13 : dc prog_1_method_18_code 13 (.baload) 1 := by decide +kernel
theorem d9_14 : dc prog_1_method_18_code 14 (.ifCond .eq 11) 3 := by decide +kernel
theorem d9_17 : dc prog_1_method_18_code 17 (.aload_n 0) 1 := by decide +kernel
theorem d9_18 : dc prog_1_method_18_code 18 (.iload_n 2) 1 := by decide +kernel
theorem d9_19 : dc prog_1_method_18_code 19 (.invokevirtual 125) 3 := by decide +kernel
theorem d9_22 : dc prog_1_method_18_code 22 (.ifCond .ne 5) 3 := by decide +kernel
theorem d9_25 : dc prog_1_method_18_code 25 (.iconst 0) 1 := by decide +kernel
theorem d9_26 : dc prog_1_method_18_code 26 (.ireturn) 1 := by decide +kernel
theorem d9_27 : dc prog_1_method_18_code 27 (.iload_n 3) 1 := by decide +kernel
theorem d9_28 : dc prog_1_method_18_code 28 (.iconst 1) 1 := by decide +kernel
theorem d9_29 : dc prog_1_method_18_code 29 (.if_icmp .lt 10) 3 := by decide +kernel
theorem d9_32 : dc prog_1_method_18_code 32 (.iload_n 3) 1 := by decide +kernel
theorem d9_33 : dc prog_1_method_18_code 33 (.sipush 10000) 3 := by decide +kernel
theorem d9_36 : dc prog_1_method_18_code 36 (.if_icmp .le 5) 3 := by decide +kernel
theorem d9_39 : dc prog_1_method_18_code 39 (.iconst 0) 1 := by decide +kernel
theorem d9_40 : dc prog_1_method_18_code 40 (.ireturn) 1 := by decide +kernel
theorem d9_41 : dc prog_1_method_18_code 41 (.aload_n 0) 1 := by decide +kernel
theorem d9_42 : dc prog_1_method_18_code 42 (.iload_n 1) 1 := by decide +kernel
theorem d9_43 : dc prog_1_method_18_code 43 (.invokevirtual 132) 3 := by decide +kernel
theorem d9_46 : dc prog_1_method_18_code 46 (.istore 4) 2 := by decide +kernel
theorem d9_48 : dc prog_1_method_18_code 48 (.iload 4) 2 := by decide +kernel
theorem d9_50 : dc prog_1_method_18_code 50 (.ifCond .lt 17) 3 := by decide +kernel
theorem d9_53 : dc prog_1_method_18_code 53 (.aload_n 0) 1 := by decide +kernel
theorem d9_54 : dc prog_1_method_18_code 54 (.getfield 51) 3 := by decide +kernel
theorem d9_57 : dc prog_1_method_18_code 57 (.iload 4) 2 := by decide +kernel
theorem d9_59 : dc prog_1_method_18_code 59 (.iaload) 1 := by decide +kernel
theorem d9_60 : dc prog_1_method_18_code 60 (.iload_n 3) 1 := by decide +kernel
theorem d9_61 : dc prog_1_method_18_code 61 (.iadd) 1 := by decide +kernel
theorem d9_62 : dc prog_1_method_18_code 62 (.ldc 95) 2 := by decide +kernel
theorem d9_64 : dc prog_1_method_18_code 64 (.if_icmp .le 5) 3 := by decide +kernel
theorem d9_67 : dc prog_1_method_18_code 67 (.iconst 0) 1 := by decide +kernel
theorem d9_68 : dc prog_1_method_18_code 68 (.ireturn) 1 := by decide +kernel
theorem d9_69 : dc prog_1_method_18_code 69 (.aload_n 0) 1 := by decide +kernel
theorem d9_70 : dc prog_1_method_18_code 70 (.getfield 51) 3 := by decide +kernel
theorem d9_73 : dc prog_1_method_18_code 73 (.iload 4) 2 := by decide +kernel
theorem d9_75 : dc prog_1_method_18_code 75 (.dup2) 1 := by decide +kernel
theorem d9_76 : dc prog_1_method_18_code 76 (.iaload) 1 := by decide +kernel
theorem d9_77 : dc prog_1_method_18_code 77 (.iload_n 3) 1 := by decide +kernel
theorem d9_78 : dc prog_1_method_18_code 78 (.iadd) 1 := by decide +kernel
theorem d9_79 : dc prog_1_method_18_code 79 (.iastore) 1 := by decide +kernel
theorem d9_80 : dc prog_1_method_18_code 80 (.aload_n 0) 1 := by decide +kernel
theorem d9_81 : dc prog_1_method_18_code 81 (.iload_n 2) 1 := by decide +kernel
theorem d9_82 : dc prog_1_method_18_code 82 (.putfield 96) 3 := by decide +kernel
theorem d9_85 : dc prog_1_method_18_code 85 (.iconst 1) 1 := by decide +kernel
theorem d9_86 : dc prog_1_method_18_code 86 (.ireturn) 1 := by decide +kernel
abbrev y9 : MethodName := ⟨"BillingRun", "recordUsage", "(III)Z"⟩
theorem hy9 : y9.cls ≠ "java/lang/invoke/MethodHandle" ∧ y9.cls ≠ "java/lang/invoke/VarHandle" := by decide
theorem pd9 : parseMethodDescriptor y9.desc = some ⟨[.int, .int, .int], some .boolean⟩ := by decide +kernel
abbrev R9 : Room := { frames := 1, cells := 0, slots := 0, locals := 14 }
abbrev P9 (r : Int32 × St) : Option Value → List OwnC → Prop := fun v H' => v = some (.int r.1) ∧ H' = (Hb 0 r.2)
abbrev W9 (l : Launch) (Z : State) (n0 : Nat) (Q : Option Value → List OwnC → Prop) (k n pc : Nat) (L : List Slot) (S : List Value) (H : List OwnC) : Prop := WP l Z CN lay "BillingRun" "recordUsage" prog_1_method_18_code 5 (some FieldType.boolean) R9 n0 0 Q k n pc L S H
def f_recordUsage_25 (s : St) : Option (Int32 × St) :=
  some ((0 : Int32), s)
set_option maxRecDepth 65536 in
set_option maxHeartbeats 4000000 in
theorem ok9_25 (l : Launch) (Z : State) (a0 : Array Value) (hw : HW a0 Z) (n0 : Nat) (s : St) (r : Int32 × St) (h : f_recordUsage_25 s = some r) : W9 l Z n0 (P9 r) 0 0 25 [.unset, .unset, .unset, .unset, .unset] [] (Hb 0 s) := by
  unfold f_recordUsage_25 at h
  refine WP.iconst (0 : Int32) d9_25 rfl ?_
  cases h
  exact WP.zreturn d9_26 rfl (leb rfl) (leb rfl) ⟨rfl, rfl⟩
def f_recordUsage_39 (s : St) : Option (Int32 × St) :=
  some ((0 : Int32), s)
set_option maxRecDepth 65536 in
set_option maxHeartbeats 4000000 in
theorem ok9_39 (l : Launch) (Z : State) (a0 : Array Value) (hw : HW a0 Z) (n0 : Nat) (s : St) (r : Int32 × St) (h : f_recordUsage_39 s = some r) : W9 l Z n0 (P9 r) 0 0 39 [.unset, .unset, .unset, .unset, .unset] [] (Hb 0 s) := by
  unfold f_recordUsage_39 at h
  refine WP.iconst (0 : Int32) d9_39 rfl ?_
  cases h
  exact WP.zreturn d9_40 rfl (leb rfl) (leb rfl) ⟨rfl, rfl⟩
def f_recordUsage_67 (s : St) : Option (Int32 × St) :=
  some ((0 : Int32), s)
set_option maxRecDepth 65536 in
set_option maxHeartbeats 4000000 in
theorem ok9_67 (l : Launch) (Z : State) (a0 : Array Value) (hw : HW a0 Z) (n0 : Nat) (s : St) (r : Int32 × St) (h : f_recordUsage_67 s = some r) : W9 l Z n0 (P9 r) 0 0 67 [.unset, .unset, .unset, .unset, .unset] [] (Hb 0 s) := by
  unfold f_recordUsage_67 at h
  refine WP.iconst (0 : Int32) d9_67 rfl ?_
  cases h
  exact WP.zreturn d9_68 rfl (leb rfl) (leb rfl) ⟨rfl, rfl⟩
def f_recordUsage (p1 : Int32) (p2 : Int32) (p3 : Int32) (s : St) : Option (Int32 × St) :=
  (f_validCustomer p1 s).bind fun c1 =>
  if c1 = 0 then
    f_recordUsage_25 s
  else
    (rd (gA s 4) p1).bind fun x3 =>
    if x3 = 0 then
      f_recordUsage_25 s
    else
      (f_validDay p2 s).bind fun c5 =>
      if c5 = 0 then
        f_recordUsage_25 s
      else
        if p3 < (1 : Int32) then
          f_recordUsage_39 s
        else
          if (10000 : Int32) < p3 then
            f_recordUsage_39 s
          else
            (f_openSlot p1 s).bind fun c9 =>
            if c9 < 0 then
              f_recordUsage_67 s
            else
              (rd (gA s 10) c9).bind fun x11 =>
              if (1000000 : Int32) < (x11 + p3) then
                f_recordUsage_67 s
              else
                (rd (gA s 10) c9).bind fun x13 =>
                (wrA s 10 c9 (x13 + p3)).bind fun s14 =>
                lt (sI s14 2 p2) fun s15 =>
                some ((1 : Int32), s15)
set_option maxRecDepth 65536 in
set_option maxHeartbeats 4000000 in
theorem ok9 (l : Launch) (Z : State) (a0 : Array Value) (hw : HW a0 Z) (p1 : Int32) (p2 : Int32) (p3 : Int32) (s : St) (r : Int32 × St) (h : f_recordUsage p1 p2 p3 s = some r) : CS l Z CN lay y9 prog_1_method_18_code 5 (some FieldType.boolean) R9 0 [.ref 0, .int p1, .int p2, .int p3] (Hb 0 s) (P9 r) := by
  refine CS.of_wp pn_cls (leb rfl) fun n0 => ?_
  show W9 l Z n0 (P9 r) 0 0 0 [.val (.ref 0), .val (.int p1), .val (.int p2), .val (.int p3), .unset] [] (Hb 0 s)
  unfold f_recordUsage at h
  refine WP.aloadN d9_0 rfl ?_
  refine WP.iloadN d9_1 rfl ?_
  obtain ⟨c1, hc1, h⟩ := Option.bind_eq_some_iff.mp h
  refine WP.callP (i := 0) (y := y6) (as := [.int p1]) (S := []) d9_2 (hw _ m_92) (hw _ m_94) (hw _ m_4) (hw _ m_93) (hw _ m_95) (hw _ m_5) hy6 rfl (ok6 l Z a0 hw p1 s _ hc1) rfl (lenOf pd6 rfl) (leb rfl) (leb rfl) (leb rfl) (leb rfl) ?_
  rintro _ _ ⟨rfl, rfl⟩
  show W9 l Z n0 (P9 r) 0 0 5 [.val (.ref 0), .val (.int p1), .val (.int p2), .val (.int p3), .unset] [.int c1] (Hb 0 s)
  rcases ite_e h with ⟨hc2, h⟩ | ⟨hc2, h⟩
  ·
    refine WP.ifY (pc' := 25) d9_5 (XT.i0_eq_t hc2) (by decide) rfl ?_
    exact WP.weak (L' := [.unset, .unset, .unset, .unset, .unset]) trivial (ok9_25 l Z a0 hw n0 s _ h)
  ·
    refine WP.ifN d9_5 (XT.i0_eq_f hc2) ?_
    refine WP.aloadN d9_8 rfl ?_
    refine WP.getfield (i := 0) (j := 8) d9_9 (hw _ m_22) rfl rfl rfl ?_
    refine WP.iloadN d9_12 rfl ?_
    obtain ⟨x3, hx3, h⟩ := Option.bind_eq_some_iff.mp h
    refine WP.baload (i := 5) d9_13 rfl hx3 ?_
    rcases ite_e h with ⟨hc4, h⟩ | ⟨hc4, h⟩
    ·
      refine WP.ifY (pc' := 25) d9_14 (XT.i0_eq_t hc4) (by decide) rfl ?_
      exact WP.weak (L' := [.unset, .unset, .unset, .unset, .unset]) trivial (ok9_25 l Z a0 hw n0 s _ h)
    ·
      refine WP.ifN d9_14 (XT.i0_eq_f hc4) ?_
      refine WP.aloadN d9_17 rfl ?_
      refine WP.iloadN d9_18 rfl ?_
      obtain ⟨c5, hc5, h⟩ := Option.bind_eq_some_iff.mp h
      refine WP.callP (i := 0) (y := y7) (as := [.int p2]) (S := []) d9_19 (hw _ m_96) (hw _ m_98) (hw _ m_4) (hw _ m_97) (hw _ m_99) (hw _ m_5) hy7 rfl (ok7 l Z a0 hw p2 s _ hc5) rfl (lenOf pd7 rfl) (leb rfl) (leb rfl) (leb rfl) (leb rfl) ?_
      rintro _ _ ⟨rfl, rfl⟩
      show W9 l Z n0 (P9 r) 0 0 22 [.val (.ref 0), .val (.int p1), .val (.int p2), .val (.int p3), .unset] [.int c5] (Hb 0 s)
      rcases ite_e h with ⟨hc6, h⟩ | ⟨hc6, h⟩
      ·
        refine WP.ifN d9_22 (XT.i0_ne_f hc6) ?_
        exact WP.weak (L' := [.unset, .unset, .unset, .unset, .unset]) trivial (ok9_25 l Z a0 hw n0 s _ h)
      ·
        refine WP.ifY (pc' := 27) d9_22 (XT.i0_ne_t hc6) (by decide) rfl ?_
        refine WP.iloadN d9_27 rfl ?_
        refine WP.iconst (1 : Int32) d9_28 rfl ?_
        rcases ite_e h with ⟨hc7, h⟩ | ⟨hc7, h⟩
        ·
          refine WP.icmpY (pc' := 39) d9_29 (XT.ii_lt_t hc7) (by decide) rfl ?_
          exact WP.weak (L' := [.unset, .unset, .unset, .unset, .unset]) trivial (ok9_39 l Z a0 hw n0 s _ h)
        ·
          refine WP.icmpN d9_29 (XT.ii_lt_f hc7) ?_
          refine WP.iloadN d9_32 rfl ?_
          refine WP.sipush (10000 : Int32) d9_33 rfl ?_
          rcases ite_e h with ⟨hc8, h⟩ | ⟨hc8, h⟩
          ·
            refine WP.icmpN d9_36 (XT.ii_le_f hc8) ?_
            exact WP.weak (L' := [.unset, .unset, .unset, .unset, .unset]) trivial (ok9_39 l Z a0 hw n0 s _ h)
          ·
            refine WP.icmpY (pc' := 41) d9_36 (XT.ii_le_t hc8) (by decide) rfl ?_
            refine WP.aloadN d9_41 rfl ?_
            refine WP.iloadN d9_42 rfl ?_
            obtain ⟨c9, hc9, h⟩ := Option.bind_eq_some_iff.mp h
            refine WP.callP (i := 0) (y := y10) (as := [.int p1]) (S := []) d9_43 (hw _ m_111) (hw _ m_113) (hw _ m_4) (hw _ m_112) (hw _ m_114) (hw _ m_5) hy10 rfl (ok10 l Z a0 hw p1 s _ hc9) rfl (lenOf pd10 rfl) (leb rfl) (leb rfl) (leb rfl) (leb rfl) ?_
            rintro _ _ ⟨rfl, rfl⟩
            show W9 l Z n0 (P9 r) 0 0 46 [.val (.ref 0), .val (.int p1), .val (.int p2), .val (.int p3), .unset] [.int c9] (Hb 0 s)
            refine WP.istore (L' := [.val (.ref 0), .val (.int p1), .val (.int p2), .val (.int p3), .val (.int c9)]) d9_46 (leb rfl) rfl ?_
            refine WP.iload d9_48 rfl ?_
            rcases ite_e h with ⟨hc10, h⟩ | ⟨hc10, h⟩
            ·
              refine WP.ifY (pc' := 67) d9_50 (XT.i0_lt_t hc10) (by decide) rfl ?_
              exact WP.weak (L' := [.unset, .unset, .unset, .unset, .unset]) trivial (ok9_67 l Z a0 hw n0 s _ h)
            ·
              refine WP.ifN d9_50 (XT.i0_lt_f hc10) ?_
              refine WP.aloadN d9_53 rfl ?_
              refine WP.getfield (i := 0) (j := 17) d9_54 (hw _ m_41) rfl rfl rfl ?_
              refine WP.iload d9_57 rfl ?_
              obtain ⟨x11, hx11, h⟩ := Option.bind_eq_some_iff.mp h
              refine WP.iaload (i := 14) d9_59 rfl hx11 ?_
              refine WP.iloadN d9_60 rfl ?_
              refine WP.iadd d9_61 ?_
              refine WP.ldc d9_62 (hw _ m_70) ?_
              rcases ite_e h with ⟨hc12, h⟩ | ⟨hc12, h⟩
              ·
                refine WP.icmpN d9_64 (XT.ii_le_f hc12) ?_
                exact WP.weak (L' := [.unset, .unset, .unset, .unset, .unset]) trivial (ok9_67 l Z a0 hw n0 s _ h)
              ·
                refine WP.icmpY (pc' := 69) d9_64 (XT.ii_le_t hc12) (by decide) rfl ?_
                refine WP.aloadN d9_69 rfl ?_
                refine WP.getfield (i := 0) (j := 17) d9_70 (hw _ m_41) rfl rfl rfl ?_
                refine WP.iload d9_73 rfl ?_
                refine WP.dup2 d9_75 rfl rfl ?_
                obtain ⟨x13, hx13, h⟩ := Option.bind_eq_some_iff.mp h
                refine WP.iaload (i := 14) d9_76 rfl hx13 ?_
                refine WP.iloadN d9_77 rfl ?_
                refine WP.iadd d9_78 ?_
                obtain ⟨s14, hs14, h⟩ := Option.bind_eq_some_iff.mp h
                obtain ⟨ys14, gs14, es14⟩ := wrA_e hs14
                refine WP.iastore (i := 14) (xs := gA s 10) (H' := (Hb 0 s14)) d9_79 rfl (leb rfl) gs14 (by subst es14; rfl) ?_
                refine WP.aloadN d9_80 rfl ?_
                refine WP.iloadN d9_81 rfl ?_
                obtain ⟨s15, es15, h⟩ := lt_e h
                refine WP.putI (i := 0) (j := 2) (H' := (Hb 0 s15)) d9_82 (hw _ m_100) (Or.inl (hw _ m_101)) (hw _ m_4) (hlay hw) rfl rfl rfl (leb rfl) (by subst es15; rfl) ?_
                refine WP.iconst (1 : Int32) d9_85 rfl ?_
                cases h
                exact WP.zreturn d9_86 rfl (leb rfl) (leb rfl) ⟨rfl, rfl⟩
theorem d17_0 : dc prog_1_method_8_code 0 (.iload_n 2) 1 := by decide +kernel
theorem d17_1 : dc prog_1_method_8_code 1 (.ifCond .ge 5) 3 := by decide +kernel
theorem d17_4 : dc prog_1_method_8_code 4 (.lconst 0) 1 := by decide +kernel
theorem d17_5 : dc prog_1_method_8_code 5 (.lreturn) 1 := by decide +kernel
theorem d17_6 : dc prog_1_method_8_code 6 (.iload_n 2) 1 := by decide +kernel
theorem d17_7 : dc prog_1_method_8_code 7 (.iconst 3) 1 := by decide +kernel
theorem d17_8 : dc prog_1_method_8_code 8 (.if_icmp .lt 7) 3 := by decide +kernel
theorem d17_11 : dc prog_1_method_8_code 11 (.ldc2_w 104) 3 := by decide +kernel
theorem d17_14 : dc prog_1_method_8_code 14 (.lreturn) 1 := by decide +kernel
theorem d17_15 : dc prog_1_method_8_code 15 (.lconst 0) 1 := by decide +kernel
theorem d17_16 : dc prog_1_method_8_code 16 (.lstore_n 3) 1 := by decide +kernel
theorem d17_17 : dc prog_1_method_8_code 17 (.iconst 0) 1 := by decide +kernel
theorem d17_18 : dc prog_1_method_8_code 18 (.istore 5) 2 := by decide +kernel
theorem d17_20 : dc prog_1_method_8_code 20 (.iload 5) 2 := by decide +kernel
theorem d17_22 : dc prog_1_method_8_code 22 (.iconst 3) 1 := by decide +kernel
theorem d17_23 : dc prog_1_method_8_code 23 (.if_icmp .ge 42) 3 := by decide +kernel
theorem d17_26 : dc prog_1_method_8_code 26 (.iload 5) 2 := by decide +kernel
theorem d17_28 : dc prog_1_method_8_code 28 (.iload_n 2) 1 := by decide +kernel
theorem d17_29 : dc prog_1_method_8_code 29 (.if_icmp .le 6) 3 := by decide +kernel
theorem d17_32 : dc prog_1_method_8_code 32 (.goto 33) 3 := by decide +kernel
theorem d17_35 : dc prog_1_method_8_code 35 (.aload_n 0) 1 := by decide +kernel
theorem d17_36 : dc prog_1_method_8_code 36 (.getfield 16) 3 := by decide +kernel
theorem d17_39 : dc prog_1_method_8_code 39 (.iload_n 1) 1 := by decide +kernel
theorem d17_40 : dc prog_1_method_8_code 40 (.iconst 4) 1 := by decide +kernel
theorem d17_41 : dc prog_1_method_8_code 41 (.imul) 1 := by decide +kernel
theorem d17_42 : dc prog_1_method_8_code 42 (.iload 5) 2 := by decide +kernel
theorem d17_44 : dc prog_1_method_8_code 44 (.iadd) 1 := by decide +kernel
theorem d17_45 : dc prog_1_method_8_code 45 (.iaload) 1 := by decide +kernel
theorem d17_46 : dc prog_1_method_8_code 46 (.i2l) 1 := by decide +kernel
theorem d17_47 : dc prog_1_method_8_code 47 (.lstore 6) 2 := by decide +kernel
theorem d17_49 : dc prog_1_method_8_code 49 (.lload 6) 2 := by decide +kernel
theorem d17_51 : dc prog_1_method_8_code 51 (.lload_n 3) 1 := by decide +kernel
theorem d17_52 : dc prog_1_method_8_code 52 (.lcmp) 1 := by decide +kernel
theorem d17_53 : dc prog_1_method_8_code 53 (.ifCond .le 6) 3 := by decide +kernel
theorem d17_56 : dc prog_1_method_8_code 56 (.lload 6) 2 := by decide +kernel
theorem d17_58 : dc prog_1_method_8_code 58 (.lstore_n 3) 1 := by decide +kernel
theorem d17_59 : dc prog_1_method_8_code 59 (.iinc 5 1) 3 := by decide +kernel
theorem d17_62 : dc prog_1_method_8_code 62 (.goto (-42)) 3 := by decide +kernel
theorem d17_65 : dc prog_1_method_8_code 65 (.lload_n 3) 1 := by decide +kernel
theorem d17_66 : dc prog_1_method_8_code 66 (.lreturn) 1 := by decide +kernel
abbrev y17 : MethodName := ⟨"BillingRun", "effBound", "(II)J"⟩
theorem hy17 : y17.cls ≠ "java/lang/invoke/MethodHandle" ∧ y17.cls ≠ "java/lang/invoke/VarHandle" := by decide
theorem pd17 : parseMethodDescriptor y17.desc = some ⟨[.int, .int], some .long⟩ := by decide +kernel
abbrev R17 : Room := { frames := 0, cells := 0, slots := 0, locals := 0 }
abbrev P17 (s : St) (r : Int64) : Option Value → List OwnC → Prop := fun v H' => v = some (.long r) ∧ H' = (Hb 0 s)
abbrev W17 (l : Launch) (Z : State) (n0 : Nat) (Q : Option Value → List OwnC → Prop) (k n pc : Nat) (L : List Slot) (S : List Value) (H : List OwnC) : Prop := WP l Z CN lay "BillingRun" "effBound" prog_1_method_8_code 8 (some FieldType.long) R17 n0 0 Q k n pc L S H
def f_effBound_59 (k20 : Int32 → Int32 → Int64 → Int32 → St → Option (Int64)) (n : Nat) (v1 : Int32) (v2 : Int32) (v3 : Int64) (v5 : Int32) (s : St) : Option (Int64) :=
  lt (v5 + (1 : Int32)) fun x1 =>
  k20 v1 v2 v3 x1 s
set_option maxRecDepth 65536 in
set_option maxHeartbeats 4000000 in
theorem ok17_59 (l : Launch) (Z : State) (a0 : Array Value) (hw : HW a0 Z) (n0 : Nat) (k20 : Int32 → Int32 → Int64 → Int32 → St → Option (Int64)) (hk20 : ∀ (v1 : Int32) (v2 : Int32) (v3 : Int64) (v5 : Int32) (s : St) (r : Int64), k20 v1 v2 v3 v5 s = some r → W17 l Z n0 (P17 s r) 0 0 20 [.val (.ref 0), .val (.int v1), .val (.int v2), .val (.long v3), .second, .val (.int v5), .unset, .unset] [] (Hb 0 s)) (n : Nat) (v1 : Int32) (v2 : Int32) (v3 : Int64) (v5 : Int32) (s : St) (r : Int64) (h : f_effBound_59 k20 n v1 v2 v3 v5 s = some r) : W17 l Z n0 (P17 s r) 0 0 59 [.val (.ref 0), .val (.int v1), .val (.int v2), .val (.long v3), .second, .val (.int v5), .unset, .unset] [] (Hb 0 s) := by
  unfold f_effBound_59 at h
  obtain ⟨x1, ex1, h⟩ := lt_e h
  refine WP.iinc (L' := [.val (.ref 0), .val (.int v1), .val (.int v2), .val (.long v3), .second, .val (.int x1), .unset, .unset]) (1 : Int32) d17_59 rfl rfl (by subst ex1; rfl) ?_
  refine WP.goto (pc' := 20) d17_62 (by decide) rfl ?_
  exact WP.weak (L' := [.val (.ref 0), .val (.int v1), .val (.int v2), .val (.long v3), .second, .val (.int x1), .unset, .unset]) ⟨rfl, rfl, rfl, rfl, rfl, rfl, trivial⟩ (hk20 v1 v2 v3 x1 s _ h)
def f_effBound_65 (n : Nat) (v3 : Int64) (s : St) : Option (Int64) :=
  some v3
set_option maxRecDepth 65536 in
set_option maxHeartbeats 4000000 in
theorem ok17_65 (l : Launch) (Z : State) (a0 : Array Value) (hw : HW a0 Z) (n0 : Nat) (n : Nat) (v3 : Int64) (s : St) (r : Int64) (h : f_effBound_65 n v3 s = some r) : W17 l Z n0 (P17 s r) 0 0 65 [.unset, .unset, .unset, .val (.long v3), .second, .unset, .unset, .unset] [] (Hb 0 s) := by
  unfold f_effBound_65 at h
  refine WP.lloadN d17_65 rfl ?_
  cases h
  exact WP.lreturn d17_66 rfl (leb rfl) (leb rfl) ⟨rfl, rfl⟩
def g_effBound_20 (k20 : Int32 → Int32 → Int64 → Int32 → St → Option (Int64)) (n : Nat) (v1 : Int32) (v2 : Int32) (v3 : Int64) (v5 : Int32) (s : St) : Option (Int64) :=
  if v5 < (3 : Int32) then
    if v2 < v5 then
      f_effBound_65 n v3 s
    else
      (rd (gA s 2) ((v1 * (4 : Int32)) + v5)).bind fun x3 =>
      lt (x3.toInt64) fun x4 =>
      if v3 < x4 then
        f_effBound_59 k20 n v1 v2 x4 v5 s
      else
        f_effBound_59 k20 n v1 v2 v3 v5 s
  else
    f_effBound_65 n v3 s
set_option maxRecDepth 65536 in
set_option maxHeartbeats 4000000 in
theorem okg17_20 (l : Launch) (Z : State) (a0 : Array Value) (hw : HW a0 Z) (n0 : Nat) (k20 : Int32 → Int32 → Int64 → Int32 → St → Option (Int64)) (hk20 : ∀ (v1 : Int32) (v2 : Int32) (v3 : Int64) (v5 : Int32) (s : St) (r : Int64), k20 v1 v2 v3 v5 s = some r → W17 l Z n0 (P17 s r) 0 0 20 [.val (.ref 0), .val (.int v1), .val (.int v2), .val (.long v3), .second, .val (.int v5), .unset, .unset] [] (Hb 0 s)) (n : Nat) (v1 : Int32) (v2 : Int32) (v3 : Int64) (v5 : Int32) (s : St) (r : Int64) (h : g_effBound_20 k20 n v1 v2 v3 v5 s = some r) : W17 l Z n0 (P17 s r) 0 0 20 [.val (.ref 0), .val (.int v1), .val (.int v2), .val (.long v3), .second, .val (.int v5), .unset, .unset] [] (Hb 0 s) := by
  unfold g_effBound_20 at h
  refine WP.iload d17_20 rfl ?_
  refine WP.iconst (3 : Int32) d17_22 rfl ?_
  rcases ite_e h with ⟨hc1, h⟩ | ⟨hc1, h⟩
  ·
    refine WP.icmpN d17_23 (XT.ii_ge_f hc1) ?_
    refine WP.iload d17_26 rfl ?_
    refine WP.iloadN d17_28 rfl ?_
    rcases ite_e h with ⟨hc2, h⟩ | ⟨hc2, h⟩
    ·
      refine WP.icmpN d17_29 (XT.ii_le_f hc2) ?_
      refine WP.goto (pc' := 65) d17_32 (by decide) rfl ?_
      exact WP.weak (L' := [.unset, .unset, .unset, .val (.long v3), .second, .unset, .unset, .unset]) ⟨rfl, rfl, trivial⟩ (ok17_65 l Z a0 hw n0 n v3 s _ h)
    ·
      refine WP.icmpY (pc' := 35) d17_29 (XT.ii_le_t hc2) (by decide) rfl ?_
      refine WP.aloadN d17_35 rfl ?_
      refine WP.getfield (i := 0) (j := 6) d17_36 (hw _ m_17) rfl rfl rfl ?_
      refine WP.iloadN d17_39 rfl ?_
      refine WP.iconst (4 : Int32) d17_40 rfl ?_
      refine WP.imul d17_41 ?_
      refine WP.iload d17_42 rfl ?_
      refine WP.iadd d17_44 ?_
      obtain ⟨x3, hx3, h⟩ := Option.bind_eq_some_iff.mp h
      refine WP.iaload (i := 3) d17_45 rfl hx3 ?_
      refine WP.i2l d17_46 ?_
      obtain ⟨x4, ex4, h⟩ := lt_e h
      refine WP.lstore (L' := [.val (.ref 0), .val (.int v1), .val (.int v2), .val (.long v3), .second, .val (.int v5), .val (.long x4), .second]) d17_47 (leb rfl) (by subst ex4; rfl) ?_
      refine WP.lload d17_49 rfl ?_
      refine WP.lloadN d17_51 rfl ?_
      refine WP.lcmp d17_52 ?_
      rcases ite_e h with ⟨hc5, h⟩ | ⟨hc5, h⟩
      ·
        refine WP.ifN d17_53 (XT.ll_le_f hc5) ?_
        refine WP.lload d17_56 rfl ?_
        refine WP.lstoreN (L' := [.val (.ref 0), .val (.int v1), .val (.int v2), .val (.long x4), .second, .val (.int v5), .val (.long x4), .second]) d17_58 (leb rfl) rfl ?_
        exact WP.weak (L' := [.val (.ref 0), .val (.int v1), .val (.int v2), .val (.long x4), .second, .val (.int v5), .unset, .unset]) ⟨rfl, rfl, rfl, rfl, rfl, rfl, trivial⟩ (ok17_59 l Z a0 hw n0 _ hk20 n v1 v2 x4 v5 s _ h)
      ·
        refine WP.ifY (pc' := 59) d17_53 (XT.ll_le_t hc5) (by decide) rfl ?_
        exact WP.weak (L' := [.val (.ref 0), .val (.int v1), .val (.int v2), .val (.long v3), .second, .val (.int v5), .unset, .unset]) ⟨rfl, rfl, rfl, rfl, rfl, rfl, trivial⟩ (ok17_59 l Z a0 hw n0 _ hk20 n v1 v2 v3 v5 s _ h)
  ·
    refine WP.icmpY (pc' := 65) d17_23 (XT.ii_ge_t hc1) (by decide) rfl ?_
    exact WP.weak (L' := [.unset, .unset, .unset, .val (.long v3), .second, .unset, .unset, .unset]) ⟨rfl, rfl, trivial⟩ (ok17_65 l Z a0 hw n0 n v3 s _ h)
def f_effBound_20 : Nat → Int32 → Int32 → Int64 → Int32 → St → Option (Int64)
  | 0 => fun _ _ _ _ _ => none
  | n + 1 => g_effBound_20 (f_effBound_20 n) n
theorem ok17_20 (l : Launch) (Z : State) (a0 : Array Value) (hw : HW a0 Z) (n0 : Nat) : ∀ (n : Nat) (v1 : Int32) (v2 : Int32) (v3 : Int64) (v5 : Int32) (s : St) (r : Int64), f_effBound_20 n v1 v2 v3 v5 s = some r → W17 l Z n0 (P17 s r) 0 0 20 [.val (.ref 0), .val (.int v1), .val (.int v2), .val (.long v3), .second, .val (.int v5), .unset, .unset] [] (Hb 0 s)
  | 0, v1, v2, v3, v5, s, r, h => nomatch (show none = some r from h)
  | n + 1, v1, v2, v3, v5, s, r, h => okg17_20 l Z a0 hw n0 _ (ok17_20 l Z a0 hw n0 n) n v1 v2 v3 v5 s r h
def f_effBound (n : Nat) (p1 : Int32) (p2 : Int32) (s : St) : Option (Int64) :=
  if p2 < 0 then
    some (0 : Int64)
  else
    if p2 < (3 : Int32) then
      f_effBound_20 n p1 p2 (0 : Int64) (0 : Int32) s
    else
      some (1000000 : Int64)
set_option maxRecDepth 65536 in
set_option maxHeartbeats 4000000 in
theorem ok17 (l : Launch) (Z : State) (a0 : Array Value) (hw : HW a0 Z) (n : Nat) (p1 : Int32) (p2 : Int32) (s : St) (r : Int64) (h : f_effBound n p1 p2 s = some r) : CS l Z CN lay y17 prog_1_method_8_code 8 (some FieldType.long) R17 0 [.ref 0, .int p1, .int p2] (Hb 0 s) (P17 s r) := by
  refine CS.of_wp pn_cls (leb rfl) fun n0 => ?_
  show W17 l Z n0 (P17 s r) 0 0 0 [.val (.ref 0), .val (.int p1), .val (.int p2), .unset, .unset, .unset, .unset, .unset] [] (Hb 0 s)
  unfold f_effBound at h
  refine WP.iloadN d17_0 rfl ?_
  rcases ite_e h with ⟨hc1, h⟩ | ⟨hc1, h⟩
  ·
    refine WP.ifN d17_1 (XT.i0_ge_f hc1) ?_
    refine WP.lconst (0 : Int64) d17_4 rfl ?_
    cases h
    exact WP.lreturn d17_5 rfl (leb rfl) (leb rfl) ⟨rfl, rfl⟩
  ·
    refine WP.ifY (pc' := 6) d17_1 (XT.i0_ge_t hc1) (by decide) rfl ?_
    refine WP.iloadN d17_6 rfl ?_
    refine WP.iconst (3 : Int32) d17_7 rfl ?_
    rcases ite_e h with ⟨hc2, h⟩ | ⟨hc2, h⟩
    ·
      refine WP.icmpY (pc' := 15) d17_8 (XT.ii_lt_t hc2) (by decide) rfl ?_
      refine WP.lconst (0 : Int64) d17_15 rfl ?_
      refine WP.lstoreN (L' := [.val (.ref 0), .val (.int p1), .val (.int p2), .val (.long (0 : Int64)), .second, .unset, .unset, .unset]) d17_16 (leb rfl) rfl ?_
      refine WP.iconst (0 : Int32) d17_17 rfl ?_
      refine WP.istore (L' := [.val (.ref 0), .val (.int p1), .val (.int p2), .val (.long (0 : Int64)), .second, .val (.int (0 : Int32)), .unset, .unset]) d17_18 (leb rfl) rfl ?_
      exact WP.weak (L' := [.val (.ref 0), .val (.int p1), .val (.int p2), .val (.long (0 : Int64)), .second, .val (.int (0 : Int32)), .unset, .unset]) ⟨rfl, rfl, rfl, rfl, rfl, rfl, trivial⟩ (ok17_20 l Z a0 hw n0 n p1 p2 (0 : Int64) (0 : Int32) s _ h)
    ·
      refine WP.icmpN d17_8 (XT.ii_lt_f hc2) ?_
      refine WP.ldc2 d17_11 (hw _ m_135) ?_
      cases h
      exact WP.lreturn d17_14 rfl (leb rfl) (leb rfl) ⟨rfl, rfl⟩
theorem d16_0 : dc prog_1_method_9_code 0 (.lconst 0) 1 := by decide +kernel
theorem d16_1 : dc prog_1_method_9_code 1 (.lstore 4) 2 := by decide +kernel
theorem d16_3 : dc prog_1_method_9_code 3 (.lconst 0) 1 := by decide +kernel
theorem d16_4 : dc prog_1_method_9_code 4 (.lstore 6) 2 := by decide +kernel
theorem d16_6 : dc prog_1_method_9_code 6 (.iconst 0) 1 := by decide +kernel
theorem d16_7 : dc prog_1_method_9_code 7 (.istore 8) 2 := by decide +kernel
theorem d16_9 : dc prog_1_method_9_code 9 (.iload 8) 2 := by decide +kernel
theorem d16_11 : dc prog_1_method_9_code 11 (.iconst 4) 1 := by decide +kernel
theorem d16_12 : dc prog_1_method_9_code 12 (.if_icmp .ge 60) 3 := by decide +kernel
theorem d16_15 : dc prog_1_method_9_code 15 (.aload_n 0) 1 := by decide +kernel
theorem d16_16 : dc prog_1_method_9_code 16 (.iload_n 1) 1 := by decide +kernel
theorem d16_17 : dc prog_1_method_9_code 17 (.iload 8) 2 := by decide +kernel
theorem d16_19 : dc prog_1_method_9_code 19 (.invokevirtual 106) 3 := by decide +kernel
theorem d16_22 : dc prog_1_method_9_code 22 (.lstore 9) 2 := by decide +kernel
theorem d16_24 : dc prog_1_method_9_code 24 (.lload_n 2) 1 := by decide +kernel
theorem d16_25 : dc prog_1_method_9_code 25 (.lload 9) 2 := by decide +kernel
theorem d16_27 : dc prog_1_method_9_code 27 (.lcmp) 1 := by decide +kernel
theorem d16_28 : dc prog_1_method_9_code 28 (.ifCond .ge 7) 3 := by decide +kernel
theorem d16_31 : dc prog_1_method_9_code 31 (.lload_n 2) 1 := by decide +kernel
theorem d16_32 : dc prog_1_method_9_code 32 (.goto 5) 3 := by decide +kernel
theorem d16_35 : dc prog_1_method_9_code 35 (.lload 9) 2 := by decide +kernel
theorem d16_37 : dc prog_1_method_9_code 37 (.lstore 11) 2 := by decide +kernel
theorem d16_39 : dc prog_1_method_9_code 39 (.lload 4) 2 := by decide +kernel
theorem d16_41 : dc prog_1_method_9_code 41 (.lload 11) 2 := by decide +kernel
theorem d16_43 : dc prog_1_method_9_code 43 (.lload 6) 2 := by decide +kernel
theorem d16_45 : dc prog_1_method_9_code 45 (.lsub) 1 := by decide +kernel
theorem d16_46 : dc prog_1_method_9_code 46 (.aload_n 0) 1 := by decide +kernel
theorem d16_47 : dc prog_1_method_9_code 47 (.getfield 19) 3 := by decide +kernel
theorem d16_50 : dc prog_1_method_9_code 50 (.iload_n 1) 1 := by decide +kernel
theorem d16_51 : dc prog_1_method_9_code 51 (.iconst 4) 1 := by decide +kernel
theorem d16_52 : dc prog_1_method_9_code 52 (.imul) 1 := by decide +kernel
theorem d16_53 : dc prog_1_method_9_code 53 (.iload 8) 2 := by decide +kernel
theorem d16_55 : dc prog_1_method_9_code 55 (.iadd) 1 := by decide +kernel
theorem d16_56 : dc prog_1_method_9_code 56 (.iaload) 1 := by decide +kernel
theorem d16_57 : dc prog_1_method_9_code 57 (.i2l) 1 := by decide +kernel
theorem d16_58 : dc prog_1_method_9_code 58 (.lmul) 1 := by decide +kernel
theorem d16_59 : dc prog_1_method_9_code 59 (.ladd) 1 := by decide +kernel
theorem d16_60 : dc prog_1_method_9_code 60 (.lstore 4) 2 := by decide +kernel
theorem d16_62 : dc prog_1_method_9_code 62 (.lload 11) 2 := by decide +kernel
theorem d16_64 : dc prog_1_method_9_code 64 (.lstore 6) 2 := by decide +kernel
theorem d16_66 : dc prog_1_method_9_code 66 (.iinc 8 1) 3 := by decide +kernel
theorem d16_69 : dc prog_1_method_9_code 69 (.goto (-60)) 3 := by decide +kernel
theorem d16_72 : dc prog_1_method_9_code 72 (.lload 4) 2 := by decide +kernel
theorem d16_74 : dc prog_1_method_9_code 74 (.lreturn) 1 := by decide +kernel
abbrev y16 : MethodName := ⟨"BillingRun", "chargeGraduated", "(IJ)J"⟩
theorem hy16 : y16.cls ≠ "java/lang/invoke/MethodHandle" ∧ y16.cls ≠ "java/lang/invoke/VarHandle" := by decide
theorem pd16 : parseMethodDescriptor y16.desc = some ⟨[.int, .long], some .long⟩ := by decide +kernel
abbrev R16 : Room := { frames := 1, cells := 0, slots := 0, locals := 19 }
abbrev P16 (s : St) (r : Int64) : Option Value → List OwnC → Prop := fun v H' => v = some (.long r) ∧ H' = (Hb 0 s)
abbrev W16 (l : Launch) (Z : State) (n0 : Nat) (Q : Option Value → List OwnC → Prop) (k n pc : Nat) (L : List Slot) (S : List Value) (H : List OwnC) : Prop := WP l Z CN lay "BillingRun" "chargeGraduated" prog_1_method_9_code 13 (some FieldType.long) R16 n0 0 Q k n pc L S H
def f_chargeGraduated_37 (k9 : Int32 → Int64 → Int64 → Int64 → Int32 → St → Option (Int64)) (n : Nat) (v1 : Int32) (v2 : Int64) (v4 : Int64) (v6 : Int64) (v8 : Int32) (t0 : Int64) (s : St) : Option (Int64) :=
  (rd (gA s 3) ((v1 * (4 : Int32)) + v8)).bind fun x1 =>
  lt (v4 + ((t0 - v6) * x1.toInt64)) fun x2 =>
  lt (v8 + (1 : Int32)) fun x3 =>
  k9 v1 v2 x2 t0 x3 s
set_option maxRecDepth 65536 in
set_option maxHeartbeats 4000000 in
theorem ok16_37 (l : Launch) (Z : State) (a0 : Array Value) (hw : HW a0 Z) (n0 : Nat) (k9 : Int32 → Int64 → Int64 → Int64 → Int32 → St → Option (Int64)) (hk9 : ∀ (v1 : Int32) (v2 : Int64) (v4 : Int64) (v6 : Int64) (v8 : Int32) (s : St) (r : Int64), k9 v1 v2 v4 v6 v8 s = some r → W16 l Z n0 (P16 s r) 0 0 9 [.val (.ref 0), .val (.int v1), .val (.long v2), .second, .val (.long v4), .second, .val (.long v6), .second, .val (.int v8), .unset, .unset, .unset, .unset] [] (Hb 0 s)) (n : Nat) (v1 : Int32) (v2 : Int64) (v4 : Int64) (v6 : Int64) (v8 : Int32) (t0 : Int64) (s : St) (r : Int64) (h : f_chargeGraduated_37 k9 n v1 v2 v4 v6 v8 t0 s = some r) : W16 l Z n0 (P16 s r) 0 0 37 [.val (.ref 0), .val (.int v1), .val (.long v2), .second, .val (.long v4), .second, .val (.long v6), .second, .val (.int v8), .unset, .unset, .unset, .unset] [.long t0] (Hb 0 s) := by
  unfold f_chargeGraduated_37 at h
  refine WP.lstore (L' := [.val (.ref 0), .val (.int v1), .val (.long v2), .second, .val (.long v4), .second, .val (.long v6), .second, .val (.int v8), .unset, .unset, .val (.long t0), .second]) d16_37 (leb rfl) rfl ?_
  refine WP.lload d16_39 rfl ?_
  refine WP.lload d16_41 rfl ?_
  refine WP.lload d16_43 rfl ?_
  refine WP.lsub d16_45 ?_
  refine WP.aloadN d16_46 rfl ?_
  refine WP.getfield (i := 0) (j := 7) d16_47 (hw _ m_19) rfl rfl rfl ?_
  refine WP.iloadN d16_50 rfl ?_
  refine WP.iconst (4 : Int32) d16_51 rfl ?_
  refine WP.imul d16_52 ?_
  refine WP.iload d16_53 rfl ?_
  refine WP.iadd d16_55 ?_
  obtain ⟨x1, hx1, h⟩ := Option.bind_eq_some_iff.mp h
  refine WP.iaload (i := 4) d16_56 rfl hx1 ?_
  refine WP.i2l d16_57 ?_
  refine WP.lmul d16_58 ?_
  refine WP.ladd d16_59 ?_
  obtain ⟨x2, ex2, h⟩ := lt_e h
  refine WP.lstore (L' := [.val (.ref 0), .val (.int v1), .val (.long v2), .second, .val (.long x2), .second, .val (.long v6), .second, .val (.int v8), .unset, .unset, .val (.long t0), .second]) d16_60 (leb rfl) (by subst ex2; rfl) ?_
  refine WP.lload d16_62 rfl ?_
  refine WP.lstore (L' := [.val (.ref 0), .val (.int v1), .val (.long v2), .second, .val (.long x2), .second, .val (.long t0), .second, .val (.int v8), .unset, .unset, .val (.long t0), .second]) d16_64 (leb rfl) rfl ?_
  obtain ⟨x3, ex3, h⟩ := lt_e h
  refine WP.iinc (L' := [.val (.ref 0), .val (.int v1), .val (.long v2), .second, .val (.long x2), .second, .val (.long t0), .second, .val (.int x3), .unset, .unset, .val (.long t0), .second]) (1 : Int32) d16_66 rfl rfl (by subst ex3; rfl) ?_
  refine WP.goto (pc' := 9) d16_69 (by decide) rfl ?_
  exact WP.weak (L' := [.val (.ref 0), .val (.int v1), .val (.long v2), .second, .val (.long x2), .second, .val (.long t0), .second, .val (.int x3), .unset, .unset, .unset, .unset]) ⟨rfl, rfl, rfl, rfl, rfl, rfl, rfl, rfl, rfl, trivial⟩ (hk9 v1 v2 x2 t0 x3 s _ h)
def g_chargeGraduated_9 (k9 : Int32 → Int64 → Int64 → Int64 → Int32 → St → Option (Int64)) (n : Nat) (v1 : Int32) (v2 : Int64) (v4 : Int64) (v6 : Int64) (v8 : Int32) (s : St) : Option (Int64) :=
  if v8 < (4 : Int32) then
    (f_effBound n v1 v8 s).bind fun c2 =>
    if v2 < c2 then
      f_chargeGraduated_37 k9 n v1 v2 v4 v6 v8 v2 s
    else
      f_chargeGraduated_37 k9 n v1 v2 v4 v6 v8 c2 s
  else
    some v4
set_option maxRecDepth 65536 in
set_option maxHeartbeats 4000000 in
theorem okg16_9 (l : Launch) (Z : State) (a0 : Array Value) (hw : HW a0 Z) (n0 : Nat) (k9 : Int32 → Int64 → Int64 → Int64 → Int32 → St → Option (Int64)) (hk9 : ∀ (v1 : Int32) (v2 : Int64) (v4 : Int64) (v6 : Int64) (v8 : Int32) (s : St) (r : Int64), k9 v1 v2 v4 v6 v8 s = some r → W16 l Z n0 (P16 s r) 0 0 9 [.val (.ref 0), .val (.int v1), .val (.long v2), .second, .val (.long v4), .second, .val (.long v6), .second, .val (.int v8), .unset, .unset, .unset, .unset] [] (Hb 0 s)) (n : Nat) (v1 : Int32) (v2 : Int64) (v4 : Int64) (v6 : Int64) (v8 : Int32) (s : St) (r : Int64) (h : g_chargeGraduated_9 k9 n v1 v2 v4 v6 v8 s = some r) : W16 l Z n0 (P16 s r) 0 0 9 [.val (.ref 0), .val (.int v1), .val (.long v2), .second, .val (.long v4), .second, .val (.long v6), .second, .val (.int v8), .unset, .unset, .unset, .unset] [] (Hb 0 s) := by
  unfold g_chargeGraduated_9 at h
  refine WP.iload d16_9 rfl ?_
  refine WP.iconst (4 : Int32) d16_11 rfl ?_
  rcases ite_e h with ⟨hc1, h⟩ | ⟨hc1, h⟩
  ·
    refine WP.icmpN d16_12 (XT.ii_ge_f hc1) ?_
    refine WP.aloadN d16_15 rfl ?_
    refine WP.iloadN d16_16 rfl ?_
    refine WP.iload d16_17 rfl ?_
    obtain ⟨c2, hc2, h⟩ := Option.bind_eq_some_iff.mp h
    refine WP.callP (i := 0) (y := y17) (as := [.int v1, .int v8]) (S := []) d16_19 (hw _ m_144) (hw _ m_146) (hw _ m_4) (hw _ m_145) (hw _ m_147) (hw _ m_5) hy17 rfl (ok17 l Z a0 hw n v1 v8 s _ hc2) rfl (lenOf pd17 rfl) (leb rfl) (leb rfl) (leb rfl) (leb rfl) ?_
    rintro _ _ ⟨rfl, rfl⟩
    show W16 l Z n0 (P16 s r) 0 0 22 [.val (.ref 0), .val (.int v1), .val (.long v2), .second, .val (.long v4), .second, .val (.long v6), .second, .val (.int v8), .unset, .unset, .unset, .unset] [.long c2] (Hb 0 s)
    refine WP.lstore (L' := [.val (.ref 0), .val (.int v1), .val (.long v2), .second, .val (.long v4), .second, .val (.long v6), .second, .val (.int v8), .val (.long c2), .second, .unset, .unset]) d16_22 (leb rfl) rfl ?_
    refine WP.lloadN d16_24 rfl ?_
    refine WP.lload d16_25 rfl ?_
    refine WP.lcmp d16_27 ?_
    rcases ite_e h with ⟨hc3, h⟩ | ⟨hc3, h⟩
    ·
      refine WP.ifN d16_28 (XT.ll_ge_f hc3) ?_
      refine WP.lloadN d16_31 rfl ?_
      refine WP.goto (pc' := 37) d16_32 (by decide) rfl ?_
      exact WP.weak (L' := [.val (.ref 0), .val (.int v1), .val (.long v2), .second, .val (.long v4), .second, .val (.long v6), .second, .val (.int v8), .unset, .unset, .unset, .unset]) ⟨rfl, rfl, rfl, rfl, rfl, rfl, rfl, rfl, rfl, trivial⟩ (ok16_37 l Z a0 hw n0 _ hk9 n v1 v2 v4 v6 v8 v2 s _ h)
    ·
      refine WP.ifY (pc' := 35) d16_28 (XT.ll_ge_t hc3) (by decide) rfl ?_
      refine WP.lload d16_35 rfl ?_
      exact WP.weak (L' := [.val (.ref 0), .val (.int v1), .val (.long v2), .second, .val (.long v4), .second, .val (.long v6), .second, .val (.int v8), .unset, .unset, .unset, .unset]) ⟨rfl, rfl, rfl, rfl, rfl, rfl, rfl, rfl, rfl, trivial⟩ (ok16_37 l Z a0 hw n0 _ hk9 n v1 v2 v4 v6 v8 c2 s _ h)
  ·
    refine WP.icmpY (pc' := 72) d16_12 (XT.ii_ge_t hc1) (by decide) rfl ?_
    refine WP.lload d16_72 rfl ?_
    cases h
    exact WP.lreturn d16_74 rfl (leb rfl) (leb rfl) ⟨rfl, rfl⟩
def f_chargeGraduated_9 : Nat → Int32 → Int64 → Int64 → Int64 → Int32 → St → Option (Int64)
  | 0 => fun _ _ _ _ _ _ => none
  | n + 1 => g_chargeGraduated_9 (f_chargeGraduated_9 n) n
theorem ok16_9 (l : Launch) (Z : State) (a0 : Array Value) (hw : HW a0 Z) (n0 : Nat) : ∀ (n : Nat) (v1 : Int32) (v2 : Int64) (v4 : Int64) (v6 : Int64) (v8 : Int32) (s : St) (r : Int64), f_chargeGraduated_9 n v1 v2 v4 v6 v8 s = some r → W16 l Z n0 (P16 s r) 0 0 9 [.val (.ref 0), .val (.int v1), .val (.long v2), .second, .val (.long v4), .second, .val (.long v6), .second, .val (.int v8), .unset, .unset, .unset, .unset] [] (Hb 0 s)
  | 0, v1, v2, v4, v6, v8, s, r, h => nomatch (show none = some r from h)
  | n + 1, v1, v2, v4, v6, v8, s, r, h => okg16_9 l Z a0 hw n0 _ (ok16_9 l Z a0 hw n0 n) n v1 v2 v4 v6 v8 s r h
def f_chargeGraduated (n : Nat) (p1 : Int32) (p2 : Int64) (s : St) : Option (Int64) :=
  f_chargeGraduated_9 n p1 p2 (0 : Int64) (0 : Int64) (0 : Int32) s
set_option maxRecDepth 65536 in
set_option maxHeartbeats 4000000 in
theorem ok16 (l : Launch) (Z : State) (a0 : Array Value) (hw : HW a0 Z) (n : Nat) (p1 : Int32) (p2 : Int64) (s : St) (r : Int64) (h : f_chargeGraduated n p1 p2 s = some r) : CS l Z CN lay y16 prog_1_method_9_code 13 (some FieldType.long) R16 0 [.ref 0, .int p1, .long p2] (Hb 0 s) (P16 s r) := by
  refine CS.of_wp pn_cls (leb rfl) fun n0 => ?_
  show W16 l Z n0 (P16 s r) 0 0 0 [.val (.ref 0), .val (.int p1), .val (.long p2), .second, .unset, .unset, .unset, .unset, .unset, .unset, .unset, .unset, .unset] [] (Hb 0 s)
  unfold f_chargeGraduated at h
  refine WP.lconst (0 : Int64) d16_0 rfl ?_
  refine WP.lstore (L' := [.val (.ref 0), .val (.int p1), .val (.long p2), .second, .val (.long (0 : Int64)), .second, .unset, .unset, .unset, .unset, .unset, .unset, .unset]) d16_1 (leb rfl) rfl ?_
  refine WP.lconst (0 : Int64) d16_3 rfl ?_
  refine WP.lstore (L' := [.val (.ref 0), .val (.int p1), .val (.long p2), .second, .val (.long (0 : Int64)), .second, .val (.long (0 : Int64)), .second, .unset, .unset, .unset, .unset, .unset]) d16_4 (leb rfl) rfl ?_
  refine WP.iconst (0 : Int32) d16_6 rfl ?_
  refine WP.istore (L' := [.val (.ref 0), .val (.int p1), .val (.long p2), .second, .val (.long (0 : Int64)), .second, .val (.long (0 : Int64)), .second, .val (.int (0 : Int32)), .unset, .unset, .unset, .unset]) d16_7 (leb rfl) rfl ?_
  exact WP.weak (L' := [.val (.ref 0), .val (.int p1), .val (.long p2), .second, .val (.long (0 : Int64)), .second, .val (.long (0 : Int64)), .second, .val (.int (0 : Int32)), .unset, .unset, .unset, .unset]) ⟨rfl, rfl, rfl, rfl, rfl, rfl, rfl, rfl, rfl, trivial⟩ (ok16_9 l Z a0 hw n0 n p1 p2 (0 : Int64) (0 : Int64) (0 : Int32) s _ h)
theorem d15_0 : dc prog_1_method_11_code 0 (.aload_n 0) 1 := by decide +kernel
theorem d15_1 : dc prog_1_method_11_code 1 (.getfield 13) 3 := by decide +kernel
theorem d15_4 : dc prog_1_method_11_code 4 (.iload_n 1) 1 := by decide +kernel
theorem d15_5 : dc prog_1_method_11_code 5 (.iaload) 1 := by decide +kernel
theorem d15_6 : dc prog_1_method_11_code 6 (.iconst 1) 1 := by decide +kernel
theorem d15_7 : dc prog_1_method_11_code 7 (.if_icmp .ne 10) 3 := by decide +kernel
theorem d15_10 : dc prog_1_method_11_code 10 (.aload_n 0) 1 := by decide +kernel
theorem d15_11 : dc prog_1_method_11_code 11 (.iload_n 1) 1 := by decide +kernel
theorem d15_12 : dc prog_1_method_11_code 12 (.lload_n 2) 1 := by decide +kernel
theorem d15_13 : dc prog_1_method_11_code 13 (.invokevirtual 110) 3 := by decide +kernel
theorem d15_17 : dc prog_1_method_11_code 17 (.aload_n 0) 1 := by decide +kernel
theorem d15_18 : dc prog_1_method_11_code 18 (.iload_n 1) 1 := by decide +kernel
theorem d15_19 : dc prog_1_method_11_code 19 (.lload_n 2) 1 := by decide +kernel
theorem d15_20 : dc prog_1_method_11_code 20 (.invokevirtual 114) 3 := by decide +kernel
theorem d15_23 : dc prog_1_method_11_code 23 (.lreturn) 1 := by decide +kernel
abbrev y15 : MethodName := ⟨"BillingRun", "charge", "(IJ)J"⟩
theorem hy15 : y15.cls ≠ "java/lang/invoke/MethodHandle" ∧ y15.cls ≠ "java/lang/invoke/VarHandle" := by decide
theorem pd15 : parseMethodDescriptor y15.desc = some ⟨[.int, .long], some .long⟩ := by decide +kernel
abbrev R15 : Room := { frames := 2, cells := 0, slots := 0, locals := 43 }
abbrev P15 (s : St) (r : Int64) : Option Value → List OwnC → Prop := fun v H' => v = some (.long r) ∧ H' = (Hb 0 s)
abbrev W15 (l : Launch) (Z : State) (n0 : Nat) (Q : Option Value → List OwnC → Prop) (k n pc : Nat) (L : List Slot) (S : List Value) (H : List OwnC) : Prop := WP l Z CN lay "BillingRun" "charge" prog_1_method_11_code 4 (some FieldType.long) R15 n0 0 Q k n pc L S H
def f_charge (n : Nat) (p1 : Int32) (p2 : Int64) (s : St) : Option (Int64) :=
  (rd (gA s 1) p1).bind fun x1 =>
  if x1 = (1 : Int32) then
    none
  else
    (f_chargeGraduated n p1 p2 s).bind fun c3 =>
    some c3
set_option maxRecDepth 65536 in
set_option maxHeartbeats 4000000 in
theorem ok15 (l : Launch) (Z : State) (a0 : Array Value) (hw : HW a0 Z) (n : Nat) (p1 : Int32) (p2 : Int64) (s : St) (r : Int64) (h : f_charge n p1 p2 s = some r) : CS l Z CN lay y15 prog_1_method_11_code 4 (some FieldType.long) R15 0 [.ref 0, .int p1, .long p2] (Hb 0 s) (P15 s r) := by
  refine CS.of_wp pn_cls (leb rfl) fun n0 => ?_
  show W15 l Z n0 (P15 s r) 0 0 0 [.val (.ref 0), .val (.int p1), .val (.long p2), .second] [] (Hb 0 s)
  unfold f_charge at h
  refine WP.aloadN d15_0 rfl ?_
  refine WP.getfield (i := 0) (j := 5) d15_1 (hw _ m_15) rfl rfl rfl ?_
  refine WP.iloadN d15_4 rfl ?_
  obtain ⟨x1, hx1, h⟩ := Option.bind_eq_some_iff.mp h
  refine WP.iaload (i := 2) d15_5 rfl hx1 ?_
  refine WP.iconst (1 : Int32) d15_6 rfl ?_
  rcases ite_e h with ⟨hc2, h⟩ | ⟨hc2, h⟩
  ·
    refine WP.icmpN d15_7 (XT.ii_ne_f hc2) ?_
    refine WP.aloadN d15_10 rfl ?_
    refine WP.iloadN d15_11 rfl ?_
    refine WP.lloadN d15_12 rfl ?_
    cases h
  ·
    refine WP.icmpY (pc' := 17) d15_7 (XT.ii_ne_t hc2) (by decide) rfl ?_
    refine WP.aloadN d15_17 rfl ?_
    refine WP.iloadN d15_18 rfl ?_
    refine WP.lloadN d15_19 rfl ?_
    obtain ⟨c3, hc3, h⟩ := Option.bind_eq_some_iff.mp h
    refine WP.callP (i := 0) (y := y16) (as := [.int p1, .long p2]) (S := []) d15_20 (hw _ m_140) (hw _ m_142) (hw _ m_4) (hw _ m_141) (hw _ m_143) (hw _ m_5) hy16 rfl (ok16 l Z a0 hw n p1 p2 s _ hc3) rfl (lenOf pd16 rfl) (leb rfl) (leb rfl) (leb rfl) (leb rfl) ?_
    rintro _ _ ⟨rfl, rfl⟩
    show W15 l Z n0 (P15 s r) 0 0 23 [.val (.ref 0), .val (.int p1), .val (.long p2), .second] [.long c3] (Hb 0 s)
    cases h
    exact WP.lreturn d15_23 rfl (leb rfl) (leb rfl) ⟨rfl, rfl⟩
theorem d13_0 : dc prog_1_method_21_code 0 (.iload_n 1) 1 := by decide +kernel
theorem d13_1 : dc prog_1_method_21_code 1 (.bipush 8) 2 := by decide +kernel
theorem d13_3 : dc prog_1_method_21_code 3 (.imul) 1 := by decide +kernel
theorem d13_4 : dc prog_1_method_21_code 4 (.istore_n 3) 1 := by decide +kernel
theorem d13_5 : dc prog_1_method_21_code 5 (.lconst 0) 1 := by decide +kernel
theorem d13_6 : dc prog_1_method_21_code 6 (.lstore 4) 2 := by decide +kernel
theorem d13_8 : dc prog_1_method_21_code 8 (.iconst 0) 1 := by decide +kernel
theorem d13_9 : dc prog_1_method_21_code 9 (.istore 6) 2 := by decide +kernel
theorem d13_11 : dc prog_1_method_21_code 11 (.iload 6) 2 := by decide +kernel
theorem d13_13 : dc prog_1_method_21_code 13 (.iconst 4) 1 := by decide +kernel
theorem d13_14 : dc prog_1_method_21_code 14 (.if_icmp .ge 162) 3 := by decide +kernel
theorem d13_17 : dc prog_1_method_21_code 17 (.iload 6) 2 := by decide +kernel
theorem d13_19 : dc prog_1_method_21_code 19 (.iload_n 2) 1 := by decide +kernel
theorem d13_20 : dc prog_1_method_21_code 20 (.if_icmp .lt 6) 3 := by decide +kernel
theorem d13_23 : dc prog_1_method_21_code 23 (.goto 153) 3 := by decide +kernel
theorem d13_26 : dc prog_1_method_21_code 26 (.iload_n 1) 1 := by decide +kernel
theorem d13_27 : dc prog_1_method_21_code 27 (.iconst 4) 1 := by decide +kernel
theorem d13_28 : dc prog_1_method_21_code 28 (.imul) 1 := by decide +kernel
theorem d13_29 : dc prog_1_method_21_code 29 (.iload 6) 2 := by decide +kernel
theorem d13_31 : dc prog_1_method_21_code 31 (.iadd) 1 := by decide +kernel
theorem d13_32 : dc prog_1_method_21_code 32 (.istore 7) 2 := by decide +kernel
theorem d13_34 : dc prog_1_method_21_code 34 (.aload_n 0) 1 := by decide +kernel
theorem d13_35 : dc prog_1_method_21_code 35 (.getfield 48) 3 := by decide +kernel
theorem d13_38 : dc prog_1_method_21_code 38 (.iload 7) 2 := by decide +kernel
theorem d13_40 : dc prog_1_method_21_code 40 (.iaload) 1 := by decide +kernel
theorem d13_41 : dc prog_1_method_21_code 41 (.istore 8) 2 := by decide +kernel
theorem d13_43 : dc prog_1_method_21_code 43 (.aload_n 0) 1 := by decide +kernel
theorem d13_44 : dc prog_1_method_21_code 44 (.getfield 45) 3 := by decide +kernel
theorem d13_47 : dc prog_1_method_21_code 47 (.iload 7) 2 := by decide +kernel
theorem d13_49 : dc prog_1_method_21_code 49 (.iaload) 1 := by decide +kernel
theorem d13_50 : dc prog_1_method_21_code 50 (.ifCond .ge 11) 3 := by decide +kernel
theorem d13_53 : dc prog_1_method_21_code 53 (.aload_n 0) 1 := by decide +kernel
theorem d13_54 : dc prog_1_method_21_code 54 (.getfield 88) 3 := by decide +kernel
theorem d13_57 : dc prog_1_method_21_code 57 (.i2l) 1 := by decide +kernel
theorem d13_58 : dc prog_1_method_21_code 58 (.goto 11) 3 := by decide +kernel
theorem d13_61 : dc prog_1_method_21_code 61 (.aload_n 0) 1 := by decide +kernel
theorem d13_62 : dc prog_1_method_21_code 62 (.getfield 45) 3 := by decide +kernel
theorem d13_65 : dc prog_1_method_21_code 65 (.iload 7) 2 := by decide +kernel
theorem d13_67 : dc prog_1_method_21_code 67 (.iaload) 1 := by decide +kernel
theorem d13_68 : dc prog_1_method_21_code 68 (.i2l) 1 := by decide +kernel
theorem d13_69 : dc prog_1_method_21_code 69 (.lstore 9) 2 := by decide +kernel
theorem d13_71 : dc prog_1_method_21_code 71 (.aload_n 0) 1 := by decide +kernel
theorem d13_72 : dc prog_1_method_21_code 72 (.getfield 7) 3 := by decide +kernel
theorem d13_75 : dc prog_1_method_21_code 75 (.iload 8) 2 := by decide +kernel
theorem d13_77 : dc prog_1_method_21_code 77 (.iaload) 1 := by decide +kernel
theorem d13_78 : dc prog_1_method_21_code 78 (.i2l) 1 := by decide +kernel
theorem d13_79 : dc prog_1_method_21_code 79 (.ldc2_w 104) 3 := by decide +kernel
theorem d13_82 : dc prog_1_method_21_code 82 (.lmul) 1 := by decide +kernel
theorem d13_83 : dc prog_1_method_21_code 83 (.lstore 11) 2 := by decide +kernel
theorem d13_85 : dc prog_1_method_21_code 85 (.lload 11) 2 := by decide +kernel
theorem d13_87 : dc prog_1_method_21_code 87 (.lload 9) 2 := by decide +kernel
theorem d13_89 : dc prog_1_method_21_code 89 (.lmul) 1 := by decide +kernel
theorem d13_90 : dc prog_1_method_21_code 90 (.aload_n 0) 1 := by decide +kernel
theorem d13_91 : dc prog_1_method_21_code 91 (.getfield 88) 3 := by decide +kernel
theorem d13_94 : dc prog_1_method_21_code 94 (.i2l) 1 := by decide +kernel
theorem d13_95 : dc prog_1_method_21_code 95 (.ldiv) 1 := by decide +kernel
theorem d13_96 : dc prog_1_method_21_code 96 (.lload 11) 2 := by decide +kernel
theorem d13_98 : dc prog_1_method_21_code 98 (.aload_n 0) 1 := by decide +kernel
theorem d13_99 : dc prog_1_method_21_code 99 (.getfield 42) 3 := by decide +kernel
theorem d13_102 : dc prog_1_method_21_code 102 (.iload 7) 2 := by decide +kernel
theorem d13_104 : dc prog_1_method_21_code 104 (.iaload) 1 := by decide +kernel
theorem d13_105 : dc prog_1_method_21_code 105 (.i2l) 1 := by decide +kernel
theorem d13_106 : dc prog_1_method_21_code 106 (.lmul) 1 := by decide +kernel
theorem d13_107 : dc prog_1_method_21_code 107 (.aload_n 0) 1 := by decide +kernel
theorem d13_108 : dc prog_1_method_21_code 108 (.getfield 88) 3 := by decide +kernel
theorem d13_111 : dc prog_1_method_21_code 111 (.i2l) 1 := by decide +kernel
theorem d13_112 : dc prog_1_method_21_code 112 (.ldiv) 1 := by decide +kernel
theorem d13_113 : dc prog_1_method_21_code 113 (.lsub) 1 := by decide +kernel
theorem d13_114 : dc prog_1_method_21_code 114 (.lstore 13) 2 := by decide +kernel
theorem d13_116 : dc prog_1_method_21_code 116 (.aload_n 0) 1 := by decide +kernel
theorem d13_117 : dc prog_1_method_21_code 117 (.iload 8) 2 := by decide +kernel
theorem d13_119 : dc prog_1_method_21_code 119 (.aload_n 0) 1 := by decide +kernel
theorem d13_120 : dc prog_1_method_21_code 120 (.getfield 51) 3 := by decide +kernel
theorem d13_123 : dc prog_1_method_21_code 123 (.iload 7) 2 := by decide +kernel
theorem d13_125 : dc prog_1_method_21_code 125 (.iaload) 1 := by decide +kernel
theorem d13_126 : dc prog_1_method_21_code 126 (.i2l) 1 := by decide +kernel
theorem d13_127 : dc prog_1_method_21_code 127 (.invokevirtual 119) 3 := by decide +kernel
theorem d13_130 : dc prog_1_method_21_code 130 (.lstore 15) 2 := by decide +kernel
theorem d13_132 : dc prog_1_method_21_code 132 (.aload_n 0) 1 := by decide +kernel
theorem d13_133 : dc prog_1_method_21_code 133 (.getfield 72) 3 := by decide +kernel
theorem d13_136 : dc prog_1_method_21_code 136 (.iload_n 3) 1 := by decide +kernel
theorem d13_137 : dc prog_1_method_21_code 137 (.iconst 2) 1 := by decide +kernel
theorem d13_138 : dc prog_1_method_21_code 138 (.iload 6) 2 := by decide +kernel
theorem d13_140 : dc prog_1_method_21_code 140 (.imul) 1 := by decide +kernel
theorem d13_141 : dc prog_1_method_21_code 141 (.iadd) 1 := by decide +kernel
theorem d13_142 : dc prog_1_method_21_code 142 (.lload 13) 2 := by decide +kernel
theorem d13_144 : dc prog_1_method_21_code 144 (.lastore) 1 := by decide +kernel
theorem d13_145 : dc prog_1_method_21_code 145 (.aload_n 0) 1 := by decide +kernel
theorem d13_146 : dc prog_1_method_21_code 146 (.getfield 72) 3 := by decide +kernel
theorem d13_149 : dc prog_1_method_21_code 149 (.iload_n 3) 1 := by decide +kernel
theorem d13_150 : dc prog_1_method_21_code 150 (.iconst 2) 1 := by decide +kernel
theorem d13_151 : dc prog_1_method_21_code 151 (.iload 6) 2 := by decide +kernel
theorem d13_153 : dc prog_1_method_21_code 153 (.imul) 1 := by decide +kernel
theorem d13_154 : dc prog_1_method_21_code 154 (.iadd) 1 := by decide +kernel
theorem d13_155 : dc prog_1_method_21_code 155 (.iconst 1) 1 := by decide +kernel
theorem d13_156 : dc prog_1_method_21_code 156 (.iadd) 1 := by decide +kernel
theorem d13_157 : dc prog_1_method_21_code 157 (.lload 15) 2 := by decide +kernel
theorem d13_159 : dc prog_1_method_21_code 159 (.lastore) 1 := by decide +kernel
theorem d13_160 : dc prog_1_method_21_code 160 (.lload 4) 2 := by decide +kernel
theorem d13_162 : dc prog_1_method_21_code 162 (.lload 13) 2 := by decide +kernel
theorem d13_164 : dc prog_1_method_21_code 164 (.lload 15) 2 := by decide +kernel
theorem d13_166 : dc prog_1_method_21_code 166 (.ladd) 1 := by decide +kernel
theorem d13_167 : dc prog_1_method_21_code 167 (.ladd) 1 := by decide +kernel
theorem d13_168 : dc prog_1_method_21_code 168 (.lstore 4) 2 := by decide +kernel
theorem d13_170 : dc prog_1_method_21_code 170 (.iinc 6 1) 3 := by decide +kernel
theorem d13_173 : dc prog_1_method_21_code 173 (.goto (-162)) 3 := by decide +kernel
theorem d13_176 : dc prog_1_method_21_code 176 (.iconst 2) 1 := by decide +kernel
theorem d13_177 : dc prog_1_method_21_code 177 (.iload_n 2) 1 := by decide +kernel
theorem d13_178 : dc prog_1_method_21_code 178 (.imul) 1 := by decide +kernel
theorem d13_179 : dc prog_1_method_21_code 179 (.istore 6) 2 := by decide +kernel
theorem d13_181 : dc prog_1_method_21_code 181 (.iload 6) 2 := by decide +kernel
theorem d13_183 : dc prog_1_method_21_code 183 (.bipush 8) 2 := by decide +kernel
theorem d13_185 : dc prog_1_method_21_code 185 (.if_icmp .ge 29) 3 := by decide +kernel
theorem d13_188 : dc prog_1_method_21_code 188 (.aload_n 0) 1 := by decide +kernel
theorem d13_189 : dc prog_1_method_21_code 189 (.getfield 72) 3 := by decide +kernel
theorem d13_192 : dc prog_1_method_21_code 192 (.iload_n 3) 1 := by decide +kernel
theorem d13_193 : dc prog_1_method_21_code 193 (.iload 6) 2 := by decide +kernel
theorem d13_195 : dc prog_1_method_21_code 195 (.iadd) 1 := by decide +kernel
theorem d13_196 : dc prog_1_method_21_code 196 (.lconst 0) 1 := by decide +kernel
theorem d13_197 : dc prog_1_method_21_code 197 (.lastore) 1 := by decide +kernel
theorem d13_198 : dc prog_1_method_21_code 198 (.aload_n 0) 1 := by decide +kernel
theorem d13_199 : dc prog_1_method_21_code 199 (.getfield 75) 3 := by decide +kernel
theorem d13_202 : dc prog_1_method_21_code 202 (.iload_n 3) 1 := by decide +kernel
theorem d13_203 : dc prog_1_method_21_code 203 (.iload 6) 2 := by decide +kernel
theorem d13_205 : dc prog_1_method_21_code 205 (.iadd) 1 := by decide +kernel
theorem d13_206 : dc prog_1_method_21_code 206 (.lconst 0) 1 := by decide +kernel
theorem d13_207 : dc prog_1_method_21_code 207 (.lastore) 1 := by decide +kernel
theorem d13_208 : dc prog_1_method_21_code 208 (.iinc 6 1) 3 := by decide +kernel
theorem d13_211 : dc prog_1_method_21_code 211 (.goto (-30)) 3 := by decide +kernel
theorem d13_214 : dc prog_1_method_21_code 214 (.lload 4) 2 := by decide +kernel
theorem d13_216 : dc prog_1_method_21_code 216 (.lreturn) 1 := by decide +kernel
abbrev y13 : MethodName := ⟨"BillingRun", "fillLines", "(II)J"⟩
theorem hy13 : y13.cls ≠ "java/lang/invoke/MethodHandle" ∧ y13.cls ≠ "java/lang/invoke/VarHandle" := by decide
theorem pd13 : parseMethodDescriptor y13.desc = some ⟨[.int, .int], some .long⟩ := by decide +kernel
abbrev R13 : Room := { frames := 3, cells := 0, slots := 0, locals := 58 }
abbrev P13 (r : Int64 × St) : Option Value → List OwnC → Prop := fun v H' => v = some (.long r.1) ∧ H' = (Hb 0 r.2)
abbrev W13 (l : Launch) (Z : State) (n0 : Nat) (Q : Option Value → List OwnC → Prop) (k n pc : Nat) (L : List Slot) (S : List Value) (H : List OwnC) : Prop := WP l Z CN lay "BillingRun" "fillLines" prog_1_method_21_code 17 (some FieldType.long) R13 n0 0 Q k n pc L S H
def f_fillLines_69 (k11 : Int32 → Int32 → Int32 → Int64 → Int32 → St → Option (Int64 × St)) (n : Nat) (v1 : Int32) (v2 : Int32) (v3 : Int32) (v4 : Int64) (v6 : Int32) (v7 : Int32) (v8 : Int32) (t0 : Int64) (s : St) : Option (Int64 × St) :=
  (rd (gA s 0) v8).bind fun x1 =>
  lt (x1.toInt64 * (1000000 : Int64)) fun x2 =>
  if (gI s 0).toInt64 = 0 then none else
  (rd (gA s 7) v7).bind fun x4 =>
  if (gI s 0).toInt64 = 0 then none else
  lt (((x2 * t0) / ((gI s 0).toInt64)) - ((x2 * x4.toInt64) / ((gI s 0).toInt64))) fun x6 =>
  (rd (gA s 10) v7).bind fun x7 =>
  (f_charge n v8 x7.toInt64 s).bind fun c8 =>
  (wrB s 7 (v3 + ((2 : Int32) * v6)) x6).bind fun s9 =>
  (wrB s9 7 ((v3 + ((2 : Int32) * v6)) + (1 : Int32)) c8).bind fun s10 =>
  lt (v4 + (x6 + c8)) fun x11 =>
  lt (v6 + (1 : Int32)) fun x12 =>
  k11 v1 v2 v3 x11 x12 s10
set_option maxRecDepth 65536 in
set_option maxHeartbeats 4000000 in
theorem ok13_69 (l : Launch) (Z : State) (a0 : Array Value) (hw : HW a0 Z) (n0 : Nat) (k11 : Int32 → Int32 → Int32 → Int64 → Int32 → St → Option (Int64 × St)) (hk11 : ∀ (v1 : Int32) (v2 : Int32) (v3 : Int32) (v4 : Int64) (v6 : Int32) (s : St) (r : Int64 × St), k11 v1 v2 v3 v4 v6 s = some r → W13 l Z n0 (P13 r) 0 0 11 [.val (.ref 0), .val (.int v1), .val (.int v2), .val (.int v3), .val (.long v4), .second, .val (.int v6), .unset, .unset, .unset, .unset, .unset, .unset, .unset, .unset, .unset, .unset] [] (Hb 0 s)) (n : Nat) (v1 : Int32) (v2 : Int32) (v3 : Int32) (v4 : Int64) (v6 : Int32) (v7 : Int32) (v8 : Int32) (t0 : Int64) (s : St) (r : Int64 × St) (h : f_fillLines_69 k11 n v1 v2 v3 v4 v6 v7 v8 t0 s = some r) : W13 l Z n0 (P13 r) 0 0 69 [.val (.ref 0), .val (.int v1), .val (.int v2), .val (.int v3), .val (.long v4), .second, .val (.int v6), .val (.int v7), .val (.int v8), .unset, .unset, .unset, .unset, .unset, .unset, .unset, .unset] [.long t0] (Hb 0 s) := by
  unfold f_fillLines_69 at h
  refine WP.lstore (L' := [.val (.ref 0), .val (.int v1), .val (.int v2), .val (.int v3), .val (.long v4), .second, .val (.int v6), .val (.int v7), .val (.int v8), .val (.long t0), .second, .unset, .unset, .unset, .unset, .unset, .unset]) d13_69 (leb rfl) rfl ?_
  refine WP.aloadN d13_71 rfl ?_
  refine WP.getfield (i := 0) (j := 4) d13_72 (hw _ m_13) rfl rfl rfl ?_
  refine WP.iload d13_75 rfl ?_
  obtain ⟨x1, hx1, h⟩ := Option.bind_eq_some_iff.mp h
  refine WP.iaload (i := 1) d13_77 rfl hx1 ?_
  refine WP.i2l d13_78 ?_
  refine WP.ldc2 d13_79 (hw _ m_135) ?_
  refine WP.lmul d13_82 ?_
  obtain ⟨x2, ex2, h⟩ := lt_e h
  refine WP.lstore (L' := [.val (.ref 0), .val (.int v1), .val (.int v2), .val (.int v3), .val (.long v4), .second, .val (.int v6), .val (.int v7), .val (.int v8), .val (.long t0), .second, .val (.long x2), .second, .unset, .unset, .unset, .unset]) d13_83 (leb rfl) (by subst ex2; rfl) ?_
  refine WP.lload d13_85 rfl ?_
  refine WP.lload d13_87 rfl ?_
  refine WP.lmul d13_89 ?_
  refine WP.aloadN d13_90 rfl ?_
  refine WP.getfield (i := 0) (j := 0) d13_91 (hw _ m_66) rfl rfl rfl ?_
  refine WP.i2l d13_94 ?_
  obtain ⟨hz3, h⟩ := nz_e h
  refine WP.ldiv d13_95 hz3 ?_
  refine WP.lload d13_96 rfl ?_
  refine WP.aloadN d13_98 rfl ?_
  refine WP.getfield (i := 0) (j := 14) d13_99 (hw _ m_35) rfl rfl rfl ?_
  refine WP.iload d13_102 rfl ?_
  obtain ⟨x4, hx4, h⟩ := Option.bind_eq_some_iff.mp h
  refine WP.iaload (i := 11) d13_104 rfl hx4 ?_
  refine WP.i2l d13_105 ?_
  refine WP.lmul d13_106 ?_
  refine WP.aloadN d13_107 rfl ?_
  refine WP.getfield (i := 0) (j := 0) d13_108 (hw _ m_66) rfl rfl rfl ?_
  refine WP.i2l d13_111 ?_
  obtain ⟨hz5, h⟩ := nz_e h
  refine WP.ldiv d13_112 hz5 ?_
  refine WP.lsub d13_113 ?_
  obtain ⟨x6, ex6, h⟩ := lt_e h
  refine WP.lstore (L' := [.val (.ref 0), .val (.int v1), .val (.int v2), .val (.int v3), .val (.long v4), .second, .val (.int v6), .val (.int v7), .val (.int v8), .val (.long t0), .second, .val (.long x2), .second, .val (.long x6), .second, .unset, .unset]) d13_114 (leb rfl) (by subst ex6; rfl) ?_
  refine WP.aloadN d13_116 rfl ?_
  refine WP.iload d13_117 rfl ?_
  refine WP.aloadN d13_119 rfl ?_
  refine WP.getfield (i := 0) (j := 17) d13_120 (hw _ m_41) rfl rfl rfl ?_
  refine WP.iload d13_123 rfl ?_
  obtain ⟨x7, hx7, h⟩ := Option.bind_eq_some_iff.mp h
  refine WP.iaload (i := 14) d13_125 rfl hx7 ?_
  refine WP.i2l d13_126 ?_
  obtain ⟨c8, hc8, h⟩ := Option.bind_eq_some_iff.mp h
  refine WP.callP (i := 0) (y := y15) (as := [.int v8, .long x7.toInt64]) (S := []) d13_127 (hw _ m_136) (hw _ m_138) (hw _ m_4) (hw _ m_137) (hw _ m_139) (hw _ m_5) hy15 rfl (ok15 l Z a0 hw n v8 x7.toInt64 s _ hc8) rfl (lenOf pd15 rfl) (leb rfl) (leb rfl) (leb rfl) (leb rfl) ?_
  rintro _ _ ⟨rfl, rfl⟩
  show W13 l Z n0 (P13 r) 0 0 130 [.val (.ref 0), .val (.int v1), .val (.int v2), .val (.int v3), .val (.long v4), .second, .val (.int v6), .val (.int v7), .val (.int v8), .val (.long t0), .second, .val (.long x2), .second, .val (.long x6), .second, .unset, .unset] [.long c8] (Hb 0 s)
  refine WP.lstore (L' := [.val (.ref 0), .val (.int v1), .val (.int v2), .val (.int v3), .val (.long v4), .second, .val (.int v6), .val (.int v7), .val (.int v8), .val (.long t0), .second, .val (.long x2), .second, .val (.long x6), .second, .val (.long c8), .second]) d13_130 (leb rfl) rfl ?_
  refine WP.aloadN d13_132 rfl ?_
  refine WP.getfield (i := 0) (j := 24) d13_133 (hw _ m_55) rfl rfl rfl ?_
  refine WP.iloadN d13_136 rfl ?_
  refine WP.iconst (2 : Int32) d13_137 rfl ?_
  refine WP.iload d13_138 rfl ?_
  refine WP.imul d13_140 ?_
  refine WP.iadd d13_141 ?_
  refine WP.lload d13_142 rfl ?_
  obtain ⟨s9, hs9, h⟩ := Option.bind_eq_some_iff.mp h
  obtain ⟨ys9, gs9, es9⟩ := wrB_e hs9
  refine WP.lastore (i := 21) (xs := gB s 7) (H' := (Hb 0 s9)) d13_144 rfl (leb rfl) gs9 (by subst es9; rfl) ?_
  refine WP.aloadN d13_145 rfl ?_
  refine WP.getfield (i := 0) (j := 24) d13_146 (hw _ m_55) rfl rfl rfl ?_
  refine WP.iloadN d13_149 rfl ?_
  refine WP.iconst (2 : Int32) d13_150 rfl ?_
  refine WP.iload d13_151 rfl ?_
  refine WP.imul d13_153 ?_
  refine WP.iadd d13_154 ?_
  refine WP.iconst (1 : Int32) d13_155 rfl ?_
  refine WP.iadd d13_156 ?_
  refine WP.lload d13_157 rfl ?_
  obtain ⟨s10, hs10, h⟩ := Option.bind_eq_some_iff.mp h
  obtain ⟨ys10, gs10, es10⟩ := wrB_e hs10
  refine WP.lastore (i := 21) (xs := gB s9 7) (H' := (Hb 0 s10)) d13_159 rfl (leb rfl) gs10 (by subst es10; rfl) ?_
  refine WP.lload d13_160 rfl ?_
  refine WP.lload d13_162 rfl ?_
  refine WP.lload d13_164 rfl ?_
  refine WP.ladd d13_166 ?_
  refine WP.ladd d13_167 ?_
  obtain ⟨x11, ex11, h⟩ := lt_e h
  refine WP.lstore (L' := [.val (.ref 0), .val (.int v1), .val (.int v2), .val (.int v3), .val (.long x11), .second, .val (.int v6), .val (.int v7), .val (.int v8), .val (.long t0), .second, .val (.long x2), .second, .val (.long x6), .second, .val (.long c8), .second]) d13_168 (leb rfl) (by subst ex11; rfl) ?_
  obtain ⟨x12, ex12, h⟩ := lt_e h
  refine WP.iinc (L' := [.val (.ref 0), .val (.int v1), .val (.int v2), .val (.int v3), .val (.long x11), .second, .val (.int x12), .val (.int v7), .val (.int v8), .val (.long t0), .second, .val (.long x2), .second, .val (.long x6), .second, .val (.long c8), .second]) (1 : Int32) d13_170 rfl rfl (by subst ex12; rfl) ?_
  refine WP.goto (pc' := 11) d13_173 (by decide) rfl ?_
  exact WP.weak (L' := [.val (.ref 0), .val (.int v1), .val (.int v2), .val (.int v3), .val (.long x11), .second, .val (.int x12), .unset, .unset, .unset, .unset, .unset, .unset, .unset, .unset, .unset, .unset]) ⟨rfl, rfl, rfl, rfl, rfl, rfl, rfl, trivial⟩ (hk11 v1 v2 v3 x11 x12 s10 _ h)
def g_fillLines_181 (k181 : Int32 → Int64 → Int32 → St → Option (Int64 × St)) (n : Nat) (v3 : Int32) (v4 : Int64) (v6 : Int32) (s : St) : Option (Int64 × St) :=
  if v6 < (8 : Int32) then
    (wrB s 7 (v3 + v6) (0 : Int64)).bind fun s2 =>
    (wrB s2 8 (v3 + v6) (0 : Int64)).bind fun s3 =>
    lt (v6 + (1 : Int32)) fun x4 =>
    k181 v3 v4 x4 s3
  else
    some (v4, s)
set_option maxRecDepth 65536 in
set_option maxHeartbeats 4000000 in
theorem okg13_181 (l : Launch) (Z : State) (a0 : Array Value) (hw : HW a0 Z) (n0 : Nat) (k181 : Int32 → Int64 → Int32 → St → Option (Int64 × St)) (hk181 : ∀ (v3 : Int32) (v4 : Int64) (v6 : Int32) (s : St) (r : Int64 × St), k181 v3 v4 v6 s = some r → W13 l Z n0 (P13 r) 0 0 181 [.val (.ref 0), .unset, .unset, .val (.int v3), .val (.long v4), .second, .val (.int v6), .unset, .unset, .unset, .unset, .unset, .unset, .unset, .unset, .unset, .unset] [] (Hb 0 s)) (n : Nat) (v3 : Int32) (v4 : Int64) (v6 : Int32) (s : St) (r : Int64 × St) (h : g_fillLines_181 k181 n v3 v4 v6 s = some r) : W13 l Z n0 (P13 r) 0 0 181 [.val (.ref 0), .unset, .unset, .val (.int v3), .val (.long v4), .second, .val (.int v6), .unset, .unset, .unset, .unset, .unset, .unset, .unset, .unset, .unset, .unset] [] (Hb 0 s) := by
  unfold g_fillLines_181 at h
  refine WP.iload d13_181 rfl ?_
  refine WP.bipush (8 : Int32) d13_183 rfl ?_
  rcases ite_e h with ⟨hc1, h⟩ | ⟨hc1, h⟩
  ·
    refine WP.icmpN d13_185 (XT.ii_ge_f hc1) ?_
    refine WP.aloadN d13_188 rfl ?_
    refine WP.getfield (i := 0) (j := 24) d13_189 (hw _ m_55) rfl rfl rfl ?_
    refine WP.iloadN d13_192 rfl ?_
    refine WP.iload d13_193 rfl ?_
    refine WP.iadd d13_195 ?_
    refine WP.lconst (0 : Int64) d13_196 rfl ?_
    obtain ⟨s2, hs2, h⟩ := Option.bind_eq_some_iff.mp h
    obtain ⟨ys2, gs2, es2⟩ := wrB_e hs2
    refine WP.lastore (i := 21) (xs := gB s 7) (H' := (Hb 0 s2)) d13_197 rfl (leb rfl) gs2 (by subst es2; rfl) ?_
    refine WP.aloadN d13_198 rfl ?_
    refine WP.getfield (i := 0) (j := 25) d13_199 (hw _ m_57) rfl rfl rfl ?_
    refine WP.iloadN d13_202 rfl ?_
    refine WP.iload d13_203 rfl ?_
    refine WP.iadd d13_205 ?_
    refine WP.lconst (0 : Int64) d13_206 rfl ?_
    obtain ⟨s3, hs3, h⟩ := Option.bind_eq_some_iff.mp h
    obtain ⟨ys3, gs3, es3⟩ := wrB_e hs3
    refine WP.lastore (i := 22) (xs := gB s2 8) (H' := (Hb 0 s3)) d13_207 rfl (leb rfl) gs3 (by subst es3; rfl) ?_
    obtain ⟨x4, ex4, h⟩ := lt_e h
    refine WP.iinc (L' := [.val (.ref 0), .unset, .unset, .val (.int v3), .val (.long v4), .second, .val (.int x4), .unset, .unset, .unset, .unset, .unset, .unset, .unset, .unset, .unset, .unset]) (1 : Int32) d13_208 rfl rfl (by subst ex4; rfl) ?_
    refine WP.goto (pc' := 181) d13_211 (by decide) rfl ?_
    exact WP.weak (L' := [.val (.ref 0), .unset, .unset, .val (.int v3), .val (.long v4), .second, .val (.int x4), .unset, .unset, .unset, .unset, .unset, .unset, .unset, .unset, .unset, .unset]) ⟨rfl, rfl, rfl, rfl, rfl, trivial⟩ (hk181 v3 v4 x4 s3 _ h)
  ·
    refine WP.icmpY (pc' := 214) d13_185 (XT.ii_ge_t hc1) (by decide) rfl ?_
    refine WP.lload d13_214 rfl ?_
    cases h
    exact WP.lreturn d13_216 rfl (leb rfl) (leb rfl) ⟨rfl, rfl⟩
def f_fillLines_181 : Nat → Int32 → Int64 → Int32 → St → Option (Int64 × St)
  | 0 => fun _ _ _ _ => none
  | n + 1 => g_fillLines_181 (f_fillLines_181 n) n
theorem ok13_181 (l : Launch) (Z : State) (a0 : Array Value) (hw : HW a0 Z) (n0 : Nat) : ∀ (n : Nat) (v3 : Int32) (v4 : Int64) (v6 : Int32) (s : St) (r : Int64 × St), f_fillLines_181 n v3 v4 v6 s = some r → W13 l Z n0 (P13 r) 0 0 181 [.val (.ref 0), .unset, .unset, .val (.int v3), .val (.long v4), .second, .val (.int v6), .unset, .unset, .unset, .unset, .unset, .unset, .unset, .unset, .unset, .unset] [] (Hb 0 s)
  | 0, v3, v4, v6, s, r, h => nomatch (show none = some r from h)
  | n + 1, v3, v4, v6, s, r, h => okg13_181 l Z a0 hw n0 _ (ok13_181 l Z a0 hw n0 n) n v3 v4 v6 s r h
def f_fillLines_176 (n : Nat) (v2 : Int32) (v3 : Int32) (v4 : Int64) (s : St) : Option (Int64 × St) :=
  lt ((2 : Int32) * v2) fun x1 =>
  f_fillLines_181 n v3 v4 x1 s
set_option maxRecDepth 65536 in
set_option maxHeartbeats 4000000 in
theorem ok13_176 (l : Launch) (Z : State) (a0 : Array Value) (hw : HW a0 Z) (n0 : Nat) (n : Nat) (v2 : Int32) (v3 : Int32) (v4 : Int64) (s : St) (r : Int64 × St) (h : f_fillLines_176 n v2 v3 v4 s = some r) : W13 l Z n0 (P13 r) 0 0 176 [.val (.ref 0), .unset, .val (.int v2), .val (.int v3), .val (.long v4), .second, .unset, .unset, .unset, .unset, .unset, .unset, .unset, .unset, .unset, .unset, .unset] [] (Hb 0 s) := by
  unfold f_fillLines_176 at h
  refine WP.iconst (2 : Int32) d13_176 rfl ?_
  refine WP.iloadN d13_177 rfl ?_
  refine WP.imul d13_178 ?_
  obtain ⟨x1, ex1, h⟩ := lt_e h
  refine WP.istore (L' := [.val (.ref 0), .unset, .val (.int v2), .val (.int v3), .val (.long v4), .second, .val (.int x1), .unset, .unset, .unset, .unset, .unset, .unset, .unset, .unset, .unset, .unset]) d13_179 (leb rfl) (by subst ex1; rfl) ?_
  exact WP.weak (L' := [.val (.ref 0), .unset, .unset, .val (.int v3), .val (.long v4), .second, .val (.int x1), .unset, .unset, .unset, .unset, .unset, .unset, .unset, .unset, .unset, .unset]) ⟨rfl, rfl, rfl, rfl, rfl, trivial⟩ (ok13_181 l Z a0 hw n0 n v3 v4 x1 s _ h)
def g_fillLines_11 (k11 : Int32 → Int32 → Int32 → Int64 → Int32 → St → Option (Int64 × St)) (n : Nat) (v1 : Int32) (v2 : Int32) (v3 : Int32) (v4 : Int64) (v6 : Int32) (s : St) : Option (Int64 × St) :=
  if v6 < (4 : Int32) then
    if v6 < v2 then
      lt ((v1 * (4 : Int32)) + v6) fun x3 =>
      (rd (gA s 9) x3).bind fun x4 =>
      (rd (gA s 8) x3).bind fun x5 =>
      if x5 < 0 then
        f_fillLines_69 k11 n v1 v2 v3 v4 v6 x3 x4 ((gI s 0).toInt64) s
      else
        (rd (gA s 8) x3).bind fun x7 =>
        f_fillLines_69 k11 n v1 v2 v3 v4 v6 x3 x4 x7.toInt64 s
    else
      f_fillLines_176 n v2 v3 v4 s
  else
    f_fillLines_176 n v2 v3 v4 s
set_option maxRecDepth 65536 in
set_option maxHeartbeats 4000000 in
theorem okg13_11 (l : Launch) (Z : State) (a0 : Array Value) (hw : HW a0 Z) (n0 : Nat) (k11 : Int32 → Int32 → Int32 → Int64 → Int32 → St → Option (Int64 × St)) (hk11 : ∀ (v1 : Int32) (v2 : Int32) (v3 : Int32) (v4 : Int64) (v6 : Int32) (s : St) (r : Int64 × St), k11 v1 v2 v3 v4 v6 s = some r → W13 l Z n0 (P13 r) 0 0 11 [.val (.ref 0), .val (.int v1), .val (.int v2), .val (.int v3), .val (.long v4), .second, .val (.int v6), .unset, .unset, .unset, .unset, .unset, .unset, .unset, .unset, .unset, .unset] [] (Hb 0 s)) (n : Nat) (v1 : Int32) (v2 : Int32) (v3 : Int32) (v4 : Int64) (v6 : Int32) (s : St) (r : Int64 × St) (h : g_fillLines_11 k11 n v1 v2 v3 v4 v6 s = some r) : W13 l Z n0 (P13 r) 0 0 11 [.val (.ref 0), .val (.int v1), .val (.int v2), .val (.int v3), .val (.long v4), .second, .val (.int v6), .unset, .unset, .unset, .unset, .unset, .unset, .unset, .unset, .unset, .unset] [] (Hb 0 s) := by
  unfold g_fillLines_11 at h
  refine WP.iload d13_11 rfl ?_
  refine WP.iconst (4 : Int32) d13_13 rfl ?_
  rcases ite_e h with ⟨hc1, h⟩ | ⟨hc1, h⟩
  ·
    refine WP.icmpN d13_14 (XT.ii_ge_f hc1) ?_
    refine WP.iload d13_17 rfl ?_
    refine WP.iloadN d13_19 rfl ?_
    rcases ite_e h with ⟨hc2, h⟩ | ⟨hc2, h⟩
    ·
      refine WP.icmpY (pc' := 26) d13_20 (XT.ii_lt_t hc2) (by decide) rfl ?_
      refine WP.iloadN d13_26 rfl ?_
      refine WP.iconst (4 : Int32) d13_27 rfl ?_
      refine WP.imul d13_28 ?_
      refine WP.iload d13_29 rfl ?_
      refine WP.iadd d13_31 ?_
      obtain ⟨x3, ex3, h⟩ := lt_e h
      refine WP.istore (L' := [.val (.ref 0), .val (.int v1), .val (.int v2), .val (.int v3), .val (.long v4), .second, .val (.int v6), .val (.int x3), .unset, .unset, .unset, .unset, .unset, .unset, .unset, .unset, .unset]) d13_32 (leb rfl) (by subst ex3; rfl) ?_
      refine WP.aloadN d13_34 rfl ?_
      refine WP.getfield (i := 0) (j := 16) d13_35 (hw _ m_39) rfl rfl rfl ?_
      refine WP.iload d13_38 rfl ?_
      obtain ⟨x4, hx4, h⟩ := Option.bind_eq_some_iff.mp h
      refine WP.iaload (i := 13) d13_40 rfl hx4 ?_
      refine WP.istore (L' := [.val (.ref 0), .val (.int v1), .val (.int v2), .val (.int v3), .val (.long v4), .second, .val (.int v6), .val (.int x3), .val (.int x4), .unset, .unset, .unset, .unset, .unset, .unset, .unset, .unset]) d13_41 (leb rfl) rfl ?_
      refine WP.aloadN d13_43 rfl ?_
      refine WP.getfield (i := 0) (j := 15) d13_44 (hw _ m_37) rfl rfl rfl ?_
      refine WP.iload d13_47 rfl ?_
      obtain ⟨x5, hx5, h⟩ := Option.bind_eq_some_iff.mp h
      refine WP.iaload (i := 12) d13_49 rfl hx5 ?_
      rcases ite_e h with ⟨hc6, h⟩ | ⟨hc6, h⟩
      ·
        refine WP.ifN d13_50 (XT.i0_ge_f hc6) ?_
        refine WP.aloadN d13_53 rfl ?_
        refine WP.getfield (i := 0) (j := 0) d13_54 (hw _ m_66) rfl rfl rfl ?_
        refine WP.i2l d13_57 ?_
        refine WP.goto (pc' := 69) d13_58 (by decide) rfl ?_
        exact WP.weak (L' := [.val (.ref 0), .val (.int v1), .val (.int v2), .val (.int v3), .val (.long v4), .second, .val (.int v6), .val (.int x3), .val (.int x4), .unset, .unset, .unset, .unset, .unset, .unset, .unset, .unset]) ⟨rfl, rfl, rfl, rfl, rfl, rfl, rfl, rfl, rfl, trivial⟩ (ok13_69 l Z a0 hw n0 _ hk11 n v1 v2 v3 v4 v6 x3 x4 ((gI s 0).toInt64) s _ h)
      ·
        refine WP.ifY (pc' := 61) d13_50 (XT.i0_ge_t hc6) (by decide) rfl ?_
        refine WP.aloadN d13_61 rfl ?_
        refine WP.getfield (i := 0) (j := 15) d13_62 (hw _ m_37) rfl rfl rfl ?_
        refine WP.iload d13_65 rfl ?_
        obtain ⟨x7, hx7, h⟩ := Option.bind_eq_some_iff.mp h
        refine WP.iaload (i := 12) d13_67 rfl hx7 ?_
        refine WP.i2l d13_68 ?_
        exact WP.weak (L' := [.val (.ref 0), .val (.int v1), .val (.int v2), .val (.int v3), .val (.long v4), .second, .val (.int v6), .val (.int x3), .val (.int x4), .unset, .unset, .unset, .unset, .unset, .unset, .unset, .unset]) ⟨rfl, rfl, rfl, rfl, rfl, rfl, rfl, rfl, rfl, trivial⟩ (ok13_69 l Z a0 hw n0 _ hk11 n v1 v2 v3 v4 v6 x3 x4 x7.toInt64 s _ h)
    ·
      refine WP.icmpN d13_20 (XT.ii_lt_f hc2) ?_
      refine WP.goto (pc' := 176) d13_23 (by decide) rfl ?_
      exact WP.weak (L' := [.val (.ref 0), .unset, .val (.int v2), .val (.int v3), .val (.long v4), .second, .unset, .unset, .unset, .unset, .unset, .unset, .unset, .unset, .unset, .unset, .unset]) ⟨rfl, rfl, rfl, rfl, rfl, trivial⟩ (ok13_176 l Z a0 hw n0 n v2 v3 v4 s _ h)
  ·
    refine WP.icmpY (pc' := 176) d13_14 (XT.ii_ge_t hc1) (by decide) rfl ?_
    exact WP.weak (L' := [.val (.ref 0), .unset, .val (.int v2), .val (.int v3), .val (.long v4), .second, .unset, .unset, .unset, .unset, .unset, .unset, .unset, .unset, .unset, .unset, .unset]) ⟨rfl, rfl, rfl, rfl, rfl, trivial⟩ (ok13_176 l Z a0 hw n0 n v2 v3 v4 s _ h)
def f_fillLines_11 : Nat → Int32 → Int32 → Int32 → Int64 → Int32 → St → Option (Int64 × St)
  | 0 => fun _ _ _ _ _ _ => none
  | n + 1 => g_fillLines_11 (f_fillLines_11 n) n
theorem ok13_11 (l : Launch) (Z : State) (a0 : Array Value) (hw : HW a0 Z) (n0 : Nat) : ∀ (n : Nat) (v1 : Int32) (v2 : Int32) (v3 : Int32) (v4 : Int64) (v6 : Int32) (s : St) (r : Int64 × St), f_fillLines_11 n v1 v2 v3 v4 v6 s = some r → W13 l Z n0 (P13 r) 0 0 11 [.val (.ref 0), .val (.int v1), .val (.int v2), .val (.int v3), .val (.long v4), .second, .val (.int v6), .unset, .unset, .unset, .unset, .unset, .unset, .unset, .unset, .unset, .unset] [] (Hb 0 s)
  | 0, v1, v2, v3, v4, v6, s, r, h => nomatch (show none = some r from h)
  | n + 1, v1, v2, v3, v4, v6, s, r, h => okg13_11 l Z a0 hw n0 _ (ok13_11 l Z a0 hw n0 n) n v1 v2 v3 v4 v6 s r h
def f_fillLines (n : Nat) (p1 : Int32) (p2 : Int32) (s : St) : Option (Int64 × St) :=
  lt (p1 * (8 : Int32)) fun x1 =>
  f_fillLines_11 n p1 p2 x1 (0 : Int64) (0 : Int32) s
set_option maxRecDepth 65536 in
set_option maxHeartbeats 4000000 in
theorem ok13 (l : Launch) (Z : State) (a0 : Array Value) (hw : HW a0 Z) (n : Nat) (p1 : Int32) (p2 : Int32) (s : St) (r : Int64 × St) (h : f_fillLines n p1 p2 s = some r) : CS l Z CN lay y13 prog_1_method_21_code 17 (some FieldType.long) R13 0 [.ref 0, .int p1, .int p2] (Hb 0 s) (P13 r) := by
  refine CS.of_wp pn_cls (leb rfl) fun n0 => ?_
  show W13 l Z n0 (P13 r) 0 0 0 [.val (.ref 0), .val (.int p1), .val (.int p2), .unset, .unset, .unset, .unset, .unset, .unset, .unset, .unset, .unset, .unset, .unset, .unset, .unset, .unset] [] (Hb 0 s)
  unfold f_fillLines at h
  refine WP.iloadN d13_0 rfl ?_
  refine WP.bipush (8 : Int32) d13_1 rfl ?_
  refine WP.imul d13_3 ?_
  obtain ⟨x1, ex1, h⟩ := lt_e h
  refine WP.istoreN (L' := [.val (.ref 0), .val (.int p1), .val (.int p2), .val (.int x1), .unset, .unset, .unset, .unset, .unset, .unset, .unset, .unset, .unset, .unset, .unset, .unset, .unset]) d13_4 (leb rfl) (by subst ex1; rfl) ?_
  refine WP.lconst (0 : Int64) d13_5 rfl ?_
  refine WP.lstore (L' := [.val (.ref 0), .val (.int p1), .val (.int p2), .val (.int x1), .val (.long (0 : Int64)), .second, .unset, .unset, .unset, .unset, .unset, .unset, .unset, .unset, .unset, .unset, .unset]) d13_6 (leb rfl) rfl ?_
  refine WP.iconst (0 : Int32) d13_8 rfl ?_
  refine WP.istore (L' := [.val (.ref 0), .val (.int p1), .val (.int p2), .val (.int x1), .val (.long (0 : Int64)), .second, .val (.int (0 : Int32)), .unset, .unset, .unset, .unset, .unset, .unset, .unset, .unset, .unset, .unset]) d13_9 (leb rfl) rfl ?_
  exact WP.weak (L' := [.val (.ref 0), .val (.int p1), .val (.int p2), .val (.int x1), .val (.long (0 : Int64)), .second, .val (.int (0 : Int32)), .unset, .unset, .unset, .unset, .unset, .unset, .unset, .unset, .unset, .unset]) ⟨rfl, rfl, rfl, rfl, rfl, rfl, rfl, trivial⟩ (ok13_11 l Z a0 hw n0 n p1 p2 x1 (0 : Int64) (0 : Int32) s _ h)
theorem d14_0 : dc prog_1_method_22_code 0 (.iload_n 1) 1 := by decide +kernel
theorem d14_1 : dc prog_1_method_22_code 1 (.bipush 8) 2 := by decide +kernel
theorem d14_3 : dc prog_1_method_22_code 3 (.imul) 1 := by decide +kernel
theorem d14_4 : dc prog_1_method_22_code 4 (.istore 5) 2 := by decide +kernel
theorem d14_6 : dc prog_1_method_22_code 6 (.lconst 0) 1 := by decide +kernel
theorem d14_7 : dc prog_1_method_22_code 7 (.lstore 6) 2 := by decide +kernel
theorem d14_9 : dc prog_1_method_22_code 9 (.iconst 0) 1 := by decide +kernel
theorem d14_10 : dc prog_1_method_22_code 10 (.istore 8) 2 := by decide +kernel
theorem d14_12 : dc prog_1_method_22_code 12 (.iload 8) 2 := by decide +kernel
theorem d14_14 : dc prog_1_method_22_code 14 (.bipush 8) 2 := by decide +kernel
theorem d14_16 : dc prog_1_method_22_code 16 (.if_icmp .ge 102) 3 := by decide +kernel
theorem d14_19 : dc prog_1_method_22_code 19 (.aload_n 0) 1 := by decide +kernel
theorem d14_20 : dc prog_1_method_22_code 20 (.getfield 81) 3 := by decide +kernel
theorem d14_23 : dc prog_1_method_22_code 23 (.iload 8) 2 := by decide +kernel
theorem d14_25 : dc prog_1_method_22_code 25 (.iload 8) 2 := by decide +kernel
theorem d14_27 : dc prog_1_method_22_code 27 (.iload_n 2) 1 := by decide +kernel
theorem d14_28 : dc prog_1_method_22_code 28 (.if_icmp .lt 7) 3 := by decide +kernel
theorem d14_31 : dc prog_1_method_22_code 31 (.iconst 1) 1 := by decide +kernel
theorem d14_32 : dc prog_1_method_22_code 32 (.goto 4) 3 := by decide +kernel
theorem d14_35 : dc prog_1_method_22_code 35 (.iconst 0) 1 := by decide +kernel
theorem d14_36 : dc prog_1_method_22_code 36 (.bastore) 1 := by decide +kernel
theorem d14_37 : dc prog_1_method_22_code 37 (.aload_n 0) 1 := by decide +kernel
theorem d14_38 : dc prog_1_method_22_code 38 (.getfield 78) 3 := by decide +kernel
theorem d14_41 : dc prog_1_method_22_code 41 (.iload 8) 2 := by decide +kernel
theorem d14_43 : dc prog_1_method_22_code 43 (.lconst 0) 1 := by decide +kernel
theorem d14_44 : dc prog_1_method_22_code 44 (.lastore) 1 := by decide +kernel
theorem d14_45 : dc prog_1_method_22_code 45 (.iload 8) 2 := by decide +kernel
theorem d14_47 : dc prog_1_method_22_code 47 (.iload_n 2) 1 := by decide +kernel
theorem d14_48 : dc prog_1_method_22_code 48 (.if_icmp .ge 64) 3 := by decide +kernel
theorem d14_51 : dc prog_1_method_22_code 51 (.aload_n 0) 1 := by decide +kernel
theorem d14_52 : dc prog_1_method_22_code 52 (.getfield 72) 3 := by decide +kernel
theorem d14_55 : dc prog_1_method_22_code 55 (.iload 5) 2 := by decide +kernel
theorem d14_57 : dc prog_1_method_22_code 57 (.iload 8) 2 := by decide +kernel
theorem d14_59 : dc prog_1_method_22_code 59 (.iadd) 1 := by decide +kernel
theorem d14_60 : dc prog_1_method_22_code 60 (.laload) 1 := by decide +kernel
theorem d14_61 : dc prog_1_method_22_code 61 (.aload_n 0) 1 := by decide +kernel
theorem d14_62 : dc prog_1_method_22_code 62 (.getfield 92) 3 := by decide +kernel
theorem d14_65 : dc prog_1_method_22_code 65 (.i2l) 1 := by decide +kernel
theorem d14_66 : dc prog_1_method_22_code 66 (.lmul) 1 := by decide +kernel
theorem d14_67 : dc prog_1_method_22_code 67 (.lstore 9) 2 := by decide +kernel
theorem d14_69 : dc prog_1_method_22_code 69 (.lload 9) 2 := by decide +kernel
theorem d14_71 : dc prog_1_method_22_code 71 (.ldc2_w 143) 3 := by decide +kernel
theorem d14_74 : dc prog_1_method_22_code 74 (.ldiv) 1 := by decide +kernel
theorem d14_75 : dc prog_1_method_22_code 75 (.lstore 11) 2 := by decide +kernel
theorem d14_77 : dc prog_1_method_22_code 77 (.aload_n 0) 1 := by decide +kernel
theorem d14_78 : dc prog_1_method_22_code 78 (.getfield 78) 3 := by decide +kernel
theorem d14_81 : dc prog_1_method_22_code 81 (.iload 8) 2 := by decide +kernel
theorem d14_83 : dc prog_1_method_22_code 83 (.lload 9) 2 := by decide +kernel
theorem d14_85 : dc prog_1_method_22_code 85 (.lload 11) 2 := by decide +kernel
theorem d14_87 : dc prog_1_method_22_code 87 (.ldc2_w 143) 3 := by decide +kernel
theorem d14_90 : dc prog_1_method_22_code 90 (.lmul) 1 := by decide +kernel
theorem d14_91 : dc prog_1_method_22_code 91 (.lsub) 1 := by decide +kernel
theorem d14_92 : dc prog_1_method_22_code 92 (.lastore) 1 := by decide +kernel
theorem d14_93 : dc prog_1_method_22_code 93 (.aload_n 0) 1 := by decide +kernel
theorem d14_94 : dc prog_1_method_22_code 94 (.getfield 75) 3 := by decide +kernel
theorem d14_97 : dc prog_1_method_22_code 97 (.iload 5) 2 := by decide +kernel
theorem d14_99 : dc prog_1_method_22_code 99 (.iload 8) 2 := by decide +kernel
theorem d14_101 : dc prog_1_method_22_code 101 (.iadd) 1 := by decide +kernel
theorem d14_102 : dc prog_1_method_22_code 102 (.lload 11) 2 := by decide +kernel
theorem d14_104 : dc prog_1_method_22_code 104 (.lastore) 1 := by decide +kernel
theorem d14_105 : dc prog_1_method_22_code 105 (.lload 6) 2 := by decide +kernel
theorem d14_107 : dc prog_1_method_22_code 107 (.lload 11) 2 := by decide +kernel
theorem d14_109 : dc prog_1_method_22_code 109 (.ladd) 1 := by decide +kernel
theorem d14_110 : dc prog_1_method_22_code 110 (.lstore 6) 2 := by decide +kernel
theorem d14_112 : dc prog_1_method_22_code 112 (.iinc 8 1) 3 := by decide +kernel
theorem d14_115 : dc prog_1_method_22_code 115 (.goto (-103)) 3 := by decide +kernel
theorem d14_118 : dc prog_1_method_22_code 118 (.lload_n 3) 1 := by decide +kernel
theorem d14_119 : dc prog_1_method_22_code 119 (.lload 6) 2 := by decide +kernel
theorem d14_121 : dc prog_1_method_22_code 121 (.lsub) 1 := by decide +kernel
theorem d14_122 : dc prog_1_method_22_code 122 (.lstore 8) 2 := by decide +kernel
theorem d14_124 : dc prog_1_method_22_code 124 (.iconst 0) 1 := by decide +kernel
theorem d14_125 : dc prog_1_method_22_code 125 (.istore 10) 2 := by decide +kernel
theorem d14_127 : dc prog_1_method_22_code 127 (.iload 10) 2 := by decide +kernel
theorem d14_129 : dc prog_1_method_22_code 129 (.bipush 8) 2 := by decide +kernel
theorem d14_131 : dc prog_1_method_22_code 131 (.if_icmp .ge 106) 3 := by decide +kernel
theorem d14_134 : dc prog_1_method_22_code 134 (.iload 10) 2 := by decide +kernel
theorem d14_136 : dc prog_1_method_22_code 136 (.i2l) 1 := by decide +kernel
theorem d14_137 : dc prog_1_method_22_code 137 (.lload 8) 2 := by decide +kernel
theorem d14_139 : dc prog_1_method_22_code 139 (.lcmp) 1 := by decide +kernel
theorem d14_140 : dc prog_1_method_22_code 140 (.ifCond .lt 6) 3 := by decide +kernel
theorem d14_143 : dc prog_1_method_22_code 143 (.goto 94) 3 := by decide +kernel
theorem d14_146 : dc prog_1_method_22_code 146 (.iconst (-1)) 1 := by decide +kernel
theorem d14_147 : dc prog_1_method_22_code 147 (.istore 11) 2 := by decide +kernel
theorem d14_149 : dc prog_1_method_22_code 149 (.iconst 0) 1 := by decide +kernel
theorem d14_150 : dc prog_1_method_22_code 150 (.istore 12) 2 := by decide +kernel
theorem d14_152 : dc prog_1_method_22_code 152 (.iload 12) 2 := by decide +kernel
theorem d14_154 : dc prog_1_method_22_code 154 (.iload_n 2) 1 := by decide +kernel
theorem d14_155 : dc prog_1_method_22_code 155 (.if_icmp .ge 46) 3 := by decide +kernel
theorem d14_158 : dc prog_1_method_22_code 158 (.aload_n 0) 1 := by decide +kernel
theorem d14_159 : dc prog_1_method_22_code 159 (.getfield 81) 3 := by decide +kernel
theorem d14_162 : dc prog_1_method_22_code 162 (.iload 12) 2 := by decide +kernel
theorem d14_164 : dc prog_1_method_22_code 164 (.baload) 1 := by decide +kernel
theorem d14_165 : dc prog_1_method_22_code 165 (.ifCond .ne 30) 3 := by decide +kernel
theorem d14_168 : dc prog_1_method_22_code 168 (.iload 11) 2 := by decide +kernel
theorem d14_170 : dc prog_1_method_22_code 170 (.ifCond .lt 21) 3 := by decide +kernel
theorem d14_173 : dc prog_1_method_22_code 173 (.aload_n 0) 1 := by decide +kernel
theorem d14_174 : dc prog_1_method_22_code 174 (.getfield 78) 3 := by decide +kernel
theorem d14_177 : dc prog_1_method_22_code 177 (.iload 12) 2 := by decide +kernel
theorem d14_179 : dc prog_1_method_22_code 179 (.laload) 1 := by decide +kernel
theorem d14_180 : dc prog_1_method_22_code 180 (.aload_n 0) 1 := by decide +kernel
theorem d14_181 : dc prog_1_method_22_code 181 (.getfield 78) 3 := by decide +kernel
theorem d14_184 : dc prog_1_method_22_code 184 (.iload 11) 2 := by decide +kernel
theorem d14_186 : dc prog_1_method_22_code 186 (.laload) 1 := by decide +kernel
theorem d14_187 : dc prog_1_method_22_code 187 (.lcmp) 1 := by decide +kernel
theorem d14_188 : dc prog_1_method_22_code 188 (.ifCond .le 7) 3 := by decide +kernel
theorem d14_191 : dc prog_1_method_22_code 191 (.iload 12) 2 := by decide +kernel
theorem d14_193 : dc prog_1_method_22_code 193 (.istore 11) 2 := by decide +kernel
theorem d14_195 : dc prog_1_method_22_code 195 (.iinc 12 1) 3 := by decide +kernel
theorem d14_198 : dc prog_1_method_22_code 198 (.goto (-46)) 3 := by decide +kernel
theorem d14_201 : dc prog_1_method_22_code 201 (.iload 11) 2 := by decide +kernel
theorem d14_203 : dc prog_1_method_22_code 203 (.ifCond .ge 6) 3 := by decide +kernel
theorem d14_206 : dc prog_1_method_22_code 206 (.goto 31) 3 := by decide +kernel
theorem d14_209 : dc prog_1_method_22_code 209 (.aload_n 0) 1 := by decide +kernel
theorem d14_210 : dc prog_1_method_22_code 210 (.getfield 81) 3 := by decide +kernel
theorem d14_213 : dc prog_1_method_22_code 213 (.iload 11) 2 := by decide +kernel
theorem d14_215 : dc prog_1_method_22_code 215 (.iconst 1) 1 := by decide +kernel
theorem d14_216 : dc prog_1_method_22_code 216 (.bastore) 1 := by decide +kernel
theorem d14_217 : dc prog_1_method_22_code 217 (.aload_n 0) 1 := by decide +kernel
theorem d14_218 : dc prog_1_method_22_code 218 (.getfield 75) 3 := by decide +kernel
theorem d14_221 : dc prog_1_method_22_code 221 (.iload 5) 2 := by decide +kernel
theorem d14_223 : dc prog_1_method_22_code 223 (.iload 11) 2 := by decide +kernel
theorem d14_225 : dc prog_1_method_22_code 225 (.iadd) 1 := by decide +kernel
theorem d14_226 : dc prog_1_method_22_code 226 (.dup2) 1 := by decide +kernel
theorem d14_227 : dc prog_1_method_22_code 227 (.laload) 1 := by decide +kernel
theorem d14_228 : dc prog_1_method_22_code 228 (.lconst 1) 1 := by decide +kernel
theorem d14_229 : dc prog_1_method_22_code 229 (.ladd) 1 := by decide +kernel
theorem d14_230 : dc prog_1_method_22_code 230 (.lastore) 1 := by decide +kernel
theorem d14_231 : dc prog_1_method_22_code 231 (.iinc 10 1) 3 := by decide +kernel
theorem d14_234 : dc prog_1_method_22_code 234 (.goto (-107)) 3 := by decide +kernel
theorem d14_237 : dc prog_1_method_22_code 237 (.return_) 1 := by decide +kernel
abbrev y14 : MethodName := ⟨"BillingRun", "spreadTax", "(IIJ)V"⟩
theorem hy14 : y14.cls ≠ "java/lang/invoke/MethodHandle" ∧ y14.cls ≠ "java/lang/invoke/VarHandle" := by decide
theorem pd14 : parseMethodDescriptor y14.desc = some ⟨[.int, .int, .long], none⟩ := by decide +kernel
abbrev R14 : Room := { frames := 0, cells := 0, slots := 0, locals := 0 }
abbrev P14 (r : St) : Option Value → List OwnC → Prop := fun v H' => v = none ∧ H' = (Hb 0 r)
abbrev W14 (l : Launch) (Z : State) (n0 : Nat) (Q : Option Value → List OwnC → Prop) (k n pc : Nat) (L : List Slot) (S : List Value) (H : List OwnC) : Prop := WP l Z CN lay "BillingRun" "spreadTax" prog_1_method_22_code 13 (none) R14 n0 0 Q k n pc L S H
def f_spreadTax_112 (k12 : Int32 → Int64 → Int32 → Int64 → Int32 → St → Option (St)) (n : Nat) (v2 : Int32) (v3 : Int64) (v5 : Int32) (v6 : Int64) (v8 : Int32) (s : St) : Option (St) :=
  lt (v8 + (1 : Int32)) fun x1 =>
  k12 v2 v3 v5 v6 x1 s
set_option maxRecDepth 65536 in
set_option maxHeartbeats 4000000 in
theorem ok14_112 (l : Launch) (Z : State) (a0 : Array Value) (hw : HW a0 Z) (n0 : Nat) (k12 : Int32 → Int64 → Int32 → Int64 → Int32 → St → Option (St)) (hk12 : ∀ (v2 : Int32) (v3 : Int64) (v5 : Int32) (v6 : Int64) (v8 : Int32) (s : St) (r : St), k12 v2 v3 v5 v6 v8 s = some r → W14 l Z n0 (P14 r) 0 0 12 [.val (.ref 0), .unset, .val (.int v2), .val (.long v3), .second, .val (.int v5), .val (.long v6), .second, .val (.int v8), .unset, .unset, .unset, .unset] [] (Hb 0 s)) (n : Nat) (v2 : Int32) (v3 : Int64) (v5 : Int32) (v6 : Int64) (v8 : Int32) (s : St) (r : St) (h : f_spreadTax_112 k12 n v2 v3 v5 v6 v8 s = some r) : W14 l Z n0 (P14 r) 0 0 112 [.val (.ref 0), .unset, .val (.int v2), .val (.long v3), .second, .val (.int v5), .val (.long v6), .second, .val (.int v8), .unset, .unset, .unset, .unset] [] (Hb 0 s) := by
  unfold f_spreadTax_112 at h
  obtain ⟨x1, ex1, h⟩ := lt_e h
  refine WP.iinc (L' := [.val (.ref 0), .unset, .val (.int v2), .val (.long v3), .second, .val (.int v5), .val (.long v6), .second, .val (.int x1), .unset, .unset, .unset, .unset]) (1 : Int32) d14_112 rfl rfl (by subst ex1; rfl) ?_
  refine WP.goto (pc' := 12) d14_115 (by decide) rfl ?_
  exact WP.weak (L' := [.val (.ref 0), .unset, .val (.int v2), .val (.long v3), .second, .val (.int v5), .val (.long v6), .second, .val (.int x1), .unset, .unset, .unset, .unset]) ⟨rfl, rfl, rfl, rfl, rfl, rfl, rfl, rfl, trivial⟩ (hk12 v2 v3 v5 v6 x1 s _ h)
def f_spreadTax_36 (k12 : Int32 → Int64 → Int32 → Int64 → Int32 → St → Option (St)) (n : Nat) (v2 : Int32) (v3 : Int64) (v5 : Int32) (v6 : Int64) (v8 : Int32) (t0 : Int32) (t1 : Int32) (s : St) : Option (St) :=
  (wrA s 13 t1 (t0 &&& 1)).bind fun s1 =>
  (wrB s1 9 v8 (0 : Int64)).bind fun s2 =>
  if v8 < v2 then
    (rd (gB s2 7) (v5 + v8)).bind fun x4 =>
    lt (x4 * ((gI s2 1).toInt64)) fun x5 =>
    lt (x5 / (10000 : Int64)) fun x6 =>
    (wrB s2 9 v8 (x5 - (x6 * (10000 : Int64)))).bind fun s7 =>
    (wrB s7 8 (v5 + v8) x6).bind fun s8 =>
    lt (v6 + x6) fun x9 =>
    f_spreadTax_112 k12 n v2 v3 v5 x9 v8 s8
  else
    f_spreadTax_112 k12 n v2 v3 v5 v6 v8 s2
set_option maxRecDepth 65536 in
set_option maxHeartbeats 4000000 in
theorem ok14_36 (l : Launch) (Z : State) (a0 : Array Value) (hw : HW a0 Z) (n0 : Nat) (k12 : Int32 → Int64 → Int32 → Int64 → Int32 → St → Option (St)) (hk12 : ∀ (v2 : Int32) (v3 : Int64) (v5 : Int32) (v6 : Int64) (v8 : Int32) (s : St) (r : St), k12 v2 v3 v5 v6 v8 s = some r → W14 l Z n0 (P14 r) 0 0 12 [.val (.ref 0), .unset, .val (.int v2), .val (.long v3), .second, .val (.int v5), .val (.long v6), .second, .val (.int v8), .unset, .unset, .unset, .unset] [] (Hb 0 s)) (n : Nat) (v2 : Int32) (v3 : Int64) (v5 : Int32) (v6 : Int64) (v8 : Int32) (t0 : Int32) (t1 : Int32) (s : St) (r : St) (h : f_spreadTax_36 k12 n v2 v3 v5 v6 v8 t0 t1 s = some r) : W14 l Z n0 (P14 r) 0 0 36 [.val (.ref 0), .unset, .val (.int v2), .val (.long v3), .second, .val (.int v5), .val (.long v6), .second, .val (.int v8), .unset, .unset, .unset, .unset] [.int t0, .int t1, .ref 24] (Hb 0 s) := by
  unfold f_spreadTax_36 at h
  obtain ⟨s1, hs1, h⟩ := Option.bind_eq_some_iff.mp h
  obtain ⟨ys1, gs1, es1⟩ := wrA_e hs1
  refine WP.bastore (i := 24) (xs := gA s 13) (H' := (Hb 0 s1)) d14_36 rfl (leb rfl) gs1 (by subst es1; rfl) ?_
  refine WP.aloadN d14_37 rfl ?_
  refine WP.getfield (i := 0) (j := 26) d14_38 (hw _ m_59) rfl rfl rfl ?_
  refine WP.iload d14_41 rfl ?_
  refine WP.lconst (0 : Int64) d14_43 rfl ?_
  obtain ⟨s2, hs2, h⟩ := Option.bind_eq_some_iff.mp h
  obtain ⟨ys2, gs2, es2⟩ := wrB_e hs2
  refine WP.lastore (i := 23) (xs := gB s1 9) (H' := (Hb 0 s2)) d14_44 rfl (leb rfl) gs2 (by subst es2; rfl) ?_
  refine WP.iload d14_45 rfl ?_
  refine WP.iloadN d14_47 rfl ?_
  rcases ite_e h with ⟨hc3, h⟩ | ⟨hc3, h⟩
  ·
    refine WP.icmpN d14_48 (XT.ii_ge_f hc3) ?_
    refine WP.aloadN d14_51 rfl ?_
    refine WP.getfield (i := 0) (j := 24) d14_52 (hw _ m_55) rfl rfl rfl ?_
    refine WP.iload d14_55 rfl ?_
    refine WP.iload d14_57 rfl ?_
    refine WP.iadd d14_59 ?_
    obtain ⟨x4, hx4, h⟩ := Option.bind_eq_some_iff.mp h
    refine WP.laload (i := 21) d14_60 rfl hx4 ?_
    refine WP.aloadN d14_61 rfl ?_
    refine WP.getfield (i := 0) (j := 1) d14_62 (hw _ m_68) rfl rfl rfl ?_
    refine WP.i2l d14_65 ?_
    refine WP.lmul d14_66 ?_
    obtain ⟨x5, ex5, h⟩ := lt_e h
    refine WP.lstore (L' := [.val (.ref 0), .unset, .val (.int v2), .val (.long v3), .second, .val (.int v5), .val (.long v6), .second, .val (.int v8), .val (.long x5), .second, .unset, .unset]) d14_67 (leb rfl) (by subst ex5; rfl) ?_
    refine WP.lload d14_69 rfl ?_
    refine WP.ldc2 d14_71 (hw _ m_130) ?_
    refine WP.ldiv d14_74 (by decide) ?_
    obtain ⟨x6, ex6, h⟩ := lt_e h
    refine WP.lstore (L' := [.val (.ref 0), .unset, .val (.int v2), .val (.long v3), .second, .val (.int v5), .val (.long v6), .second, .val (.int v8), .val (.long x5), .second, .val (.long x6), .second]) d14_75 (leb rfl) (by subst ex6; rfl) ?_
    refine WP.aloadN d14_77 rfl ?_
    refine WP.getfield (i := 0) (j := 26) d14_78 (hw _ m_59) rfl rfl rfl ?_
    refine WP.iload d14_81 rfl ?_
    refine WP.lload d14_83 rfl ?_
    refine WP.lload d14_85 rfl ?_
    refine WP.ldc2 d14_87 (hw _ m_130) ?_
    refine WP.lmul d14_90 ?_
    refine WP.lsub d14_91 ?_
    obtain ⟨s7, hs7, h⟩ := Option.bind_eq_some_iff.mp h
    obtain ⟨ys7, gs7, es7⟩ := wrB_e hs7
    refine WP.lastore (i := 23) (xs := gB s2 9) (H' := (Hb 0 s7)) d14_92 rfl (leb rfl) gs7 (by subst es7; rfl) ?_
    refine WP.aloadN d14_93 rfl ?_
    refine WP.getfield (i := 0) (j := 25) d14_94 (hw _ m_57) rfl rfl rfl ?_
    refine WP.iload d14_97 rfl ?_
    refine WP.iload d14_99 rfl ?_
    refine WP.iadd d14_101 ?_
    refine WP.lload d14_102 rfl ?_
    obtain ⟨s8, hs8, h⟩ := Option.bind_eq_some_iff.mp h
    obtain ⟨ys8, gs8, es8⟩ := wrB_e hs8
    refine WP.lastore (i := 22) (xs := gB s7 8) (H' := (Hb 0 s8)) d14_104 rfl (leb rfl) gs8 (by subst es8; rfl) ?_
    refine WP.lload d14_105 rfl ?_
    refine WP.lload d14_107 rfl ?_
    refine WP.ladd d14_109 ?_
    obtain ⟨x9, ex9, h⟩ := lt_e h
    refine WP.lstore (L' := [.val (.ref 0), .unset, .val (.int v2), .val (.long v3), .second, .val (.int v5), .val (.long x9), .second, .val (.int v8), .val (.long x5), .second, .val (.long x6), .second]) d14_110 (leb rfl) (by subst ex9; rfl) ?_
    exact WP.weak (L' := [.val (.ref 0), .unset, .val (.int v2), .val (.long v3), .second, .val (.int v5), .val (.long x9), .second, .val (.int v8), .unset, .unset, .unset, .unset]) ⟨rfl, rfl, rfl, rfl, rfl, rfl, rfl, rfl, trivial⟩ (ok14_112 l Z a0 hw n0 _ hk12 n v2 v3 v5 x9 v8 s8 _ h)
  ·
    refine WP.icmpY (pc' := 112) d14_48 (XT.ii_ge_t hc3) (by decide) rfl ?_
    exact WP.weak (L' := [.val (.ref 0), .unset, .val (.int v2), .val (.long v3), .second, .val (.int v5), .val (.long v6), .second, .val (.int v8), .unset, .unset, .unset, .unset]) ⟨rfl, rfl, rfl, rfl, rfl, rfl, rfl, rfl, trivial⟩ (ok14_112 l Z a0 hw n0 _ hk12 n v2 v3 v5 v6 v8 s2 _ h)
def f_spreadTax_195 (k127 : Int32 → Int32 → Int64 → Int32 → St → Option (St)) (k152 : Int32 → Int32 → Int64 → Int32 → Int32 → Int32 → St → Option (St)) (n : Nat) (v2 : Int32) (v5 : Int32) (v8 : Int64) (v10 : Int32) (v11 : Int32) (v12 : Int32) (s : St) : Option (St) :=
  lt (v12 + (1 : Int32)) fun x1 =>
  k152 v2 v5 v8 v10 v11 x1 s
set_option maxRecDepth 65536 in
set_option maxHeartbeats 4000000 in
theorem ok14_195 (l : Launch) (Z : State) (a0 : Array Value) (hw : HW a0 Z) (n0 : Nat) (k127 : Int32 → Int32 → Int64 → Int32 → St → Option (St)) (hk127 : ∀ (v2 : Int32) (v5 : Int32) (v8 : Int64) (v10 : Int32) (s : St) (r : St), k127 v2 v5 v8 v10 s = some r → W14 l Z n0 (P14 r) 0 0 127 [.val (.ref 0), .unset, .val (.int v2), .unset, .unset, .val (.int v5), .unset, .unset, .val (.long v8), .second, .val (.int v10), .unset, .unset] [] (Hb 0 s)) (k152 : Int32 → Int32 → Int64 → Int32 → Int32 → Int32 → St → Option (St)) (hk152 : ∀ (v2 : Int32) (v5 : Int32) (v8 : Int64) (v10 : Int32) (v11 : Int32) (v12 : Int32) (s : St) (r : St), k152 v2 v5 v8 v10 v11 v12 s = some r → W14 l Z n0 (P14 r) 0 0 152 [.val (.ref 0), .unset, .val (.int v2), .unset, .unset, .val (.int v5), .unset, .unset, .val (.long v8), .second, .val (.int v10), .val (.int v11), .val (.int v12)] [] (Hb 0 s)) (n : Nat) (v2 : Int32) (v5 : Int32) (v8 : Int64) (v10 : Int32) (v11 : Int32) (v12 : Int32) (s : St) (r : St) (h : f_spreadTax_195 k127 k152 n v2 v5 v8 v10 v11 v12 s = some r) : W14 l Z n0 (P14 r) 0 0 195 [.val (.ref 0), .unset, .val (.int v2), .unset, .unset, .val (.int v5), .unset, .unset, .val (.long v8), .second, .val (.int v10), .val (.int v11), .val (.int v12)] [] (Hb 0 s) := by
  unfold f_spreadTax_195 at h
  obtain ⟨x1, ex1, h⟩ := lt_e h
  refine WP.iinc (L' := [.val (.ref 0), .unset, .val (.int v2), .unset, .unset, .val (.int v5), .unset, .unset, .val (.long v8), .second, .val (.int v10), .val (.int v11), .val (.int x1)]) (1 : Int32) d14_195 rfl rfl (by subst ex1; rfl) ?_
  refine WP.goto (pc' := 152) d14_198 (by decide) rfl ?_
  exact WP.weak (L' := [.val (.ref 0), .unset, .val (.int v2), .unset, .unset, .val (.int v5), .unset, .unset, .val (.long v8), .second, .val (.int v10), .val (.int v11), .val (.int x1)]) ⟨rfl, rfl, rfl, rfl, rfl, rfl, rfl, rfl, trivial⟩ (hk152 v2 v5 v8 v10 v11 x1 s _ h)
def f_spreadTax_191 (k127 : Int32 → Int32 → Int64 → Int32 → St → Option (St)) (k152 : Int32 → Int32 → Int64 → Int32 → Int32 → Int32 → St → Option (St)) (n : Nat) (v2 : Int32) (v5 : Int32) (v8 : Int64) (v10 : Int32) (v12 : Int32) (s : St) : Option (St) :=
  f_spreadTax_195 k127 k152 n v2 v5 v8 v10 v12 v12 s
set_option maxRecDepth 65536 in
set_option maxHeartbeats 4000000 in
theorem ok14_191 (l : Launch) (Z : State) (a0 : Array Value) (hw : HW a0 Z) (n0 : Nat) (k127 : Int32 → Int32 → Int64 → Int32 → St → Option (St)) (hk127 : ∀ (v2 : Int32) (v5 : Int32) (v8 : Int64) (v10 : Int32) (s : St) (r : St), k127 v2 v5 v8 v10 s = some r → W14 l Z n0 (P14 r) 0 0 127 [.val (.ref 0), .unset, .val (.int v2), .unset, .unset, .val (.int v5), .unset, .unset, .val (.long v8), .second, .val (.int v10), .unset, .unset] [] (Hb 0 s)) (k152 : Int32 → Int32 → Int64 → Int32 → Int32 → Int32 → St → Option (St)) (hk152 : ∀ (v2 : Int32) (v5 : Int32) (v8 : Int64) (v10 : Int32) (v11 : Int32) (v12 : Int32) (s : St) (r : St), k152 v2 v5 v8 v10 v11 v12 s = some r → W14 l Z n0 (P14 r) 0 0 152 [.val (.ref 0), .unset, .val (.int v2), .unset, .unset, .val (.int v5), .unset, .unset, .val (.long v8), .second, .val (.int v10), .val (.int v11), .val (.int v12)] [] (Hb 0 s)) (n : Nat) (v2 : Int32) (v5 : Int32) (v8 : Int64) (v10 : Int32) (v12 : Int32) (s : St) (r : St) (h : f_spreadTax_191 k127 k152 n v2 v5 v8 v10 v12 s = some r) : W14 l Z n0 (P14 r) 0 0 191 [.val (.ref 0), .unset, .val (.int v2), .unset, .unset, .val (.int v5), .unset, .unset, .val (.long v8), .second, .val (.int v10), .unset, .val (.int v12)] [] (Hb 0 s) := by
  unfold f_spreadTax_191 at h
  refine WP.iload d14_191 rfl ?_
  refine WP.istore (L' := [.val (.ref 0), .unset, .val (.int v2), .unset, .unset, .val (.int v5), .unset, .unset, .val (.long v8), .second, .val (.int v10), .val (.int v12), .val (.int v12)]) d14_193 (leb rfl) rfl ?_
  exact WP.weak (L' := [.val (.ref 0), .unset, .val (.int v2), .unset, .unset, .val (.int v5), .unset, .unset, .val (.long v8), .second, .val (.int v10), .val (.int v12), .val (.int v12)]) ⟨rfl, rfl, rfl, rfl, rfl, rfl, rfl, rfl, trivial⟩ (ok14_195 l Z a0 hw n0 _ hk127 _ hk152 n v2 v5 v8 v10 v12 v12 s _ h)
def f_spreadTax_237 (n : Nat) (s : St) : Option (St) :=
  some s
set_option maxRecDepth 65536 in
set_option maxHeartbeats 4000000 in
theorem ok14_237 (l : Launch) (Z : State) (a0 : Array Value) (hw : HW a0 Z) (n0 : Nat) (n : Nat) (s : St) (r : St) (h : f_spreadTax_237 n s = some r) : W14 l Z n0 (P14 r) 0 0 237 [.unset, .unset, .unset, .unset, .unset, .unset, .unset, .unset, .unset, .unset, .unset, .unset, .unset] [] (Hb 0 s) := by
  unfold f_spreadTax_237 at h
  cases h
  exact WP.vreturn d14_237 rfl (leb rfl) (leb rfl) ⟨rfl, rfl⟩
def g_spreadTax_152 (k127 : Int32 → Int32 → Int64 → Int32 → St → Option (St)) (k152 : Int32 → Int32 → Int64 → Int32 → Int32 → Int32 → St → Option (St)) (n : Nat) (v2 : Int32) (v5 : Int32) (v8 : Int64) (v10 : Int32) (v11 : Int32) (v12 : Int32) (s : St) : Option (St) :=
  if v12 < v2 then
    (rd (gA s 13) v12).bind fun x2 =>
    if x2 = 0 then
      if v11 < 0 then
        f_spreadTax_191 k127 k152 n v2 v5 v8 v10 v12 s
      else
        (rd (gB s 9) v12).bind fun x5 =>
        (rd (gB s 9) v11).bind fun x6 =>
        if x6 < x5 then
          f_spreadTax_191 k127 k152 n v2 v5 v8 v10 v12 s
        else
          f_spreadTax_195 k127 k152 n v2 v5 v8 v10 v11 v12 s
    else
      f_spreadTax_195 k127 k152 n v2 v5 v8 v10 v11 v12 s
  else
    if v11 < 0 then
      f_spreadTax_237 n s
    else
      (wrA s 13 v11 (1 : Int32)).bind fun s9 =>
      (rd (gB s9 8) (v5 + v11)).bind fun x10 =>
      (wrB s9 8 (v5 + v11) (x10 + (1 : Int64))).bind fun s11 =>
      lt (v10 + (1 : Int32)) fun x12 =>
      k127 v2 v5 v8 x12 s11
set_option maxRecDepth 65536 in
set_option maxHeartbeats 4000000 in
theorem okg14_152 (l : Launch) (Z : State) (a0 : Array Value) (hw : HW a0 Z) (n0 : Nat) (k127 : Int32 → Int32 → Int64 → Int32 → St → Option (St)) (hk127 : ∀ (v2 : Int32) (v5 : Int32) (v8 : Int64) (v10 : Int32) (s : St) (r : St), k127 v2 v5 v8 v10 s = some r → W14 l Z n0 (P14 r) 0 0 127 [.val (.ref 0), .unset, .val (.int v2), .unset, .unset, .val (.int v5), .unset, .unset, .val (.long v8), .second, .val (.int v10), .unset, .unset] [] (Hb 0 s)) (k152 : Int32 → Int32 → Int64 → Int32 → Int32 → Int32 → St → Option (St)) (hk152 : ∀ (v2 : Int32) (v5 : Int32) (v8 : Int64) (v10 : Int32) (v11 : Int32) (v12 : Int32) (s : St) (r : St), k152 v2 v5 v8 v10 v11 v12 s = some r → W14 l Z n0 (P14 r) 0 0 152 [.val (.ref 0), .unset, .val (.int v2), .unset, .unset, .val (.int v5), .unset, .unset, .val (.long v8), .second, .val (.int v10), .val (.int v11), .val (.int v12)] [] (Hb 0 s)) (n : Nat) (v2 : Int32) (v5 : Int32) (v8 : Int64) (v10 : Int32) (v11 : Int32) (v12 : Int32) (s : St) (r : St) (h : g_spreadTax_152 k127 k152 n v2 v5 v8 v10 v11 v12 s = some r) : W14 l Z n0 (P14 r) 0 0 152 [.val (.ref 0), .unset, .val (.int v2), .unset, .unset, .val (.int v5), .unset, .unset, .val (.long v8), .second, .val (.int v10), .val (.int v11), .val (.int v12)] [] (Hb 0 s) := by
  unfold g_spreadTax_152 at h
  refine WP.iload d14_152 rfl ?_
  refine WP.iloadN d14_154 rfl ?_
  rcases ite_e h with ⟨hc1, h⟩ | ⟨hc1, h⟩
  ·
    refine WP.icmpN d14_155 (XT.ii_ge_f hc1) ?_
    refine WP.aloadN d14_158 rfl ?_
    refine WP.getfield (i := 0) (j := 27) d14_159 (hw _ m_61) rfl rfl rfl ?_
    refine WP.iload d14_162 rfl ?_
    obtain ⟨x2, hx2, h⟩ := Option.bind_eq_some_iff.mp h
    refine WP.baload (i := 24) d14_164 rfl hx2 ?_
    rcases ite_e h with ⟨hc3, h⟩ | ⟨hc3, h⟩
    ·
      refine WP.ifN d14_165 (XT.i0_ne_f hc3) ?_
      refine WP.iload d14_168 rfl ?_
      rcases ite_e h with ⟨hc4, h⟩ | ⟨hc4, h⟩
      ·
        refine WP.ifY (pc' := 191) d14_170 (XT.i0_lt_t hc4) (by decide) rfl ?_
        exact WP.weak (L' := [.val (.ref 0), .unset, .val (.int v2), .unset, .unset, .val (.int v5), .unset, .unset, .val (.long v8), .second, .val (.int v10), .unset, .val (.int v12)]) ⟨rfl, rfl, rfl, rfl, rfl, rfl, rfl, trivial⟩ (ok14_191 l Z a0 hw n0 _ hk127 _ hk152 n v2 v5 v8 v10 v12 s _ h)
      ·
        refine WP.ifN d14_170 (XT.i0_lt_f hc4) ?_
        refine WP.aloadN d14_173 rfl ?_
        refine WP.getfield (i := 0) (j := 26) d14_174 (hw _ m_59) rfl rfl rfl ?_
        refine WP.iload d14_177 rfl ?_
        obtain ⟨x5, hx5, h⟩ := Option.bind_eq_some_iff.mp h
        refine WP.laload (i := 23) d14_179 rfl hx5 ?_
        refine WP.aloadN d14_180 rfl ?_
        refine WP.getfield (i := 0) (j := 26) d14_181 (hw _ m_59) rfl rfl rfl ?_
        refine WP.iload d14_184 rfl ?_
        obtain ⟨x6, hx6, h⟩ := Option.bind_eq_some_iff.mp h
        refine WP.laload (i := 23) d14_186 rfl hx6 ?_
        refine WP.lcmp d14_187 ?_
        rcases ite_e h with ⟨hc7, h⟩ | ⟨hc7, h⟩
        ·
          refine WP.ifN d14_188 (XT.ll_le_f hc7) ?_
          exact WP.weak (L' := [.val (.ref 0), .unset, .val (.int v2), .unset, .unset, .val (.int v5), .unset, .unset, .val (.long v8), .second, .val (.int v10), .unset, .val (.int v12)]) ⟨rfl, rfl, rfl, rfl, rfl, rfl, rfl, trivial⟩ (ok14_191 l Z a0 hw n0 _ hk127 _ hk152 n v2 v5 v8 v10 v12 s _ h)
        ·
          refine WP.ifY (pc' := 195) d14_188 (XT.ll_le_t hc7) (by decide) rfl ?_
          exact WP.weak (L' := [.val (.ref 0), .unset, .val (.int v2), .unset, .unset, .val (.int v5), .unset, .unset, .val (.long v8), .second, .val (.int v10), .val (.int v11), .val (.int v12)]) ⟨rfl, rfl, rfl, rfl, rfl, rfl, rfl, rfl, trivial⟩ (ok14_195 l Z a0 hw n0 _ hk127 _ hk152 n v2 v5 v8 v10 v11 v12 s _ h)
    ·
      refine WP.ifY (pc' := 195) d14_165 (XT.i0_ne_t hc3) (by decide) rfl ?_
      exact WP.weak (L' := [.val (.ref 0), .unset, .val (.int v2), .unset, .unset, .val (.int v5), .unset, .unset, .val (.long v8), .second, .val (.int v10), .val (.int v11), .val (.int v12)]) ⟨rfl, rfl, rfl, rfl, rfl, rfl, rfl, rfl, trivial⟩ (ok14_195 l Z a0 hw n0 _ hk127 _ hk152 n v2 v5 v8 v10 v11 v12 s _ h)
  ·
    refine WP.icmpY (pc' := 201) d14_155 (XT.ii_ge_t hc1) (by decide) rfl ?_
    refine WP.iload d14_201 rfl ?_
    rcases ite_e h with ⟨hc8, h⟩ | ⟨hc8, h⟩
    ·
      refine WP.ifN d14_203 (XT.i0_ge_f hc8) ?_
      refine WP.goto (pc' := 237) d14_206 (by decide) rfl ?_
      exact WP.weak (L' := [.unset, .unset, .unset, .unset, .unset, .unset, .unset, .unset, .unset, .unset, .unset, .unset, .unset]) trivial (ok14_237 l Z a0 hw n0 n s _ h)
    ·
      refine WP.ifY (pc' := 209) d14_203 (XT.i0_ge_t hc8) (by decide) rfl ?_
      refine WP.aloadN d14_209 rfl ?_
      refine WP.getfield (i := 0) (j := 27) d14_210 (hw _ m_61) rfl rfl rfl ?_
      refine WP.iload d14_213 rfl ?_
      refine WP.iconst (1 : Int32) d14_215 rfl ?_
      obtain ⟨s9, hs9, h⟩ := Option.bind_eq_some_iff.mp h
      obtain ⟨ys9, gs9, es9⟩ := wrA_e hs9
      refine WP.bastore (i := 24) (xs := gA s 13) (H' := (Hb 0 s9)) d14_216 rfl (leb rfl) gs9 (by subst es9; rfl) ?_
      refine WP.aloadN d14_217 rfl ?_
      refine WP.getfield (i := 0) (j := 25) d14_218 (hw _ m_57) rfl rfl rfl ?_
      refine WP.iload d14_221 rfl ?_
      refine WP.iload d14_223 rfl ?_
      refine WP.iadd d14_225 ?_
      refine WP.dup2 d14_226 rfl rfl ?_
      obtain ⟨x10, hx10, h⟩ := Option.bind_eq_some_iff.mp h
      refine WP.laload (i := 22) d14_227 rfl hx10 ?_
      refine WP.lconst (1 : Int64) d14_228 rfl ?_
      refine WP.ladd d14_229 ?_
      obtain ⟨s11, hs11, h⟩ := Option.bind_eq_some_iff.mp h
      obtain ⟨ys11, gs11, es11⟩ := wrB_e hs11
      refine WP.lastore (i := 22) (xs := gB s9 8) (H' := (Hb 0 s11)) d14_230 rfl (leb rfl) gs11 (by subst es11; rfl) ?_
      obtain ⟨x12, ex12, h⟩ := lt_e h
      refine WP.iinc (L' := [.val (.ref 0), .unset, .val (.int v2), .unset, .unset, .val (.int v5), .unset, .unset, .val (.long v8), .second, .val (.int x12), .val (.int v11), .val (.int v12)]) (1 : Int32) d14_231 rfl rfl (by subst ex12; rfl) ?_
      refine WP.goto (pc' := 127) d14_234 (by decide) rfl ?_
      exact WP.weak (L' := [.val (.ref 0), .unset, .val (.int v2), .unset, .unset, .val (.int v5), .unset, .unset, .val (.long v8), .second, .val (.int x12), .unset, .unset]) ⟨rfl, rfl, rfl, rfl, rfl, rfl, trivial⟩ (hk127 v2 v5 v8 x12 s11 _ h)
def f_spreadTax_152 (k127 : Int32 → Int32 → Int64 → Int32 → St → Option (St)) : Nat → Int32 → Int32 → Int64 → Int32 → Int32 → Int32 → St → Option (St)
  | 0 => fun _ _ _ _ _ _ _ => none
  | n + 1 => g_spreadTax_152 k127 (f_spreadTax_152 k127 n) n
theorem ok14_152 (l : Launch) (Z : State) (a0 : Array Value) (hw : HW a0 Z) (n0 : Nat) (k127 : Int32 → Int32 → Int64 → Int32 → St → Option (St)) (hk127 : ∀ (v2 : Int32) (v5 : Int32) (v8 : Int64) (v10 : Int32) (s : St) (r : St), k127 v2 v5 v8 v10 s = some r → W14 l Z n0 (P14 r) 0 0 127 [.val (.ref 0), .unset, .val (.int v2), .unset, .unset, .val (.int v5), .unset, .unset, .val (.long v8), .second, .val (.int v10), .unset, .unset] [] (Hb 0 s)) : ∀ (n : Nat) (v2 : Int32) (v5 : Int32) (v8 : Int64) (v10 : Int32) (v11 : Int32) (v12 : Int32) (s : St) (r : St), f_spreadTax_152 k127 n v2 v5 v8 v10 v11 v12 s = some r → W14 l Z n0 (P14 r) 0 0 152 [.val (.ref 0), .unset, .val (.int v2), .unset, .unset, .val (.int v5), .unset, .unset, .val (.long v8), .second, .val (.int v10), .val (.int v11), .val (.int v12)] [] (Hb 0 s)
  | 0, v2, v5, v8, v10, v11, v12, s, r, h => nomatch (show none = some r from h)
  | n + 1, v2, v5, v8, v10, v11, v12, s, r, h => okg14_152 l Z a0 hw n0 _ hk127 _ (ok14_152 l Z a0 hw n0 k127 hk127 n) n v2 v5 v8 v10 v11 v12 s r h
def g_spreadTax_127 (k127 : Int32 → Int32 → Int64 → Int32 → St → Option (St)) (n : Nat) (v2 : Int32) (v5 : Int32) (v8 : Int64) (v10 : Int32) (s : St) : Option (St) :=
  if v10 < (8 : Int32) then
    if v10.toInt64 < v8 then
      f_spreadTax_152 k127 n v2 v5 v8 v10 (-1 : Int32) (0 : Int32) s
    else
      f_spreadTax_237 n s
  else
    f_spreadTax_237 n s
set_option maxRecDepth 65536 in
set_option maxHeartbeats 4000000 in
theorem okg14_127 (l : Launch) (Z : State) (a0 : Array Value) (hw : HW a0 Z) (n0 : Nat) (k127 : Int32 → Int32 → Int64 → Int32 → St → Option (St)) (hk127 : ∀ (v2 : Int32) (v5 : Int32) (v8 : Int64) (v10 : Int32) (s : St) (r : St), k127 v2 v5 v8 v10 s = some r → W14 l Z n0 (P14 r) 0 0 127 [.val (.ref 0), .unset, .val (.int v2), .unset, .unset, .val (.int v5), .unset, .unset, .val (.long v8), .second, .val (.int v10), .unset, .unset] [] (Hb 0 s)) (n : Nat) (v2 : Int32) (v5 : Int32) (v8 : Int64) (v10 : Int32) (s : St) (r : St) (h : g_spreadTax_127 k127 n v2 v5 v8 v10 s = some r) : W14 l Z n0 (P14 r) 0 0 127 [.val (.ref 0), .unset, .val (.int v2), .unset, .unset, .val (.int v5), .unset, .unset, .val (.long v8), .second, .val (.int v10), .unset, .unset] [] (Hb 0 s) := by
  unfold g_spreadTax_127 at h
  refine WP.iload d14_127 rfl ?_
  refine WP.bipush (8 : Int32) d14_129 rfl ?_
  rcases ite_e h with ⟨hc1, h⟩ | ⟨hc1, h⟩
  ·
    refine WP.icmpN d14_131 (XT.ii_ge_f hc1) ?_
    refine WP.iload d14_134 rfl ?_
    refine WP.i2l d14_136 ?_
    refine WP.lload d14_137 rfl ?_
    refine WP.lcmp d14_139 ?_
    rcases ite_e h with ⟨hc2, h⟩ | ⟨hc2, h⟩
    ·
      refine WP.ifY (pc' := 146) d14_140 (XT.ll_lt_t hc2) (by decide) rfl ?_
      refine WP.iconst (-1 : Int32) d14_146 rfl ?_
      refine WP.istore (L' := [.val (.ref 0), .unset, .val (.int v2), .unset, .unset, .val (.int v5), .unset, .unset, .val (.long v8), .second, .val (.int v10), .val (.int (-1 : Int32)), .unset]) d14_147 (leb rfl) rfl ?_
      refine WP.iconst (0 : Int32) d14_149 rfl ?_
      refine WP.istore (L' := [.val (.ref 0), .unset, .val (.int v2), .unset, .unset, .val (.int v5), .unset, .unset, .val (.long v8), .second, .val (.int v10), .val (.int (-1 : Int32)), .val (.int (0 : Int32))]) d14_150 (leb rfl) rfl ?_
      exact WP.weak (L' := [.val (.ref 0), .unset, .val (.int v2), .unset, .unset, .val (.int v5), .unset, .unset, .val (.long v8), .second, .val (.int v10), .val (.int (-1 : Int32)), .val (.int (0 : Int32))]) ⟨rfl, rfl, rfl, rfl, rfl, rfl, rfl, rfl, trivial⟩ (ok14_152 l Z a0 hw n0 _ hk127 n v2 v5 v8 v10 (-1 : Int32) (0 : Int32) s _ h)
    ·
      refine WP.ifN d14_140 (XT.ll_lt_f hc2) ?_
      refine WP.goto (pc' := 237) d14_143 (by decide) rfl ?_
      exact WP.weak (L' := [.unset, .unset, .unset, .unset, .unset, .unset, .unset, .unset, .unset, .unset, .unset, .unset, .unset]) trivial (ok14_237 l Z a0 hw n0 n s _ h)
  ·
    refine WP.icmpY (pc' := 237) d14_131 (XT.ii_ge_t hc1) (by decide) rfl ?_
    exact WP.weak (L' := [.unset, .unset, .unset, .unset, .unset, .unset, .unset, .unset, .unset, .unset, .unset, .unset, .unset]) trivial (ok14_237 l Z a0 hw n0 n s _ h)
def f_spreadTax_127 : Nat → Int32 → Int32 → Int64 → Int32 → St → Option (St)
  | 0 => fun _ _ _ _ _ => none
  | n + 1 => g_spreadTax_127 (f_spreadTax_127 n) n
theorem ok14_127 (l : Launch) (Z : State) (a0 : Array Value) (hw : HW a0 Z) (n0 : Nat) : ∀ (n : Nat) (v2 : Int32) (v5 : Int32) (v8 : Int64) (v10 : Int32) (s : St) (r : St), f_spreadTax_127 n v2 v5 v8 v10 s = some r → W14 l Z n0 (P14 r) 0 0 127 [.val (.ref 0), .unset, .val (.int v2), .unset, .unset, .val (.int v5), .unset, .unset, .val (.long v8), .second, .val (.int v10), .unset, .unset] [] (Hb 0 s)
  | 0, v2, v5, v8, v10, s, r, h => nomatch (show none = some r from h)
  | n + 1, v2, v5, v8, v10, s, r, h => okg14_127 l Z a0 hw n0 _ (ok14_127 l Z a0 hw n0 n) n v2 v5 v8 v10 s r h
def g_spreadTax_12 (k12 : Int32 → Int64 → Int32 → Int64 → Int32 → St → Option (St)) (n : Nat) (v2 : Int32) (v3 : Int64) (v5 : Int32) (v6 : Int64) (v8 : Int32) (s : St) : Option (St) :=
  if v8 < (8 : Int32) then
    if v8 < v2 then
      f_spreadTax_36 k12 n v2 v3 v5 v6 v8 (0 : Int32) v8 s
    else
      f_spreadTax_36 k12 n v2 v3 v5 v6 v8 (1 : Int32) v8 s
  else
    lt (v3 - v6) fun x3 =>
    f_spreadTax_127 n v2 v5 x3 (0 : Int32) s
set_option maxRecDepth 65536 in
set_option maxHeartbeats 4000000 in
theorem okg14_12 (l : Launch) (Z : State) (a0 : Array Value) (hw : HW a0 Z) (n0 : Nat) (k12 : Int32 → Int64 → Int32 → Int64 → Int32 → St → Option (St)) (hk12 : ∀ (v2 : Int32) (v3 : Int64) (v5 : Int32) (v6 : Int64) (v8 : Int32) (s : St) (r : St), k12 v2 v3 v5 v6 v8 s = some r → W14 l Z n0 (P14 r) 0 0 12 [.val (.ref 0), .unset, .val (.int v2), .val (.long v3), .second, .val (.int v5), .val (.long v6), .second, .val (.int v8), .unset, .unset, .unset, .unset] [] (Hb 0 s)) (n : Nat) (v2 : Int32) (v3 : Int64) (v5 : Int32) (v6 : Int64) (v8 : Int32) (s : St) (r : St) (h : g_spreadTax_12 k12 n v2 v3 v5 v6 v8 s = some r) : W14 l Z n0 (P14 r) 0 0 12 [.val (.ref 0), .unset, .val (.int v2), .val (.long v3), .second, .val (.int v5), .val (.long v6), .second, .val (.int v8), .unset, .unset, .unset, .unset] [] (Hb 0 s) := by
  unfold g_spreadTax_12 at h
  refine WP.iload d14_12 rfl ?_
  refine WP.bipush (8 : Int32) d14_14 rfl ?_
  rcases ite_e h with ⟨hc1, h⟩ | ⟨hc1, h⟩
  ·
    refine WP.icmpN d14_16 (XT.ii_ge_f hc1) ?_
    refine WP.aloadN d14_19 rfl ?_
    refine WP.getfield (i := 0) (j := 27) d14_20 (hw _ m_61) rfl rfl rfl ?_
    refine WP.iload d14_23 rfl ?_
    refine WP.iload d14_25 rfl ?_
    refine WP.iloadN d14_27 rfl ?_
    rcases ite_e h with ⟨hc2, h⟩ | ⟨hc2, h⟩
    ·
      refine WP.icmpY (pc' := 35) d14_28 (XT.ii_lt_t hc2) (by decide) rfl ?_
      refine WP.iconst (0 : Int32) d14_35 rfl ?_
      exact WP.weak (L' := [.val (.ref 0), .unset, .val (.int v2), .val (.long v3), .second, .val (.int v5), .val (.long v6), .second, .val (.int v8), .unset, .unset, .unset, .unset]) ⟨rfl, rfl, rfl, rfl, rfl, rfl, rfl, rfl, trivial⟩ (ok14_36 l Z a0 hw n0 _ hk12 n v2 v3 v5 v6 v8 (0 : Int32) v8 s _ h)
    ·
      refine WP.icmpN d14_28 (XT.ii_lt_f hc2) ?_
      refine WP.iconst (1 : Int32) d14_31 rfl ?_
      refine WP.goto (pc' := 36) d14_32 (by decide) rfl ?_
      exact WP.weak (L' := [.val (.ref 0), .unset, .val (.int v2), .val (.long v3), .second, .val (.int v5), .val (.long v6), .second, .val (.int v8), .unset, .unset, .unset, .unset]) ⟨rfl, rfl, rfl, rfl, rfl, rfl, rfl, rfl, trivial⟩ (ok14_36 l Z a0 hw n0 _ hk12 n v2 v3 v5 v6 v8 (1 : Int32) v8 s _ h)
  ·
    refine WP.icmpY (pc' := 118) d14_16 (XT.ii_ge_t hc1) (by decide) rfl ?_
    refine WP.lloadN d14_118 rfl ?_
    refine WP.lload d14_119 rfl ?_
    refine WP.lsub d14_121 ?_
    obtain ⟨x3, ex3, h⟩ := lt_e h
    refine WP.lstore (L' := [.val (.ref 0), .unset, .val (.int v2), .val (.long v3), .second, .val (.int v5), .val (.long v6), .second, .val (.long x3), .second, .unset, .unset, .unset]) d14_122 (leb rfl) (by subst ex3; rfl) ?_
    refine WP.iconst (0 : Int32) d14_124 rfl ?_
    refine WP.istore (L' := [.val (.ref 0), .unset, .val (.int v2), .val (.long v3), .second, .val (.int v5), .val (.long v6), .second, .val (.long x3), .second, .val (.int (0 : Int32)), .unset, .unset]) d14_125 (leb rfl) rfl ?_
    exact WP.weak (L' := [.val (.ref 0), .unset, .val (.int v2), .unset, .unset, .val (.int v5), .unset, .unset, .val (.long x3), .second, .val (.int (0 : Int32)), .unset, .unset]) ⟨rfl, rfl, rfl, rfl, rfl, rfl, trivial⟩ (ok14_127 l Z a0 hw n0 n v2 v5 x3 (0 : Int32) s _ h)
def f_spreadTax_12 : Nat → Int32 → Int64 → Int32 → Int64 → Int32 → St → Option (St)
  | 0 => fun _ _ _ _ _ _ => none
  | n + 1 => g_spreadTax_12 (f_spreadTax_12 n) n
theorem ok14_12 (l : Launch) (Z : State) (a0 : Array Value) (hw : HW a0 Z) (n0 : Nat) : ∀ (n : Nat) (v2 : Int32) (v3 : Int64) (v5 : Int32) (v6 : Int64) (v8 : Int32) (s : St) (r : St), f_spreadTax_12 n v2 v3 v5 v6 v8 s = some r → W14 l Z n0 (P14 r) 0 0 12 [.val (.ref 0), .unset, .val (.int v2), .val (.long v3), .second, .val (.int v5), .val (.long v6), .second, .val (.int v8), .unset, .unset, .unset, .unset] [] (Hb 0 s)
  | 0, v2, v3, v5, v6, v8, s, r, h => nomatch (show none = some r from h)
  | n + 1, v2, v3, v5, v6, v8, s, r, h => okg14_12 l Z a0 hw n0 _ (ok14_12 l Z a0 hw n0 n) n v2 v3 v5 v6 v8 s r h
def f_spreadTax (n : Nat) (p1 : Int32) (p2 : Int32) (p3 : Int64) (s : St) : Option (St) :=
  lt (p1 * (8 : Int32)) fun x1 =>
  f_spreadTax_12 n p2 p3 x1 (0 : Int64) (0 : Int32) s
set_option maxRecDepth 65536 in
set_option maxHeartbeats 4000000 in
theorem ok14 (l : Launch) (Z : State) (a0 : Array Value) (hw : HW a0 Z) (n : Nat) (p1 : Int32) (p2 : Int32) (p3 : Int64) (s : St) (r : St) (h : f_spreadTax n p1 p2 p3 s = some r) : CS l Z CN lay y14 prog_1_method_22_code 13 (none) R14 0 [.ref 0, .int p1, .int p2, .long p3] (Hb 0 s) (P14 r) := by
  refine CS.of_wp pn_cls (leb rfl) fun n0 => ?_
  show W14 l Z n0 (P14 r) 0 0 0 [.val (.ref 0), .val (.int p1), .val (.int p2), .val (.long p3), .second, .unset, .unset, .unset, .unset, .unset, .unset, .unset, .unset] [] (Hb 0 s)
  unfold f_spreadTax at h
  refine WP.iloadN d14_0 rfl ?_
  refine WP.bipush (8 : Int32) d14_1 rfl ?_
  refine WP.imul d14_3 ?_
  obtain ⟨x1, ex1, h⟩ := lt_e h
  refine WP.istore (L' := [.val (.ref 0), .val (.int p1), .val (.int p2), .val (.long p3), .second, .val (.int x1), .unset, .unset, .unset, .unset, .unset, .unset, .unset]) d14_4 (leb rfl) (by subst ex1; rfl) ?_
  refine WP.lconst (0 : Int64) d14_6 rfl ?_
  refine WP.lstore (L' := [.val (.ref 0), .val (.int p1), .val (.int p2), .val (.long p3), .second, .val (.int x1), .val (.long (0 : Int64)), .second, .unset, .unset, .unset, .unset, .unset]) d14_7 (leb rfl) rfl ?_
  refine WP.iconst (0 : Int32) d14_9 rfl ?_
  refine WP.istore (L' := [.val (.ref 0), .val (.int p1), .val (.int p2), .val (.long p3), .second, .val (.int x1), .val (.long (0 : Int64)), .second, .val (.int (0 : Int32)), .unset, .unset, .unset, .unset]) d14_10 (leb rfl) rfl ?_
  exact WP.weak (L' := [.val (.ref 0), .unset, .val (.int p2), .val (.long p3), .second, .val (.int x1), .val (.long (0 : Int64)), .second, .val (.int (0 : Int32)), .unset, .unset, .unset, .unset]) ⟨rfl, rfl, rfl, rfl, rfl, rfl, rfl, rfl, trivial⟩ (ok14_12 l Z a0 hw n0 n p2 p3 x1 (0 : Int64) (0 : Int32) s _ h)
theorem d12_0 : dc prog_1_method_23_code 0 (.aload_n 0) 1 := by decide +kernel
theorem d12_1 : dc prog_1_method_23_code 1 (.getfield 29) 3 := by decide +kernel
theorem d12_4 : dc prog_1_method_23_code 4 (.iload_n 1) 1 := by decide +kernel
theorem d12_5 : dc prog_1_method_23_code 5 (.iaload) 1 := by decide +kernel
theorem d12_6 : dc prog_1_method_23_code 6 (.istore_n 2) 1 := by decide +kernel
theorem d12_7 : dc prog_1_method_23_code 7 (.iload_n 2) 1 := by decide +kernel
theorem d12_8 : dc prog_1_method_23_code 8 (.ifCond .ge 5) 3 := by decide +kernel
theorem d12_11 : dc prog_1_method_23_code 11 (.iconst 0) 1 := by decide +kernel
theorem d12_12 : dc prog_1_method_23_code 12 (.istore_n 2) 1 := by decide +kernel
theorem d12_13 : dc prog_1_method_23_code 13 (.iload_n 2) 1 := by decide +kernel
theorem d12_14 : dc prog_1_method_23_code 14 (.iconst 4) 1 := by decide +kernel
theorem d12_15 : dc prog_1_method_23_code 15 (.if_icmp .le 5) 3 := by decide +kernel
theorem d12_18 : dc prog_1_method_23_code 18 (.iconst 4) 1 := by decide +kernel
theorem d12_19 : dc prog_1_method_23_code 19 (.istore_n 2) 1 := by decide +kernel
theorem d12_20 : dc prog_1_method_23_code 20 (.iconst 2) 1 := by decide +kernel
theorem d12_21 : dc prog_1_method_23_code 21 (.iload_n 2) 1 := by decide +kernel
theorem d12_22 : dc prog_1_method_23_code 22 (.imul) 1 := by decide +kernel
theorem d12_23 : dc prog_1_method_23_code 23 (.istore_n 3) 1 := by decide +kernel
theorem d12_24 : dc prog_1_method_23_code 24 (.aload_n 0) 1 := by decide +kernel
theorem d12_25 : dc prog_1_method_23_code 25 (.iload_n 1) 1 := by decide +kernel
theorem d12_26 : dc prog_1_method_23_code 26 (.iload_n 2) 1 := by decide +kernel
theorem d12_27 : dc prog_1_method_23_code 27 (.invokevirtual 145) 3 := by decide +kernel
theorem d12_30 : dc prog_1_method_23_code 30 (.lstore 4) 2 := by decide +kernel
theorem d12_32 : dc prog_1_method_23_code 32 (.lload 4) 2 := by decide +kernel
theorem d12_34 : dc prog_1_method_23_code 34 (.aload_n 0) 1 := by decide +kernel
theorem d12_35 : dc prog_1_method_23_code 35 (.getfield 92) 3 := by decide +kernel
theorem d12_38 : dc prog_1_method_23_code 38 (.i2l) 1 := by decide +kernel
theorem d12_39 : dc prog_1_method_23_code 39 (.lmul) 1 := by decide +kernel
theorem d12_40 : dc prog_1_method_23_code 40 (.ldc2_w 143) 3 := by decide +kernel
theorem d12_43 : dc prog_1_method_23_code 43 (.ldiv) 1 := by decide +kernel
theorem d12_44 : dc prog_1_method_23_code 44 (.lstore 6) 2 := by decide +kernel
theorem d12_46 : dc prog_1_method_23_code 46 (.aload_n 0) 1 := by decide +kernel
theorem d12_47 : dc prog_1_method_23_code 47 (.iload_n 1) 1 := by decide +kernel
theorem d12_48 : dc prog_1_method_23_code 48 (.iload_n 3) 1 := by decide +kernel
theorem d12_49 : dc prog_1_method_23_code 49 (.lload 6) 2 := by decide +kernel
theorem d12_51 : dc prog_1_method_23_code 51 (.invokevirtual 148) 3 := by decide +kernel
theorem d12_54 : dc prog_1_method_23_code 54 (.lload 4) 2 := by decide +kernel
theorem d12_56 : dc prog_1_method_23_code 56 (.lload 6) 2 := by decide +kernel
theorem d12_58 : dc prog_1_method_23_code 58 (.ladd) 1 := by decide +kernel
theorem d12_59 : dc prog_1_method_23_code 59 (.lstore 8) 2 := by decide +kernel
theorem d12_61 : dc prog_1_method_23_code 61 (.aload_n 0) 1 := by decide +kernel
theorem d12_62 : dc prog_1_method_23_code 62 (.getfield 32) 3 := by decide +kernel
theorem d12_65 : dc prog_1_method_23_code 65 (.iload_n 1) 1 := by decide +kernel
theorem d12_66 : dc prog_1_method_23_code 66 (.laload) 1 := by decide +kernel
theorem d12_67 : dc prog_1_method_23_code 67 (.lload 8) 2 := by decide +kernel
theorem d12_69 : dc prog_1_method_23_code 69 (.lcmp) 1 := by decide +kernel
theorem d12_70 : dc prog_1_method_23_code 70 (.ifCond .ge 12) 3 := by decide +kernel
theorem d12_73 : dc prog_1_method_23_code 73 (.aload_n 0) 1 := by decide +kernel
theorem d12_74 : dc prog_1_method_23_code 74 (.getfield 32) 3 := by decide +kernel
theorem d12_77 : dc prog_1_method_23_code 77 (.iload_n 1) 1 := by decide +kernel
theorem d12_78 : dc prog_1_method_23_code 78 (.laload) 1 := by decide +kernel
theorem d12_79 : dc prog_1_method_23_code 79 (.goto 5) 3 := by decide +kernel
theorem d12_82 : dc prog_1_method_23_code 82 (.lload 8) 2 := by decide +kernel
theorem d12_84 : dc prog_1_method_23_code 84 (.lstore 10) 2 := by decide +kernel
theorem d12_86 : dc prog_1_method_23_code 86 (.iload_n 2) 1 := by decide +kernel
theorem d12_87 : dc prog_1_method_23_code 87 (.ifCond .ne 6) 3 := by decide +kernel
theorem d12_90 : dc prog_1_method_23_code 90 (.lconst 0) 1 := by decide +kernel
theorem d12_91 : dc prog_1_method_23_code 91 (.lstore 10) 2 := by decide +kernel
theorem d12_93 : dc prog_1_method_23_code 93 (.aload_n 0) 1 := by decide +kernel
theorem d12_94 : dc prog_1_method_23_code 94 (.getfield 32) 3 := by decide +kernel
theorem d12_97 : dc prog_1_method_23_code 97 (.iload_n 1) 1 := by decide +kernel
theorem d12_98 : dc prog_1_method_23_code 98 (.dup2) 1 := by decide +kernel
theorem d12_99 : dc prog_1_method_23_code 99 (.laload) 1 := by decide +kernel
theorem d12_100 : dc prog_1_method_23_code 100 (.lload 10) 2 := by decide +kernel
theorem d12_102 : dc prog_1_method_23_code 102 (.lsub) 1 := by decide +kernel
theorem d12_103 : dc prog_1_method_23_code 103 (.lastore) 1 := by decide +kernel
theorem d12_104 : dc prog_1_method_23_code 104 (.aload_n 0) 1 := by decide +kernel
theorem d12_105 : dc prog_1_method_23_code 105 (.getfield 39) 3 := by decide +kernel
theorem d12_108 : dc prog_1_method_23_code 108 (.iload_n 1) 1 := by decide +kernel
theorem d12_109 : dc prog_1_method_23_code 109 (.dup2) 1 := by decide +kernel
theorem d12_110 : dc prog_1_method_23_code 110 (.laload) 1 := by decide +kernel
theorem d12_111 : dc prog_1_method_23_code 111 (.lload 10) 2 := by decide +kernel
theorem d12_113 : dc prog_1_method_23_code 113 (.ladd) 1 := by decide +kernel
theorem d12_114 : dc prog_1_method_23_code 114 (.lastore) 1 := by decide +kernel
theorem d12_115 : dc prog_1_method_23_code 115 (.aload_n 0) 1 := by decide +kernel
theorem d12_116 : dc prog_1_method_23_code 116 (.getfield 54) 3 := by decide +kernel
theorem d12_119 : dc prog_1_method_23_code 119 (.iload_n 1) 1 := by decide +kernel
theorem d12_120 : dc prog_1_method_23_code 120 (.iload_n 3) 1 := by decide +kernel
theorem d12_121 : dc prog_1_method_23_code 121 (.iastore) 1 := by decide +kernel
theorem d12_122 : dc prog_1_method_23_code 122 (.aload_n 0) 1 := by decide +kernel
theorem d12_123 : dc prog_1_method_23_code 123 (.getfield 57) 3 := by decide +kernel
theorem d12_126 : dc prog_1_method_23_code 126 (.iload_n 1) 1 := by decide +kernel
theorem d12_127 : dc prog_1_method_23_code 127 (.lload 4) 2 := by decide +kernel
theorem d12_129 : dc prog_1_method_23_code 129 (.lastore) 1 := by decide +kernel
theorem d12_130 : dc prog_1_method_23_code 130 (.aload_n 0) 1 := by decide +kernel
theorem d12_131 : dc prog_1_method_23_code 131 (.getfield 60) 3 := by decide +kernel
theorem d12_134 : dc prog_1_method_23_code 134 (.iload_n 1) 1 := by decide +kernel
theorem d12_135 : dc prog_1_method_23_code 135 (.lload 6) 2 := by decide +kernel
theorem d12_137 : dc prog_1_method_23_code 137 (.lastore) 1 := by decide +kernel
theorem d12_138 : dc prog_1_method_23_code 138 (.aload_n 0) 1 := by decide +kernel
theorem d12_139 : dc prog_1_method_23_code 139 (.getfield 63) 3 := by decide +kernel
theorem d12_142 : dc prog_1_method_23_code 142 (.iload_n 1) 1 := by decide +kernel
theorem d12_143 : dc prog_1_method_23_code 143 (.lload 10) 2 := by decide +kernel
theorem d12_145 : dc prog_1_method_23_code 145 (.lastore) 1 := by decide +kernel
theorem d12_146 : dc prog_1_method_23_code 146 (.aload_n 0) 1 := by decide +kernel
theorem d12_147 : dc prog_1_method_23_code 147 (.getfield 66) 3 := by decide +kernel
theorem d12_150 : dc prog_1_method_23_code 150 (.iload_n 1) 1 := by decide +kernel
theorem d12_151 : dc prog_1_method_23_code 151 (.lload 8) 2 := by decide +kernel
theorem d12_153 : dc prog_1_method_23_code 153 (.lload 10) 2 := by decide +kernel
theorem d12_155 : dc prog_1_method_23_code 155 (.lsub) 1 := by decide +kernel
theorem d12_156 : dc prog_1_method_23_code 156 (.lastore) 1 := by decide +kernel
theorem d12_157 : dc prog_1_method_23_code 157 (.aload_n 0) 1 := by decide +kernel
theorem d12_158 : dc prog_1_method_23_code 158 (.getfield 69) 3 := by decide +kernel
theorem d12_161 : dc prog_1_method_23_code 161 (.iload_n 1) 1 := by decide +kernel
theorem d12_162 : dc prog_1_method_23_code 162 (.aload_n 0) 1 := by decide +kernel
theorem d12_163 : dc prog_1_method_23_code 163 (.getfield 136) 3 := by decide +kernel
theorem d12_166 : dc prog_1_method_23_code 166 (.iastore) 1 := by decide +kernel
theorem d12_167 : dc prog_1_method_23_code 167 (.return_) 1 := by decide +kernel
abbrev y12 : MethodName := ⟨"BillingRun", "buildInvoice", "(I)V"⟩
theorem hy12 : y12.cls ≠ "java/lang/invoke/MethodHandle" ∧ y12.cls ≠ "java/lang/invoke/VarHandle" := by decide
theorem pd12 : parseMethodDescriptor y12.desc = some ⟨[.int], none⟩ := by decide +kernel
abbrev R12 : Room := { frames := 4, cells := 0, slots := 0, locals := 86 }
abbrev P12 (r : St) : Option Value → List OwnC → Prop := fun v H' => v = none ∧ H' = (Hb 0 r)
abbrev W12 (l : Launch) (Z : State) (n0 : Nat) (Q : Option Value → List OwnC → Prop) (k n pc : Nat) (L : List Slot) (S : List Value) (H : List OwnC) : Prop := WP l Z CN lay "BillingRun" "buildInvoice" prog_1_method_23_code 12 (none) R12 n0 0 Q k n pc L S H
def f_buildInvoice_93 (n : Nat) (v1 : Int32) (v3 : Int32) (v4 : Int64) (v6 : Int64) (v8 : Int64) (v10 : Int64) (s : St) : Option (St) :=
  (rd (gB s 0) v1).bind fun x1 =>
  (wrB s 0 v1 (x1 - v10)).bind fun s2 =>
  (rd (gB s2 2) v1).bind fun x3 =>
  (wrB s2 2 v1 (x3 + v10)).bind fun s4 =>
  (wrA s4 11 v1 v3).bind fun s5 =>
  (wrB s5 3 v1 v4).bind fun s6 =>
  (wrB s6 4 v1 v6).bind fun s7 =>
  (wrB s7 5 v1 v10).bind fun s8 =>
  (wrB s8 6 v1 (v8 - v10)).bind fun s9 =>
  (wrA s9 12 v1 (gI s9 3)).bind fun s10 =>
  some s10
set_option maxRecDepth 65536 in
set_option maxHeartbeats 4000000 in
theorem ok12_93 (l : Launch) (Z : State) (a0 : Array Value) (hw : HW a0 Z) (n0 : Nat) (n : Nat) (v1 : Int32) (v3 : Int32) (v4 : Int64) (v6 : Int64) (v8 : Int64) (v10 : Int64) (s : St) (r : St) (h : f_buildInvoice_93 n v1 v3 v4 v6 v8 v10 s = some r) : W12 l Z n0 (P12 r) 0 0 93 [.val (.ref 0), .val (.int v1), .unset, .val (.int v3), .val (.long v4), .second, .val (.long v6), .second, .val (.long v8), .second, .val (.long v10), .second] [] (Hb 0 s) := by
  unfold f_buildInvoice_93 at h
  refine WP.aloadN d12_93 rfl ?_
  refine WP.getfield (i := 0) (j := 11) d12_94 (hw _ m_29) rfl rfl rfl ?_
  refine WP.iloadN d12_97 rfl ?_
  refine WP.dup2 d12_98 rfl rfl ?_
  obtain ⟨x1, hx1, h⟩ := Option.bind_eq_some_iff.mp h
  refine WP.laload (i := 8) d12_99 rfl hx1 ?_
  refine WP.lload d12_100 rfl ?_
  refine WP.lsub d12_102 ?_
  obtain ⟨s2, hs2, h⟩ := Option.bind_eq_some_iff.mp h
  obtain ⟨ys2, gs2, es2⟩ := wrB_e hs2
  refine WP.lastore (i := 8) (xs := gB s 0) (H' := (Hb 0 s2)) d12_103 rfl (leb rfl) gs2 (by subst es2; rfl) ?_
  refine WP.aloadN d12_104 rfl ?_
  refine WP.getfield (i := 0) (j := 13) d12_105 (hw _ m_33) rfl rfl rfl ?_
  refine WP.iloadN d12_108 rfl ?_
  refine WP.dup2 d12_109 rfl rfl ?_
  obtain ⟨x3, hx3, h⟩ := Option.bind_eq_some_iff.mp h
  refine WP.laload (i := 10) d12_110 rfl hx3 ?_
  refine WP.lload d12_111 rfl ?_
  refine WP.ladd d12_113 ?_
  obtain ⟨s4, hs4, h⟩ := Option.bind_eq_some_iff.mp h
  obtain ⟨ys4, gs4, es4⟩ := wrB_e hs4
  refine WP.lastore (i := 10) (xs := gB s2 2) (H' := (Hb 0 s4)) d12_114 rfl (leb rfl) gs4 (by subst es4; rfl) ?_
  refine WP.aloadN d12_115 rfl ?_
  refine WP.getfield (i := 0) (j := 18) d12_116 (hw _ m_43) rfl rfl rfl ?_
  refine WP.iloadN d12_119 rfl ?_
  refine WP.iloadN d12_120 rfl ?_
  obtain ⟨s5, hs5, h⟩ := Option.bind_eq_some_iff.mp h
  obtain ⟨ys5, gs5, es5⟩ := wrA_e hs5
  refine WP.iastore (i := 15) (xs := gA s4 11) (H' := (Hb 0 s5)) d12_121 rfl (leb rfl) gs5 (by subst es5; rfl) ?_
  refine WP.aloadN d12_122 rfl ?_
  refine WP.getfield (i := 0) (j := 19) d12_123 (hw _ m_45) rfl rfl rfl ?_
  refine WP.iloadN d12_126 rfl ?_
  refine WP.lload d12_127 rfl ?_
  obtain ⟨s6, hs6, h⟩ := Option.bind_eq_some_iff.mp h
  obtain ⟨ys6, gs6, es6⟩ := wrB_e hs6
  refine WP.lastore (i := 16) (xs := gB s5 3) (H' := (Hb 0 s6)) d12_129 rfl (leb rfl) gs6 (by subst es6; rfl) ?_
  refine WP.aloadN d12_130 rfl ?_
  refine WP.getfield (i := 0) (j := 20) d12_131 (hw _ m_47) rfl rfl rfl ?_
  refine WP.iloadN d12_134 rfl ?_
  refine WP.lload d12_135 rfl ?_
  obtain ⟨s7, hs7, h⟩ := Option.bind_eq_some_iff.mp h
  obtain ⟨ys7, gs7, es7⟩ := wrB_e hs7
  refine WP.lastore (i := 17) (xs := gB s6 4) (H' := (Hb 0 s7)) d12_137 rfl (leb rfl) gs7 (by subst es7; rfl) ?_
  refine WP.aloadN d12_138 rfl ?_
  refine WP.getfield (i := 0) (j := 21) d12_139 (hw _ m_49) rfl rfl rfl ?_
  refine WP.iloadN d12_142 rfl ?_
  refine WP.lload d12_143 rfl ?_
  obtain ⟨s8, hs8, h⟩ := Option.bind_eq_some_iff.mp h
  obtain ⟨ys8, gs8, es8⟩ := wrB_e hs8
  refine WP.lastore (i := 18) (xs := gB s7 5) (H' := (Hb 0 s8)) d12_145 rfl (leb rfl) gs8 (by subst es8; rfl) ?_
  refine WP.aloadN d12_146 rfl ?_
  refine WP.getfield (i := 0) (j := 22) d12_147 (hw _ m_51) rfl rfl rfl ?_
  refine WP.iloadN d12_150 rfl ?_
  refine WP.lload d12_151 rfl ?_
  refine WP.lload d12_153 rfl ?_
  refine WP.lsub d12_155 ?_
  obtain ⟨s9, hs9, h⟩ := Option.bind_eq_some_iff.mp h
  obtain ⟨ys9, gs9, es9⟩ := wrB_e hs9
  refine WP.lastore (i := 19) (xs := gB s8 6) (H' := (Hb 0 s9)) d12_156 rfl (leb rfl) gs9 (by subst es9; rfl) ?_
  refine WP.aloadN d12_157 rfl ?_
  refine WP.getfield (i := 0) (j := 23) d12_158 (hw _ m_53) rfl rfl rfl ?_
  refine WP.iloadN d12_161 rfl ?_
  refine WP.aloadN d12_162 rfl ?_
  refine WP.getfield (i := 0) (j := 3) d12_163 (hw _ m_120) rfl rfl rfl ?_
  obtain ⟨s10, hs10, h⟩ := Option.bind_eq_some_iff.mp h
  obtain ⟨ys10, gs10, es10⟩ := wrA_e hs10
  refine WP.iastore (i := 20) (xs := gA s9 12) (H' := (Hb 0 s10)) d12_166 rfl (leb rfl) gs10 (by subst es10; rfl) ?_
  cases h
  exact WP.vreturn d12_167 rfl (leb rfl) (leb rfl) ⟨rfl, rfl⟩
def f_buildInvoice_84 (n : Nat) (v1 : Int32) (v2 : Int32) (v3 : Int32) (v4 : Int64) (v6 : Int64) (v8 : Int64) (t0 : Int64) (s : St) : Option (St) :=
  if v2 = 0 then
    f_buildInvoice_93 n v1 v3 v4 v6 v8 (0 : Int64) s
  else
    f_buildInvoice_93 n v1 v3 v4 v6 v8 t0 s
set_option maxRecDepth 65536 in
set_option maxHeartbeats 4000000 in
theorem ok12_84 (l : Launch) (Z : State) (a0 : Array Value) (hw : HW a0 Z) (n0 : Nat) (n : Nat) (v1 : Int32) (v2 : Int32) (v3 : Int32) (v4 : Int64) (v6 : Int64) (v8 : Int64) (t0 : Int64) (s : St) (r : St) (h : f_buildInvoice_84 n v1 v2 v3 v4 v6 v8 t0 s = some r) : W12 l Z n0 (P12 r) 0 0 84 [.val (.ref 0), .val (.int v1), .val (.int v2), .val (.int v3), .val (.long v4), .second, .val (.long v6), .second, .val (.long v8), .second, .unset, .unset] [.long t0] (Hb 0 s) := by
  unfold f_buildInvoice_84 at h
  refine WP.lstore (L' := [.val (.ref 0), .val (.int v1), .val (.int v2), .val (.int v3), .val (.long v4), .second, .val (.long v6), .second, .val (.long v8), .second, .val (.long t0), .second]) d12_84 (leb rfl) rfl ?_
  refine WP.iloadN d12_86 rfl ?_
  rcases ite_e h with ⟨hc1, h⟩ | ⟨hc1, h⟩
  ·
    refine WP.ifN d12_87 (XT.i0_ne_f hc1) ?_
    refine WP.lconst (0 : Int64) d12_90 rfl ?_
    refine WP.lstore (L' := [.val (.ref 0), .val (.int v1), .val (.int v2), .val (.int v3), .val (.long v4), .second, .val (.long v6), .second, .val (.long v8), .second, .val (.long (0 : Int64)), .second]) d12_91 (leb rfl) rfl ?_
    exact WP.weak (L' := [.val (.ref 0), .val (.int v1), .unset, .val (.int v3), .val (.long v4), .second, .val (.long v6), .second, .val (.long v8), .second, .val (.long (0 : Int64)), .second]) ⟨rfl, rfl, rfl, rfl, rfl, rfl, rfl, rfl, rfl, rfl, rfl, trivial⟩ (ok12_93 l Z a0 hw n0 n v1 v3 v4 v6 v8 (0 : Int64) s _ h)
  ·
    refine WP.ifY (pc' := 93) d12_87 (XT.i0_ne_t hc1) (by decide) rfl ?_
    exact WP.weak (L' := [.val (.ref 0), .val (.int v1), .unset, .val (.int v3), .val (.long v4), .second, .val (.long v6), .second, .val (.long v8), .second, .val (.long t0), .second]) ⟨rfl, rfl, rfl, rfl, rfl, rfl, rfl, rfl, rfl, rfl, rfl, trivial⟩ (ok12_93 l Z a0 hw n0 n v1 v3 v4 v6 v8 t0 s _ h)
def f_buildInvoice_20 (n : Nat) (v1 : Int32) (v2 : Int32) (s : St) : Option (St) :=
  lt ((2 : Int32) * v2) fun x1 =>
  (f_fillLines n v1 v2 s).bind fun c2 =>
  lt ((c2.1 * ((gI c2.2 1).toInt64)) / (10000 : Int64)) fun x3 =>
  (f_spreadTax n v1 x1 x3 c2.2).bind fun c4 =>
  lt (c2.1 + x3) fun x5 =>
  (rd (gB c4 0) v1).bind fun x6 =>
  if x6 < x5 then
    (rd (gB c4 0) v1).bind fun x8 =>
    f_buildInvoice_84 n v1 v2 x1 c2.1 x3 x5 x8 c4
  else
    f_buildInvoice_84 n v1 v2 x1 c2.1 x3 x5 x5 c4
set_option maxRecDepth 65536 in
set_option maxHeartbeats 4000000 in
theorem ok12_20 (l : Launch) (Z : State) (a0 : Array Value) (hw : HW a0 Z) (n0 : Nat) (n : Nat) (v1 : Int32) (v2 : Int32) (s : St) (r : St) (h : f_buildInvoice_20 n v1 v2 s = some r) : W12 l Z n0 (P12 r) 0 0 20 [.val (.ref 0), .val (.int v1), .val (.int v2), .unset, .unset, .unset, .unset, .unset, .unset, .unset, .unset, .unset] [] (Hb 0 s) := by
  unfold f_buildInvoice_20 at h
  refine WP.iconst (2 : Int32) d12_20 rfl ?_
  refine WP.iloadN d12_21 rfl ?_
  refine WP.imul d12_22 ?_
  obtain ⟨x1, ex1, h⟩ := lt_e h
  refine WP.istoreN (L' := [.val (.ref 0), .val (.int v1), .val (.int v2), .val (.int x1), .unset, .unset, .unset, .unset, .unset, .unset, .unset, .unset]) d12_23 (leb rfl) (by subst ex1; rfl) ?_
  refine WP.aloadN d12_24 rfl ?_
  refine WP.iloadN d12_25 rfl ?_
  refine WP.iloadN d12_26 rfl ?_
  obtain ⟨c2, hc2, h⟩ := Option.bind_eq_some_iff.mp h
  refine WP.callP (i := 0) (y := y13) (as := [.int v1, .int v2]) (S := []) d12_27 (hw _ m_126) (hw _ m_128) (hw _ m_4) (hw _ m_127) (hw _ m_129) (hw _ m_5) hy13 rfl (ok13 l Z a0 hw n v1 v2 s _ hc2) rfl (lenOf pd13 rfl) (leb rfl) (leb rfl) (leb rfl) (leb rfl) ?_
  rintro _ _ ⟨rfl, rfl⟩
  show W12 l Z n0 (P12 r) 0 0 30 [.val (.ref 0), .val (.int v1), .val (.int v2), .val (.int x1), .unset, .unset, .unset, .unset, .unset, .unset, .unset, .unset] [.long c2.1] (Hb 0 c2.2)
  refine WP.lstore (L' := [.val (.ref 0), .val (.int v1), .val (.int v2), .val (.int x1), .val (.long c2.1), .second, .unset, .unset, .unset, .unset, .unset, .unset]) d12_30 (leb rfl) rfl ?_
  refine WP.lload d12_32 rfl ?_
  refine WP.aloadN d12_34 rfl ?_
  refine WP.getfield (i := 0) (j := 1) d12_35 (hw _ m_68) rfl rfl rfl ?_
  refine WP.i2l d12_38 ?_
  refine WP.lmul d12_39 ?_
  refine WP.ldc2 d12_40 (hw _ m_130) ?_
  refine WP.ldiv d12_43 (by decide) ?_
  obtain ⟨x3, ex3, h⟩ := lt_e h
  refine WP.lstore (L' := [.val (.ref 0), .val (.int v1), .val (.int v2), .val (.int x1), .val (.long c2.1), .second, .val (.long x3), .second, .unset, .unset, .unset, .unset]) d12_44 (leb rfl) (by subst ex3; rfl) ?_
  refine WP.aloadN d12_46 rfl ?_
  refine WP.iloadN d12_47 rfl ?_
  refine WP.iloadN d12_48 rfl ?_
  refine WP.lload d12_49 rfl ?_
  obtain ⟨c4, hc4, h⟩ := Option.bind_eq_some_iff.mp h
  refine WP.callP (i := 0) (y := y14) (as := [.int v1, .int x1, .long x3]) (S := []) d12_51 (hw _ m_131) (hw _ m_133) (hw _ m_4) (hw _ m_132) (hw _ m_134) (hw _ m_5) hy14 rfl (ok14 l Z a0 hw n v1 x1 x3 c2.2 _ hc4) rfl (lenOf pd14 rfl) (leb rfl) (leb rfl) (leb rfl) (leb rfl) ?_
  rintro _ _ ⟨rfl, rfl⟩
  show W12 l Z n0 (P12 r) 0 0 54 [.val (.ref 0), .val (.int v1), .val (.int v2), .val (.int x1), .val (.long c2.1), .second, .val (.long x3), .second, .unset, .unset, .unset, .unset] [] (Hb 0 c4)
  refine WP.lload d12_54 rfl ?_
  refine WP.lload d12_56 rfl ?_
  refine WP.ladd d12_58 ?_
  obtain ⟨x5, ex5, h⟩ := lt_e h
  refine WP.lstore (L' := [.val (.ref 0), .val (.int v1), .val (.int v2), .val (.int x1), .val (.long c2.1), .second, .val (.long x3), .second, .val (.long x5), .second, .unset, .unset]) d12_59 (leb rfl) (by subst ex5; rfl) ?_
  refine WP.aloadN d12_61 rfl ?_
  refine WP.getfield (i := 0) (j := 11) d12_62 (hw _ m_29) rfl rfl rfl ?_
  refine WP.iloadN d12_65 rfl ?_
  obtain ⟨x6, hx6, h⟩ := Option.bind_eq_some_iff.mp h
  refine WP.laload (i := 8) d12_66 rfl hx6 ?_
  refine WP.lload d12_67 rfl ?_
  refine WP.lcmp d12_69 ?_
  rcases ite_e h with ⟨hc7, h⟩ | ⟨hc7, h⟩
  ·
    refine WP.ifN d12_70 (XT.ll_ge_f hc7) ?_
    refine WP.aloadN d12_73 rfl ?_
    refine WP.getfield (i := 0) (j := 11) d12_74 (hw _ m_29) rfl rfl rfl ?_
    refine WP.iloadN d12_77 rfl ?_
    obtain ⟨x8, hx8, h⟩ := Option.bind_eq_some_iff.mp h
    refine WP.laload (i := 8) d12_78 rfl hx8 ?_
    refine WP.goto (pc' := 84) d12_79 (by decide) rfl ?_
    exact WP.weak (L' := [.val (.ref 0), .val (.int v1), .val (.int v2), .val (.int x1), .val (.long c2.1), .second, .val (.long x3), .second, .val (.long x5), .second, .unset, .unset]) ⟨rfl, rfl, rfl, rfl, rfl, rfl, rfl, rfl, rfl, rfl, trivial⟩ (ok12_84 l Z a0 hw n0 n v1 v2 x1 c2.1 x3 x5 x8 c4 _ h)
  ·
    refine WP.ifY (pc' := 82) d12_70 (XT.ll_ge_t hc7) (by decide) rfl ?_
    refine WP.lload d12_82 rfl ?_
    exact WP.weak (L' := [.val (.ref 0), .val (.int v1), .val (.int v2), .val (.int x1), .val (.long c2.1), .second, .val (.long x3), .second, .val (.long x5), .second, .unset, .unset]) ⟨rfl, rfl, rfl, rfl, rfl, rfl, rfl, rfl, rfl, rfl, trivial⟩ (ok12_84 l Z a0 hw n0 n v1 v2 x1 c2.1 x3 x5 x5 c4 _ h)
def f_buildInvoice_13 (n : Nat) (v1 : Int32) (v2 : Int32) (s : St) : Option (St) :=
  if (4 : Int32) < v2 then
    f_buildInvoice_20 n v1 (4 : Int32) s
  else
    f_buildInvoice_20 n v1 v2 s
set_option maxRecDepth 65536 in
set_option maxHeartbeats 4000000 in
theorem ok12_13 (l : Launch) (Z : State) (a0 : Array Value) (hw : HW a0 Z) (n0 : Nat) (n : Nat) (v1 : Int32) (v2 : Int32) (s : St) (r : St) (h : f_buildInvoice_13 n v1 v2 s = some r) : W12 l Z n0 (P12 r) 0 0 13 [.val (.ref 0), .val (.int v1), .val (.int v2), .unset, .unset, .unset, .unset, .unset, .unset, .unset, .unset, .unset] [] (Hb 0 s) := by
  unfold f_buildInvoice_13 at h
  refine WP.iloadN d12_13 rfl ?_
  refine WP.iconst (4 : Int32) d12_14 rfl ?_
  rcases ite_e h with ⟨hc1, h⟩ | ⟨hc1, h⟩
  ·
    refine WP.icmpN d12_15 (XT.ii_le_f hc1) ?_
    refine WP.iconst (4 : Int32) d12_18 rfl ?_
    refine WP.istoreN (L' := [.val (.ref 0), .val (.int v1), .val (.int (4 : Int32)), .unset, .unset, .unset, .unset, .unset, .unset, .unset, .unset, .unset]) d12_19 (leb rfl) rfl ?_
    exact WP.weak (L' := [.val (.ref 0), .val (.int v1), .val (.int (4 : Int32)), .unset, .unset, .unset, .unset, .unset, .unset, .unset, .unset, .unset]) ⟨rfl, rfl, rfl, trivial⟩ (ok12_20 l Z a0 hw n0 n v1 (4 : Int32) s _ h)
  ·
    refine WP.icmpY (pc' := 20) d12_15 (XT.ii_le_t hc1) (by decide) rfl ?_
    exact WP.weak (L' := [.val (.ref 0), .val (.int v1), .val (.int v2), .unset, .unset, .unset, .unset, .unset, .unset, .unset, .unset, .unset]) ⟨rfl, rfl, rfl, trivial⟩ (ok12_20 l Z a0 hw n0 n v1 v2 s _ h)
def f_buildInvoice (n : Nat) (p1 : Int32) (s : St) : Option (St) :=
  (rd (gA s 6) p1).bind fun x1 =>
  if x1 < 0 then
    f_buildInvoice_13 n p1 (0 : Int32) s
  else
    f_buildInvoice_13 n p1 x1 s
set_option maxRecDepth 65536 in
set_option maxHeartbeats 4000000 in
theorem ok12 (l : Launch) (Z : State) (a0 : Array Value) (hw : HW a0 Z) (n : Nat) (p1 : Int32) (s : St) (r : St) (h : f_buildInvoice n p1 s = some r) : CS l Z CN lay y12 prog_1_method_23_code 12 (none) R12 0 [.ref 0, .int p1] (Hb 0 s) (P12 r) := by
  refine CS.of_wp pn_cls (leb rfl) fun n0 => ?_
  show W12 l Z n0 (P12 r) 0 0 0 [.val (.ref 0), .val (.int p1), .unset, .unset, .unset, .unset, .unset, .unset, .unset, .unset, .unset, .unset] [] (Hb 0 s)
  unfold f_buildInvoice at h
  refine WP.aloadN d12_0 rfl ?_
  refine WP.getfield (i := 0) (j := 10) d12_1 (hw _ m_26) rfl rfl rfl ?_
  refine WP.iloadN d12_4 rfl ?_
  obtain ⟨x1, hx1, h⟩ := Option.bind_eq_some_iff.mp h
  refine WP.iaload (i := 7) d12_5 rfl hx1 ?_
  refine WP.istoreN (L' := [.val (.ref 0), .val (.int p1), .val (.int x1), .unset, .unset, .unset, .unset, .unset, .unset, .unset, .unset, .unset]) d12_6 (leb rfl) rfl ?_
  refine WP.iloadN d12_7 rfl ?_
  rcases ite_e h with ⟨hc2, h⟩ | ⟨hc2, h⟩
  ·
    refine WP.ifN d12_8 (XT.i0_ge_f hc2) ?_
    refine WP.iconst (0 : Int32) d12_11 rfl ?_
    refine WP.istoreN (L' := [.val (.ref 0), .val (.int p1), .val (.int (0 : Int32)), .unset, .unset, .unset, .unset, .unset, .unset, .unset, .unset, .unset]) d12_12 (leb rfl) rfl ?_
    exact WP.weak (L' := [.val (.ref 0), .val (.int p1), .val (.int (0 : Int32)), .unset, .unset, .unset, .unset, .unset, .unset, .unset, .unset, .unset]) ⟨rfl, rfl, rfl, trivial⟩ (ok12_13 l Z a0 hw n0 n p1 (0 : Int32) s _ h)
  ·
    refine WP.ifY (pc' := 13) d12_8 (XT.i0_ge_t hc2) (by decide) rfl ?_
    exact WP.weak (L' := [.val (.ref 0), .val (.int p1), .val (.int x1), .unset, .unset, .unset, .unset, .unset, .unset, .unset, .unset, .unset]) ⟨rfl, rfl, rfl, trivial⟩ (ok12_13 l Z a0 hw n0 n p1 x1 s _ h)
theorem d11_0 : dc prog_1_method_20_code 0 (.aload_n 0) 1 := by decide +kernel
theorem d11_1 : dc prog_1_method_20_code 1 (.dup) 1 := by decide +kernel
theorem d11_2 : dc prog_1_method_20_code 2 (.getfield 136) 3 := by decide +kernel
theorem d11_5 : dc prog_1_method_20_code 5 (.iconst 1) 1 := by decide +kernel
theorem d11_6 : dc prog_1_method_20_code 6 (.iadd) 1 := by decide +kernel
theorem d11_7 : dc prog_1_method_20_code 7 (.putfield 136) 3 := by decide +kernel
theorem d11_10 : dc prog_1_method_20_code 10 (.iconst 0) 1 := by decide +kernel
theorem d11_11 : dc prog_1_method_20_code 11 (.istore_n 1) 1 := by decide +kernel
theorem d11_12 : dc prog_1_method_20_code 12 (.iconst 0) 1 := by decide +kernel
theorem d11_13 : dc prog_1_method_20_code 13 (.istore_n 2) 1 := by decide +kernel
theorem d11_14 : dc prog_1_method_20_code 14 (.iload_n 2) 1 := by decide +kernel
theorem d11_15 : dc prog_1_method_20_code 15 (.bipush 16) 2 := by decide +kernel
theorem d11_17 : dc prog_1_method_20_code 17 (.if_icmp .ge 74) 3 := by decide +kernel
theorem d11_20 : dc prog_1_method_20_code 20 (.aload_n 0) 1 := by decide +kernel
theorem d11_21 : dc prog_1_method_20_code 21 (.getfield 29) 3 := by decide +kernel
theorem d11_24 : dc prog_1_method_20_code 24 (.iload_n 2) 1 := by decide +kernel
theorem d11_25 : dc prog_1_method_20_code 25 (.iaload) 1 := by decide +kernel
theorem d11_26 : dc prog_1_method_20_code 26 (.ifCond .le 6) 3 := by decide +kernel
theorem d11_29 : dc prog_1_method_20_code 29 (.iinc 1 1) 3 := by decide +kernel
theorem d11_32 : dc prog_1_method_20_code 32 (.aload_n 0) 1 := by decide +kernel
theorem d11_33 : dc prog_1_method_20_code 33 (.iload_n 2) 1 := by decide +kernel
theorem d11_34 : dc prog_1_method_20_code 34 (.invokevirtual 132) 3 := by decide +kernel
theorem d11_37 : dc prog_1_method_20_code 37 (.istore_n 3) 1 := by decide +kernel
theorem d11_38 : dc prog_1_method_20_code 38 (.iload_n 3) 1 := by decide +kernel
theorem d11_39 : dc prog_1_method_20_code 39 (.ifCond .lt 13) 3 := by decide +kernel
theorem d11_42 : dc prog_1_method_20_code 42 (.aload_n 0) 1 := by decide +kernel
theorem d11_43 : dc prog_1_method_20_code 43 (.getfield 45) 3 := by decide +kernel
theorem d11_46 : dc prog_1_method_20_code 46 (.iload_n 3) 1 := by decide +kernel
theorem d11_47 : dc prog_1_method_20_code 47 (.aload_n 0) 1 := by decide +kernel
theorem d11_48 : dc prog_1_method_20_code 48 (.getfield 88) 3 := by decide +kernel
theorem d11_51 : dc prog_1_method_20_code 51 (.iastore) 1 := by decide +kernel
theorem d11_52 : dc prog_1_method_20_code 52 (.aload_n 0) 1 := by decide +kernel
theorem d11_53 : dc prog_1_method_20_code 53 (.iload_n 2) 1 := by decide +kernel
theorem d11_54 : dc prog_1_method_20_code 54 (.invokevirtual 139) 3 := by decide +kernel
theorem d11_57 : dc prog_1_method_20_code 57 (.aload_n 0) 1 := by decide +kernel
theorem d11_58 : dc prog_1_method_20_code 58 (.getfield 29) 3 := by decide +kernel
theorem d11_61 : dc prog_1_method_20_code 61 (.iload_n 2) 1 := by decide +kernel
theorem d11_62 : dc prog_1_method_20_code 62 (.iconst 0) 1 := by decide +kernel
theorem d11_63 : dc prog_1_method_20_code 63 (.iastore) 1 := by decide +kernel
theorem d11_64 : dc prog_1_method_20_code 64 (.aload_n 0) 1 := by decide +kernel
theorem d11_65 : dc prog_1_method_20_code 65 (.getfield 22) 3 := by decide +kernel
theorem d11_68 : dc prog_1_method_20_code 68 (.iload_n 2) 1 := by decide +kernel
theorem d11_69 : dc prog_1_method_20_code 69 (.baload) 1 := by decide +kernel
theorem d11_70 : dc prog_1_method_20_code 70 (.ifCond .eq 15) 3 := by decide +kernel
theorem d11_73 : dc prog_1_method_20_code 73 (.aload_n 0) 1 := by decide +kernel
theorem d11_74 : dc prog_1_method_20_code 74 (.iload_n 2) 1 := by decide +kernel
theorem d11_75 : dc prog_1_method_20_code 75 (.iconst 0) 1 := by decide +kernel
theorem d11_76 : dc prog_1_method_20_code 76 (.aload_n 0) 1 := by decide +kernel
theorem d11_77 : dc prog_1_method_20_code 77 (.getfield 26) 3 := by decide +kernel
theorem d11_80 : dc prog_1_method_20_code 80 (.iload_n 2) 1 := by decide +kernel
theorem d11_81 : dc prog_1_method_20_code 81 (.iaload) 1 := by decide +kernel
theorem d11_82 : dc prog_1_method_20_code 82 (.invokevirtual 128) 3 := by decide +kernel
theorem d11_85 : dc prog_1_method_20_code 85 (.iinc 2 1) 3 := by decide +kernel
theorem d11_88 : dc prog_1_method_20_code 88 (.goto (-74)) 3 := by decide +kernel
theorem d11_91 : dc prog_1_method_20_code 91 (.aload_n 0) 1 := by decide +kernel
theorem d11_92 : dc prog_1_method_20_code 92 (.iconst 0) 1 := by decide +kernel
theorem d11_93 : dc prog_1_method_20_code 93 (.putfield 96) 3 := by decide +kernel
theorem d11_96 : dc prog_1_method_20_code 96 (.iload_n 1) 1 := by decide +kernel
theorem d11_97 : dc prog_1_method_20_code 97 (.ireturn) 1 := by decide +kernel
abbrev y11 : MethodName := ⟨"BillingRun", "closeCycle", "()I"⟩
theorem hy11 : y11.cls ≠ "java/lang/invoke/MethodHandle" ∧ y11.cls ≠ "java/lang/invoke/VarHandle" := by decide
theorem pd11 : parseMethodDescriptor y11.desc = some ⟨[], some .int⟩ := by decide +kernel
abbrev R11 : Room := { frames := 5, cells := 0, slots := 0, locals := 109 }
abbrev P11 (r : Int32 × St) : Option Value → List OwnC → Prop := fun v H' => v = some (.int r.1) ∧ H' = (Hb 0 r.2)
abbrev W11 (l : Launch) (Z : State) (n0 : Nat) (Q : Option Value → List OwnC → Prop) (k n pc : Nat) (L : List Slot) (S : List Value) (H : List OwnC) : Prop := WP l Z CN lay "BillingRun" "closeCycle" prog_1_method_20_code 4 (some FieldType.int) R11 n0 0 Q k n pc L S H
def f_closeCycle_85 (k14 : Int32 → Int32 → St → Option (Int32 × St)) (n : Nat) (v1 : Int32) (v2 : Int32) (s : St) : Option (Int32 × St) :=
  lt (v2 + (1 : Int32)) fun x1 =>
  k14 v1 x1 s
set_option maxRecDepth 65536 in
set_option maxHeartbeats 4000000 in
theorem ok11_85 (l : Launch) (Z : State) (a0 : Array Value) (hw : HW a0 Z) (n0 : Nat) (k14 : Int32 → Int32 → St → Option (Int32 × St)) (hk14 : ∀ (v1 : Int32) (v2 : Int32) (s : St) (r : Int32 × St), k14 v1 v2 s = some r → W11 l Z n0 (P11 r) 0 0 14 [.val (.ref 0), .val (.int v1), .val (.int v2), .unset] [] (Hb 0 s)) (n : Nat) (v1 : Int32) (v2 : Int32) (s : St) (r : Int32 × St) (h : f_closeCycle_85 k14 n v1 v2 s = some r) : W11 l Z n0 (P11 r) 0 0 85 [.val (.ref 0), .val (.int v1), .val (.int v2), .unset] [] (Hb 0 s) := by
  unfold f_closeCycle_85 at h
  obtain ⟨x1, ex1, h⟩ := lt_e h
  refine WP.iinc (L' := [.val (.ref 0), .val (.int v1), .val (.int x1), .unset]) (1 : Int32) d11_85 rfl rfl (by subst ex1; rfl) ?_
  refine WP.goto (pc' := 14) d11_88 (by decide) rfl ?_
  exact WP.weak (L' := [.val (.ref 0), .val (.int v1), .val (.int x1), .unset]) ⟨rfl, rfl, rfl, trivial⟩ (hk14 v1 x1 s _ h)
def f_closeCycle_52 (k14 : Int32 → Int32 → St → Option (Int32 × St)) (n : Nat) (v1 : Int32) (v2 : Int32) (s : St) : Option (Int32 × St) :=
  (f_buildInvoice n v2 s).bind fun c1 =>
  (wrA c1 6 v2 (0 : Int32)).bind fun s2 =>
  (rd (gA s2 4) v2).bind fun x3 =>
  if x3 = 0 then
    f_closeCycle_85 k14 n v1 v2 s2
  else
    (rd (gA s2 5) v2).bind fun x5 =>
    (f_appendSegment v2 (0 : Int32) x5 s2).bind fun c6 =>
    f_closeCycle_85 k14 n v1 v2 c6
set_option maxRecDepth 65536 in
set_option maxHeartbeats 4000000 in
theorem ok11_52 (l : Launch) (Z : State) (a0 : Array Value) (hw : HW a0 Z) (n0 : Nat) (k14 : Int32 → Int32 → St → Option (Int32 × St)) (hk14 : ∀ (v1 : Int32) (v2 : Int32) (s : St) (r : Int32 × St), k14 v1 v2 s = some r → W11 l Z n0 (P11 r) 0 0 14 [.val (.ref 0), .val (.int v1), .val (.int v2), .unset] [] (Hb 0 s)) (n : Nat) (v1 : Int32) (v2 : Int32) (s : St) (r : Int32 × St) (h : f_closeCycle_52 k14 n v1 v2 s = some r) : W11 l Z n0 (P11 r) 0 0 52 [.val (.ref 0), .val (.int v1), .val (.int v2), .unset] [] (Hb 0 s) := by
  unfold f_closeCycle_52 at h
  refine WP.aloadN d11_52 rfl ?_
  refine WP.iloadN d11_53 rfl ?_
  obtain ⟨c1, hc1, h⟩ := Option.bind_eq_some_iff.mp h
  refine WP.callP (i := 0) (y := y12) (as := [.int v2]) (S := []) d11_54 (hw _ m_122) (hw _ m_124) (hw _ m_4) (hw _ m_123) (hw _ m_125) (hw _ m_5) hy12 rfl (ok12 l Z a0 hw n v2 s _ hc1) rfl (lenOf pd12 rfl) (leb rfl) (leb rfl) (leb rfl) (leb rfl) ?_
  rintro _ _ ⟨rfl, rfl⟩
  show W11 l Z n0 (P11 r) 0 0 57 [.val (.ref 0), .val (.int v1), .val (.int v2), .unset] [] (Hb 0 c1)
  refine WP.aloadN d11_57 rfl ?_
  refine WP.getfield (i := 0) (j := 10) d11_58 (hw _ m_26) rfl rfl rfl ?_
  refine WP.iloadN d11_61 rfl ?_
  refine WP.iconst (0 : Int32) d11_62 rfl ?_
  obtain ⟨s2, hs2, h⟩ := Option.bind_eq_some_iff.mp h
  obtain ⟨ys2, gs2, es2⟩ := wrA_e hs2
  refine WP.iastore (i := 7) (xs := gA c1 6) (H' := (Hb 0 s2)) d11_63 rfl (leb rfl) gs2 (by subst es2; rfl) ?_
  refine WP.aloadN d11_64 rfl ?_
  refine WP.getfield (i := 0) (j := 8) d11_65 (hw _ m_22) rfl rfl rfl ?_
  refine WP.iloadN d11_68 rfl ?_
  obtain ⟨x3, hx3, h⟩ := Option.bind_eq_some_iff.mp h
  refine WP.baload (i := 5) d11_69 rfl hx3 ?_
  rcases ite_e h with ⟨hc4, h⟩ | ⟨hc4, h⟩
  ·
    refine WP.ifY (pc' := 85) d11_70 (XT.i0_eq_t hc4) (by decide) rfl ?_
    exact WP.weak (L' := [.val (.ref 0), .val (.int v1), .val (.int v2), .unset]) ⟨rfl, rfl, rfl, trivial⟩ (ok11_85 l Z a0 hw n0 _ hk14 n v1 v2 s2 _ h)
  ·
    refine WP.ifN d11_70 (XT.i0_eq_f hc4) ?_
    refine WP.aloadN d11_73 rfl ?_
    refine WP.iloadN d11_74 rfl ?_
    refine WP.iconst (0 : Int32) d11_75 rfl ?_
    refine WP.aloadN d11_76 rfl ?_
    refine WP.getfield (i := 0) (j := 9) d11_77 (hw _ m_24) rfl rfl rfl ?_
    refine WP.iloadN d11_80 rfl ?_
    obtain ⟨x5, hx5, h⟩ := Option.bind_eq_some_iff.mp h
    refine WP.iaload (i := 6) d11_81 rfl hx5 ?_
    obtain ⟨c6, hc6, h⟩ := Option.bind_eq_some_iff.mp h
    refine WP.callP (i := 0) (y := y8) (as := [.int v2, .int (0 : Int32), .int x5]) (S := []) d11_82 (hw _ m_102) (hw _ m_104) (hw _ m_4) (hw _ m_103) (hw _ m_105) (hw _ m_5) hy8 rfl (ok8 l Z a0 hw v2 (0 : Int32) x5 s2 _ hc6) rfl (lenOf pd8 rfl) (leb rfl) (leb rfl) (leb rfl) (leb rfl) ?_
    rintro _ _ ⟨rfl, rfl⟩
    show W11 l Z n0 (P11 r) 0 0 85 [.val (.ref 0), .val (.int v1), .val (.int v2), .unset] [] (Hb 0 c6)
    exact WP.weak (L' := [.val (.ref 0), .val (.int v1), .val (.int v2), .unset]) ⟨rfl, rfl, rfl, trivial⟩ (ok11_85 l Z a0 hw n0 _ hk14 n v1 v2 c6 _ h)
def f_closeCycle_32 (k14 : Int32 → Int32 → St → Option (Int32 × St)) (n : Nat) (v1 : Int32) (v2 : Int32) (s : St) : Option (Int32 × St) :=
  (f_openSlot v2 s).bind fun c1 =>
  if c1 < 0 then
    f_closeCycle_52 k14 n v1 v2 s
  else
    (wrA s 8 c1 (gI s 0)).bind fun s3 =>
    f_closeCycle_52 k14 n v1 v2 s3
set_option maxRecDepth 65536 in
set_option maxHeartbeats 4000000 in
theorem ok11_32 (l : Launch) (Z : State) (a0 : Array Value) (hw : HW a0 Z) (n0 : Nat) (k14 : Int32 → Int32 → St → Option (Int32 × St)) (hk14 : ∀ (v1 : Int32) (v2 : Int32) (s : St) (r : Int32 × St), k14 v1 v2 s = some r → W11 l Z n0 (P11 r) 0 0 14 [.val (.ref 0), .val (.int v1), .val (.int v2), .unset] [] (Hb 0 s)) (n : Nat) (v1 : Int32) (v2 : Int32) (s : St) (r : Int32 × St) (h : f_closeCycle_32 k14 n v1 v2 s = some r) : W11 l Z n0 (P11 r) 0 0 32 [.val (.ref 0), .val (.int v1), .val (.int v2), .unset] [] (Hb 0 s) := by
  unfold f_closeCycle_32 at h
  refine WP.aloadN d11_32 rfl ?_
  refine WP.iloadN d11_33 rfl ?_
  obtain ⟨c1, hc1, h⟩ := Option.bind_eq_some_iff.mp h
  refine WP.callP (i := 0) (y := y10) (as := [.int v2]) (S := []) d11_34 (hw _ m_111) (hw _ m_113) (hw _ m_4) (hw _ m_112) (hw _ m_114) (hw _ m_5) hy10 rfl (ok10 l Z a0 hw v2 s _ hc1) rfl (lenOf pd10 rfl) (leb rfl) (leb rfl) (leb rfl) (leb rfl) ?_
  rintro _ _ ⟨rfl, rfl⟩
  show W11 l Z n0 (P11 r) 0 0 37 [.val (.ref 0), .val (.int v1), .val (.int v2), .unset] [.int c1] (Hb 0 s)
  refine WP.istoreN (L' := [.val (.ref 0), .val (.int v1), .val (.int v2), .val (.int c1)]) d11_37 (leb rfl) rfl ?_
  refine WP.iloadN d11_38 rfl ?_
  rcases ite_e h with ⟨hc2, h⟩ | ⟨hc2, h⟩
  ·
    refine WP.ifY (pc' := 52) d11_39 (XT.i0_lt_t hc2) (by decide) rfl ?_
    exact WP.weak (L' := [.val (.ref 0), .val (.int v1), .val (.int v2), .unset]) ⟨rfl, rfl, rfl, trivial⟩ (ok11_52 l Z a0 hw n0 _ hk14 n v1 v2 s _ h)
  ·
    refine WP.ifN d11_39 (XT.i0_lt_f hc2) ?_
    refine WP.aloadN d11_42 rfl ?_
    refine WP.getfield (i := 0) (j := 15) d11_43 (hw _ m_37) rfl rfl rfl ?_
    refine WP.iloadN d11_46 rfl ?_
    refine WP.aloadN d11_47 rfl ?_
    refine WP.getfield (i := 0) (j := 0) d11_48 (hw _ m_66) rfl rfl rfl ?_
    obtain ⟨s3, hs3, h⟩ := Option.bind_eq_some_iff.mp h
    obtain ⟨ys3, gs3, es3⟩ := wrA_e hs3
    refine WP.iastore (i := 12) (xs := gA s 8) (H' := (Hb 0 s3)) d11_51 rfl (leb rfl) gs3 (by subst es3; rfl) ?_
    exact WP.weak (L' := [.val (.ref 0), .val (.int v1), .val (.int v2), .unset]) ⟨rfl, rfl, rfl, trivial⟩ (ok11_52 l Z a0 hw n0 _ hk14 n v1 v2 s3 _ h)
def g_closeCycle_14 (k14 : Int32 → Int32 → St → Option (Int32 × St)) (n : Nat) (v1 : Int32) (v2 : Int32) (s : St) : Option (Int32 × St) :=
  if v2 < (16 : Int32) then
    (rd (gA s 6) v2).bind fun x2 =>
    if 0 < x2 then
      lt (v1 + (1 : Int32)) fun x4 =>
      f_closeCycle_32 k14 n x4 v2 s
    else
      f_closeCycle_32 k14 n v1 v2 s
  else
    lt (sI s 2 (0 : Int32)) fun s5 =>
    some (v1, s5)
set_option maxRecDepth 65536 in
set_option maxHeartbeats 4000000 in
theorem okg11_14 (l : Launch) (Z : State) (a0 : Array Value) (hw : HW a0 Z) (n0 : Nat) (k14 : Int32 → Int32 → St → Option (Int32 × St)) (hk14 : ∀ (v1 : Int32) (v2 : Int32) (s : St) (r : Int32 × St), k14 v1 v2 s = some r → W11 l Z n0 (P11 r) 0 0 14 [.val (.ref 0), .val (.int v1), .val (.int v2), .unset] [] (Hb 0 s)) (n : Nat) (v1 : Int32) (v2 : Int32) (s : St) (r : Int32 × St) (h : g_closeCycle_14 k14 n v1 v2 s = some r) : W11 l Z n0 (P11 r) 0 0 14 [.val (.ref 0), .val (.int v1), .val (.int v2), .unset] [] (Hb 0 s) := by
  unfold g_closeCycle_14 at h
  refine WP.iloadN d11_14 rfl ?_
  refine WP.bipush (16 : Int32) d11_15 rfl ?_
  rcases ite_e h with ⟨hc1, h⟩ | ⟨hc1, h⟩
  ·
    refine WP.icmpN d11_17 (XT.ii_ge_f hc1) ?_
    refine WP.aloadN d11_20 rfl ?_
    refine WP.getfield (i := 0) (j := 10) d11_21 (hw _ m_26) rfl rfl rfl ?_
    refine WP.iloadN d11_24 rfl ?_
    obtain ⟨x2, hx2, h⟩ := Option.bind_eq_some_iff.mp h
    refine WP.iaload (i := 7) d11_25 rfl hx2 ?_
    rcases ite_e h with ⟨hc3, h⟩ | ⟨hc3, h⟩
    ·
      refine WP.ifN d11_26 (XT.i0_le_f hc3) ?_
      obtain ⟨x4, ex4, h⟩ := lt_e h
      refine WP.iinc (L' := [.val (.ref 0), .val (.int x4), .val (.int v2), .unset]) (1 : Int32) d11_29 rfl rfl (by subst ex4; rfl) ?_
      exact WP.weak (L' := [.val (.ref 0), .val (.int x4), .val (.int v2), .unset]) ⟨rfl, rfl, rfl, trivial⟩ (ok11_32 l Z a0 hw n0 _ hk14 n x4 v2 s _ h)
    ·
      refine WP.ifY (pc' := 32) d11_26 (XT.i0_le_t hc3) (by decide) rfl ?_
      exact WP.weak (L' := [.val (.ref 0), .val (.int v1), .val (.int v2), .unset]) ⟨rfl, rfl, rfl, trivial⟩ (ok11_32 l Z a0 hw n0 _ hk14 n v1 v2 s _ h)
  ·
    refine WP.icmpY (pc' := 91) d11_17 (XT.ii_ge_t hc1) (by decide) rfl ?_
    refine WP.aloadN d11_91 rfl ?_
    refine WP.iconst (0 : Int32) d11_92 rfl ?_
    obtain ⟨s5, es5, h⟩ := lt_e h
    refine WP.putI (i := 0) (j := 2) (H' := (Hb 0 s5)) d11_93 (hw _ m_100) (Or.inl (hw _ m_101)) (hw _ m_4) (hlay hw) rfl rfl rfl (leb rfl) (by subst es5; rfl) ?_
    refine WP.iloadN d11_96 rfl ?_
    cases h
    exact WP.ireturn d11_97 rfl (leb rfl) (leb rfl) ⟨rfl, rfl⟩
def f_closeCycle_14 : Nat → Int32 → Int32 → St → Option (Int32 × St)
  | 0 => fun _ _ _ => none
  | n + 1 => g_closeCycle_14 (f_closeCycle_14 n) n
theorem ok11_14 (l : Launch) (Z : State) (a0 : Array Value) (hw : HW a0 Z) (n0 : Nat) : ∀ (n : Nat) (v1 : Int32) (v2 : Int32) (s : St) (r : Int32 × St), f_closeCycle_14 n v1 v2 s = some r → W11 l Z n0 (P11 r) 0 0 14 [.val (.ref 0), .val (.int v1), .val (.int v2), .unset] [] (Hb 0 s)
  | 0, v1, v2, s, r, h => nomatch (show none = some r from h)
  | n + 1, v1, v2, s, r, h => okg11_14 l Z a0 hw n0 _ (ok11_14 l Z a0 hw n0 n) n v1 v2 s r h
def f_closeCycle (n : Nat) (s : St) : Option (Int32 × St) :=
  lt (sI s 3 ((gI s 3) + (1 : Int32))) fun s1 =>
  f_closeCycle_14 n (0 : Int32) (0 : Int32) s1
set_option maxRecDepth 65536 in
set_option maxHeartbeats 4000000 in
theorem ok11 (l : Launch) (Z : State) (a0 : Array Value) (hw : HW a0 Z) (n : Nat) (s : St) (r : Int32 × St) (h : f_closeCycle n s = some r) : CS l Z CN lay y11 prog_1_method_20_code 4 (some FieldType.int) R11 0 [.ref 0] (Hb 0 s) (P11 r) := by
  refine CS.of_wp pn_cls (leb rfl) fun n0 => ?_
  show W11 l Z n0 (P11 r) 0 0 0 [.val (.ref 0), .unset, .unset, .unset] [] (Hb 0 s)
  unfold f_closeCycle at h
  refine WP.aloadN d11_0 rfl ?_
  refine WP.dup d11_1 rfl ?_
  refine WP.getfield (i := 0) (j := 3) d11_2 (hw _ m_120) rfl rfl rfl ?_
  refine WP.iconst (1 : Int32) d11_5 rfl ?_
  refine WP.iadd d11_6 ?_
  obtain ⟨s1, es1, h⟩ := lt_e h
  refine WP.putI (i := 0) (j := 3) (H' := (Hb 0 s1)) d11_7 (hw _ m_120) (Or.inl (hw _ m_121)) (hw _ m_4) (hlay hw) rfl rfl rfl (leb rfl) (by subst es1; rfl) ?_
  refine WP.iconst (0 : Int32) d11_10 rfl ?_
  refine WP.istoreN (L' := [.val (.ref 0), .val (.int (0 : Int32)), .unset, .unset]) d11_11 (leb rfl) rfl ?_
  refine WP.iconst (0 : Int32) d11_12 rfl ?_
  refine WP.istoreN (L' := [.val (.ref 0), .val (.int (0 : Int32)), .val (.int (0 : Int32)), .unset]) d11_13 (leb rfl) rfl ?_
  exact WP.weak (L' := [.val (.ref 0), .val (.int (0 : Int32)), .val (.int (0 : Int32)), .unset]) ⟨rfl, rfl, rfl, trivial⟩ (ok11_14 l Z a0 hw n0 n (0 : Int32) (0 : Int32) s1 _ h)
theorem d18_0 : dc prog_1_method_26_code 0 (.aload_n 0) 1 := by decide +kernel
theorem d18_1 : dc prog_1_method_26_code 1 (.iload_n 1) 1 := by decide +kernel
theorem d18_2 : dc prog_1_method_26_code 2 (.invokevirtual 122) 3 := by decide +kernel
theorem d18_5 : dc prog_1_method_26_code 5 (.ifCond .ne 5) 3 := by decide +kernel
theorem d18_8 : dc prog_1_method_26_code 8 (.lconst 0) 1 := by decide +kernel
theorem d18_9 : dc prog_1_method_26_code 9 (.lreturn) 1 := by decide +kernel
theorem d18_10 : dc prog_1_method_26_code 10 (.iload_n 2) 1 := by decide +kernel
theorem d18_11 : dc prog_1_method_26_code 11 (.ifCond .ne 11) 3 := by decide +kernel
theorem d18_14 : dc prog_1_method_26_code 14 (.aload_n 0) 1 := by decide +kernel
theorem d18_15 : dc prog_1_method_26_code 15 (.getfield 54) 3 := by decide +kernel
theorem d18_18 : dc prog_1_method_26_code 18 (.iload_n 1) 1 := by decide +kernel
theorem d18_19 : dc prog_1_method_26_code 19 (.iaload) 1 := by decide +kernel
theorem d18_20 : dc prog_1_method_26_code 20 (.i2l) 1 := by decide +kernel
theorem d18_21 : dc prog_1_method_26_code 21 (.lreturn) 1 := by decide +kernel
theorem d18_22 : dc prog_1_method_26_code 22 (.iload_n 2) 1 := by decide +kernel
theorem d18_23 : dc prog_1_method_26_code 23 (.iconst 1) 1 := by decide +kernel
theorem d18_24 : dc prog_1_method_26_code 24 (.if_icmp .ne 10) 3 := by decide +kernel
theorem d18_27 : dc prog_1_method_26_code 27 (.aload_n 0) 1 := by decide +kernel
theorem d18_28 : dc prog_1_method_26_code 28 (.getfield 57) 3 := by decide +kernel
theorem d18_31 : dc prog_1_method_26_code 31 (.iload_n 1) 1 := by decide +kernel
theorem d18_32 : dc prog_1_method_26_code 32 (.laload) 1 := by decide +kernel
theorem d18_33 : dc prog_1_method_26_code 33 (.lreturn) 1 := by decide +kernel
theorem d18_34 : dc prog_1_method_26_code 34 (.iload_n 2) 1 := by decide +kernel
theorem d18_35 : dc prog_1_method_26_code 35 (.iconst 2) 1 := by decide +kernel
theorem d18_36 : dc prog_1_method_26_code 36 (.if_icmp .ne 10) 3 := by decide +kernel
theorem d18_39 : dc prog_1_method_26_code 39 (.aload_n 0) 1 := by decide +kernel
theorem d18_40 : dc prog_1_method_26_code 40 (.getfield 60) 3 := by decide +kernel
theorem d18_43 : dc prog_1_method_26_code 43 (.iload_n 1) 1 := by decide +kernel
theorem d18_44 : dc prog_1_method_26_code 44 (.laload) 1 := by decide +kernel
theorem d18_45 : dc prog_1_method_26_code 45 (.lreturn) 1 := by decide +kernel
theorem d18_46 : dc prog_1_method_26_code 46 (.iload_n 2) 1 := by decide +kernel
theorem d18_47 : dc prog_1_method_26_code 47 (.iconst 3) 1 := by decide +kernel
theorem d18_48 : dc prog_1_method_26_code 48 (.if_icmp .ne 10) 3 := by decide +kernel
theorem d18_51 : dc prog_1_method_26_code 51 (.aload_n 0) 1 := by decide +kernel
theorem d18_52 : dc prog_1_method_26_code 52 (.getfield 63) 3 := by decide +kernel
theorem d18_55 : dc prog_1_method_26_code 55 (.iload_n 1) 1 := by decide +kernel
theorem d18_56 : dc prog_1_method_26_code 56 (.laload) 1 := by decide +kernel
theorem d18_57 : dc prog_1_method_26_code 57 (.lreturn) 1 := by decide +kernel
theorem d18_58 : dc prog_1_method_26_code 58 (.iload_n 2) 1 := by decide +kernel
theorem d18_59 : dc prog_1_method_26_code 59 (.iconst 4) 1 := by decide +kernel
theorem d18_60 : dc prog_1_method_26_code 60 (.if_icmp .ne 10) 3 := by decide +kernel
theorem d18_63 : dc prog_1_method_26_code 63 (.aload_n 0) 1 := by decide +kernel
theorem d18_64 : dc prog_1_method_26_code 64 (.getfield 66) 3 := by decide +kernel
theorem d18_67 : dc prog_1_method_26_code 67 (.iload_n 1) 1 := by decide +kernel
theorem d18_68 : dc prog_1_method_26_code 68 (.laload) 1 := by decide +kernel
theorem d18_69 : dc prog_1_method_26_code 69 (.lreturn) 1 := by decide +kernel
theorem d18_70 : dc prog_1_method_26_code 70 (.iload_n 2) 1 := by decide +kernel
theorem d18_71 : dc prog_1_method_26_code 71 (.iconst 5) 1 := by decide +kernel
theorem d18_72 : dc prog_1_method_26_code 72 (.if_icmp .ne 11) 3 := by decide +kernel
theorem d18_75 : dc prog_1_method_26_code 75 (.aload_n 0) 1 := by decide +kernel
theorem d18_76 : dc prog_1_method_26_code 76 (.getfield 69) 3 := by decide +kernel
theorem d18_79 : dc prog_1_method_26_code 79 (.iload_n 1) 1 := by decide +kernel
theorem d18_80 : dc prog_1_method_26_code 80 (.iaload) 1 := by decide +kernel
theorem d18_81 : dc prog_1_method_26_code 81 (.i2l) 1 := by decide +kernel
theorem d18_82 : dc prog_1_method_26_code 82 (.lreturn) 1 := by decide +kernel
theorem d18_83 : dc prog_1_method_26_code 83 (.lconst 0) 1 := by decide +kernel
theorem d18_84 : dc prog_1_method_26_code 84 (.lreturn) 1 := by decide +kernel
abbrev y18 : MethodName := ⟨"BillingRun", "getInvoice", "(II)J"⟩
theorem hy18 : y18.cls ≠ "java/lang/invoke/MethodHandle" ∧ y18.cls ≠ "java/lang/invoke/VarHandle" := by decide
theorem pd18 : parseMethodDescriptor y18.desc = some ⟨[.int, .int], some .long⟩ := by decide +kernel
abbrev R18 : Room := { frames := 1, cells := 0, slots := 0, locals := 13 }
abbrev P18 (s : St) (r : Int64) : Option Value → List OwnC → Prop := fun v H' => v = some (.long r) ∧ H' = (Hb 0 s)
abbrev W18 (l : Launch) (Z : State) (n0 : Nat) (Q : Option Value → List OwnC → Prop) (k n pc : Nat) (L : List Slot) (S : List Value) (H : List OwnC) : Prop := WP l Z CN lay "BillingRun" "getInvoice" prog_1_method_26_code 3 (some FieldType.long) R18 n0 0 Q k n pc L S H
def f_getInvoice (p1 : Int32) (p2 : Int32) (s : St) : Option (Int64) :=
  (f_validCustomer p1 s).bind fun c1 =>
  if c1 = 0 then
    some (0 : Int64)
  else
    if p2 = 0 then
      (rd (gA s 11) p1).bind fun x4 =>
      some x4.toInt64
    else
      if p2 = (1 : Int32) then
        (rd (gB s 3) p1).bind fun x6 =>
        some x6
      else
        if p2 = (2 : Int32) then
          (rd (gB s 4) p1).bind fun x8 =>
          some x8
        else
          if p2 = (3 : Int32) then
            (rd (gB s 5) p1).bind fun x10 =>
            some x10
          else
            if p2 = (4 : Int32) then
              (rd (gB s 6) p1).bind fun x12 =>
              some x12
            else
              if p2 = (5 : Int32) then
                (rd (gA s 12) p1).bind fun x14 =>
                some x14.toInt64
              else
                some (0 : Int64)
set_option maxRecDepth 65536 in
set_option maxHeartbeats 4000000 in
theorem ok18 (l : Launch) (Z : State) (a0 : Array Value) (hw : HW a0 Z) (p1 : Int32) (p2 : Int32) (s : St) (r : Int64) (h : f_getInvoice p1 p2 s = some r) : CS l Z CN lay y18 prog_1_method_26_code 3 (some FieldType.long) R18 0 [.ref 0, .int p1, .int p2] (Hb 0 s) (P18 s r) := by
  refine CS.of_wp pn_cls (leb rfl) fun n0 => ?_
  show W18 l Z n0 (P18 s r) 0 0 0 [.val (.ref 0), .val (.int p1), .val (.int p2)] [] (Hb 0 s)
  unfold f_getInvoice at h
  refine WP.aloadN d18_0 rfl ?_
  refine WP.iloadN d18_1 rfl ?_
  obtain ⟨c1, hc1, h⟩ := Option.bind_eq_some_iff.mp h
  refine WP.callP (i := 0) (y := y6) (as := [.int p1]) (S := []) d18_2 (hw _ m_92) (hw _ m_94) (hw _ m_4) (hw _ m_93) (hw _ m_95) (hw _ m_5) hy6 rfl (ok6 l Z a0 hw p1 s _ hc1) rfl (lenOf pd6 rfl) (leb rfl) (leb rfl) (leb rfl) (leb rfl) ?_
  rintro _ _ ⟨rfl, rfl⟩
  show W18 l Z n0 (P18 s r) 0 0 5 [.val (.ref 0), .val (.int p1), .val (.int p2)] [.int c1] (Hb 0 s)
  rcases ite_e h with ⟨hc2, h⟩ | ⟨hc2, h⟩
  ·
    refine WP.ifN d18_5 (XT.i0_ne_f hc2) ?_
    refine WP.lconst (0 : Int64) d18_8 rfl ?_
    cases h
    exact WP.lreturn d18_9 rfl (leb rfl) (leb rfl) ⟨rfl, rfl⟩
  ·
    refine WP.ifY (pc' := 10) d18_5 (XT.i0_ne_t hc2) (by decide) rfl ?_
    refine WP.iloadN d18_10 rfl ?_
    rcases ite_e h with ⟨hc3, h⟩ | ⟨hc3, h⟩
    ·
      refine WP.ifN d18_11 (XT.i0_ne_f hc3) ?_
      refine WP.aloadN d18_14 rfl ?_
      refine WP.getfield (i := 0) (j := 18) d18_15 (hw _ m_43) rfl rfl rfl ?_
      refine WP.iloadN d18_18 rfl ?_
      obtain ⟨x4, hx4, h⟩ := Option.bind_eq_some_iff.mp h
      refine WP.iaload (i := 15) d18_19 rfl hx4 ?_
      refine WP.i2l d18_20 ?_
      cases h
      exact WP.lreturn d18_21 rfl (leb rfl) (leb rfl) ⟨rfl, rfl⟩
    ·
      refine WP.ifY (pc' := 22) d18_11 (XT.i0_ne_t hc3) (by decide) rfl ?_
      refine WP.iloadN d18_22 rfl ?_
      refine WP.iconst (1 : Int32) d18_23 rfl ?_
      rcases ite_e h with ⟨hc5, h⟩ | ⟨hc5, h⟩
      ·
        refine WP.icmpN d18_24 (XT.ii_ne_f hc5) ?_
        refine WP.aloadN d18_27 rfl ?_
        refine WP.getfield (i := 0) (j := 19) d18_28 (hw _ m_45) rfl rfl rfl ?_
        refine WP.iloadN d18_31 rfl ?_
        obtain ⟨x6, hx6, h⟩ := Option.bind_eq_some_iff.mp h
        refine WP.laload (i := 16) d18_32 rfl hx6 ?_
        cases h
        exact WP.lreturn d18_33 rfl (leb rfl) (leb rfl) ⟨rfl, rfl⟩
      ·
        refine WP.icmpY (pc' := 34) d18_24 (XT.ii_ne_t hc5) (by decide) rfl ?_
        refine WP.iloadN d18_34 rfl ?_
        refine WP.iconst (2 : Int32) d18_35 rfl ?_
        rcases ite_e h with ⟨hc7, h⟩ | ⟨hc7, h⟩
        ·
          refine WP.icmpN d18_36 (XT.ii_ne_f hc7) ?_
          refine WP.aloadN d18_39 rfl ?_
          refine WP.getfield (i := 0) (j := 20) d18_40 (hw _ m_47) rfl rfl rfl ?_
          refine WP.iloadN d18_43 rfl ?_
          obtain ⟨x8, hx8, h⟩ := Option.bind_eq_some_iff.mp h
          refine WP.laload (i := 17) d18_44 rfl hx8 ?_
          cases h
          exact WP.lreturn d18_45 rfl (leb rfl) (leb rfl) ⟨rfl, rfl⟩
        ·
          refine WP.icmpY (pc' := 46) d18_36 (XT.ii_ne_t hc7) (by decide) rfl ?_
          refine WP.iloadN d18_46 rfl ?_
          refine WP.iconst (3 : Int32) d18_47 rfl ?_
          rcases ite_e h with ⟨hc9, h⟩ | ⟨hc9, h⟩
          ·
            refine WP.icmpN d18_48 (XT.ii_ne_f hc9) ?_
            refine WP.aloadN d18_51 rfl ?_
            refine WP.getfield (i := 0) (j := 21) d18_52 (hw _ m_49) rfl rfl rfl ?_
            refine WP.iloadN d18_55 rfl ?_
            obtain ⟨x10, hx10, h⟩ := Option.bind_eq_some_iff.mp h
            refine WP.laload (i := 18) d18_56 rfl hx10 ?_
            cases h
            exact WP.lreturn d18_57 rfl (leb rfl) (leb rfl) ⟨rfl, rfl⟩
          ·
            refine WP.icmpY (pc' := 58) d18_48 (XT.ii_ne_t hc9) (by decide) rfl ?_
            refine WP.iloadN d18_58 rfl ?_
            refine WP.iconst (4 : Int32) d18_59 rfl ?_
            rcases ite_e h with ⟨hc11, h⟩ | ⟨hc11, h⟩
            ·
              refine WP.icmpN d18_60 (XT.ii_ne_f hc11) ?_
              refine WP.aloadN d18_63 rfl ?_
              refine WP.getfield (i := 0) (j := 22) d18_64 (hw _ m_51) rfl rfl rfl ?_
              refine WP.iloadN d18_67 rfl ?_
              obtain ⟨x12, hx12, h⟩ := Option.bind_eq_some_iff.mp h
              refine WP.laload (i := 19) d18_68 rfl hx12 ?_
              cases h
              exact WP.lreturn d18_69 rfl (leb rfl) (leb rfl) ⟨rfl, rfl⟩
            ·
              refine WP.icmpY (pc' := 70) d18_60 (XT.ii_ne_t hc11) (by decide) rfl ?_
              refine WP.iloadN d18_70 rfl ?_
              refine WP.iconst (5 : Int32) d18_71 rfl ?_
              rcases ite_e h with ⟨hc13, h⟩ | ⟨hc13, h⟩
              ·
                refine WP.icmpN d18_72 (XT.ii_ne_f hc13) ?_
                refine WP.aloadN d18_75 rfl ?_
                refine WP.getfield (i := 0) (j := 23) d18_76 (hw _ m_53) rfl rfl rfl ?_
                refine WP.iloadN d18_79 rfl ?_
                obtain ⟨x14, hx14, h⟩ := Option.bind_eq_some_iff.mp h
                refine WP.iaload (i := 20) d18_80 rfl hx14 ?_
                refine WP.i2l d18_81 ?_
                cases h
                exact WP.lreturn d18_82 rfl (leb rfl) (leb rfl) ⟨rfl, rfl⟩
              ·
                refine WP.icmpY (pc' := 83) d18_72 (XT.ii_ne_t hc13) (by decide) rfl ?_
                refine WP.lconst (0 : Int64) d18_83 rfl ?_
                cases h
                exact WP.lreturn d18_84 rfl (leb rfl) (leb rfl) ⟨rfl, rfl⟩
theorem d19_0 : dc prog_1_method_24_code 0 (.aload_n 0) 1 := by decide +kernel
theorem d19_1 : dc prog_1_method_24_code 1 (.iload_n 1) 1 := by decide +kernel
theorem d19_2 : dc prog_1_method_24_code 2 (.invokevirtual 122) 3 := by decide +kernel
theorem d19_5 : dc prog_1_method_24_code 5 (.ifCond .eq 17) 3 := by decide +kernel
theorem d19_8 : dc prog_1_method_24_code 8 (.iload_n 2) 1 := by decide +kernel
theorem d19_9 : dc prog_1_method_24_code 9 (.ifCond .lt 13) 3 := by decide +kernel
theorem d19_12 : dc prog_1_method_24_code 12 (.iload_n 2) 1 := by decide +kernel
theorem d19_13 : dc prog_1_method_24_code 13 (.aload_n 0) 1 := by decide +kernel
theorem d19_14 : dc prog_1_method_24_code 14 (.getfield 54) 3 := by decide +kernel
theorem d19_17 : dc prog_1_method_24_code 17 (.iload_n 1) 1 := by decide +kernel
theorem d19_18 : dc prog_1_method_24_code 18 (.iaload) 1 := by decide +kernel
theorem d19_19 : dc prog_1_method_24_code 19 (.if_icmp .lt 5) 3 := by decide +kernel
theorem d19_22 : dc prog_1_method_24_code 22 (.lconst 0) 1 := by decide +kernel
theorem d19_23 : dc prog_1_method_24_code 23 (.lreturn) 1 := by decide +kernel
theorem d19_24 : dc prog_1_method_24_code 24 (.aload_n 0) 1 := by decide +kernel
theorem d19_25 : dc prog_1_method_24_code 25 (.getfield 72) 3 := by decide +kernel
theorem d19_28 : dc prog_1_method_24_code 28 (.iload_n 1) 1 := by decide +kernel
theorem d19_29 : dc prog_1_method_24_code 29 (.bipush 8) 2 := by decide +kernel
theorem d19_31 : dc prog_1_method_24_code 31 (.imul) 1 := by decide +kernel
theorem d19_32 : dc prog_1_method_24_code 32 (.iload_n 2) 1 := by decide +kernel
theorem d19_33 : dc prog_1_method_24_code 33 (.iadd) 1 := by decide +kernel
theorem d19_34 : dc prog_1_method_24_code 34 (.laload) 1 := by decide +kernel
theorem d19_35 : dc prog_1_method_24_code 35 (.lreturn) 1 := by decide +kernel
abbrev y19 : MethodName := ⟨"BillingRun", "getLine", "(II)J"⟩
theorem hy19 : y19.cls ≠ "java/lang/invoke/MethodHandle" ∧ y19.cls ≠ "java/lang/invoke/VarHandle" := by decide
theorem pd19 : parseMethodDescriptor y19.desc = some ⟨[.int, .int], some .long⟩ := by decide +kernel
abbrev R19 : Room := { frames := 1, cells := 0, slots := 0, locals := 13 }
abbrev P19 (s : St) (r : Int64) : Option Value → List OwnC → Prop := fun v H' => v = some (.long r) ∧ H' = (Hb 0 s)
abbrev W19 (l : Launch) (Z : State) (n0 : Nat) (Q : Option Value → List OwnC → Prop) (k n pc : Nat) (L : List Slot) (S : List Value) (H : List OwnC) : Prop := WP l Z CN lay "BillingRun" "getLine" prog_1_method_24_code 3 (some FieldType.long) R19 n0 0 Q k n pc L S H
def f_getLine_22 (s : St) : Option (Int64) :=
  some (0 : Int64)
set_option maxRecDepth 65536 in
set_option maxHeartbeats 4000000 in
theorem ok19_22 (l : Launch) (Z : State) (a0 : Array Value) (hw : HW a0 Z) (n0 : Nat) (s : St) (r : Int64) (h : f_getLine_22 s = some r) : W19 l Z n0 (P19 s r) 0 0 22 [.unset, .unset, .unset] [] (Hb 0 s) := by
  unfold f_getLine_22 at h
  refine WP.lconst (0 : Int64) d19_22 rfl ?_
  cases h
  exact WP.lreturn d19_23 rfl (leb rfl) (leb rfl) ⟨rfl, rfl⟩
def f_getLine (p1 : Int32) (p2 : Int32) (s : St) : Option (Int64) :=
  (f_validCustomer p1 s).bind fun c1 =>
  if c1 = 0 then
    f_getLine_22 s
  else
    if p2 < 0 then
      f_getLine_22 s
    else
      (rd (gA s 11) p1).bind fun x4 =>
      if p2 < x4 then
        (rd (gB s 7) ((p1 * (8 : Int32)) + p2)).bind fun x6 =>
        some x6
      else
        f_getLine_22 s
set_option maxRecDepth 65536 in
set_option maxHeartbeats 4000000 in
theorem ok19 (l : Launch) (Z : State) (a0 : Array Value) (hw : HW a0 Z) (p1 : Int32) (p2 : Int32) (s : St) (r : Int64) (h : f_getLine p1 p2 s = some r) : CS l Z CN lay y19 prog_1_method_24_code 3 (some FieldType.long) R19 0 [.ref 0, .int p1, .int p2] (Hb 0 s) (P19 s r) := by
  refine CS.of_wp pn_cls (leb rfl) fun n0 => ?_
  show W19 l Z n0 (P19 s r) 0 0 0 [.val (.ref 0), .val (.int p1), .val (.int p2)] [] (Hb 0 s)
  unfold f_getLine at h
  refine WP.aloadN d19_0 rfl ?_
  refine WP.iloadN d19_1 rfl ?_
  obtain ⟨c1, hc1, h⟩ := Option.bind_eq_some_iff.mp h
  refine WP.callP (i := 0) (y := y6) (as := [.int p1]) (S := []) d19_2 (hw _ m_92) (hw _ m_94) (hw _ m_4) (hw _ m_93) (hw _ m_95) (hw _ m_5) hy6 rfl (ok6 l Z a0 hw p1 s _ hc1) rfl (lenOf pd6 rfl) (leb rfl) (leb rfl) (leb rfl) (leb rfl) ?_
  rintro _ _ ⟨rfl, rfl⟩
  show W19 l Z n0 (P19 s r) 0 0 5 [.val (.ref 0), .val (.int p1), .val (.int p2)] [.int c1] (Hb 0 s)
  rcases ite_e h with ⟨hc2, h⟩ | ⟨hc2, h⟩
  ·
    refine WP.ifY (pc' := 22) d19_5 (XT.i0_eq_t hc2) (by decide) rfl ?_
    exact WP.weak (L' := [.unset, .unset, .unset]) trivial (ok19_22 l Z a0 hw n0 s _ h)
  ·
    refine WP.ifN d19_5 (XT.i0_eq_f hc2) ?_
    refine WP.iloadN d19_8 rfl ?_
    rcases ite_e h with ⟨hc3, h⟩ | ⟨hc3, h⟩
    ·
      refine WP.ifY (pc' := 22) d19_9 (XT.i0_lt_t hc3) (by decide) rfl ?_
      exact WP.weak (L' := [.unset, .unset, .unset]) trivial (ok19_22 l Z a0 hw n0 s _ h)
    ·
      refine WP.ifN d19_9 (XT.i0_lt_f hc3) ?_
      refine WP.iloadN d19_12 rfl ?_
      refine WP.aloadN d19_13 rfl ?_
      refine WP.getfield (i := 0) (j := 18) d19_14 (hw _ m_43) rfl rfl rfl ?_
      refine WP.iloadN d19_17 rfl ?_
      obtain ⟨x4, hx4, h⟩ := Option.bind_eq_some_iff.mp h
      refine WP.iaload (i := 15) d19_18 rfl hx4 ?_
      rcases ite_e h with ⟨hc5, h⟩ | ⟨hc5, h⟩
      ·
        refine WP.icmpY (pc' := 24) d19_19 (XT.ii_lt_t hc5) (by decide) rfl ?_
        refine WP.aloadN d19_24 rfl ?_
        refine WP.getfield (i := 0) (j := 24) d19_25 (hw _ m_55) rfl rfl rfl ?_
        refine WP.iloadN d19_28 rfl ?_
        refine WP.bipush (8 : Int32) d19_29 rfl ?_
        refine WP.imul d19_31 ?_
        refine WP.iloadN d19_32 rfl ?_
        refine WP.iadd d19_33 ?_
        obtain ⟨x6, hx6, h⟩ := Option.bind_eq_some_iff.mp h
        refine WP.laload (i := 21) d19_34 rfl hx6 ?_
        cases h
        exact WP.lreturn d19_35 rfl (leb rfl) (leb rfl) ⟨rfl, rfl⟩
      ·
        refine WP.icmpN d19_19 (XT.ii_lt_f hc5) ?_
        exact WP.weak (L' := [.unset, .unset, .unset]) trivial (ok19_22 l Z a0 hw n0 s _ h)
theorem d20_0 : dc prog_1_method_25_code 0 (.aload_n 0) 1 := by decide +kernel
theorem d20_1 : dc prog_1_method_25_code 1 (.iload_n 1) 1 := by decide +kernel
theorem d20_2 : dc prog_1_method_25_code 2 (.invokevirtual 122) 3 := by decide +kernel
theorem d20_5 : dc prog_1_method_25_code 5 (.ifCond .eq 17) 3 := by decide +kernel
theorem d20_8 : dc prog_1_method_25_code 8 (.iload_n 2) 1 := by decide +kernel
theorem d20_9 : dc prog_1_method_25_code 9 (.ifCond .lt 13) 3 := by decide +kernel
theorem d20_12 : dc prog_1_method_25_code 12 (.iload_n 2) 1 := by decide +kernel
theorem d20_13 : dc prog_1_method_25_code 13 (.aload_n 0) 1 := by decide +kernel
theorem d20_14 : dc prog_1_method_25_code 14 (.getfield 54) 3 := by decide +kernel
theorem d20_17 : dc prog_1_method_25_code 17 (.iload_n 1) 1 := by decide +kernel
theorem d20_18 : dc prog_1_method_25_code 18 (.iaload) 1 := by decide +kernel
theorem d20_19 : dc prog_1_method_25_code 19 (.if_icmp .lt 5) 3 := by decide +kernel
theorem d20_22 : dc prog_1_method_25_code 22 (.lconst 0) 1 := by decide +kernel
theorem d20_23 : dc prog_1_method_25_code 23 (.lreturn) 1 := by decide +kernel
theorem d20_24 : dc prog_1_method_25_code 24 (.aload_n 0) 1 := by decide +kernel
theorem d20_25 : dc prog_1_method_25_code 25 (.getfield 75) 3 := by decide +kernel
theorem d20_28 : dc prog_1_method_25_code 28 (.iload_n 1) 1 := by decide +kernel
theorem d20_29 : dc prog_1_method_25_code 29 (.bipush 8) 2 := by decide +kernel
theorem d20_31 : dc prog_1_method_25_code 31 (.imul) 1 := by decide +kernel
theorem d20_32 : dc prog_1_method_25_code 32 (.iload_n 2) 1 := by decide +kernel
theorem d20_33 : dc prog_1_method_25_code 33 (.iadd) 1 := by decide +kernel
theorem d20_34 : dc prog_1_method_25_code 34 (.laload) 1 := by decide +kernel
theorem d20_35 : dc prog_1_method_25_code 35 (.lreturn) 1 := by decide +kernel
abbrev y20 : MethodName := ⟨"BillingRun", "getLineTax", "(II)J"⟩
theorem hy20 : y20.cls ≠ "java/lang/invoke/MethodHandle" ∧ y20.cls ≠ "java/lang/invoke/VarHandle" := by decide
theorem pd20 : parseMethodDescriptor y20.desc = some ⟨[.int, .int], some .long⟩ := by decide +kernel
abbrev R20 : Room := { frames := 1, cells := 0, slots := 0, locals := 13 }
abbrev P20 (s : St) (r : Int64) : Option Value → List OwnC → Prop := fun v H' => v = some (.long r) ∧ H' = (Hb 0 s)
abbrev W20 (l : Launch) (Z : State) (n0 : Nat) (Q : Option Value → List OwnC → Prop) (k n pc : Nat) (L : List Slot) (S : List Value) (H : List OwnC) : Prop := WP l Z CN lay "BillingRun" "getLineTax" prog_1_method_25_code 3 (some FieldType.long) R20 n0 0 Q k n pc L S H
def f_getLineTax_22 (s : St) : Option (Int64) :=
  some (0 : Int64)
set_option maxRecDepth 65536 in
set_option maxHeartbeats 4000000 in
theorem ok20_22 (l : Launch) (Z : State) (a0 : Array Value) (hw : HW a0 Z) (n0 : Nat) (s : St) (r : Int64) (h : f_getLineTax_22 s = some r) : W20 l Z n0 (P20 s r) 0 0 22 [.unset, .unset, .unset] [] (Hb 0 s) := by
  unfold f_getLineTax_22 at h
  refine WP.lconst (0 : Int64) d20_22 rfl ?_
  cases h
  exact WP.lreturn d20_23 rfl (leb rfl) (leb rfl) ⟨rfl, rfl⟩
def f_getLineTax (p1 : Int32) (p2 : Int32) (s : St) : Option (Int64) :=
  (f_validCustomer p1 s).bind fun c1 =>
  if c1 = 0 then
    f_getLineTax_22 s
  else
    if p2 < 0 then
      f_getLineTax_22 s
    else
      (rd (gA s 11) p1).bind fun x4 =>
      if p2 < x4 then
        (rd (gB s 8) ((p1 * (8 : Int32)) + p2)).bind fun x6 =>
        some x6
      else
        f_getLineTax_22 s
set_option maxRecDepth 65536 in
set_option maxHeartbeats 4000000 in
theorem ok20 (l : Launch) (Z : State) (a0 : Array Value) (hw : HW a0 Z) (p1 : Int32) (p2 : Int32) (s : St) (r : Int64) (h : f_getLineTax p1 p2 s = some r) : CS l Z CN lay y20 prog_1_method_25_code 3 (some FieldType.long) R20 0 [.ref 0, .int p1, .int p2] (Hb 0 s) (P20 s r) := by
  refine CS.of_wp pn_cls (leb rfl) fun n0 => ?_
  show W20 l Z n0 (P20 s r) 0 0 0 [.val (.ref 0), .val (.int p1), .val (.int p2)] [] (Hb 0 s)
  unfold f_getLineTax at h
  refine WP.aloadN d20_0 rfl ?_
  refine WP.iloadN d20_1 rfl ?_
  obtain ⟨c1, hc1, h⟩ := Option.bind_eq_some_iff.mp h
  refine WP.callP (i := 0) (y := y6) (as := [.int p1]) (S := []) d20_2 (hw _ m_92) (hw _ m_94) (hw _ m_4) (hw _ m_93) (hw _ m_95) (hw _ m_5) hy6 rfl (ok6 l Z a0 hw p1 s _ hc1) rfl (lenOf pd6 rfl) (leb rfl) (leb rfl) (leb rfl) (leb rfl) ?_
  rintro _ _ ⟨rfl, rfl⟩
  show W20 l Z n0 (P20 s r) 0 0 5 [.val (.ref 0), .val (.int p1), .val (.int p2)] [.int c1] (Hb 0 s)
  rcases ite_e h with ⟨hc2, h⟩ | ⟨hc2, h⟩
  ·
    refine WP.ifY (pc' := 22) d20_5 (XT.i0_eq_t hc2) (by decide) rfl ?_
    exact WP.weak (L' := [.unset, .unset, .unset]) trivial (ok20_22 l Z a0 hw n0 s _ h)
  ·
    refine WP.ifN d20_5 (XT.i0_eq_f hc2) ?_
    refine WP.iloadN d20_8 rfl ?_
    rcases ite_e h with ⟨hc3, h⟩ | ⟨hc3, h⟩
    ·
      refine WP.ifY (pc' := 22) d20_9 (XT.i0_lt_t hc3) (by decide) rfl ?_
      exact WP.weak (L' := [.unset, .unset, .unset]) trivial (ok20_22 l Z a0 hw n0 s _ h)
    ·
      refine WP.ifN d20_9 (XT.i0_lt_f hc3) ?_
      refine WP.iloadN d20_12 rfl ?_
      refine WP.aloadN d20_13 rfl ?_
      refine WP.getfield (i := 0) (j := 18) d20_14 (hw _ m_43) rfl rfl rfl ?_
      refine WP.iloadN d20_17 rfl ?_
      obtain ⟨x4, hx4, h⟩ := Option.bind_eq_some_iff.mp h
      refine WP.iaload (i := 15) d20_18 rfl hx4 ?_
      rcases ite_e h with ⟨hc5, h⟩ | ⟨hc5, h⟩
      ·
        refine WP.icmpY (pc' := 24) d20_19 (XT.ii_lt_t hc5) (by decide) rfl ?_
        refine WP.aloadN d20_24 rfl ?_
        refine WP.getfield (i := 0) (j := 25) d20_25 (hw _ m_57) rfl rfl rfl ?_
        refine WP.iloadN d20_28 rfl ?_
        refine WP.bipush (8 : Int32) d20_29 rfl ?_
        refine WP.imul d20_31 ?_
        refine WP.iloadN d20_32 rfl ?_
        refine WP.iadd d20_33 ?_
        obtain ⟨x6, hx6, h⟩ := Option.bind_eq_some_iff.mp h
        refine WP.laload (i := 22) d20_34 rfl hx6 ?_
        cases h
        exact WP.lreturn d20_35 rfl (leb rfl) (leb rfl) ⟨rfl, rfl⟩
      ·
        refine WP.icmpN d20_19 (XT.ii_lt_f hc5) ?_
        exact WP.weak (L' := [.unset, .unset, .unset]) trivial (ok20_22 l Z a0 hw n0 s _ h)
theorem d21_0 : dc prog_1_method_12_code 0 (.aload_n 0) 1 := by decide +kernel
theorem d21_1 : dc prog_1_method_12_code 1 (.iload_n 1) 1 := by decide +kernel
theorem d21_2 : dc prog_1_method_12_code 2 (.invokevirtual 99) 3 := by decide +kernel
theorem d21_5 : dc prog_1_method_12_code 5 (.ifCond .eq 13) 3 := by decide +kernel
theorem d21_8 : dc prog_1_method_12_code 8 (.iload_n 2) 1 := by decide +kernel
theorem d21_9 : dc prog_1_method_12_code 9 (.ifCond .lt 9) 3 := by decide +kernel
theorem d21_12 : dc prog_1_method_12_code 12 (.iload_n 2) 1 := by decide +kernel
theorem d21_13 : dc prog_1_method_12_code 13 (.ldc 95) 2 := by decide +kernel
theorem d21_15 : dc prog_1_method_12_code 15 (.if_icmp .le 7) 3 := by decide +kernel
theorem d21_18 : dc prog_1_method_12_code 18 (.ldc2_w 117) 3 := by decide +kernel
theorem d21_21 : dc prog_1_method_12_code 21 (.lreturn) 1 := by decide +kernel
theorem d21_22 : dc prog_1_method_12_code 22 (.aload_n 0) 1 := by decide +kernel
theorem d21_23 : dc prog_1_method_12_code 23 (.iload_n 1) 1 := by decide +kernel
theorem d21_24 : dc prog_1_method_12_code 24 (.iload_n 2) 1 := by decide +kernel
theorem d21_25 : dc prog_1_method_12_code 25 (.i2l) 1 := by decide +kernel
theorem d21_26 : dc prog_1_method_12_code 26 (.invokevirtual 119) 3 := by decide +kernel
theorem d21_29 : dc prog_1_method_12_code 29 (.lreturn) 1 := by decide +kernel
abbrev y21 : MethodName := ⟨"BillingRun", "rate", "(II)J"⟩
theorem hy21 : y21.cls ≠ "java/lang/invoke/MethodHandle" ∧ y21.cls ≠ "java/lang/invoke/VarHandle" := by decide
theorem pd21 : parseMethodDescriptor y21.desc = some ⟨[.int, .int], some .long⟩ := by decide +kernel
abbrev R21 : Room := { frames := 3, cells := 0, slots := 0, locals := 58 }
abbrev P21 (s : St) (r : Int64) : Option Value → List OwnC → Prop := fun v H' => v = some (.long r) ∧ H' = (Hb 0 s)
abbrev W21 (l : Launch) (Z : State) (n0 : Nat) (Q : Option Value → List OwnC → Prop) (k n pc : Nat) (L : List Slot) (S : List Value) (H : List OwnC) : Prop := WP l Z CN lay "BillingRun" "rate" prog_1_method_12_code 3 (some FieldType.long) R21 n0 0 Q k n pc L S H
def f_rate_18 (n : Nat) (s : St) : Option (Int64) :=
  some (-1 : Int64)
set_option maxRecDepth 65536 in
set_option maxHeartbeats 4000000 in
theorem ok21_18 (l : Launch) (Z : State) (a0 : Array Value) (hw : HW a0 Z) (n0 : Nat) (n : Nat) (s : St) (r : Int64) (h : f_rate_18 n s = some r) : W21 l Z n0 (P21 s r) 0 0 18 [.unset, .unset, .unset] [] (Hb 0 s) := by
  unfold f_rate_18 at h
  refine WP.ldc2 d21_18 (hw _ m_188) ?_
  cases h
  exact WP.lreturn d21_21 rfl (leb rfl) (leb rfl) ⟨rfl, rfl⟩
def f_rate (n : Nat) (p1 : Int32) (p2 : Int32) (s : St) : Option (Int64) :=
  (f_validPlan p1 s).bind fun c1 =>
  if c1 = 0 then
    f_rate_18 n s
  else
    if p2 < 0 then
      f_rate_18 n s
    else
      if (1000000 : Int32) < p2 then
        f_rate_18 n s
      else
        (f_charge n p1 p2.toInt64 s).bind fun c5 =>
        some c5
set_option maxRecDepth 65536 in
set_option maxHeartbeats 4000000 in
theorem ok21 (l : Launch) (Z : State) (a0 : Array Value) (hw : HW a0 Z) (n : Nat) (p1 : Int32) (p2 : Int32) (s : St) (r : Int64) (h : f_rate n p1 p2 s = some r) : CS l Z CN lay y21 prog_1_method_12_code 3 (some FieldType.long) R21 0 [.ref 0, .int p1, .int p2] (Hb 0 s) (P21 s r) := by
  refine CS.of_wp pn_cls (leb rfl) fun n0 => ?_
  show W21 l Z n0 (P21 s r) 0 0 0 [.val (.ref 0), .val (.int p1), .val (.int p2)] [] (Hb 0 s)
  unfold f_rate at h
  refine WP.aloadN d21_0 rfl ?_
  refine WP.iloadN d21_1 rfl ?_
  obtain ⟨c1, hc1, h⟩ := Option.bind_eq_some_iff.mp h
  refine WP.callP (i := 0) (y := y3) (as := [.int p1]) (S := []) d21_2 (hw _ m_76) (hw _ m_78) (hw _ m_4) (hw _ m_77) (hw _ m_79) (hw _ m_5) hy3 rfl (ok3 l Z a0 hw p1 s _ hc1) rfl (lenOf pd3 rfl) (leb rfl) (leb rfl) (leb rfl) (leb rfl) ?_
  rintro _ _ ⟨rfl, rfl⟩
  show W21 l Z n0 (P21 s r) 0 0 5 [.val (.ref 0), .val (.int p1), .val (.int p2)] [.int c1] (Hb 0 s)
  rcases ite_e h with ⟨hc2, h⟩ | ⟨hc2, h⟩
  ·
    refine WP.ifY (pc' := 18) d21_5 (XT.i0_eq_t hc2) (by decide) rfl ?_
    exact WP.weak (L' := [.unset, .unset, .unset]) trivial (ok21_18 l Z a0 hw n0 n s _ h)
  ·
    refine WP.ifN d21_5 (XT.i0_eq_f hc2) ?_
    refine WP.iloadN d21_8 rfl ?_
    rcases ite_e h with ⟨hc3, h⟩ | ⟨hc3, h⟩
    ·
      refine WP.ifY (pc' := 18) d21_9 (XT.i0_lt_t hc3) (by decide) rfl ?_
      exact WP.weak (L' := [.unset, .unset, .unset]) trivial (ok21_18 l Z a0 hw n0 n s _ h)
    ·
      refine WP.ifN d21_9 (XT.i0_lt_f hc3) ?_
      refine WP.iloadN d21_12 rfl ?_
      refine WP.ldc d21_13 (hw _ m_70) ?_
      rcases ite_e h with ⟨hc4, h⟩ | ⟨hc4, h⟩
      ·
        refine WP.icmpN d21_15 (XT.ii_le_f hc4) ?_
        exact WP.weak (L' := [.unset, .unset, .unset]) trivial (ok21_18 l Z a0 hw n0 n s _ h)
      ·
        refine WP.icmpY (pc' := 22) d21_15 (XT.ii_le_t hc4) (by decide) rfl ?_
        refine WP.aloadN d21_22 rfl ?_
        refine WP.iloadN d21_23 rfl ?_
        refine WP.iloadN d21_24 rfl ?_
        refine WP.i2l d21_25 ?_
        obtain ⟨c5, hc5, h⟩ := Option.bind_eq_some_iff.mp h
        refine WP.callP (i := 0) (y := y15) (as := [.int p1, .long p2.toInt64]) (S := []) d21_26 (hw _ m_136) (hw _ m_138) (hw _ m_4) (hw _ m_137) (hw _ m_139) (hw _ m_5) hy15 rfl (ok15 l Z a0 hw n p1 p2.toInt64 s _ hc5) rfl (lenOf pd15 rfl) (leb rfl) (leb rfl) (leb rfl) (leb rfl) ?_
        rintro _ _ ⟨rfl, rfl⟩
        show W21 l Z n0 (P21 s r) 0 0 29 [.val (.ref 0), .val (.int p1), .val (.int p2)] [.long c5] (Hb 0 s)
        cases h
        exact WP.lreturn d21_29 rfl (leb rfl) (leb rfl) ⟨rfl, rfl⟩
theorem d22_0 : dc prog_1_method_28_code 0 (.aload_n 0) 1 := by decide +kernel
theorem d22_1 : dc prog_1_method_28_code 1 (.iload_n 1) 1 := by decide +kernel
theorem d22_2 : dc prog_1_method_28_code 2 (.invokevirtual 122) 3 := by decide +kernel
theorem d22_5 : dc prog_1_method_28_code 5 (.ifCond .ne 5) 3 := by decide +kernel
theorem d22_8 : dc prog_1_method_28_code 8 (.lconst 0) 1 := by decide +kernel
theorem d22_9 : dc prog_1_method_28_code 9 (.lreturn) 1 := by decide +kernel
theorem d22_10 : dc prog_1_method_28_code 10 (.iload_n 2) 1 := by decide +kernel
theorem d22_11 : dc prog_1_method_28_code 11 (.ifCond .ne 18) 3 := by decide +kernel
theorem d22_14 : dc prog_1_method_28_code 14 (.aload_n 0) 1 := by decide +kernel
theorem d22_15 : dc prog_1_method_28_code 15 (.getfield 22) 3 := by decide +kernel
theorem d22_18 : dc prog_1_method_28_code 18 (.iload_n 1) 1 := by decide +kernel
theorem d22_19 : dc prog_1_method_28_code 19 (.baload) 1 := by decide +kernel
theorem d22_20 : dc prog_1_method_28_code 20 (.ifCond .eq 7) 3 := by decide +kernel
theorem d22_23 : dc prog_1_method_28_code 23 (.lconst 1) 1 := by decide +kernel
theorem d22_24 : dc prog_1_method_28_code 24 (.goto 4) 3 := by decide +kernel
theorem d22_27 : dc prog_1_method_28_code 27 (.lconst 0) 1 := by decide +kernel
theorem d22_28 : dc prog_1_method_28_code 28 (.lreturn) 1 := by decide +kernel
theorem d22_29 : dc prog_1_method_28_code 29 (.iload_n 2) 1 := by decide +kernel
theorem d22_30 : dc prog_1_method_28_code 30 (.iconst 1) 1 := by decide +kernel
theorem d22_31 : dc prog_1_method_28_code 31 (.if_icmp .ne 26) 3 := by decide +kernel
theorem d22_34 : dc prog_1_method_28_code 34 (.aload_n 0) 1 := by decide +kernel
theorem d22_35 : dc prog_1_method_28_code 35 (.getfield 22) 3 := by decide +kernel
theorem d22_38 : dc prog_1_method_28_code 38 (.iload_n 1) 1 := by decide +kernel
theorem d22_39 : dc prog_1_method_28_code 39 (.baload) 1 := by decide +kernel
theorem d22_40 : dc prog_1_method_28_code 40 (.ifCond .eq 13) 3 := by decide +kernel
theorem d22_43 : dc prog_1_method_28_code 43 (.aload_n 0) 1 := by decide +kernel
theorem d22_44 : dc prog_1_method_28_code 44 (.getfield 26) 3 := by decide +kernel
theorem d22_47 : dc prog_1_method_28_code 47 (.iload_n 1) 1 := by decide +kernel
theorem d22_48 : dc prog_1_method_28_code 48 (.iaload) 1 := by decide +kernel
theorem d22_49 : dc prog_1_method_28_code 49 (.i2l) 1 := by decide +kernel
theorem d22_50 : dc prog_1_method_28_code 50 (.goto 6) 3 := by decide +kernel
theorem d22_53 : dc prog_1_method_28_code 53 (.ldc2_w 117) 3 := by decide +kernel
theorem d22_56 : dc prog_1_method_28_code 56 (.lreturn) 1 := by decide +kernel
theorem d22_57 : dc prog_1_method_28_code 57 (.iload_n 2) 1 := by decide +kernel
theorem d22_58 : dc prog_1_method_28_code 58 (.iconst 2) 1 := by decide +kernel
theorem d22_59 : dc prog_1_method_28_code 59 (.if_icmp .ne 11) 3 := by decide +kernel
theorem d22_62 : dc prog_1_method_28_code 62 (.aload_n 0) 1 := by decide +kernel
theorem d22_63 : dc prog_1_method_28_code 63 (.getfield 29) 3 := by decide +kernel
theorem d22_66 : dc prog_1_method_28_code 66 (.iload_n 1) 1 := by decide +kernel
theorem d22_67 : dc prog_1_method_28_code 67 (.iaload) 1 := by decide +kernel
theorem d22_68 : dc prog_1_method_28_code 68 (.i2l) 1 := by decide +kernel
theorem d22_69 : dc prog_1_method_28_code 69 (.lreturn) 1 := by decide +kernel
theorem d22_70 : dc prog_1_method_28_code 70 (.iload_n 2) 1 := by decide +kernel
theorem d22_71 : dc prog_1_method_28_code 71 (.iconst 3) 1 := by decide +kernel
theorem d22_72 : dc prog_1_method_28_code 72 (.if_icmp .ne 10) 3 := by decide +kernel
theorem d22_75 : dc prog_1_method_28_code 75 (.aload_n 0) 1 := by decide +kernel
theorem d22_76 : dc prog_1_method_28_code 76 (.getfield 32) 3 := by decide +kernel
theorem d22_79 : dc prog_1_method_28_code 79 (.iload_n 1) 1 := by decide +kernel
theorem d22_80 : dc prog_1_method_28_code 80 (.laload) 1 := by decide +kernel
theorem d22_81 : dc prog_1_method_28_code 81 (.lreturn) 1 := by decide +kernel
theorem d22_82 : dc prog_1_method_28_code 82 (.iload_n 2) 1 := by decide +kernel
theorem d22_83 : dc prog_1_method_28_code 83 (.iconst 4) 1 := by decide +kernel
theorem d22_84 : dc prog_1_method_28_code 84 (.if_icmp .ne 10) 3 := by decide +kernel
theorem d22_87 : dc prog_1_method_28_code 87 (.aload_n 0) 1 := by decide +kernel
theorem d22_88 : dc prog_1_method_28_code 88 (.getfield 36) 3 := by decide +kernel
theorem d22_91 : dc prog_1_method_28_code 91 (.iload_n 1) 1 := by decide +kernel
theorem d22_92 : dc prog_1_method_28_code 92 (.laload) 1 := by decide +kernel
theorem d22_93 : dc prog_1_method_28_code 93 (.lreturn) 1 := by decide +kernel
theorem d22_94 : dc prog_1_method_28_code 94 (.iload_n 2) 1 := by decide +kernel
theorem d22_95 : dc prog_1_method_28_code 95 (.iconst 5) 1 := by decide +kernel
theorem d22_96 : dc prog_1_method_28_code 96 (.if_icmp .ne 10) 3 := by decide +kernel
theorem d22_99 : dc prog_1_method_28_code 99 (.aload_n 0) 1 := by decide +kernel
theorem d22_100 : dc prog_1_method_28_code 100 (.getfield 39) 3 := by decide +kernel
theorem d22_103 : dc prog_1_method_28_code 103 (.iload_n 1) 1 := by decide +kernel
theorem d22_104 : dc prog_1_method_28_code 104 (.laload) 1 := by decide +kernel
theorem d22_105 : dc prog_1_method_28_code 105 (.lreturn) 1 := by decide +kernel
theorem d22_106 : dc prog_1_method_28_code 106 (.lconst 0) 1 := by decide +kernel
theorem d22_107 : dc prog_1_method_28_code 107 (.lreturn) 1 := by decide +kernel
abbrev y22 : MethodName := ⟨"BillingRun", "getCustomer", "(II)J"⟩
theorem hy22 : y22.cls ≠ "java/lang/invoke/MethodHandle" ∧ y22.cls ≠ "java/lang/invoke/VarHandle" := by decide
theorem pd22 : parseMethodDescriptor y22.desc = some ⟨[.int, .int], some .long⟩ := by decide +kernel
abbrev R22 : Room := { frames := 1, cells := 0, slots := 0, locals := 13 }
abbrev P22 (s : St) (r : Int64) : Option Value → List OwnC → Prop := fun v H' => v = some (.long r) ∧ H' = (Hb 0 s)
abbrev W22 (l : Launch) (Z : State) (n0 : Nat) (Q : Option Value → List OwnC → Prop) (k n pc : Nat) (L : List Slot) (S : List Value) (H : List OwnC) : Prop := WP l Z CN lay "BillingRun" "getCustomer" prog_1_method_28_code 3 (some FieldType.long) R22 n0 0 Q k n pc L S H
def f_getCustomer_28 (t0 : Int64) (s : St) : Option (Int64) :=
  some t0
set_option maxRecDepth 65536 in
set_option maxHeartbeats 4000000 in
theorem ok22_28 (l : Launch) (Z : State) (a0 : Array Value) (hw : HW a0 Z) (n0 : Nat) (t0 : Int64) (s : St) (r : Int64) (h : f_getCustomer_28 t0 s = some r) : W22 l Z n0 (P22 s r) 0 0 28 [.unset, .unset, .unset] [.long t0] (Hb 0 s) := by
  unfold f_getCustomer_28 at h
  cases h
  exact WP.lreturn d22_28 rfl (leb rfl) (leb rfl) ⟨rfl, rfl⟩
def f_getCustomer_56 (t0 : Int64) (s : St) : Option (Int64) :=
  some t0
set_option maxRecDepth 65536 in
set_option maxHeartbeats 4000000 in
theorem ok22_56 (l : Launch) (Z : State) (a0 : Array Value) (hw : HW a0 Z) (n0 : Nat) (t0 : Int64) (s : St) (r : Int64) (h : f_getCustomer_56 t0 s = some r) : W22 l Z n0 (P22 s r) 0 0 56 [.unset, .unset, .unset] [.long t0] (Hb 0 s) := by
  unfold f_getCustomer_56 at h
  cases h
  exact WP.lreturn d22_56 rfl (leb rfl) (leb rfl) ⟨rfl, rfl⟩
def f_getCustomer (p1 : Int32) (p2 : Int32) (s : St) : Option (Int64) :=
  (f_validCustomer p1 s).bind fun c1 =>
  if c1 = 0 then
    some (0 : Int64)
  else
    if p2 = 0 then
      (rd (gA s 4) p1).bind fun x4 =>
      if x4 = 0 then
        f_getCustomer_28 (0 : Int64) s
      else
        f_getCustomer_28 (1 : Int64) s
    else
      if p2 = (1 : Int32) then
        (rd (gA s 4) p1).bind fun x7 =>
        if x7 = 0 then
          f_getCustomer_56 (-1 : Int64) s
        else
          (rd (gA s 5) p1).bind fun x9 =>
          f_getCustomer_56 x9.toInt64 s
      else
        if p2 = (2 : Int32) then
          (rd (gA s 6) p1).bind fun x11 =>
          some x11.toInt64
        else
          if p2 = (3 : Int32) then
            (rd (gB s 0) p1).bind fun x13 =>
            some x13
          else
            if p2 = (4 : Int32) then
              (rd (gB s 1) p1).bind fun x15 =>
              some x15
            else
              if p2 = (5 : Int32) then
                (rd (gB s 2) p1).bind fun x17 =>
                some x17
              else
                some (0 : Int64)
set_option maxRecDepth 65536 in
set_option maxHeartbeats 4000000 in
theorem ok22 (l : Launch) (Z : State) (a0 : Array Value) (hw : HW a0 Z) (p1 : Int32) (p2 : Int32) (s : St) (r : Int64) (h : f_getCustomer p1 p2 s = some r) : CS l Z CN lay y22 prog_1_method_28_code 3 (some FieldType.long) R22 0 [.ref 0, .int p1, .int p2] (Hb 0 s) (P22 s r) := by
  refine CS.of_wp pn_cls (leb rfl) fun n0 => ?_
  show W22 l Z n0 (P22 s r) 0 0 0 [.val (.ref 0), .val (.int p1), .val (.int p2)] [] (Hb 0 s)
  unfold f_getCustomer at h
  refine WP.aloadN d22_0 rfl ?_
  refine WP.iloadN d22_1 rfl ?_
  obtain ⟨c1, hc1, h⟩ := Option.bind_eq_some_iff.mp h
  refine WP.callP (i := 0) (y := y6) (as := [.int p1]) (S := []) d22_2 (hw _ m_92) (hw _ m_94) (hw _ m_4) (hw _ m_93) (hw _ m_95) (hw _ m_5) hy6 rfl (ok6 l Z a0 hw p1 s _ hc1) rfl (lenOf pd6 rfl) (leb rfl) (leb rfl) (leb rfl) (leb rfl) ?_
  rintro _ _ ⟨rfl, rfl⟩
  show W22 l Z n0 (P22 s r) 0 0 5 [.val (.ref 0), .val (.int p1), .val (.int p2)] [.int c1] (Hb 0 s)
  rcases ite_e h with ⟨hc2, h⟩ | ⟨hc2, h⟩
  ·
    refine WP.ifN d22_5 (XT.i0_ne_f hc2) ?_
    refine WP.lconst (0 : Int64) d22_8 rfl ?_
    cases h
    exact WP.lreturn d22_9 rfl (leb rfl) (leb rfl) ⟨rfl, rfl⟩
  ·
    refine WP.ifY (pc' := 10) d22_5 (XT.i0_ne_t hc2) (by decide) rfl ?_
    refine WP.iloadN d22_10 rfl ?_
    rcases ite_e h with ⟨hc3, h⟩ | ⟨hc3, h⟩
    ·
      refine WP.ifN d22_11 (XT.i0_ne_f hc3) ?_
      refine WP.aloadN d22_14 rfl ?_
      refine WP.getfield (i := 0) (j := 8) d22_15 (hw _ m_22) rfl rfl rfl ?_
      refine WP.iloadN d22_18 rfl ?_
      obtain ⟨x4, hx4, h⟩ := Option.bind_eq_some_iff.mp h
      refine WP.baload (i := 5) d22_19 rfl hx4 ?_
      rcases ite_e h with ⟨hc5, h⟩ | ⟨hc5, h⟩
      ·
        refine WP.ifY (pc' := 27) d22_20 (XT.i0_eq_t hc5) (by decide) rfl ?_
        refine WP.lconst (0 : Int64) d22_27 rfl ?_
        exact WP.weak (L' := [.unset, .unset, .unset]) trivial (ok22_28 l Z a0 hw n0 (0 : Int64) s _ h)
      ·
        refine WP.ifN d22_20 (XT.i0_eq_f hc5) ?_
        refine WP.lconst (1 : Int64) d22_23 rfl ?_
        refine WP.goto (pc' := 28) d22_24 (by decide) rfl ?_
        exact WP.weak (L' := [.unset, .unset, .unset]) trivial (ok22_28 l Z a0 hw n0 (1 : Int64) s _ h)
    ·
      refine WP.ifY (pc' := 29) d22_11 (XT.i0_ne_t hc3) (by decide) rfl ?_
      refine WP.iloadN d22_29 rfl ?_
      refine WP.iconst (1 : Int32) d22_30 rfl ?_
      rcases ite_e h with ⟨hc6, h⟩ | ⟨hc6, h⟩
      ·
        refine WP.icmpN d22_31 (XT.ii_ne_f hc6) ?_
        refine WP.aloadN d22_34 rfl ?_
        refine WP.getfield (i := 0) (j := 8) d22_35 (hw _ m_22) rfl rfl rfl ?_
        refine WP.iloadN d22_38 rfl ?_
        obtain ⟨x7, hx7, h⟩ := Option.bind_eq_some_iff.mp h
        refine WP.baload (i := 5) d22_39 rfl hx7 ?_
        rcases ite_e h with ⟨hc8, h⟩ | ⟨hc8, h⟩
        ·
          refine WP.ifY (pc' := 53) d22_40 (XT.i0_eq_t hc8) (by decide) rfl ?_
          refine WP.ldc2 d22_53 (hw _ m_188) ?_
          exact WP.weak (L' := [.unset, .unset, .unset]) trivial (ok22_56 l Z a0 hw n0 (-1 : Int64) s _ h)
        ·
          refine WP.ifN d22_40 (XT.i0_eq_f hc8) ?_
          refine WP.aloadN d22_43 rfl ?_
          refine WP.getfield (i := 0) (j := 9) d22_44 (hw _ m_24) rfl rfl rfl ?_
          refine WP.iloadN d22_47 rfl ?_
          obtain ⟨x9, hx9, h⟩ := Option.bind_eq_some_iff.mp h
          refine WP.iaload (i := 6) d22_48 rfl hx9 ?_
          refine WP.i2l d22_49 ?_
          refine WP.goto (pc' := 56) d22_50 (by decide) rfl ?_
          exact WP.weak (L' := [.unset, .unset, .unset]) trivial (ok22_56 l Z a0 hw n0 x9.toInt64 s _ h)
      ·
        refine WP.icmpY (pc' := 57) d22_31 (XT.ii_ne_t hc6) (by decide) rfl ?_
        refine WP.iloadN d22_57 rfl ?_
        refine WP.iconst (2 : Int32) d22_58 rfl ?_
        rcases ite_e h with ⟨hc10, h⟩ | ⟨hc10, h⟩
        ·
          refine WP.icmpN d22_59 (XT.ii_ne_f hc10) ?_
          refine WP.aloadN d22_62 rfl ?_
          refine WP.getfield (i := 0) (j := 10) d22_63 (hw _ m_26) rfl rfl rfl ?_
          refine WP.iloadN d22_66 rfl ?_
          obtain ⟨x11, hx11, h⟩ := Option.bind_eq_some_iff.mp h
          refine WP.iaload (i := 7) d22_67 rfl hx11 ?_
          refine WP.i2l d22_68 ?_
          cases h
          exact WP.lreturn d22_69 rfl (leb rfl) (leb rfl) ⟨rfl, rfl⟩
        ·
          refine WP.icmpY (pc' := 70) d22_59 (XT.ii_ne_t hc10) (by decide) rfl ?_
          refine WP.iloadN d22_70 rfl ?_
          refine WP.iconst (3 : Int32) d22_71 rfl ?_
          rcases ite_e h with ⟨hc12, h⟩ | ⟨hc12, h⟩
          ·
            refine WP.icmpN d22_72 (XT.ii_ne_f hc12) ?_
            refine WP.aloadN d22_75 rfl ?_
            refine WP.getfield (i := 0) (j := 11) d22_76 (hw _ m_29) rfl rfl rfl ?_
            refine WP.iloadN d22_79 rfl ?_
            obtain ⟨x13, hx13, h⟩ := Option.bind_eq_some_iff.mp h
            refine WP.laload (i := 8) d22_80 rfl hx13 ?_
            cases h
            exact WP.lreturn d22_81 rfl (leb rfl) (leb rfl) ⟨rfl, rfl⟩
          ·
            refine WP.icmpY (pc' := 82) d22_72 (XT.ii_ne_t hc12) (by decide) rfl ?_
            refine WP.iloadN d22_82 rfl ?_
            refine WP.iconst (4 : Int32) d22_83 rfl ?_
            rcases ite_e h with ⟨hc14, h⟩ | ⟨hc14, h⟩
            ·
              refine WP.icmpN d22_84 (XT.ii_ne_f hc14) ?_
              refine WP.aloadN d22_87 rfl ?_
              refine WP.getfield (i := 0) (j := 12) d22_88 (hw _ m_31) rfl rfl rfl ?_
              refine WP.iloadN d22_91 rfl ?_
              obtain ⟨x15, hx15, h⟩ := Option.bind_eq_some_iff.mp h
              refine WP.laload (i := 9) d22_92 rfl hx15 ?_
              cases h
              exact WP.lreturn d22_93 rfl (leb rfl) (leb rfl) ⟨rfl, rfl⟩
            ·
              refine WP.icmpY (pc' := 94) d22_84 (XT.ii_ne_t hc14) (by decide) rfl ?_
              refine WP.iloadN d22_94 rfl ?_
              refine WP.iconst (5 : Int32) d22_95 rfl ?_
              rcases ite_e h with ⟨hc16, h⟩ | ⟨hc16, h⟩
              ·
                refine WP.icmpN d22_96 (XT.ii_ne_f hc16) ?_
                refine WP.aloadN d22_99 rfl ?_
                refine WP.getfield (i := 0) (j := 13) d22_100 (hw _ m_33) rfl rfl rfl ?_
                refine WP.iloadN d22_103 rfl ?_
                obtain ⟨x17, hx17, h⟩ := Option.bind_eq_some_iff.mp h
                refine WP.laload (i := 10) d22_104 rfl hx17 ?_
                cases h
                exact WP.lreturn d22_105 rfl (leb rfl) (leb rfl) ⟨rfl, rfl⟩
              ·
                refine WP.icmpY (pc' := 106) d22_96 (XT.ii_ne_t hc16) (by decide) rfl ?_
                refine WP.lconst (0 : Int64) d22_106 rfl ?_
                cases h
                exact WP.lreturn d22_107 rfl (leb rfl) (leb rfl) ⟨rfl, rfl⟩
theorem d23_0 : dc prog_1_method_27_code 0 (.aload_n 0) 1 := by decide +kernel
theorem d23_1 : dc prog_1_method_27_code 1 (.iload_n 1) 1 := by decide +kernel
theorem d23_2 : dc prog_1_method_27_code 2 (.invokevirtual 122) 3 := by decide +kernel
theorem d23_5 : dc prog_1_method_27_code 5 (.ifCond .eq 22) 3 := by decide +kernel
theorem d23_8 : dc prog_1_method_27_code 8 (.iload_n 2) 1 := by decide +kernel
theorem d23_9 : dc prog_1_method_27_code 9 (.ifCond .lt 18) 3 := by decide +kernel
theorem d23_12 : dc prog_1_method_27_code 12 (.iload_n 2) 1 := by decide +kernel
theorem d23_13 : dc prog_1_method_27_code 13 (.aload_n 0) 1 := by decide +kernel
theorem d23_14 : dc prog_1_method_27_code 14 (.getfield 29) 3 := by decide +kernel
theorem d23_17 : dc prog_1_method_27_code 17 (.iload_n 1) 1 := by decide +kernel
theorem d23_18 : dc prog_1_method_27_code 18 (.iaload) 1 := by decide +kernel
theorem d23_19 : dc prog_1_method_27_code 19 (.if_icmp .ge 8) 3 := by decide +kernel
theorem d23_22 : dc prog_1_method_27_code 22 (.iload_n 2) 1 := by decide +kernel
theorem d23_23 : dc prog_1_method_27_code 23 (.iconst 4) 1 := by decide +kernel
theorem d23_24 : dc prog_1_method_27_code 24 (.if_icmp .lt 5) 3 := by decide +kernel
theorem d23_27 : dc prog_1_method_27_code 27 (.lconst 0) 1 := by decide +kernel
theorem d23_28 : dc prog_1_method_27_code 28 (.lreturn) 1 := by decide +kernel
theorem d23_29 : dc prog_1_method_27_code 29 (.iload_n 1) 1 := by decide +kernel
theorem d23_30 : dc prog_1_method_27_code 30 (.iconst 4) 1 := by decide +kernel
theorem d23_31 : dc prog_1_method_27_code 31 (.imul) 1 := by decide +kernel
theorem d23_32 : dc prog_1_method_27_code 32 (.iload_n 2) 1 := by decide +kernel
theorem d23_33 : dc prog_1_method_27_code 33 (.iadd) 1 := by decide +kernel
theorem d23_34 : dc prog_1_method_27_code 34 (.istore 4) 2 := by decide +kernel
theorem d23_36 : dc prog_1_method_27_code 36 (.iload_n 3) 1 := by decide +kernel
theorem d23_37 : dc prog_1_method_27_code 37 (.ifCond .ne 12) 3 := by decide +kernel
theorem d23_40 : dc prog_1_method_27_code 40 (.aload_n 0) 1 := by decide +kernel
theorem d23_41 : dc prog_1_method_27_code 41 (.getfield 42) 3 := by decide +kernel
theorem d23_44 : dc prog_1_method_27_code 44 (.iload 4) 2 := by decide +kernel
theorem d23_46 : dc prog_1_method_27_code 46 (.iaload) 1 := by decide +kernel
theorem d23_47 : dc prog_1_method_27_code 47 (.i2l) 1 := by decide +kernel
theorem d23_48 : dc prog_1_method_27_code 48 (.lreturn) 1 := by decide +kernel
theorem d23_49 : dc prog_1_method_27_code 49 (.iload_n 3) 1 := by decide +kernel
theorem d23_50 : dc prog_1_method_27_code 50 (.iconst 1) 1 := by decide +kernel
theorem d23_51 : dc prog_1_method_27_code 51 (.if_icmp .ne 12) 3 := by decide +kernel
theorem d23_54 : dc prog_1_method_27_code 54 (.aload_n 0) 1 := by decide +kernel
theorem d23_55 : dc prog_1_method_27_code 55 (.getfield 45) 3 := by decide +kernel
theorem d23_58 : dc prog_1_method_27_code 58 (.iload 4) 2 := by decide +kernel
theorem d23_60 : dc prog_1_method_27_code 60 (.iaload) 1 := by decide +kernel
theorem d23_61 : dc prog_1_method_27_code 61 (.i2l) 1 := by decide +kernel
theorem d23_62 : dc prog_1_method_27_code 62 (.lreturn) 1 := by decide +kernel
theorem d23_63 : dc prog_1_method_27_code 63 (.iload_n 3) 1 := by decide +kernel
theorem d23_64 : dc prog_1_method_27_code 64 (.iconst 2) 1 := by decide +kernel
theorem d23_65 : dc prog_1_method_27_code 65 (.if_icmp .ne 12) 3 := by decide +kernel
theorem d23_68 : dc prog_1_method_27_code 68 (.aload_n 0) 1 := by decide +kernel
theorem d23_69 : dc prog_1_method_27_code 69 (.getfield 48) 3 := by decide +kernel
theorem d23_72 : dc prog_1_method_27_code 72 (.iload 4) 2 := by decide +kernel
theorem d23_74 : dc prog_1_method_27_code 74 (.iaload) 1 := by decide +kernel
theorem d23_75 : dc prog_1_method_27_code 75 (.i2l) 1 := by decide +kernel
theorem d23_76 : dc prog_1_method_27_code 76 (.lreturn) 1 := by decide +kernel
theorem d23_77 : dc prog_1_method_27_code 77 (.iload_n 3) 1 := by decide +kernel
theorem d23_78 : dc prog_1_method_27_code 78 (.iconst 3) 1 := by decide +kernel
theorem d23_79 : dc prog_1_method_27_code 79 (.if_icmp .ne 12) 3 := by decide +kernel
theorem d23_82 : dc prog_1_method_27_code 82 (.aload_n 0) 1 := by decide +kernel
theorem d23_83 : dc prog_1_method_27_code 83 (.getfield 51) 3 := by decide +kernel
theorem d23_86 : dc prog_1_method_27_code 86 (.iload 4) 2 := by decide +kernel
theorem d23_88 : dc prog_1_method_27_code 88 (.iaload) 1 := by decide +kernel
theorem d23_89 : dc prog_1_method_27_code 89 (.i2l) 1 := by decide +kernel
theorem d23_90 : dc prog_1_method_27_code 90 (.lreturn) 1 := by decide +kernel
theorem d23_91 : dc prog_1_method_27_code 91 (.lconst 0) 1 := by decide +kernel
theorem d23_92 : dc prog_1_method_27_code 92 (.lreturn) 1 := by decide +kernel
abbrev y23 : MethodName := ⟨"BillingRun", "getSegment", "(III)J"⟩
theorem hy23 : y23.cls ≠ "java/lang/invoke/MethodHandle" ∧ y23.cls ≠ "java/lang/invoke/VarHandle" := by decide
theorem pd23 : parseMethodDescriptor y23.desc = some ⟨[.int, .int, .int], some .long⟩ := by decide +kernel
abbrev R23 : Room := { frames := 1, cells := 0, slots := 0, locals := 13 }
abbrev P23 (s : St) (r : Int64) : Option Value → List OwnC → Prop := fun v H' => v = some (.long r) ∧ H' = (Hb 0 s)
abbrev W23 (l : Launch) (Z : State) (n0 : Nat) (Q : Option Value → List OwnC → Prop) (k n pc : Nat) (L : List Slot) (S : List Value) (H : List OwnC) : Prop := WP l Z CN lay "BillingRun" "getSegment" prog_1_method_27_code 5 (some FieldType.long) R23 n0 0 Q k n pc L S H
def f_getSegment_27 (s : St) : Option (Int64) :=
  some (0 : Int64)
set_option maxRecDepth 65536 in
set_option maxHeartbeats 4000000 in
theorem ok23_27 (l : Launch) (Z : State) (a0 : Array Value) (hw : HW a0 Z) (n0 : Nat) (s : St) (r : Int64) (h : f_getSegment_27 s = some r) : W23 l Z n0 (P23 s r) 0 0 27 [.unset, .unset, .unset, .unset, .unset] [] (Hb 0 s) := by
  unfold f_getSegment_27 at h
  refine WP.lconst (0 : Int64) d23_27 rfl ?_
  cases h
  exact WP.lreturn d23_28 rfl (leb rfl) (leb rfl) ⟨rfl, rfl⟩
def f_getSegment (p1 : Int32) (p2 : Int32) (p3 : Int32) (s : St) : Option (Int64) :=
  (f_validCustomer p1 s).bind fun c1 =>
  if c1 = 0 then
    f_getSegment_27 s
  else
    if p2 < 0 then
      f_getSegment_27 s
    else
      (rd (gA s 6) p1).bind fun x4 =>
      if p2 < x4 then
        if p2 < (4 : Int32) then
          lt ((p1 * (4 : Int32)) + p2) fun x7 =>
          if p3 = 0 then
            (rd (gA s 7) x7).bind fun x9 =>
            some x9.toInt64
          else
            if p3 = (1 : Int32) then
              (rd (gA s 8) x7).bind fun x11 =>
              some x11.toInt64
            else
              if p3 = (2 : Int32) then
                (rd (gA s 9) x7).bind fun x13 =>
                some x13.toInt64
              else
                if p3 = (3 : Int32) then
                  (rd (gA s 10) x7).bind fun x15 =>
                  some x15.toInt64
                else
                  some (0 : Int64)
        else
          f_getSegment_27 s
      else
        f_getSegment_27 s
set_option maxRecDepth 65536 in
set_option maxHeartbeats 4000000 in
theorem ok23 (l : Launch) (Z : State) (a0 : Array Value) (hw : HW a0 Z) (p1 : Int32) (p2 : Int32) (p3 : Int32) (s : St) (r : Int64) (h : f_getSegment p1 p2 p3 s = some r) : CS l Z CN lay y23 prog_1_method_27_code 5 (some FieldType.long) R23 0 [.ref 0, .int p1, .int p2, .int p3] (Hb 0 s) (P23 s r) := by
  refine CS.of_wp pn_cls (leb rfl) fun n0 => ?_
  show W23 l Z n0 (P23 s r) 0 0 0 [.val (.ref 0), .val (.int p1), .val (.int p2), .val (.int p3), .unset] [] (Hb 0 s)
  unfold f_getSegment at h
  refine WP.aloadN d23_0 rfl ?_
  refine WP.iloadN d23_1 rfl ?_
  obtain ⟨c1, hc1, h⟩ := Option.bind_eq_some_iff.mp h
  refine WP.callP (i := 0) (y := y6) (as := [.int p1]) (S := []) d23_2 (hw _ m_92) (hw _ m_94) (hw _ m_4) (hw _ m_93) (hw _ m_95) (hw _ m_5) hy6 rfl (ok6 l Z a0 hw p1 s _ hc1) rfl (lenOf pd6 rfl) (leb rfl) (leb rfl) (leb rfl) (leb rfl) ?_
  rintro _ _ ⟨rfl, rfl⟩
  show W23 l Z n0 (P23 s r) 0 0 5 [.val (.ref 0), .val (.int p1), .val (.int p2), .val (.int p3), .unset] [.int c1] (Hb 0 s)
  rcases ite_e h with ⟨hc2, h⟩ | ⟨hc2, h⟩
  ·
    refine WP.ifY (pc' := 27) d23_5 (XT.i0_eq_t hc2) (by decide) rfl ?_
    exact WP.weak (L' := [.unset, .unset, .unset, .unset, .unset]) trivial (ok23_27 l Z a0 hw n0 s _ h)
  ·
    refine WP.ifN d23_5 (XT.i0_eq_f hc2) ?_
    refine WP.iloadN d23_8 rfl ?_
    rcases ite_e h with ⟨hc3, h⟩ | ⟨hc3, h⟩
    ·
      refine WP.ifY (pc' := 27) d23_9 (XT.i0_lt_t hc3) (by decide) rfl ?_
      exact WP.weak (L' := [.unset, .unset, .unset, .unset, .unset]) trivial (ok23_27 l Z a0 hw n0 s _ h)
    ·
      refine WP.ifN d23_9 (XT.i0_lt_f hc3) ?_
      refine WP.iloadN d23_12 rfl ?_
      refine WP.aloadN d23_13 rfl ?_
      refine WP.getfield (i := 0) (j := 10) d23_14 (hw _ m_26) rfl rfl rfl ?_
      refine WP.iloadN d23_17 rfl ?_
      obtain ⟨x4, hx4, h⟩ := Option.bind_eq_some_iff.mp h
      refine WP.iaload (i := 7) d23_18 rfl hx4 ?_
      rcases ite_e h with ⟨hc5, h⟩ | ⟨hc5, h⟩
      ·
        refine WP.icmpN d23_19 (XT.ii_ge_f hc5) ?_
        refine WP.iloadN d23_22 rfl ?_
        refine WP.iconst (4 : Int32) d23_23 rfl ?_
        rcases ite_e h with ⟨hc6, h⟩ | ⟨hc6, h⟩
        ·
          refine WP.icmpY (pc' := 29) d23_24 (XT.ii_lt_t hc6) (by decide) rfl ?_
          refine WP.iloadN d23_29 rfl ?_
          refine WP.iconst (4 : Int32) d23_30 rfl ?_
          refine WP.imul d23_31 ?_
          refine WP.iloadN d23_32 rfl ?_
          refine WP.iadd d23_33 ?_
          obtain ⟨x7, ex7, h⟩ := lt_e h
          refine WP.istore (L' := [.val (.ref 0), .val (.int p1), .val (.int p2), .val (.int p3), .val (.int x7)]) d23_34 (leb rfl) (by subst ex7; rfl) ?_
          refine WP.iloadN d23_36 rfl ?_
          rcases ite_e h with ⟨hc8, h⟩ | ⟨hc8, h⟩
          ·
            refine WP.ifN d23_37 (XT.i0_ne_f hc8) ?_
            refine WP.aloadN d23_40 rfl ?_
            refine WP.getfield (i := 0) (j := 14) d23_41 (hw _ m_35) rfl rfl rfl ?_
            refine WP.iload d23_44 rfl ?_
            obtain ⟨x9, hx9, h⟩ := Option.bind_eq_some_iff.mp h
            refine WP.iaload (i := 11) d23_46 rfl hx9 ?_
            refine WP.i2l d23_47 ?_
            cases h
            exact WP.lreturn d23_48 rfl (leb rfl) (leb rfl) ⟨rfl, rfl⟩
          ·
            refine WP.ifY (pc' := 49) d23_37 (XT.i0_ne_t hc8) (by decide) rfl ?_
            refine WP.iloadN d23_49 rfl ?_
            refine WP.iconst (1 : Int32) d23_50 rfl ?_
            rcases ite_e h with ⟨hc10, h⟩ | ⟨hc10, h⟩
            ·
              refine WP.icmpN d23_51 (XT.ii_ne_f hc10) ?_
              refine WP.aloadN d23_54 rfl ?_
              refine WP.getfield (i := 0) (j := 15) d23_55 (hw _ m_37) rfl rfl rfl ?_
              refine WP.iload d23_58 rfl ?_
              obtain ⟨x11, hx11, h⟩ := Option.bind_eq_some_iff.mp h
              refine WP.iaload (i := 12) d23_60 rfl hx11 ?_
              refine WP.i2l d23_61 ?_
              cases h
              exact WP.lreturn d23_62 rfl (leb rfl) (leb rfl) ⟨rfl, rfl⟩
            ·
              refine WP.icmpY (pc' := 63) d23_51 (XT.ii_ne_t hc10) (by decide) rfl ?_
              refine WP.iloadN d23_63 rfl ?_
              refine WP.iconst (2 : Int32) d23_64 rfl ?_
              rcases ite_e h with ⟨hc12, h⟩ | ⟨hc12, h⟩
              ·
                refine WP.icmpN d23_65 (XT.ii_ne_f hc12) ?_
                refine WP.aloadN d23_68 rfl ?_
                refine WP.getfield (i := 0) (j := 16) d23_69 (hw _ m_39) rfl rfl rfl ?_
                refine WP.iload d23_72 rfl ?_
                obtain ⟨x13, hx13, h⟩ := Option.bind_eq_some_iff.mp h
                refine WP.iaload (i := 13) d23_74 rfl hx13 ?_
                refine WP.i2l d23_75 ?_
                cases h
                exact WP.lreturn d23_76 rfl (leb rfl) (leb rfl) ⟨rfl, rfl⟩
              ·
                refine WP.icmpY (pc' := 77) d23_65 (XT.ii_ne_t hc12) (by decide) rfl ?_
                refine WP.iloadN d23_77 rfl ?_
                refine WP.iconst (3 : Int32) d23_78 rfl ?_
                rcases ite_e h with ⟨hc14, h⟩ | ⟨hc14, h⟩
                ·
                  refine WP.icmpN d23_79 (XT.ii_ne_f hc14) ?_
                  refine WP.aloadN d23_82 rfl ?_
                  refine WP.getfield (i := 0) (j := 17) d23_83 (hw _ m_41) rfl rfl rfl ?_
                  refine WP.iload d23_86 rfl ?_
                  obtain ⟨x15, hx15, h⟩ := Option.bind_eq_some_iff.mp h
                  refine WP.iaload (i := 14) d23_88 rfl hx15 ?_
                  refine WP.i2l d23_89 ?_
                  cases h
                  exact WP.lreturn d23_90 rfl (leb rfl) (leb rfl) ⟨rfl, rfl⟩
                ·
                  refine WP.icmpY (pc' := 91) d23_79 (XT.ii_ne_t hc14) (by decide) rfl ?_
                  refine WP.lconst (0 : Int64) d23_91 rfl ?_
                  cases h
                  exact WP.lreturn d23_92 rfl (leb rfl) (leb rfl) ⟨rfl, rfl⟩
        ·
          refine WP.icmpN d23_24 (XT.ii_lt_f hc6) ?_
          exact WP.weak (L' := [.unset, .unset, .unset, .unset, .unset]) trivial (ok23_27 l Z a0 hw n0 s _ h)
      ·
        refine WP.icmpY (pc' := 27) d23_19 (XT.ii_ge_t hc5) (by decide) rfl ?_
        exact WP.weak (L' := [.unset, .unset, .unset, .unset, .unset]) trivial (ok23_27 l Z a0 hw n0 s _ h)
theorem d24_0 : dc prog_1_method_29_code 0 (.aload_n 0) 1 := by decide +kernel
theorem d24_1 : dc prog_1_method_29_code 1 (.getfield 96) 3 := by decide +kernel
theorem d24_4 : dc prog_1_method_29_code 4 (.ireturn) 1 := by decide +kernel
abbrev y24 : MethodName := ⟨"BillingRun", "today", "()I"⟩
theorem hy24 : y24.cls ≠ "java/lang/invoke/MethodHandle" ∧ y24.cls ≠ "java/lang/invoke/VarHandle" := by decide
theorem pd24 : parseMethodDescriptor y24.desc = some ⟨[], some .int⟩ := by decide +kernel
abbrev R24 : Room := { frames := 0, cells := 0, slots := 0, locals := 0 }
abbrev P24 (s : St) (r : Int32) : Option Value → List OwnC → Prop := fun v H' => v = some (.int r) ∧ H' = (Hb 0 s)
abbrev W24 (l : Launch) (Z : State) (n0 : Nat) (Q : Option Value → List OwnC → Prop) (k n pc : Nat) (L : List Slot) (S : List Value) (H : List OwnC) : Prop := WP l Z CN lay "BillingRun" "today" prog_1_method_29_code 1 (some FieldType.int) R24 n0 0 Q k n pc L S H
def f_today (s : St) : Option (Int32) :=
  some (gI s 2)
set_option maxRecDepth 65536 in
set_option maxHeartbeats 4000000 in
theorem ok24 (l : Launch) (Z : State) (a0 : Array Value) (hw : HW a0 Z) (s : St) (r : Int32) (h : f_today s = some r) : CS l Z CN lay y24 prog_1_method_29_code 1 (some FieldType.int) R24 0 [.ref 0] (Hb 0 s) (P24 s r) := by
  refine CS.of_wp pn_cls (leb rfl) fun n0 => ?_
  show W24 l Z n0 (P24 s r) 0 0 0 [.val (.ref 0)] [] (Hb 0 s)
  unfold f_today at h
  refine WP.aloadN d24_0 rfl ?_
  refine WP.getfield (i := 0) (j := 2) d24_1 (hw _ m_100) rfl rfl rfl ?_
  cases h
  exact WP.ireturn d24_4 rfl (leb rfl) (leb rfl) ⟨rfl, rfl⟩
abbrev PLAW (r : Int32) : Option Value → List OwnC → Prop := fun v _ => v = some (.int r)
abbrev WLAW (l : Launch) (Z : State) (n0 : Nat) (Q : Option Value → List OwnC → Prop) (k n pc : Nat) (L : List Slot) (S : List Value) (H : List OwnC) : Prop := WP l Z CN lay "BillingRunL3" "law" code maxLocals ret room_1 n0 0 Q k n pc L S H
def f_law_504 (n : Nat) (s0 : St) : Option (Int32) :=
  some (0 : Int32)
set_option maxRecDepth 65536 in
set_option maxHeartbeats 4000000 in
theorem okLAW_504 (l : Launch) (Z : State) (a0 : Array Value) (hw : HW a0 Z) (n0 : Nat) (n : Nat) (s0 : St) (r : Int32) (h : f_law_504 n s0 = some r) : WLAW l Z n0 (PLAW r) 25 828 504 (.unset :: .unset :: .unset :: .unset :: .unset :: .unset :: .unset :: .unset :: .unset :: .unset :: .unset :: .unset :: .unset :: .unset :: .unset :: .unset :: .unset :: .unset :: .unset :: .unset :: .unset :: .unset :: .unset :: .unset :: .unset :: .unset :: .unset :: .unset :: .unset :: .unset :: .unset :: .unset :: .unset :: .unset :: .unset :: .unset :: .unset :: .unset :: .unset :: .unset :: []) [] (Hb 0 s0) := by
  unfold f_law_504 at h
  refine WP.iconst (0 : Int32) at_504 rfl ?_
  cases h
  exact WP.zreturn at_505 rfl (leb rfl) (leb rfl) rfl
def f_law_532 (n : Nat) (s0 : St) : Option (Int32) :=
  some (0 : Int32)
set_option maxRecDepth 65536 in
set_option maxHeartbeats 4000000 in
theorem okLAW_532 (l : Launch) (Z : State) (a0 : Array Value) (hw : HW a0 Z) (n0 : Nat) (n : Nat) (s0 : St) (r : Int32) (h : f_law_532 n s0 = some r) : WLAW l Z n0 (PLAW r) 25 828 532 (.unset :: .unset :: .unset :: .unset :: .unset :: .unset :: .unset :: .unset :: .unset :: .unset :: .unset :: .unset :: .unset :: .unset :: .unset :: .unset :: .unset :: .unset :: .unset :: .unset :: .unset :: .unset :: .unset :: .unset :: .unset :: .unset :: .unset :: .unset :: .unset :: .unset :: .unset :: .unset :: .unset :: .unset :: .unset :: .unset :: .unset :: .unset :: .unset :: .unset :: []) [] (Hb 0 s0) := by
  unfold f_law_532 at h
  refine WP.iconst (0 : Int32) at_532 rfl ?_
  cases h
  exact WP.zreturn at_533 rfl (leb rfl) (leb rfl) rfl
def f_law_592 (n : Nat) (t0 : Int32) (s0 : St) : Option (Int32) :=
  some (t0 &&& 1)
set_option maxRecDepth 65536 in
set_option maxHeartbeats 4000000 in
theorem okLAW_592 (l : Launch) (Z : State) (a0 : Array Value) (hw : HW a0 Z) (n0 : Nat) (n : Nat) (t0 : Int32) (s0 : St) (r : Int32) (h : f_law_592 n t0 s0 = some r) : WLAW l Z n0 (PLAW r) 25 828 592 (.unset :: .unset :: .unset :: .unset :: .unset :: .unset :: .unset :: .unset :: .unset :: .unset :: .unset :: .unset :: .unset :: .unset :: .unset :: .unset :: .unset :: .unset :: .unset :: .unset :: .unset :: .unset :: .unset :: .unset :: .unset :: .unset :: .unset :: .unset :: .unset :: .unset :: .unset :: .unset :: .unset :: .unset :: .unset :: .unset :: .unset :: .unset :: .unset :: .unset :: []) [.int t0] (Hb 0 s0) := by
  unfold f_law_592 at h
  cases h
  exact WP.zreturn at_592 rfl (leb rfl) (leb rfl) rfl
def f_law_386 (n : Nat) (v10 : Int32) (v16 : Int64) (v20 : Int64) (v22 : Int64) (v24 : Int64) (v36 : Int64) (v38 : Int64) (s0 : St) : Option (Int32) :=
  (f_getInvoice (3 : Int32) (0 : Int32) s0).bind fun c1 =>
  if c1 = (2 : Int64) then
    (f_getInvoice (3 : Int32) (1 : Int32) s0).bind fun c3 =>
    if c3 = v22 then
      (f_getInvoice (3 : Int32) (2 : Int32) s0).bind fun c5 =>
      if c5 = v24 then
        (f_getInvoice (3 : Int32) (3 : Int32) s0).bind fun c7 =>
        if c7 = (0 : Int64) then
          (f_getInvoice (3 : Int32) (4 : Int32) s0).bind fun c9 =>
          if c9 = (v22 + v24) then
            (f_getInvoice (3 : Int32) (5 : Int32) s0).bind fun c11 =>
            if c11 = (1 : Int64) then
              (f_getLine (3 : Int32) (0 : Int32) s0).bind fun c13 =>
              if c13 = v16 then
                (f_getLine (3 : Int32) (1 : Int32) s0).bind fun c15 =>
                if c15 = v20 then
                  (f_getLineTax (3 : Int32) (0 : Int32) s0).bind fun c17 =>
                  if c17 = v36 then
                    (f_getLineTax (3 : Int32) (1 : Int32) s0).bind fun c19 =>
                    if c19 = v38 then
                      (f_rate n (0 : Int32) v10 s0).bind fun c21 =>
                      if c21 = v20 then
                        (f_getCustomer (3 : Int32) (2 : Int32) s0).bind fun c23 =>
                        if c23 = (1 : Int64) then
                          (f_getSegment (3 : Int32) (0 : Int32) (3 : Int32) s0).bind fun c25 =>
                          if c25 = (0 : Int64) then
                            (f_today s0).bind fun c27 =>
                            if c27 = 0 then
                              f_law_592 n (1 : Int32) s0
                            else
                              f_law_592 n (0 : Int32) s0
                          else
                            some (0 : Int32)
                        else
                          some (0 : Int32)
                      else
                        some (0 : Int32)
                    else
                      f_law_532 n s0
                  else
                    f_law_532 n s0
                else
                  f_law_504 n s0
              else
                f_law_504 n s0
            else
              some (0 : Int32)
          else
            some (0 : Int32)
        else
          some (0 : Int32)
      else
        some (0 : Int32)
    else
      some (0 : Int32)
  else
    some (0 : Int32)
set_option maxRecDepth 65536 in
set_option maxHeartbeats 4000000 in
theorem okLAW_386 (l : Launch) (Z : State) (a0 : Array Value) (hw : HW a0 Z) (n0 : Nat) (n : Nat) (v10 : Int32) (v16 : Int64) (v20 : Int64) (v22 : Int64) (v24 : Int64) (v36 : Int64) (v38 : Int64) (s0 : St) (r : Int32) (h : f_law_386 n v10 v16 v20 v22 v24 v36 v38 s0 = some r) : WLAW l Z n0 (PLAW r) 25 828 386 (.unset :: .unset :: .unset :: .unset :: .unset :: .unset :: .unset :: .unset :: .unset :: .unset :: .val (.int v10) :: .unset :: .unset :: .val (.ref 0) :: .unset :: .unset :: .val (.long v16) :: .second :: .unset :: .unset :: .val (.long v20) :: .second :: .val (.long v22) :: .second :: .val (.long v24) :: .second :: .unset :: .unset :: .unset :: .unset :: .unset :: .unset :: .unset :: .unset :: .unset :: .unset :: .val (.long v36) :: .second :: .val (.long v38) :: .second :: []) [] (Hb 0 s0) := by
  unfold f_law_386 at h
  refine WP.aload at_386 rfl ?_
  refine WP.iconst (3 : Int32) at_388 rfl ?_
  refine WP.iconst (0 : Int32) at_389 rfl ?_
  obtain ⟨c1, hc1, h⟩ := Option.bind_eq_some_iff.mp h
  refine WP.callV (i := 0) (y := y18) (as := [.int (3 : Int32), .int (0 : Int32)]) (S := []) at_390 (hw _ m_153) (hw _ m_154) (hw _ m_156) (hw _ m_155) (hw _ m_157) (hw _ m_5) hy18 rfl (ok18 l Z a0 hw (3 : Int32) (0 : Int32) s0 _ hc1) rfl (lenOf pd18 rfl) (leb rfl) (leb rfl) (leb rfl) (leb rfl) ?_
  rintro _ _ ⟨rfl, rfl⟩
  show WLAW l Z n0 (PLAW r) 25 828 393 (.unset :: .unset :: .unset :: .unset :: .unset :: .unset :: .unset :: .unset :: .unset :: .unset :: .val (.int v10) :: .unset :: .unset :: .val (.ref 0) :: .unset :: .unset :: .val (.long v16) :: .second :: .unset :: .unset :: .val (.long v20) :: .second :: .val (.long v22) :: .second :: .val (.long v24) :: .second :: .unset :: .unset :: .unset :: .unset :: .unset :: .unset :: .unset :: .unset :: .unset :: .unset :: .val (.long v36) :: .second :: .val (.long v38) :: .second :: []) [.long c1] (Hb 0 s0)
  refine WP.ldc2 at_393 (hw _ m_152) ?_
  refine WP.lcmp at_396 ?_
  rcases ite_e h with ⟨hc2, h⟩ | ⟨hc2, h⟩
  ·
    refine WP.ifY (pc' := 402) at_397 (XT.ll_eq_t hc2) (by decide) rfl ?_
    refine WP.aload at_402 rfl ?_
    refine WP.iconst (3 : Int32) at_404 rfl ?_
    refine WP.iconst (1 : Int32) at_405 rfl ?_
    obtain ⟨c3, hc3, h⟩ := Option.bind_eq_some_iff.mp h
    refine WP.callV (i := 0) (y := y18) (as := [.int (3 : Int32), .int (1 : Int32)]) (S := []) at_406 (hw _ m_153) (hw _ m_154) (hw _ m_156) (hw _ m_155) (hw _ m_157) (hw _ m_5) hy18 rfl (ok18 l Z a0 hw (3 : Int32) (1 : Int32) s0 _ hc3) rfl (lenOf pd18 rfl) (leb rfl) (leb rfl) (leb rfl) (leb rfl) ?_
    rintro _ _ ⟨rfl, rfl⟩
    show WLAW l Z n0 (PLAW r) 25 828 409 (.unset :: .unset :: .unset :: .unset :: .unset :: .unset :: .unset :: .unset :: .unset :: .unset :: .val (.int v10) :: .unset :: .unset :: .val (.ref 0) :: .unset :: .unset :: .val (.long v16) :: .second :: .unset :: .unset :: .val (.long v20) :: .second :: .val (.long v22) :: .second :: .val (.long v24) :: .second :: .unset :: .unset :: .unset :: .unset :: .unset :: .unset :: .unset :: .unset :: .unset :: .unset :: .val (.long v36) :: .second :: .val (.long v38) :: .second :: []) [.long c3] (Hb 0 s0)
    refine WP.lload at_409 rfl ?_
    refine WP.lcmp at_411 ?_
    rcases ite_e h with ⟨hc4, h⟩ | ⟨hc4, h⟩
    ·
      refine WP.ifY (pc' := 417) at_412 (XT.ll_eq_t hc4) (by decide) rfl ?_
      refine WP.aload at_417 rfl ?_
      refine WP.iconst (3 : Int32) at_419 rfl ?_
      refine WP.iconst (2 : Int32) at_420 rfl ?_
      obtain ⟨c5, hc5, h⟩ := Option.bind_eq_some_iff.mp h
      refine WP.callV (i := 0) (y := y18) (as := [.int (3 : Int32), .int (2 : Int32)]) (S := []) at_421 (hw _ m_153) (hw _ m_154) (hw _ m_156) (hw _ m_155) (hw _ m_157) (hw _ m_5) hy18 rfl (ok18 l Z a0 hw (3 : Int32) (2 : Int32) s0 _ hc5) rfl (lenOf pd18 rfl) (leb rfl) (leb rfl) (leb rfl) (leb rfl) ?_
      rintro _ _ ⟨rfl, rfl⟩
      show WLAW l Z n0 (PLAW r) 25 828 424 (.unset :: .unset :: .unset :: .unset :: .unset :: .unset :: .unset :: .unset :: .unset :: .unset :: .val (.int v10) :: .unset :: .unset :: .val (.ref 0) :: .unset :: .unset :: .val (.long v16) :: .second :: .unset :: .unset :: .val (.long v20) :: .second :: .val (.long v22) :: .second :: .val (.long v24) :: .second :: .unset :: .unset :: .unset :: .unset :: .unset :: .unset :: .unset :: .unset :: .unset :: .unset :: .val (.long v36) :: .second :: .val (.long v38) :: .second :: []) [.long c5] (Hb 0 s0)
      refine WP.lload at_424 rfl ?_
      refine WP.lcmp at_426 ?_
      rcases ite_e h with ⟨hc6, h⟩ | ⟨hc6, h⟩
      ·
        refine WP.ifY (pc' := 432) at_427 (XT.ll_eq_t hc6) (by decide) rfl ?_
        refine WP.aload at_432 rfl ?_
        refine WP.iconst (3 : Int32) at_434 rfl ?_
        refine WP.iconst (3 : Int32) at_435 rfl ?_
        obtain ⟨c7, hc7, h⟩ := Option.bind_eq_some_iff.mp h
        refine WP.callV (i := 0) (y := y18) (as := [.int (3 : Int32), .int (3 : Int32)]) (S := []) at_436 (hw _ m_153) (hw _ m_154) (hw _ m_156) (hw _ m_155) (hw _ m_157) (hw _ m_5) hy18 rfl (ok18 l Z a0 hw (3 : Int32) (3 : Int32) s0 _ hc7) rfl (lenOf pd18 rfl) (leb rfl) (leb rfl) (leb rfl) (leb rfl) ?_
        rintro _ _ ⟨rfl, rfl⟩
        show WLAW l Z n0 (PLAW r) 25 828 439 (.unset :: .unset :: .unset :: .unset :: .unset :: .unset :: .unset :: .unset :: .unset :: .unset :: .val (.int v10) :: .unset :: .unset :: .val (.ref 0) :: .unset :: .unset :: .val (.long v16) :: .second :: .unset :: .unset :: .val (.long v20) :: .second :: .val (.long v22) :: .second :: .val (.long v24) :: .second :: .unset :: .unset :: .unset :: .unset :: .unset :: .unset :: .unset :: .unset :: .unset :: .unset :: .val (.long v36) :: .second :: .val (.long v38) :: .second :: []) [.long c7] (Hb 0 s0)
        refine WP.lconst (0 : Int64) at_439 rfl ?_
        refine WP.lcmp at_440 ?_
        rcases ite_e h with ⟨hc8, h⟩ | ⟨hc8, h⟩
        ·
          refine WP.ifY (pc' := 446) at_441 (XT.ll_eq_t hc8) (by decide) rfl ?_
          refine WP.aload at_446 rfl ?_
          refine WP.iconst (3 : Int32) at_448 rfl ?_
          refine WP.iconst (4 : Int32) at_449 rfl ?_
          obtain ⟨c9, hc9, h⟩ := Option.bind_eq_some_iff.mp h
          refine WP.callV (i := 0) (y := y18) (as := [.int (3 : Int32), .int (4 : Int32)]) (S := []) at_450 (hw _ m_153) (hw _ m_154) (hw _ m_156) (hw _ m_155) (hw _ m_157) (hw _ m_5) hy18 rfl (ok18 l Z a0 hw (3 : Int32) (4 : Int32) s0 _ hc9) rfl (lenOf pd18 rfl) (leb rfl) (leb rfl) (leb rfl) (leb rfl) ?_
          rintro _ _ ⟨rfl, rfl⟩
          show WLAW l Z n0 (PLAW r) 25 828 453 (.unset :: .unset :: .unset :: .unset :: .unset :: .unset :: .unset :: .unset :: .unset :: .unset :: .val (.int v10) :: .unset :: .unset :: .val (.ref 0) :: .unset :: .unset :: .val (.long v16) :: .second :: .unset :: .unset :: .val (.long v20) :: .second :: .val (.long v22) :: .second :: .val (.long v24) :: .second :: .unset :: .unset :: .unset :: .unset :: .unset :: .unset :: .unset :: .unset :: .unset :: .unset :: .val (.long v36) :: .second :: .val (.long v38) :: .second :: []) [.long c9] (Hb 0 s0)
          refine WP.lload at_453 rfl ?_
          refine WP.lload at_455 rfl ?_
          refine WP.ladd at_457 ?_
          refine WP.lcmp at_458 ?_
          rcases ite_e h with ⟨hc10, h⟩ | ⟨hc10, h⟩
          ·
            refine WP.ifY (pc' := 464) at_459 (XT.ll_eq_t hc10) (by decide) rfl ?_
            refine WP.aload at_464 rfl ?_
            refine WP.iconst (3 : Int32) at_466 rfl ?_
            refine WP.iconst (5 : Int32) at_467 rfl ?_
            obtain ⟨c11, hc11, h⟩ := Option.bind_eq_some_iff.mp h
            refine WP.callV (i := 0) (y := y18) (as := [.int (3 : Int32), .int (5 : Int32)]) (S := []) at_468 (hw _ m_153) (hw _ m_154) (hw _ m_156) (hw _ m_155) (hw _ m_157) (hw _ m_5) hy18 rfl (ok18 l Z a0 hw (3 : Int32) (5 : Int32) s0 _ hc11) rfl (lenOf pd18 rfl) (leb rfl) (leb rfl) (leb rfl) (leb rfl) ?_
            rintro _ _ ⟨rfl, rfl⟩
            show WLAW l Z n0 (PLAW r) 25 828 471 (.unset :: .unset :: .unset :: .unset :: .unset :: .unset :: .unset :: .unset :: .unset :: .unset :: .val (.int v10) :: .unset :: .unset :: .val (.ref 0) :: .unset :: .unset :: .val (.long v16) :: .second :: .unset :: .unset :: .val (.long v20) :: .second :: .val (.long v22) :: .second :: .val (.long v24) :: .second :: .unset :: .unset :: .unset :: .unset :: .unset :: .unset :: .unset :: .unset :: .unset :: .unset :: .val (.long v36) :: .second :: .val (.long v38) :: .second :: []) [.long c11] (Hb 0 s0)
            refine WP.lconst (1 : Int64) at_471 rfl ?_
            refine WP.lcmp at_472 ?_
            rcases ite_e h with ⟨hc12, h⟩ | ⟨hc12, h⟩
            ·
              refine WP.ifY (pc' := 478) at_473 (XT.ll_eq_t hc12) (by decide) rfl ?_
              refine WP.aload at_478 rfl ?_
              refine WP.iconst (3 : Int32) at_480 rfl ?_
              refine WP.iconst (0 : Int32) at_481 rfl ?_
              obtain ⟨c13, hc13, h⟩ := Option.bind_eq_some_iff.mp h
              refine WP.callV (i := 0) (y := y19) (as := [.int (3 : Int32), .int (0 : Int32)]) (S := []) at_482 (hw _ m_158) (hw _ m_159) (hw _ m_161) (hw _ m_160) (hw _ m_162) (hw _ m_5) hy19 rfl (ok19 l Z a0 hw (3 : Int32) (0 : Int32) s0 _ hc13) rfl (lenOf pd19 rfl) (leb rfl) (leb rfl) (leb rfl) (leb rfl) ?_
              rintro _ _ ⟨rfl, rfl⟩
              show WLAW l Z n0 (PLAW r) 25 828 485 (.unset :: .unset :: .unset :: .unset :: .unset :: .unset :: .unset :: .unset :: .unset :: .unset :: .val (.int v10) :: .unset :: .unset :: .val (.ref 0) :: .unset :: .unset :: .val (.long v16) :: .second :: .unset :: .unset :: .val (.long v20) :: .second :: .val (.long v22) :: .second :: .val (.long v24) :: .second :: .unset :: .unset :: .unset :: .unset :: .unset :: .unset :: .unset :: .unset :: .unset :: .unset :: .val (.long v36) :: .second :: .val (.long v38) :: .second :: []) [.long c13] (Hb 0 s0)
              refine WP.lload at_485 rfl ?_
              refine WP.lcmp at_487 ?_
              rcases ite_e h with ⟨hc14, h⟩ | ⟨hc14, h⟩
              ·
                refine WP.ifN at_488 (XT.ll_ne_f hc14) ?_
                refine WP.aload at_491 rfl ?_
                refine WP.iconst (3 : Int32) at_493 rfl ?_
                refine WP.iconst (1 : Int32) at_494 rfl ?_
                obtain ⟨c15, hc15, h⟩ := Option.bind_eq_some_iff.mp h
                refine WP.callV (i := 0) (y := y19) (as := [.int (3 : Int32), .int (1 : Int32)]) (S := []) at_495 (hw _ m_158) (hw _ m_159) (hw _ m_161) (hw _ m_160) (hw _ m_162) (hw _ m_5) hy19 rfl (ok19 l Z a0 hw (3 : Int32) (1 : Int32) s0 _ hc15) rfl (lenOf pd19 rfl) (leb rfl) (leb rfl) (leb rfl) (leb rfl) ?_
                rintro _ _ ⟨rfl, rfl⟩
                show WLAW l Z n0 (PLAW r) 25 828 498 (.unset :: .unset :: .unset :: .unset :: .unset :: .unset :: .unset :: .unset :: .unset :: .unset :: .val (.int v10) :: .unset :: .unset :: .val (.ref 0) :: .unset :: .unset :: .val (.long v16) :: .second :: .unset :: .unset :: .val (.long v20) :: .second :: .val (.long v22) :: .second :: .val (.long v24) :: .second :: .unset :: .unset :: .unset :: .unset :: .unset :: .unset :: .unset :: .unset :: .unset :: .unset :: .val (.long v36) :: .second :: .val (.long v38) :: .second :: []) [.long c15] (Hb 0 s0)
                refine WP.lload at_498 rfl ?_
                refine WP.lcmp at_500 ?_
                rcases ite_e h with ⟨hc16, h⟩ | ⟨hc16, h⟩
                ·
                  refine WP.ifY (pc' := 506) at_501 (XT.ll_eq_t hc16) (by decide) rfl ?_
                  refine WP.aload at_506 rfl ?_
                  refine WP.iconst (3 : Int32) at_508 rfl ?_
                  refine WP.iconst (0 : Int32) at_509 rfl ?_
                  obtain ⟨c17, hc17, h⟩ := Option.bind_eq_some_iff.mp h
                  refine WP.callV (i := 0) (y := y20) (as := [.int (3 : Int32), .int (0 : Int32)]) (S := []) at_510 (hw _ m_163) (hw _ m_164) (hw _ m_166) (hw _ m_165) (hw _ m_167) (hw _ m_5) hy20 rfl (ok20 l Z a0 hw (3 : Int32) (0 : Int32) s0 _ hc17) rfl (lenOf pd20 rfl) (leb rfl) (leb rfl) (leb rfl) (leb rfl) ?_
                  rintro _ _ ⟨rfl, rfl⟩
                  show WLAW l Z n0 (PLAW r) 25 828 513 (.unset :: .unset :: .unset :: .unset :: .unset :: .unset :: .unset :: .unset :: .unset :: .unset :: .val (.int v10) :: .unset :: .unset :: .val (.ref 0) :: .unset :: .unset :: .val (.long v16) :: .second :: .unset :: .unset :: .val (.long v20) :: .second :: .val (.long v22) :: .second :: .val (.long v24) :: .second :: .unset :: .unset :: .unset :: .unset :: .unset :: .unset :: .unset :: .unset :: .unset :: .unset :: .val (.long v36) :: .second :: .val (.long v38) :: .second :: []) [.long c17] (Hb 0 s0)
                  refine WP.lload at_513 rfl ?_
                  refine WP.lcmp at_515 ?_
                  rcases ite_e h with ⟨hc18, h⟩ | ⟨hc18, h⟩
                  ·
                    refine WP.ifN at_516 (XT.ll_ne_f hc18) ?_
                    refine WP.aload at_519 rfl ?_
                    refine WP.iconst (3 : Int32) at_521 rfl ?_
                    refine WP.iconst (1 : Int32) at_522 rfl ?_
                    obtain ⟨c19, hc19, h⟩ := Option.bind_eq_some_iff.mp h
                    refine WP.callV (i := 0) (y := y20) (as := [.int (3 : Int32), .int (1 : Int32)]) (S := []) at_523 (hw _ m_163) (hw _ m_164) (hw _ m_166) (hw _ m_165) (hw _ m_167) (hw _ m_5) hy20 rfl (ok20 l Z a0 hw (3 : Int32) (1 : Int32) s0 _ hc19) rfl (lenOf pd20 rfl) (leb rfl) (leb rfl) (leb rfl) (leb rfl) ?_
                    rintro _ _ ⟨rfl, rfl⟩
                    show WLAW l Z n0 (PLAW r) 25 828 526 (.unset :: .unset :: .unset :: .unset :: .unset :: .unset :: .unset :: .unset :: .unset :: .unset :: .val (.int v10) :: .unset :: .unset :: .val (.ref 0) :: .unset :: .unset :: .val (.long v16) :: .second :: .unset :: .unset :: .val (.long v20) :: .second :: .val (.long v22) :: .second :: .val (.long v24) :: .second :: .unset :: .unset :: .unset :: .unset :: .unset :: .unset :: .unset :: .unset :: .unset :: .unset :: .val (.long v36) :: .second :: .val (.long v38) :: .second :: []) [.long c19] (Hb 0 s0)
                    refine WP.lload at_526 rfl ?_
                    refine WP.lcmp at_528 ?_
                    rcases ite_e h with ⟨hc20, h⟩ | ⟨hc20, h⟩
                    ·
                      refine WP.ifY (pc' := 534) at_529 (XT.ll_eq_t hc20) (by decide) rfl ?_
                      refine WP.aload at_534 rfl ?_
                      refine WP.iconst (0 : Int32) at_536 rfl ?_
                      refine WP.iload at_537 rfl ?_
                      obtain ⟨c21, hc21, h⟩ := Option.bind_eq_some_iff.mp h
                      refine WP.callV (i := 0) (y := y21) (as := [.int (0 : Int32), .int v10]) (S := []) at_539 (hw _ m_168) (hw _ m_169) (hw _ m_171) (hw _ m_170) (hw _ m_172) (hw _ m_5) hy21 rfl (ok21 l Z a0 hw n (0 : Int32) v10 s0 _ hc21) rfl (lenOf pd21 rfl) (leb rfl) (leb rfl) (leb rfl) (leb rfl) ?_
                      rintro _ _ ⟨rfl, rfl⟩
                      show WLAW l Z n0 (PLAW r) 25 828 542 (.unset :: .unset :: .unset :: .unset :: .unset :: .unset :: .unset :: .unset :: .unset :: .unset :: .val (.int v10) :: .unset :: .unset :: .val (.ref 0) :: .unset :: .unset :: .val (.long v16) :: .second :: .unset :: .unset :: .val (.long v20) :: .second :: .val (.long v22) :: .second :: .val (.long v24) :: .second :: .unset :: .unset :: .unset :: .unset :: .unset :: .unset :: .unset :: .unset :: .unset :: .unset :: .val (.long v36) :: .second :: .val (.long v38) :: .second :: []) [.long c21] (Hb 0 s0)
                      refine WP.lload at_542 rfl ?_
                      refine WP.lcmp at_544 ?_
                      rcases ite_e h with ⟨hc22, h⟩ | ⟨hc22, h⟩
                      ·
                        refine WP.ifY (pc' := 550) at_545 (XT.ll_eq_t hc22) (by decide) rfl ?_
                        refine WP.aload at_550 rfl ?_
                        refine WP.iconst (3 : Int32) at_552 rfl ?_
                        refine WP.iconst (2 : Int32) at_553 rfl ?_
                        obtain ⟨c23, hc23, h⟩ := Option.bind_eq_some_iff.mp h
                        refine WP.callV (i := 0) (y := y22) (as := [.int (3 : Int32), .int (2 : Int32)]) (S := []) at_554 (hw _ m_173) (hw _ m_174) (hw _ m_176) (hw _ m_175) (hw _ m_177) (hw _ m_5) hy22 rfl (ok22 l Z a0 hw (3 : Int32) (2 : Int32) s0 _ hc23) rfl (lenOf pd22 rfl) (leb rfl) (leb rfl) (leb rfl) (leb rfl) ?_
                        rintro _ _ ⟨rfl, rfl⟩
                        show WLAW l Z n0 (PLAW r) 25 828 557 (.unset :: .unset :: .unset :: .unset :: .unset :: .unset :: .unset :: .unset :: .unset :: .unset :: .val (.int v10) :: .unset :: .unset :: .val (.ref 0) :: .unset :: .unset :: .val (.long v16) :: .second :: .unset :: .unset :: .val (.long v20) :: .second :: .val (.long v22) :: .second :: .val (.long v24) :: .second :: .unset :: .unset :: .unset :: .unset :: .unset :: .unset :: .unset :: .unset :: .unset :: .unset :: .val (.long v36) :: .second :: .val (.long v38) :: .second :: []) [.long c23] (Hb 0 s0)
                        refine WP.lconst (1 : Int64) at_557 rfl ?_
                        refine WP.lcmp at_558 ?_
                        rcases ite_e h with ⟨hc24, h⟩ | ⟨hc24, h⟩
                        ·
                          refine WP.ifY (pc' := 564) at_559 (XT.ll_eq_t hc24) (by decide) rfl ?_
                          refine WP.aload at_564 rfl ?_
                          refine WP.iconst (3 : Int32) at_566 rfl ?_
                          refine WP.iconst (0 : Int32) at_567 rfl ?_
                          refine WP.iconst (3 : Int32) at_568 rfl ?_
                          obtain ⟨c25, hc25, h⟩ := Option.bind_eq_some_iff.mp h
                          refine WP.callV (i := 0) (y := y23) (as := [.int (3 : Int32), .int (0 : Int32), .int (3 : Int32)]) (S := []) at_569 (hw _ m_178) (hw _ m_179) (hw _ m_181) (hw _ m_180) (hw _ m_182) (hw _ m_5) hy23 rfl (ok23 l Z a0 hw (3 : Int32) (0 : Int32) (3 : Int32) s0 _ hc25) rfl (lenOf pd23 rfl) (leb rfl) (leb rfl) (leb rfl) (leb rfl) ?_
                          rintro _ _ ⟨rfl, rfl⟩
                          show WLAW l Z n0 (PLAW r) 25 828 572 (.unset :: .unset :: .unset :: .unset :: .unset :: .unset :: .unset :: .unset :: .unset :: .unset :: .val (.int v10) :: .unset :: .unset :: .val (.ref 0) :: .unset :: .unset :: .val (.long v16) :: .second :: .unset :: .unset :: .val (.long v20) :: .second :: .val (.long v22) :: .second :: .val (.long v24) :: .second :: .unset :: .unset :: .unset :: .unset :: .unset :: .unset :: .unset :: .unset :: .unset :: .unset :: .val (.long v36) :: .second :: .val (.long v38) :: .second :: []) [.long c25] (Hb 0 s0)
                          refine WP.lconst (0 : Int64) at_572 rfl ?_
                          refine WP.lcmp at_573 ?_
                          rcases ite_e h with ⟨hc26, h⟩ | ⟨hc26, h⟩
                          ·
                            refine WP.ifY (pc' := 579) at_574 (XT.ll_eq_t hc26) (by decide) rfl ?_
                            refine WP.aload at_579 rfl ?_
                            obtain ⟨c27, hc27, h⟩ := Option.bind_eq_some_iff.mp h
                            refine WP.callV (i := 0) (y := y24) (as := []) (S := []) at_581 (hw _ m_183) (hw _ m_184) (hw _ m_186) (hw _ m_185) (hw _ m_187) (hw _ m_5) hy24 rfl (ok24 l Z a0 hw s0 _ hc27) rfl (lenOf pd24 rfl) (leb rfl) (leb rfl) (leb rfl) (leb rfl) ?_
                            rintro _ _ ⟨rfl, rfl⟩
                            show WLAW l Z n0 (PLAW r) 25 828 584 (.unset :: .unset :: .unset :: .unset :: .unset :: .unset :: .unset :: .unset :: .unset :: .unset :: .val (.int v10) :: .unset :: .unset :: .val (.ref 0) :: .unset :: .unset :: .val (.long v16) :: .second :: .unset :: .unset :: .val (.long v20) :: .second :: .val (.long v22) :: .second :: .val (.long v24) :: .second :: .unset :: .unset :: .unset :: .unset :: .unset :: .unset :: .unset :: .unset :: .unset :: .unset :: .val (.long v36) :: .second :: .val (.long v38) :: .second :: []) [.int c27] (Hb 0 s0)
                            rcases ite_e h with ⟨hc28, h⟩ | ⟨hc28, h⟩
                            ·
                              refine WP.ifN at_584 (XT.i0_ne_f hc28) ?_
                              refine WP.iconst (1 : Int32) at_587 rfl ?_
                              refine WP.goto (pc' := 592) at_588 (by decide) rfl ?_
                              exact WP.weak (L' := (.unset :: .unset :: .unset :: .unset :: .unset :: .unset :: .unset :: .unset :: .unset :: .unset :: .unset :: .unset :: .unset :: .unset :: .unset :: .unset :: .unset :: .unset :: .unset :: .unset :: .unset :: .unset :: .unset :: .unset :: .unset :: .unset :: .unset :: .unset :: .unset :: .unset :: .unset :: .unset :: .unset :: .unset :: .unset :: .unset :: .unset :: .unset :: .unset :: .unset :: [])) trivial (okLAW_592 l Z a0 hw n0 n (1 : Int32) s0 _ h)
                            ·
                              refine WP.ifY (pc' := 591) at_584 (XT.i0_ne_t hc28) (by decide) rfl ?_
                              refine WP.iconst (0 : Int32) at_591 rfl ?_
                              exact WP.weak (L' := (.unset :: .unset :: .unset :: .unset :: .unset :: .unset :: .unset :: .unset :: .unset :: .unset :: .unset :: .unset :: .unset :: .unset :: .unset :: .unset :: .unset :: .unset :: .unset :: .unset :: .unset :: .unset :: .unset :: .unset :: .unset :: .unset :: .unset :: .unset :: .unset :: .unset :: .unset :: .unset :: .unset :: .unset :: .unset :: .unset :: .unset :: .unset :: .unset :: .unset :: [])) trivial (okLAW_592 l Z a0 hw n0 n (0 : Int32) s0 _ h)
                          ·
                            refine WP.ifN at_574 (XT.ll_eq_f hc26) ?_
                            refine WP.iconst (0 : Int32) at_577 rfl ?_
                            cases h
                            exact WP.zreturn at_578 rfl (leb rfl) (leb rfl) rfl
                        ·
                          refine WP.ifN at_559 (XT.ll_eq_f hc24) ?_
                          refine WP.iconst (0 : Int32) at_562 rfl ?_
                          cases h
                          exact WP.zreturn at_563 rfl (leb rfl) (leb rfl) rfl
                      ·
                        refine WP.ifN at_545 (XT.ll_eq_f hc22) ?_
                        refine WP.iconst (0 : Int32) at_548 rfl ?_
                        cases h
                        exact WP.zreturn at_549 rfl (leb rfl) (leb rfl) rfl
                    ·
                      refine WP.ifN at_529 (XT.ll_eq_f hc20) ?_
                      exact WP.weak (L' := (.unset :: .unset :: .unset :: .unset :: .unset :: .unset :: .unset :: .unset :: .unset :: .unset :: .unset :: .unset :: .unset :: .unset :: .unset :: .unset :: .unset :: .unset :: .unset :: .unset :: .unset :: .unset :: .unset :: .unset :: .unset :: .unset :: .unset :: .unset :: .unset :: .unset :: .unset :: .unset :: .unset :: .unset :: .unset :: .unset :: .unset :: .unset :: .unset :: .unset :: [])) trivial (okLAW_532 l Z a0 hw n0 n s0 _ h)
                  ·
                    refine WP.ifY (pc' := 532) at_516 (XT.ll_ne_t hc18) (by decide) rfl ?_
                    exact WP.weak (L' := (.unset :: .unset :: .unset :: .unset :: .unset :: .unset :: .unset :: .unset :: .unset :: .unset :: .unset :: .unset :: .unset :: .unset :: .unset :: .unset :: .unset :: .unset :: .unset :: .unset :: .unset :: .unset :: .unset :: .unset :: .unset :: .unset :: .unset :: .unset :: .unset :: .unset :: .unset :: .unset :: .unset :: .unset :: .unset :: .unset :: .unset :: .unset :: .unset :: .unset :: [])) trivial (okLAW_532 l Z a0 hw n0 n s0 _ h)
                ·
                  refine WP.ifN at_501 (XT.ll_eq_f hc16) ?_
                  exact WP.weak (L' := (.unset :: .unset :: .unset :: .unset :: .unset :: .unset :: .unset :: .unset :: .unset :: .unset :: .unset :: .unset :: .unset :: .unset :: .unset :: .unset :: .unset :: .unset :: .unset :: .unset :: .unset :: .unset :: .unset :: .unset :: .unset :: .unset :: .unset :: .unset :: .unset :: .unset :: .unset :: .unset :: .unset :: .unset :: .unset :: .unset :: .unset :: .unset :: .unset :: .unset :: [])) trivial (okLAW_504 l Z a0 hw n0 n s0 _ h)
              ·
                refine WP.ifY (pc' := 504) at_488 (XT.ll_ne_t hc14) (by decide) rfl ?_
                exact WP.weak (L' := (.unset :: .unset :: .unset :: .unset :: .unset :: .unset :: .unset :: .unset :: .unset :: .unset :: .unset :: .unset :: .unset :: .unset :: .unset :: .unset :: .unset :: .unset :: .unset :: .unset :: .unset :: .unset :: .unset :: .unset :: .unset :: .unset :: .unset :: .unset :: .unset :: .unset :: .unset :: .unset :: .unset :: .unset :: .unset :: .unset :: .unset :: .unset :: .unset :: .unset :: [])) trivial (okLAW_504 l Z a0 hw n0 n s0 _ h)
            ·
              refine WP.ifN at_473 (XT.ll_eq_f hc12) ?_
              refine WP.iconst (0 : Int32) at_476 rfl ?_
              cases h
              exact WP.zreturn at_477 rfl (leb rfl) (leb rfl) rfl
          ·
            refine WP.ifN at_459 (XT.ll_eq_f hc10) ?_
            refine WP.iconst (0 : Int32) at_462 rfl ?_
            cases h
            exact WP.zreturn at_463 rfl (leb rfl) (leb rfl) rfl
        ·
          refine WP.ifN at_441 (XT.ll_eq_f hc8) ?_
          refine WP.iconst (0 : Int32) at_444 rfl ?_
          cases h
          exact WP.zreturn at_445 rfl (leb rfl) (leb rfl) rfl
      ·
        refine WP.ifN at_427 (XT.ll_eq_f hc6) ?_
        refine WP.iconst (0 : Int32) at_430 rfl ?_
        cases h
        exact WP.zreturn at_431 rfl (leb rfl) (leb rfl) rfl
    ·
      refine WP.ifN at_412 (XT.ll_eq_f hc4) ?_
      refine WP.iconst (0 : Int32) at_415 rfl ?_
      cases h
      exact WP.zreturn at_416 rfl (leb rfl) (leb rfl) rfl
  ·
    refine WP.ifN at_397 (XT.ll_eq_f hc2) ?_
    refine WP.iconst (0 : Int32) at_400 rfl ?_
    cases h
    exact WP.zreturn at_401 rfl (leb rfl) (leb rfl) rfl
def f_law_354 (n : Nat) (v10 : Int32) (v16 : Int64) (v20 : Int64) (v22 : Int64) (v24 : Int64) (v30 : Int64) (v32 : Int64) (v34 : Int64) (v36 : Int64) (v38 : Int64) (s0 : St) : Option (Int32) :=
  if v34 < (2 : Int64) then
    f_law_386 n v10 v16 v20 v22 v24 v36 v38 s0
  else
    if v30 < v32 then
      lt (v36 + (1 : Int64)) fun x3 =>
      f_law_386 n v10 v16 v20 v22 v24 x3 v38 s0
    else
      lt (v38 + (1 : Int64)) fun x4 =>
      f_law_386 n v10 v16 v20 v22 v24 v36 x4 s0
set_option maxRecDepth 65536 in
set_option maxHeartbeats 4000000 in
theorem okLAW_354 (l : Launch) (Z : State) (a0 : Array Value) (hw : HW a0 Z) (n0 : Nat) (n : Nat) (v10 : Int32) (v16 : Int64) (v20 : Int64) (v22 : Int64) (v24 : Int64) (v30 : Int64) (v32 : Int64) (v34 : Int64) (v36 : Int64) (v38 : Int64) (s0 : St) (r : Int32) (h : f_law_354 n v10 v16 v20 v22 v24 v30 v32 v34 v36 v38 s0 = some r) : WLAW l Z n0 (PLAW r) 25 828 354 (.unset :: .unset :: .unset :: .unset :: .unset :: .unset :: .unset :: .unset :: .unset :: .unset :: .val (.int v10) :: .unset :: .unset :: .val (.ref 0) :: .unset :: .unset :: .val (.long v16) :: .second :: .unset :: .unset :: .val (.long v20) :: .second :: .val (.long v22) :: .second :: .val (.long v24) :: .second :: .unset :: .unset :: .unset :: .unset :: .val (.long v30) :: .second :: .val (.long v32) :: .second :: .val (.long v34) :: .second :: .val (.long v36) :: .second :: .val (.long v38) :: .second :: []) [] (Hb 0 s0) := by
  unfold f_law_354 at h
  refine WP.lload at_354 rfl ?_
  refine WP.ldc2 at_356 (hw _ m_152) ?_
  refine WP.lcmp at_359 ?_
  rcases ite_e h with ⟨hc1, h⟩ | ⟨hc1, h⟩
  ·
    refine WP.ifY (pc' := 386) at_360 (XT.ll_lt_t hc1) (by decide) rfl ?_
    exact WP.weak (L' := (.unset :: .unset :: .unset :: .unset :: .unset :: .unset :: .unset :: .unset :: .unset :: .unset :: .val (.int v10) :: .unset :: .unset :: .val (.ref 0) :: .unset :: .unset :: .val (.long v16) :: .second :: .unset :: .unset :: .val (.long v20) :: .second :: .val (.long v22) :: .second :: .val (.long v24) :: .second :: .unset :: .unset :: .unset :: .unset :: .unset :: .unset :: .unset :: .unset :: .unset :: .unset :: .val (.long v36) :: .second :: .val (.long v38) :: .second :: [])) ⟨rfl, rfl, rfl, rfl, rfl, rfl, rfl, rfl, rfl, rfl, rfl, rfl, rfl, rfl, trivial⟩ (okLAW_386 l Z a0 hw n0 n v10 v16 v20 v22 v24 v36 v38 s0 _ h)
  ·
    refine WP.ifN at_360 (XT.ll_lt_f hc1) ?_
    refine WP.lload at_363 rfl ?_
    refine WP.lload at_365 rfl ?_
    refine WP.lcmp at_367 ?_
    rcases ite_e h with ⟨hc2, h⟩ | ⟨hc2, h⟩
    ·
      refine WP.ifY (pc' := 380) at_368 (XT.ll_lt_t hc2) (by decide) rfl ?_
      refine WP.lload at_380 rfl ?_
      refine WP.lconst (1 : Int64) at_382 rfl ?_
      refine WP.ladd at_383 ?_
      obtain ⟨x3, ex3, h⟩ := lt_e h
      refine WP.lstore (L' := (.unset :: .unset :: .unset :: .unset :: .unset :: .unset :: .unset :: .unset :: .unset :: .unset :: .val (.int v10) :: .unset :: .unset :: .val (.ref 0) :: .unset :: .unset :: .val (.long v16) :: .second :: .unset :: .unset :: .val (.long v20) :: .second :: .val (.long v22) :: .second :: .val (.long v24) :: .second :: .unset :: .unset :: .unset :: .unset :: .val (.long v30) :: .second :: .val (.long v32) :: .second :: .val (.long v34) :: .second :: .val (.long x3) :: .second :: .val (.long v38) :: .second :: [])) at_384 (leb rfl) (by subst ex3; rfl) ?_
      exact WP.weak (L' := (.unset :: .unset :: .unset :: .unset :: .unset :: .unset :: .unset :: .unset :: .unset :: .unset :: .val (.int v10) :: .unset :: .unset :: .val (.ref 0) :: .unset :: .unset :: .val (.long v16) :: .second :: .unset :: .unset :: .val (.long v20) :: .second :: .val (.long v22) :: .second :: .val (.long v24) :: .second :: .unset :: .unset :: .unset :: .unset :: .unset :: .unset :: .unset :: .unset :: .unset :: .unset :: .val (.long x3) :: .second :: .val (.long v38) :: .second :: [])) ⟨rfl, rfl, rfl, rfl, rfl, rfl, rfl, rfl, rfl, rfl, rfl, rfl, rfl, rfl, trivial⟩ (okLAW_386 l Z a0 hw n0 n v10 v16 v20 v22 v24 x3 v38 s0 _ h)
    ·
      refine WP.ifN at_368 (XT.ll_lt_f hc2) ?_
      refine WP.lload at_371 rfl ?_
      refine WP.lconst (1 : Int64) at_373 rfl ?_
      refine WP.ladd at_374 ?_
      obtain ⟨x4, ex4, h⟩ := lt_e h
      refine WP.lstore (L' := (.unset :: .unset :: .unset :: .unset :: .unset :: .unset :: .unset :: .unset :: .unset :: .unset :: .val (.int v10) :: .unset :: .unset :: .val (.ref 0) :: .unset :: .unset :: .val (.long v16) :: .second :: .unset :: .unset :: .val (.long v20) :: .second :: .val (.long v22) :: .second :: .val (.long v24) :: .second :: .unset :: .unset :: .unset :: .unset :: .val (.long v30) :: .second :: .val (.long v32) :: .second :: .val (.long v34) :: .second :: .val (.long v36) :: .second :: .val (.long x4) :: .second :: [])) at_375 (leb rfl) (by subst ex4; rfl) ?_
      refine WP.goto (pc' := 386) at_377 (by decide) rfl ?_
      exact WP.weak (L' := (.unset :: .unset :: .unset :: .unset :: .unset :: .unset :: .unset :: .unset :: .unset :: .unset :: .val (.int v10) :: .unset :: .unset :: .val (.ref 0) :: .unset :: .unset :: .val (.long v16) :: .second :: .unset :: .unset :: .val (.long v20) :: .second :: .val (.long v22) :: .second :: .val (.long v24) :: .second :: .unset :: .unset :: .unset :: .unset :: .unset :: .unset :: .unset :: .unset :: .unset :: .unset :: .val (.long v36) :: .second :: .val (.long x4) :: .second :: [])) ⟨rfl, rfl, rfl, rfl, rfl, rfl, rfl, rfl, rfl, rfl, rfl, rfl, rfl, rfl, trivial⟩ (okLAW_386 l Z a0 hw n0 n v10 v16 v20 v22 v24 v36 x4 s0 _ h)
def f_law_217 (n : Nat) (v9 : Int32) (v10 : Int32) (v11 : Int64) (v16 : Int64) (t0 : Int64) (s0 : St) : Option (Int32) :=
  lt ((t0 * v9.toInt64) + ((v10.toInt64 - t0) * (7000 : Int64))) fun x1 =>
  lt (v16 + x1) fun x2 =>
  lt ((x2 * v11) / (10000 : Int64)) fun x3 =>
  lt ((v16 * v11) / (10000 : Int64)) fun x4 =>
  lt ((x1 * v11) / (10000 : Int64)) fun x5 =>
  lt ((v16 * v11) - (x4 * (10000 : Int64))) fun x6 =>
  lt ((x1 * v11) - (x5 * (10000 : Int64))) fun x7 =>
  lt ((x3 - x4) - x5) fun x8 =>
  if x8 < (1 : Int64) then
    f_law_354 n v10 v16 x1 x2 x3 x6 x7 x8 x4 x5 s0
  else
    if x6 < x7 then
      lt (x5 + (1 : Int64)) fun x11 =>
      f_law_354 n v10 v16 x1 x2 x3 x6 x7 x8 x4 x11 s0
    else
      lt (x4 + (1 : Int64)) fun x12 =>
      f_law_354 n v10 v16 x1 x2 x3 x6 x7 x8 x12 x5 s0
set_option maxRecDepth 65536 in
set_option maxHeartbeats 4000000 in
theorem okLAW_217 (l : Launch) (Z : State) (a0 : Array Value) (hw : HW a0 Z) (n0 : Nat) (n : Nat) (v9 : Int32) (v10 : Int32) (v11 : Int64) (v16 : Int64) (t0 : Int64) (s0 : St) (r : Int32) (h : f_law_217 n v9 v10 v11 v16 t0 s0 = some r) : WLAW l Z n0 (PLAW r) 25 828 217 (.unset :: .unset :: .unset :: .unset :: .unset :: .unset :: .unset :: .unset :: .unset :: .val (.int v9) :: .val (.int v10) :: .val (.long v11) :: .second :: .val (.ref 0) :: .unset :: .unset :: .val (.long v16) :: .second :: .unset :: .unset :: .unset :: .unset :: .unset :: .unset :: .unset :: .unset :: .unset :: .unset :: .unset :: .unset :: .unset :: .unset :: .unset :: .unset :: .unset :: .unset :: .unset :: .unset :: .unset :: .unset :: []) [.long t0] (Hb 0 s0) := by
  unfold f_law_217 at h
  refine WP.lstore (L' := (.unset :: .unset :: .unset :: .unset :: .unset :: .unset :: .unset :: .unset :: .unset :: .val (.int v9) :: .val (.int v10) :: .val (.long v11) :: .second :: .val (.ref 0) :: .unset :: .unset :: .val (.long v16) :: .second :: .val (.long t0) :: .second :: .unset :: .unset :: .unset :: .unset :: .unset :: .unset :: .unset :: .unset :: .unset :: .unset :: .unset :: .unset :: .unset :: .unset :: .unset :: .unset :: .unset :: .unset :: .unset :: .unset :: [])) at_217 (leb rfl) rfl ?_
  refine WP.lload at_219 rfl ?_
  refine WP.iload at_221 rfl ?_
  refine WP.i2l at_223 ?_
  refine WP.lmul at_224 ?_
  refine WP.iload at_225 rfl ?_
  refine WP.i2l at_227 ?_
  refine WP.lload at_228 rfl ?_
  refine WP.lsub at_230 ?_
  refine WP.ldc2 at_231 (hw _ m_150) ?_
  refine WP.lmul at_234 ?_
  refine WP.ladd at_235 ?_
  obtain ⟨x1, ex1, h⟩ := lt_e h
  refine WP.lstore (L' := (.unset :: .unset :: .unset :: .unset :: .unset :: .unset :: .unset :: .unset :: .unset :: .val (.int v9) :: .val (.int v10) :: .val (.long v11) :: .second :: .val (.ref 0) :: .unset :: .unset :: .val (.long v16) :: .second :: .val (.long t0) :: .second :: .val (.long x1) :: .second :: .unset :: .unset :: .unset :: .unset :: .unset :: .unset :: .unset :: .unset :: .unset :: .unset :: .unset :: .unset :: .unset :: .unset :: .unset :: .unset :: .unset :: .unset :: [])) at_236 (leb rfl) (by subst ex1; rfl) ?_
  refine WP.lload at_238 rfl ?_
  refine WP.lload at_240 rfl ?_
  refine WP.ladd at_242 ?_
  obtain ⟨x2, ex2, h⟩ := lt_e h
  refine WP.lstore (L' := (.unset :: .unset :: .unset :: .unset :: .unset :: .unset :: .unset :: .unset :: .unset :: .val (.int v9) :: .val (.int v10) :: .val (.long v11) :: .second :: .val (.ref 0) :: .unset :: .unset :: .val (.long v16) :: .second :: .val (.long t0) :: .second :: .val (.long x1) :: .second :: .val (.long x2) :: .second :: .unset :: .unset :: .unset :: .unset :: .unset :: .unset :: .unset :: .unset :: .unset :: .unset :: .unset :: .unset :: .unset :: .unset :: .unset :: .unset :: [])) at_243 (leb rfl) (by subst ex2; rfl) ?_
  refine WP.lload at_245 rfl ?_
  refine WP.lload at_247 rfl ?_
  refine WP.lmul at_249 ?_
  refine WP.ldc2 at_250 (hw _ m_151) ?_
  refine WP.ldiv at_253 (by decide) ?_
  obtain ⟨x3, ex3, h⟩ := lt_e h
  refine WP.lstore (L' := (.unset :: .unset :: .unset :: .unset :: .unset :: .unset :: .unset :: .unset :: .unset :: .val (.int v9) :: .val (.int v10) :: .val (.long v11) :: .second :: .val (.ref 0) :: .unset :: .unset :: .val (.long v16) :: .second :: .val (.long t0) :: .second :: .val (.long x1) :: .second :: .val (.long x2) :: .second :: .val (.long x3) :: .second :: .unset :: .unset :: .unset :: .unset :: .unset :: .unset :: .unset :: .unset :: .unset :: .unset :: .unset :: .unset :: .unset :: .unset :: [])) at_254 (leb rfl) (by subst ex3; rfl) ?_
  refine WP.lload at_256 rfl ?_
  refine WP.lload at_258 rfl ?_
  refine WP.lmul at_260 ?_
  refine WP.ldc2 at_261 (hw _ m_151) ?_
  refine WP.ldiv at_264 (by decide) ?_
  obtain ⟨x4, ex4, h⟩ := lt_e h
  refine WP.lstore (L' := (.unset :: .unset :: .unset :: .unset :: .unset :: .unset :: .unset :: .unset :: .unset :: .val (.int v9) :: .val (.int v10) :: .val (.long v11) :: .second :: .val (.ref 0) :: .unset :: .unset :: .val (.long v16) :: .second :: .val (.long t0) :: .second :: .val (.long x1) :: .second :: .val (.long x2) :: .second :: .val (.long x3) :: .second :: .val (.long x4) :: .second :: .unset :: .unset :: .unset :: .unset :: .unset :: .unset :: .unset :: .unset :: .unset :: .unset :: .unset :: .unset :: [])) at_265 (leb rfl) (by subst ex4; rfl) ?_
  refine WP.lload at_267 rfl ?_
  refine WP.lload at_269 rfl ?_
  refine WP.lmul at_271 ?_
  refine WP.ldc2 at_272 (hw _ m_151) ?_
  refine WP.ldiv at_275 (by decide) ?_
  obtain ⟨x5, ex5, h⟩ := lt_e h
  refine WP.lstore (L' := (.unset :: .unset :: .unset :: .unset :: .unset :: .unset :: .unset :: .unset :: .unset :: .val (.int v9) :: .val (.int v10) :: .val (.long v11) :: .second :: .val (.ref 0) :: .unset :: .unset :: .val (.long v16) :: .second :: .val (.long t0) :: .second :: .val (.long x1) :: .second :: .val (.long x2) :: .second :: .val (.long x3) :: .second :: .val (.long x4) :: .second :: .val (.long x5) :: .second :: .unset :: .unset :: .unset :: .unset :: .unset :: .unset :: .unset :: .unset :: .unset :: .unset :: [])) at_276 (leb rfl) (by subst ex5; rfl) ?_
  refine WP.lload at_278 rfl ?_
  refine WP.lload at_280 rfl ?_
  refine WP.lmul at_282 ?_
  refine WP.lload at_283 rfl ?_
  refine WP.ldc2 at_285 (hw _ m_151) ?_
  refine WP.lmul at_288 ?_
  refine WP.lsub at_289 ?_
  obtain ⟨x6, ex6, h⟩ := lt_e h
  refine WP.lstore (L' := (.unset :: .unset :: .unset :: .unset :: .unset :: .unset :: .unset :: .unset :: .unset :: .val (.int v9) :: .val (.int v10) :: .val (.long v11) :: .second :: .val (.ref 0) :: .unset :: .unset :: .val (.long v16) :: .second :: .val (.long t0) :: .second :: .val (.long x1) :: .second :: .val (.long x2) :: .second :: .val (.long x3) :: .second :: .val (.long x4) :: .second :: .val (.long x5) :: .second :: .val (.long x6) :: .second :: .unset :: .unset :: .unset :: .unset :: .unset :: .unset :: .unset :: .unset :: [])) at_290 (leb rfl) (by subst ex6; rfl) ?_
  refine WP.lload at_292 rfl ?_
  refine WP.lload at_294 rfl ?_
  refine WP.lmul at_296 ?_
  refine WP.lload at_297 rfl ?_
  refine WP.ldc2 at_299 (hw _ m_151) ?_
  refine WP.lmul at_302 ?_
  refine WP.lsub at_303 ?_
  obtain ⟨x7, ex7, h⟩ := lt_e h
  refine WP.lstore (L' := (.unset :: .unset :: .unset :: .unset :: .unset :: .unset :: .unset :: .unset :: .unset :: .val (.int v9) :: .val (.int v10) :: .val (.long v11) :: .second :: .val (.ref 0) :: .unset :: .unset :: .val (.long v16) :: .second :: .val (.long t0) :: .second :: .val (.long x1) :: .second :: .val (.long x2) :: .second :: .val (.long x3) :: .second :: .val (.long x4) :: .second :: .val (.long x5) :: .second :: .val (.long x6) :: .second :: .val (.long x7) :: .second :: .unset :: .unset :: .unset :: .unset :: .unset :: .unset :: [])) at_304 (leb rfl) (by subst ex7; rfl) ?_
  refine WP.lload at_306 rfl ?_
  refine WP.lload at_308 rfl ?_
  refine WP.lsub at_310 ?_
  refine WP.lload at_311 rfl ?_
  refine WP.lsub at_313 ?_
  obtain ⟨x8, ex8, h⟩ := lt_e h
  refine WP.lstore (L' := (.unset :: .unset :: .unset :: .unset :: .unset :: .unset :: .unset :: .unset :: .unset :: .val (.int v9) :: .val (.int v10) :: .val (.long v11) :: .second :: .val (.ref 0) :: .unset :: .unset :: .val (.long v16) :: .second :: .val (.long t0) :: .second :: .val (.long x1) :: .second :: .val (.long x2) :: .second :: .val (.long x3) :: .second :: .val (.long x4) :: .second :: .val (.long x5) :: .second :: .val (.long x6) :: .second :: .val (.long x7) :: .second :: .val (.long x8) :: .second :: .unset :: .unset :: .unset :: .unset :: [])) at_314 (leb rfl) (by subst ex8; rfl) ?_
  refine WP.lload at_316 rfl ?_
  refine WP.lstore (L' := (.unset :: .unset :: .unset :: .unset :: .unset :: .unset :: .unset :: .unset :: .unset :: .val (.int v9) :: .val (.int v10) :: .val (.long v11) :: .second :: .val (.ref 0) :: .unset :: .unset :: .val (.long v16) :: .second :: .val (.long t0) :: .second :: .val (.long x1) :: .second :: .val (.long x2) :: .second :: .val (.long x3) :: .second :: .val (.long x4) :: .second :: .val (.long x5) :: .second :: .val (.long x6) :: .second :: .val (.long x7) :: .second :: .val (.long x8) :: .second :: .val (.long x4) :: .second :: .unset :: .unset :: [])) at_318 (leb rfl) rfl ?_
  refine WP.lload at_320 rfl ?_
  refine WP.lstore (L' := (.unset :: .unset :: .unset :: .unset :: .unset :: .unset :: .unset :: .unset :: .unset :: .val (.int v9) :: .val (.int v10) :: .val (.long v11) :: .second :: .val (.ref 0) :: .unset :: .unset :: .val (.long v16) :: .second :: .val (.long t0) :: .second :: .val (.long x1) :: .second :: .val (.long x2) :: .second :: .val (.long x3) :: .second :: .val (.long x4) :: .second :: .val (.long x5) :: .second :: .val (.long x6) :: .second :: .val (.long x7) :: .second :: .val (.long x8) :: .second :: .val (.long x4) :: .second :: .val (.long x5) :: .second :: [])) at_322 (leb rfl) rfl ?_
  refine WP.lload at_324 rfl ?_
  refine WP.lconst (1 : Int64) at_326 rfl ?_
  refine WP.lcmp at_327 ?_
  rcases ite_e h with ⟨hc9, h⟩ | ⟨hc9, h⟩
  ·
    refine WP.ifY (pc' := 354) at_328 (XT.ll_lt_t hc9) (by decide) rfl ?_
    exact WP.weak (L' := (.unset :: .unset :: .unset :: .unset :: .unset :: .unset :: .unset :: .unset :: .unset :: .unset :: .val (.int v10) :: .unset :: .unset :: .val (.ref 0) :: .unset :: .unset :: .val (.long v16) :: .second :: .unset :: .unset :: .val (.long x1) :: .second :: .val (.long x2) :: .second :: .val (.long x3) :: .second :: .unset :: .unset :: .unset :: .unset :: .val (.long x6) :: .second :: .val (.long x7) :: .second :: .val (.long x8) :: .second :: .val (.long x4) :: .second :: .val (.long x5) :: .second :: [])) ⟨rfl, rfl, rfl, rfl, rfl, rfl, rfl, rfl, rfl, rfl, rfl, rfl, rfl, rfl, rfl, rfl, rfl, rfl, rfl, rfl, trivial⟩ (okLAW_354 l Z a0 hw n0 n v10 v16 x1 x2 x3 x6 x7 x8 x4 x5 s0 _ h)
  ·
    refine WP.ifN at_328 (XT.ll_lt_f hc9) ?_
    refine WP.lload at_331 rfl ?_
    refine WP.lload at_333 rfl ?_
    refine WP.lcmp at_335 ?_
    rcases ite_e h with ⟨hc10, h⟩ | ⟨hc10, h⟩
    ·
      refine WP.ifY (pc' := 348) at_336 (XT.ll_lt_t hc10) (by decide) rfl ?_
      refine WP.lload at_348 rfl ?_
      refine WP.lconst (1 : Int64) at_350 rfl ?_
      refine WP.ladd at_351 ?_
      obtain ⟨x11, ex11, h⟩ := lt_e h
      refine WP.lstore (L' := (.unset :: .unset :: .unset :: .unset :: .unset :: .unset :: .unset :: .unset :: .unset :: .val (.int v9) :: .val (.int v10) :: .val (.long v11) :: .second :: .val (.ref 0) :: .unset :: .unset :: .val (.long v16) :: .second :: .val (.long t0) :: .second :: .val (.long x1) :: .second :: .val (.long x2) :: .second :: .val (.long x3) :: .second :: .val (.long x4) :: .second :: .val (.long x5) :: .second :: .val (.long x6) :: .second :: .val (.long x7) :: .second :: .val (.long x8) :: .second :: .val (.long x4) :: .second :: .val (.long x11) :: .second :: [])) at_352 (leb rfl) (by subst ex11; rfl) ?_
      exact WP.weak (L' := (.unset :: .unset :: .unset :: .unset :: .unset :: .unset :: .unset :: .unset :: .unset :: .unset :: .val (.int v10) :: .unset :: .unset :: .val (.ref 0) :: .unset :: .unset :: .val (.long v16) :: .second :: .unset :: .unset :: .val (.long x1) :: .second :: .val (.long x2) :: .second :: .val (.long x3) :: .second :: .unset :: .unset :: .unset :: .unset :: .val (.long x6) :: .second :: .val (.long x7) :: .second :: .val (.long x8) :: .second :: .val (.long x4) :: .second :: .val (.long x11) :: .second :: [])) ⟨rfl, rfl, rfl, rfl, rfl, rfl, rfl, rfl, rfl, rfl, rfl, rfl, rfl, rfl, rfl, rfl, rfl, rfl, rfl, rfl, trivial⟩ (okLAW_354 l Z a0 hw n0 n v10 v16 x1 x2 x3 x6 x7 x8 x4 x11 s0 _ h)
    ·
      refine WP.ifN at_336 (XT.ll_lt_f hc10) ?_
      refine WP.lload at_339 rfl ?_
      refine WP.lconst (1 : Int64) at_341 rfl ?_
      refine WP.ladd at_342 ?_
      obtain ⟨x12, ex12, h⟩ := lt_e h
      refine WP.lstore (L' := (.unset :: .unset :: .unset :: .unset :: .unset :: .unset :: .unset :: .unset :: .unset :: .val (.int v9) :: .val (.int v10) :: .val (.long v11) :: .second :: .val (.ref 0) :: .unset :: .unset :: .val (.long v16) :: .second :: .val (.long t0) :: .second :: .val (.long x1) :: .second :: .val (.long x2) :: .second :: .val (.long x3) :: .second :: .val (.long x4) :: .second :: .val (.long x5) :: .second :: .val (.long x6) :: .second :: .val (.long x7) :: .second :: .val (.long x8) :: .second :: .val (.long x12) :: .second :: .val (.long x5) :: .second :: [])) at_343 (leb rfl) (by subst ex12; rfl) ?_
      refine WP.goto (pc' := 354) at_345 (by decide) rfl ?_
      exact WP.weak (L' := (.unset :: .unset :: .unset :: .unset :: .unset :: .unset :: .unset :: .unset :: .unset :: .unset :: .val (.int v10) :: .unset :: .unset :: .val (.ref 0) :: .unset :: .unset :: .val (.long v16) :: .second :: .unset :: .unset :: .val (.long x1) :: .second :: .val (.long x2) :: .second :: .val (.long x3) :: .second :: .unset :: .unset :: .unset :: .unset :: .val (.long x6) :: .second :: .val (.long x7) :: .second :: .val (.long x8) :: .second :: .val (.long x12) :: .second :: .val (.long x5) :: .second :: [])) ⟨rfl, rfl, rfl, rfl, rfl, rfl, rfl, rfl, rfl, rfl, rfl, rfl, rfl, rfl, rfl, rfl, rfl, rfl, rfl, rfl, trivial⟩ (okLAW_354 l Z a0 hw n0 n v10 v16 x1 x2 x3 x6 x7 x8 x12 x5 s0 _ h)
def f_law_75 (n : Nat) (v5 : Int32) (v6 : Int32) (v7 : Int32) (v8 : Int32) (v9 : Int32) (v10 : Int32) (t0 : Int64) : Option (Int32) :=
  (f_init n (30 : Int32) v5).bind fun c1 =>
  (f_setPlan (0 : Int32) v6 (0 : Int32) c1).bind fun c2 =>
  if c2.1 = 0 then
    some (0 : Int32)
  else
    (f_setTier (0 : Int32) (0 : Int32) v8 v9 c2.2).bind fun c4 =>
    if c4.1 = 0 then
      some (0 : Int32)
    else
      (f_setTier (0 : Int32) (1 : Int32) (1000000 : Int32) (7000 : Int32) c4.2).bind fun c6 =>
      if c6.1 = 0 then
        some (0 : Int32)
      else
        (f_subscribe (3 : Int32) (0 : Int32) v7 c6.2).bind fun c8 =>
        if c8.1 = 0 then
          some (0 : Int32)
        else
          (f_recordUsage (3 : Int32) v7 v10 c8.2).bind fun c10 =>
          if c10.1 = 0 then
            some (0 : Int32)
          else
            (f_closeCycle n c10.2).bind fun c12 =>
            if c12.1 = (1 : Int32) then
              lt (v6.toInt64 * (1000000 : Int64)) fun x14 =>
              lt (x14 - ((x14 * v7.toInt64) / (30 : Int64))) fun x15 =>
              if v10 < v8 then
                f_law_217 n v9 v10 t0 x15 v10.toInt64 c12.2
              else
                f_law_217 n v9 v10 t0 x15 v8.toInt64 c12.2
            else
              some (0 : Int32)
set_option maxRecDepth 65536 in
set_option maxHeartbeats 4000000 in
theorem okLAW_75 (l : Launch) (Z : State) (a0 : Array Value) (hw : HW a0 Z) (n0 : Nat) (n : Nat) (v5 : Int32) (v6 : Int32) (v7 : Int32) (v8 : Int32) (v9 : Int32) (v10 : Int32) (t0 : Int64) (r : Int32) (h : f_law_75 n v5 v6 v7 v8 v9 v10 t0 = some r) : WLAW l Z n0 (PLAW r) 0 0 75 (.unset :: .unset :: .unset :: .unset :: .unset :: .val (.int v5) :: .val (.int v6) :: .val (.int v7) :: .val (.int v8) :: .val (.int v9) :: .val (.int v10) :: .unset :: .unset :: .unset :: .unset :: .unset :: .unset :: .unset :: .unset :: .unset :: .unset :: .unset :: .unset :: .unset :: .unset :: .unset :: .unset :: .unset :: .unset :: .unset :: .unset :: .unset :: .unset :: .unset :: .unset :: .unset :: .unset :: .unset :: .unset :: .unset :: []) [.long t0] ([] : List OwnC) := by
  unfold f_law_75 at h
  refine WP.lstore (L' := (.unset :: .unset :: .unset :: .unset :: .unset :: .val (.int v5) :: .val (.int v6) :: .val (.int v7) :: .val (.int v8) :: .val (.int v9) :: .val (.int v10) :: .val (.long t0) :: .second :: .unset :: .unset :: .unset :: .unset :: .unset :: .unset :: .unset :: .unset :: .unset :: .unset :: .unset :: .unset :: .unset :: .unset :: .unset :: .unset :: .unset :: .unset :: .unset :: .unset :: .unset :: .unset :: .unset :: .unset :: .unset :: .unset :: .unset :: [])) at_75 (leb rfl) rfl ?_
  refine WP.new (vs := vs0) at_77 (hw _ m_3) (hw _ m_4) (hw _ m_5) (leb rfl) (leb rfl) (vs0_ok hw) ?_
  show WLAW l Z n0 (PLAW r) 1 28 80 (.unset :: .unset :: .unset :: .unset :: .unset :: .val (.int v5) :: .val (.int v6) :: .val (.int v7) :: .val (.int v8) :: .val (.int v9) :: .val (.int v10) :: .val (.long t0) :: .second :: .unset :: .unset :: .unset :: .unset :: .unset :: .unset :: .unset :: .unset :: .unset :: .unset :: .unset :: .unset :: .unset :: .unset :: .unset :: .unset :: .unset :: .unset :: .unset :: .unset :: .unset :: .unset :: .unset :: .unset :: .unset :: .unset :: .unset :: []) [.ref 0] ([cO vs0])
  refine WP.dup at_80 rfl ?_
  refine WP.bipush (30 : Int32) at_81 rfl ?_
  refine WP.iload at_83 rfl ?_
  obtain ⟨c1, hc1, h⟩ := Option.bind_eq_some_iff.mp h
  refine WP.callI (i := 0) (y := y0) (as := [.int (30 : Int32), .int v5]) (S := [.ref 0]) at_85 rfl (hw _ m_6) (hw _ m_7) (hw _ m_8) (hw _ m_5) hy0 (ok0 l Z a0 hw n (30 : Int32) v5 _ hc1) rfl (lenOf pd0 rfl) (leb rfl) (leb rfl) (leb rfl) (leb rfl) ?_
  rintro _ _ ⟨rfl, rfl⟩
  show WLAW l Z n0 (PLAW r) 25 828 88 (.unset :: .unset :: .unset :: .unset :: .unset :: .val (.int v5) :: .val (.int v6) :: .val (.int v7) :: .val (.int v8) :: .val (.int v9) :: .val (.int v10) :: .val (.long t0) :: .second :: .unset :: .unset :: .unset :: .unset :: .unset :: .unset :: .unset :: .unset :: .unset :: .unset :: .unset :: .unset :: .unset :: .unset :: .unset :: .unset :: .unset :: .unset :: .unset :: .unset :: .unset :: .unset :: .unset :: .unset :: .unset :: .unset :: .unset :: []) [.ref 0] (Hb 0 c1)
  refine WP.astore (L' := (.unset :: .unset :: .unset :: .unset :: .unset :: .val (.int v5) :: .val (.int v6) :: .val (.int v7) :: .val (.int v8) :: .val (.int v9) :: .val (.int v10) :: .val (.long t0) :: .second :: .val (.ref 0) :: .unset :: .unset :: .unset :: .unset :: .unset :: .unset :: .unset :: .unset :: .unset :: .unset :: .unset :: .unset :: .unset :: .unset :: .unset :: .unset :: .unset :: .unset :: .unset :: .unset :: .unset :: .unset :: .unset :: .unset :: .unset :: .unset :: [])) at_88 (leb rfl) rfl ?_
  refine WP.aload at_90 rfl ?_
  refine WP.iconst (0 : Int32) at_92 rfl ?_
  refine WP.iload at_93 rfl ?_
  refine WP.iconst (0 : Int32) at_95 rfl ?_
  obtain ⟨c2, hc2, h⟩ := Option.bind_eq_some_iff.mp h
  refine WP.callV (i := 0) (y := y2) (as := [.int (0 : Int32), .int v6, .int (0 : Int32)]) (S := []) at_96 (hw _ m_71) (hw _ m_72) (hw _ m_74) (hw _ m_73) (hw _ m_75) (hw _ m_5) hy2 rfl (ok2 l Z a0 hw (0 : Int32) v6 (0 : Int32) c1 _ hc2) rfl (lenOf pd2 rfl) (leb rfl) (leb rfl) (leb rfl) (leb rfl) ?_
  rintro _ _ ⟨rfl, rfl⟩
  show WLAW l Z n0 (PLAW r) 25 828 99 (.unset :: .unset :: .unset :: .unset :: .unset :: .val (.int v5) :: .val (.int v6) :: .val (.int v7) :: .val (.int v8) :: .val (.int v9) :: .val (.int v10) :: .val (.long t0) :: .second :: .val (.ref 0) :: .unset :: .unset :: .unset :: .unset :: .unset :: .unset :: .unset :: .unset :: .unset :: .unset :: .unset :: .unset :: .unset :: .unset :: .unset :: .unset :: .unset :: .unset :: .unset :: .unset :: .unset :: .unset :: .unset :: .unset :: .unset :: .unset :: []) [.int c2.1] (Hb 0 c2.2)
  rcases ite_e h with ⟨hc3, h⟩ | ⟨hc3, h⟩
  ·
    refine WP.ifN at_99 (XT.i0_ne_f hc3) ?_
    refine WP.iconst (0 : Int32) at_102 rfl ?_
    cases h
    exact WP.zreturn at_103 rfl (leb rfl) (leb rfl) rfl
  ·
    refine WP.ifY (pc' := 104) at_99 (XT.i0_ne_t hc3) (by decide) rfl ?_
    refine WP.aload at_104 rfl ?_
    refine WP.iconst (0 : Int32) at_106 rfl ?_
    refine WP.iconst (0 : Int32) at_107 rfl ?_
    refine WP.iload at_108 rfl ?_
    refine WP.iload at_110 rfl ?_
    obtain ⟨c4, hc4, h⟩ := Option.bind_eq_some_iff.mp h
    refine WP.callV (i := 0) (y := y4) (as := [.int (0 : Int32), .int (0 : Int32), .int v8, .int v9]) (S := []) at_112 (hw _ m_80) (hw _ m_81) (hw _ m_83) (hw _ m_82) (hw _ m_84) (hw _ m_5) hy4 rfl (ok4 l Z a0 hw (0 : Int32) (0 : Int32) v8 v9 c2.2 _ hc4) rfl (lenOf pd4 rfl) (leb rfl) (leb rfl) (leb rfl) (leb rfl) ?_
    rintro _ _ ⟨rfl, rfl⟩
    show WLAW l Z n0 (PLAW r) 25 828 115 (.unset :: .unset :: .unset :: .unset :: .unset :: .val (.int v5) :: .val (.int v6) :: .val (.int v7) :: .val (.int v8) :: .val (.int v9) :: .val (.int v10) :: .val (.long t0) :: .second :: .val (.ref 0) :: .unset :: .unset :: .unset :: .unset :: .unset :: .unset :: .unset :: .unset :: .unset :: .unset :: .unset :: .unset :: .unset :: .unset :: .unset :: .unset :: .unset :: .unset :: .unset :: .unset :: .unset :: .unset :: .unset :: .unset :: .unset :: .unset :: []) [.int c4.1] (Hb 0 c4.2)
    rcases ite_e h with ⟨hc5, h⟩ | ⟨hc5, h⟩
    ·
      refine WP.ifN at_115 (XT.i0_ne_f hc5) ?_
      refine WP.iconst (0 : Int32) at_118 rfl ?_
      cases h
      exact WP.zreturn at_119 rfl (leb rfl) (leb rfl) rfl
    ·
      refine WP.ifY (pc' := 120) at_115 (XT.i0_ne_t hc5) (by decide) rfl ?_
      refine WP.aload at_120 rfl ?_
      refine WP.iconst (0 : Int32) at_122 rfl ?_
      refine WP.iconst (1 : Int32) at_123 rfl ?_
      refine WP.ldc at_124 (hw _ m_86) ?_
      refine WP.sipush (7000 : Int32) at_126 rfl ?_
      obtain ⟨c6, hc6, h⟩ := Option.bind_eq_some_iff.mp h
      refine WP.callV (i := 0) (y := y4) (as := [.int (0 : Int32), .int (1 : Int32), .int (1000000 : Int32), .int (7000 : Int32)]) (S := []) at_129 (hw _ m_80) (hw _ m_81) (hw _ m_83) (hw _ m_82) (hw _ m_84) (hw _ m_5) hy4 rfl (ok4 l Z a0 hw (0 : Int32) (1 : Int32) (1000000 : Int32) (7000 : Int32) c4.2 _ hc6) rfl (lenOf pd4 rfl) (leb rfl) (leb rfl) (leb rfl) (leb rfl) ?_
      rintro _ _ ⟨rfl, rfl⟩
      show WLAW l Z n0 (PLAW r) 25 828 132 (.unset :: .unset :: .unset :: .unset :: .unset :: .val (.int v5) :: .val (.int v6) :: .val (.int v7) :: .val (.int v8) :: .val (.int v9) :: .val (.int v10) :: .val (.long t0) :: .second :: .val (.ref 0) :: .unset :: .unset :: .unset :: .unset :: .unset :: .unset :: .unset :: .unset :: .unset :: .unset :: .unset :: .unset :: .unset :: .unset :: .unset :: .unset :: .unset :: .unset :: .unset :: .unset :: .unset :: .unset :: .unset :: .unset :: .unset :: .unset :: []) [.int c6.1] (Hb 0 c6.2)
      rcases ite_e h with ⟨hc7, h⟩ | ⟨hc7, h⟩
      ·
        refine WP.ifN at_132 (XT.i0_ne_f hc7) ?_
        refine WP.iconst (0 : Int32) at_135 rfl ?_
        cases h
        exact WP.zreturn at_136 rfl (leb rfl) (leb rfl) rfl
      ·
        refine WP.ifY (pc' := 137) at_132 (XT.i0_ne_t hc7) (by decide) rfl ?_
        refine WP.aload at_137 rfl ?_
        refine WP.iconst (3 : Int32) at_139 rfl ?_
        refine WP.iconst (0 : Int32) at_140 rfl ?_
        refine WP.iload at_141 rfl ?_
        obtain ⟨c8, hc8, h⟩ := Option.bind_eq_some_iff.mp h
        refine WP.callV (i := 0) (y := y5) (as := [.int (3 : Int32), .int (0 : Int32), .int v7]) (S := []) at_143 (hw _ m_87) (hw _ m_88) (hw _ m_90) (hw _ m_89) (hw _ m_91) (hw _ m_5) hy5 rfl (ok5 l Z a0 hw (3 : Int32) (0 : Int32) v7 c6.2 _ hc8) rfl (lenOf pd5 rfl) (leb rfl) (leb rfl) (leb rfl) (leb rfl) ?_
        rintro _ _ ⟨rfl, rfl⟩
        show WLAW l Z n0 (PLAW r) 25 828 146 (.unset :: .unset :: .unset :: .unset :: .unset :: .val (.int v5) :: .val (.int v6) :: .val (.int v7) :: .val (.int v8) :: .val (.int v9) :: .val (.int v10) :: .val (.long t0) :: .second :: .val (.ref 0) :: .unset :: .unset :: .unset :: .unset :: .unset :: .unset :: .unset :: .unset :: .unset :: .unset :: .unset :: .unset :: .unset :: .unset :: .unset :: .unset :: .unset :: .unset :: .unset :: .unset :: .unset :: .unset :: .unset :: .unset :: .unset :: .unset :: []) [.int c8.1] (Hb 0 c8.2)
        rcases ite_e h with ⟨hc9, h⟩ | ⟨hc9, h⟩
        ·
          refine WP.ifN at_146 (XT.i0_ne_f hc9) ?_
          refine WP.iconst (0 : Int32) at_149 rfl ?_
          cases h
          exact WP.zreturn at_150 rfl (leb rfl) (leb rfl) rfl
        ·
          refine WP.ifY (pc' := 151) at_146 (XT.i0_ne_t hc9) (by decide) rfl ?_
          refine WP.aload at_151 rfl ?_
          refine WP.iconst (3 : Int32) at_153 rfl ?_
          refine WP.iload at_154 rfl ?_
          refine WP.iload at_156 rfl ?_
          obtain ⟨c10, hc10, h⟩ := Option.bind_eq_some_iff.mp h
          refine WP.callV (i := 0) (y := y9) (as := [.int (3 : Int32), .int v7, .int v10]) (S := []) at_158 (hw _ m_106) (hw _ m_107) (hw _ m_109) (hw _ m_108) (hw _ m_110) (hw _ m_5) hy9 rfl (ok9 l Z a0 hw (3 : Int32) v7 v10 c8.2 _ hc10) rfl (lenOf pd9 rfl) (leb rfl) (leb rfl) (leb rfl) (leb rfl) ?_
          rintro _ _ ⟨rfl, rfl⟩
          show WLAW l Z n0 (PLAW r) 25 828 161 (.unset :: .unset :: .unset :: .unset :: .unset :: .val (.int v5) :: .val (.int v6) :: .val (.int v7) :: .val (.int v8) :: .val (.int v9) :: .val (.int v10) :: .val (.long t0) :: .second :: .val (.ref 0) :: .unset :: .unset :: .unset :: .unset :: .unset :: .unset :: .unset :: .unset :: .unset :: .unset :: .unset :: .unset :: .unset :: .unset :: .unset :: .unset :: .unset :: .unset :: .unset :: .unset :: .unset :: .unset :: .unset :: .unset :: .unset :: .unset :: []) [.int c10.1] (Hb 0 c10.2)
          rcases ite_e h with ⟨hc11, h⟩ | ⟨hc11, h⟩
          ·
            refine WP.ifN at_161 (XT.i0_ne_f hc11) ?_
            refine WP.iconst (0 : Int32) at_164 rfl ?_
            cases h
            exact WP.zreturn at_165 rfl (leb rfl) (leb rfl) rfl
          ·
            refine WP.ifY (pc' := 166) at_161 (XT.i0_ne_t hc11) (by decide) rfl ?_
            refine WP.aload at_166 rfl ?_
            obtain ⟨c12, hc12, h⟩ := Option.bind_eq_some_iff.mp h
            refine WP.callV (i := 0) (y := y11) (as := []) (S := []) at_168 (hw _ m_115) (hw _ m_116) (hw _ m_118) (hw _ m_117) (hw _ m_119) (hw _ m_5) hy11 rfl (ok11 l Z a0 hw n c10.2 _ hc12) rfl (lenOf pd11 rfl) (leb rfl) (leb rfl) (leb rfl) (leb rfl) ?_
            rintro _ _ ⟨rfl, rfl⟩
            show WLAW l Z n0 (PLAW r) 25 828 171 (.unset :: .unset :: .unset :: .unset :: .unset :: .val (.int v5) :: .val (.int v6) :: .val (.int v7) :: .val (.int v8) :: .val (.int v9) :: .val (.int v10) :: .val (.long t0) :: .second :: .val (.ref 0) :: .unset :: .unset :: .unset :: .unset :: .unset :: .unset :: .unset :: .unset :: .unset :: .unset :: .unset :: .unset :: .unset :: .unset :: .unset :: .unset :: .unset :: .unset :: .unset :: .unset :: .unset :: .unset :: .unset :: .unset :: .unset :: .unset :: []) [.int c12.1] (Hb 0 c12.2)
            refine WP.iconst (1 : Int32) at_171 rfl ?_
            rcases ite_e h with ⟨hc13, h⟩ | ⟨hc13, h⟩
            ·
              refine WP.icmpY (pc' := 177) at_172 (XT.ii_eq_t hc13) (by decide) rfl ?_
              refine WP.iload at_177 rfl ?_
              refine WP.i2l at_179 ?_
              refine WP.ldc2 at_180 (hw _ m_148) ?_
              refine WP.lmul at_183 ?_
              obtain ⟨x14, ex14, h⟩ := lt_e h
              refine WP.lstore (L' := (.unset :: .unset :: .unset :: .unset :: .unset :: .val (.int v5) :: .val (.int v6) :: .val (.int v7) :: .val (.int v8) :: .val (.int v9) :: .val (.int v10) :: .val (.long t0) :: .second :: .val (.ref 0) :: .val (.long x14) :: .second :: .unset :: .unset :: .unset :: .unset :: .unset :: .unset :: .unset :: .unset :: .unset :: .unset :: .unset :: .unset :: .unset :: .unset :: .unset :: .unset :: .unset :: .unset :: .unset :: .unset :: .unset :: .unset :: .unset :: .unset :: [])) at_184 (leb rfl) (by subst ex14; rfl) ?_
              refine WP.lload at_186 rfl ?_
              refine WP.lload at_188 rfl ?_
              refine WP.iload at_190 rfl ?_
              refine WP.i2l at_192 ?_
              refine WP.lmul at_193 ?_
              refine WP.ldc2 at_194 (hw _ m_149) ?_
              refine WP.ldiv at_197 (by decide) ?_
              refine WP.lsub at_198 ?_
              obtain ⟨x15, ex15, h⟩ := lt_e h
              refine WP.lstore (L' := (.unset :: .unset :: .unset :: .unset :: .unset :: .val (.int v5) :: .val (.int v6) :: .val (.int v7) :: .val (.int v8) :: .val (.int v9) :: .val (.int v10) :: .val (.long t0) :: .second :: .val (.ref 0) :: .val (.long x14) :: .second :: .val (.long x15) :: .second :: .unset :: .unset :: .unset :: .unset :: .unset :: .unset :: .unset :: .unset :: .unset :: .unset :: .unset :: .unset :: .unset :: .unset :: .unset :: .unset :: .unset :: .unset :: .unset :: .unset :: .unset :: .unset :: [])) at_199 (leb rfl) (by subst ex15; rfl) ?_
              refine WP.iload at_201 rfl ?_
              refine WP.iload at_203 rfl ?_
              rcases ite_e h with ⟨hc16, h⟩ | ⟨hc16, h⟩
              ·
                refine WP.icmpN at_205 (XT.ii_ge_f hc16) ?_
                refine WP.iload at_208 rfl ?_
                refine WP.i2l at_210 ?_
                refine WP.goto (pc' := 217) at_211 (by decide) rfl ?_
                exact WP.weak (L' := (.unset :: .unset :: .unset :: .unset :: .unset :: .unset :: .unset :: .unset :: .unset :: .val (.int v9) :: .val (.int v10) :: .val (.long t0) :: .second :: .val (.ref 0) :: .unset :: .unset :: .val (.long x15) :: .second :: .unset :: .unset :: .unset :: .unset :: .unset :: .unset :: .unset :: .unset :: .unset :: .unset :: .unset :: .unset :: .unset :: .unset :: .unset :: .unset :: .unset :: .unset :: .unset :: .unset :: .unset :: .unset :: [])) ⟨rfl, rfl, rfl, rfl, rfl, rfl, rfl, trivial⟩ (okLAW_217 l Z a0 hw n0 n v9 v10 t0 x15 v10.toInt64 c12.2 _ h)
              ·
                refine WP.icmpY (pc' := 214) at_205 (XT.ii_ge_t hc16) (by decide) rfl ?_
                refine WP.iload at_214 rfl ?_
                refine WP.i2l at_216 ?_
                exact WP.weak (L' := (.unset :: .unset :: .unset :: .unset :: .unset :: .unset :: .unset :: .unset :: .unset :: .val (.int v9) :: .val (.int v10) :: .val (.long t0) :: .second :: .val (.ref 0) :: .unset :: .unset :: .val (.long x15) :: .second :: .unset :: .unset :: .unset :: .unset :: .unset :: .unset :: .unset :: .unset :: .unset :: .unset :: .unset :: .unset :: .unset :: .unset :: .unset :: .unset :: .unset :: .unset :: .unset :: .unset :: .unset :: .unset :: [])) ⟨rfl, rfl, rfl, rfl, rfl, rfl, rfl, trivial⟩ (okLAW_217 l Z a0 hw n0 n v9 v10 t0 x15 v8.toInt64 c12.2 _ h)
            ·
              refine WP.icmpN at_172 (XT.ii_eq_f hc13) ?_
              refine WP.iconst (0 : Int32) at_175 rfl ?_
              cases h
              exact WP.zreturn at_176 rfl (leb rfl) (leb rfl) rfl
def f_law_74 (n : Nat) (v5 : Int32) (v6 : Int32) (v7 : Int32) (v8 : Int32) (v9 : Int32) (v10 : Int32) (t0 : Int32) : Option (Int32) :=
  f_law_75 n v5 v6 v7 v8 v9 v10 t0.toInt64
set_option maxRecDepth 65536 in
set_option maxHeartbeats 4000000 in
theorem okLAW_74 (l : Launch) (Z : State) (a0 : Array Value) (hw : HW a0 Z) (n0 : Nat) (n : Nat) (v5 : Int32) (v6 : Int32) (v7 : Int32) (v8 : Int32) (v9 : Int32) (v10 : Int32) (t0 : Int32) (r : Int32) (h : f_law_74 n v5 v6 v7 v8 v9 v10 t0 = some r) : WLAW l Z n0 (PLAW r) 0 0 74 (.unset :: .unset :: .unset :: .unset :: .unset :: .val (.int v5) :: .val (.int v6) :: .val (.int v7) :: .val (.int v8) :: .val (.int v9) :: .val (.int v10) :: .unset :: .unset :: .unset :: .unset :: .unset :: .unset :: .unset :: .unset :: .unset :: .unset :: .unset :: .unset :: .unset :: .unset :: .unset :: .unset :: .unset :: .unset :: .unset :: .unset :: .unset :: .unset :: .unset :: .unset :: .unset :: .unset :: .unset :: .unset :: .unset :: []) [.int t0] ([] : List OwnC) := by
  unfold f_law_74 at h
  refine WP.i2l at_74 ?_
  exact WP.weak (L' := (.unset :: .unset :: .unset :: .unset :: .unset :: .val (.int v5) :: .val (.int v6) :: .val (.int v7) :: .val (.int v8) :: .val (.int v9) :: .val (.int v10) :: .unset :: .unset :: .unset :: .unset :: .unset :: .unset :: .unset :: .unset :: .unset :: .unset :: .unset :: .unset :: .unset :: .unset :: .unset :: .unset :: .unset :: .unset :: .unset :: .unset :: .unset :: .unset :: .unset :: .unset :: .unset :: .unset :: .unset :: .unset :: .unset :: [])) ⟨rfl, rfl, rfl, rfl, rfl, rfl, trivial⟩ (okLAW_75 l Z a0 hw n0 n v5 v6 v7 v8 v9 v10 t0.toInt64 _ h)
def f_law (n : Nat) (p0 : Int32) (p1 : Int32) (p2 : Int32) (p3 : Int32) (p4 : Int32) (p5 : Int32) : Option (Int32) :=
  lt ((p0 &&& (2147483647 : Int32)) % (1000001 : Int32)) fun x1 =>
  lt ((p1 &&& (2147483647 : Int32)) % (30 : Int32)) fun x2 =>
  lt ((p2 &&& (2147483647 : Int32)) % (1000001 : Int32)) fun x3 =>
  lt ((p3 &&& (2147483647 : Int32)) % (100000001 : Int32)) fun x4 =>
  lt ((1 : Int32) + ((p4 &&& (2147483647 : Int32)) % (10000 : Int32))) fun x5 =>
  if p5 < 0 then
    f_law_75 n p5 x1 x2 x3 x4 x5 (0 : Int64)
  else
    if (3000 : Int32) < p5 then
      f_law_74 n p5 x1 x2 x3 x4 x5 (3000 : Int32)
    else
      f_law_74 n p5 x1 x2 x3 x4 x5 p5
set_option maxRecDepth 65536 in
set_option maxHeartbeats 4000000 in
theorem okLAW (l : Launch) (Z : State) (a0 : Array Value) (hw : HW a0 Z) (n : Nat) (p0 : Int32) (p1 : Int32) (p2 : Int32) (p3 : Int32) (p4 : Int32) (p5 : Int32) (r : Int32) (h : f_law n p0 p1 p2 p3 p4 p5 = some r) : CS l Z CN lay x code maxLocals ret room_1 0 [.int p0, .int p1, .int p2, .int p3, .int p4, .int p5] ([] : List OwnC) (PLAW r) := by
  refine CS.of_wp pn_law (leb rfl) fun n0 => ?_
  show WLAW l Z n0 (PLAW r) 0 0 0 (.val (.int p0) :: .val (.int p1) :: .val (.int p2) :: .val (.int p3) :: .val (.int p4) :: .val (.int p5) :: .unset :: .unset :: .unset :: .unset :: .unset :: .unset :: .unset :: .unset :: .unset :: .unset :: .unset :: .unset :: .unset :: .unset :: .unset :: .unset :: .unset :: .unset :: .unset :: .unset :: .unset :: .unset :: .unset :: .unset :: .unset :: .unset :: .unset :: .unset :: .unset :: .unset :: .unset :: .unset :: .unset :: .unset :: []) [] ([] : List OwnC)
  unfold f_law at h
  refine WP.iloadN at_0 rfl ?_
  refine WP.ldc at_1 (hw _ m_0) ?_
  refine WP.iand at_3 ?_
  refine WP.ldc at_4 (hw _ m_1) ?_
  refine WP.irem at_6 (by decide) ?_
  obtain ⟨x1, ex1, h⟩ := lt_e h
  refine WP.istore (L' := (.val (.int p0) :: .val (.int p1) :: .val (.int p2) :: .val (.int p3) :: .val (.int p4) :: .val (.int p5) :: .val (.int x1) :: .unset :: .unset :: .unset :: .unset :: .unset :: .unset :: .unset :: .unset :: .unset :: .unset :: .unset :: .unset :: .unset :: .unset :: .unset :: .unset :: .unset :: .unset :: .unset :: .unset :: .unset :: .unset :: .unset :: .unset :: .unset :: .unset :: .unset :: .unset :: .unset :: .unset :: .unset :: .unset :: .unset :: [])) at_7 (leb rfl) (by subst ex1; rfl) ?_
  refine WP.iloadN at_9 rfl ?_
  refine WP.ldc at_10 (hw _ m_0) ?_
  refine WP.iand at_12 ?_
  refine WP.bipush (30 : Int32) at_13 rfl ?_
  refine WP.irem at_15 (by decide) ?_
  obtain ⟨x2, ex2, h⟩ := lt_e h
  refine WP.istore (L' := (.val (.int p0) :: .val (.int p1) :: .val (.int p2) :: .val (.int p3) :: .val (.int p4) :: .val (.int p5) :: .val (.int x1) :: .val (.int x2) :: .unset :: .unset :: .unset :: .unset :: .unset :: .unset :: .unset :: .unset :: .unset :: .unset :: .unset :: .unset :: .unset :: .unset :: .unset :: .unset :: .unset :: .unset :: .unset :: .unset :: .unset :: .unset :: .unset :: .unset :: .unset :: .unset :: .unset :: .unset :: .unset :: .unset :: .unset :: .unset :: [])) at_16 (leb rfl) (by subst ex2; rfl) ?_
  refine WP.iloadN at_18 rfl ?_
  refine WP.ldc at_19 (hw _ m_0) ?_
  refine WP.iand at_21 ?_
  refine WP.ldc at_22 (hw _ m_1) ?_
  refine WP.irem at_24 (by decide) ?_
  obtain ⟨x3, ex3, h⟩ := lt_e h
  refine WP.istore (L' := (.val (.int p0) :: .val (.int p1) :: .val (.int p2) :: .val (.int p3) :: .val (.int p4) :: .val (.int p5) :: .val (.int x1) :: .val (.int x2) :: .val (.int x3) :: .unset :: .unset :: .unset :: .unset :: .unset :: .unset :: .unset :: .unset :: .unset :: .unset :: .unset :: .unset :: .unset :: .unset :: .unset :: .unset :: .unset :: .unset :: .unset :: .unset :: .unset :: .unset :: .unset :: .unset :: .unset :: .unset :: .unset :: .unset :: .unset :: .unset :: .unset :: [])) at_25 (leb rfl) (by subst ex3; rfl) ?_
  refine WP.iloadN at_27 rfl ?_
  refine WP.ldc at_28 (hw _ m_0) ?_
  refine WP.iand at_30 ?_
  refine WP.ldc at_31 (hw _ m_2) ?_
  refine WP.irem at_33 (by decide) ?_
  obtain ⟨x4, ex4, h⟩ := lt_e h
  refine WP.istore (L' := (.val (.int p0) :: .val (.int p1) :: .val (.int p2) :: .val (.int p3) :: .val (.int p4) :: .val (.int p5) :: .val (.int x1) :: .val (.int x2) :: .val (.int x3) :: .val (.int x4) :: .unset :: .unset :: .unset :: .unset :: .unset :: .unset :: .unset :: .unset :: .unset :: .unset :: .unset :: .unset :: .unset :: .unset :: .unset :: .unset :: .unset :: .unset :: .unset :: .unset :: .unset :: .unset :: .unset :: .unset :: .unset :: .unset :: .unset :: .unset :: .unset :: .unset :: [])) at_34 (leb rfl) (by subst ex4; rfl) ?_
  refine WP.iconst (1 : Int32) at_36 rfl ?_
  refine WP.iload at_37 rfl ?_
  refine WP.ldc at_39 (hw _ m_0) ?_
  refine WP.iand at_41 ?_
  refine WP.sipush (10000 : Int32) at_42 rfl ?_
  refine WP.irem at_45 (by decide) ?_
  refine WP.iadd at_46 ?_
  obtain ⟨x5, ex5, h⟩ := lt_e h
  refine WP.istore (L' := (.val (.int p0) :: .val (.int p1) :: .val (.int p2) :: .val (.int p3) :: .val (.int p4) :: .val (.int p5) :: .val (.int x1) :: .val (.int x2) :: .val (.int x3) :: .val (.int x4) :: .val (.int x5) :: .unset :: .unset :: .unset :: .unset :: .unset :: .unset :: .unset :: .unset :: .unset :: .unset :: .unset :: .unset :: .unset :: .unset :: .unset :: .unset :: .unset :: .unset :: .unset :: .unset :: .unset :: .unset :: .unset :: .unset :: .unset :: .unset :: .unset :: .unset :: .unset :: [])) at_47 (leb rfl) (by subst ex5; rfl) ?_
  refine WP.iload at_49 rfl ?_
  rcases ite_e h with ⟨hc6, h⟩ | ⟨hc6, h⟩
  ·
    refine WP.ifN at_51 (XT.i0_ge_f hc6) ?_
    refine WP.lconst (0 : Int64) at_54 rfl ?_
    refine WP.goto (pc' := 75) at_55 (by decide) rfl ?_
    exact WP.weak (L' := (.unset :: .unset :: .unset :: .unset :: .unset :: .val (.int p5) :: .val (.int x1) :: .val (.int x2) :: .val (.int x3) :: .val (.int x4) :: .val (.int x5) :: .unset :: .unset :: .unset :: .unset :: .unset :: .unset :: .unset :: .unset :: .unset :: .unset :: .unset :: .unset :: .unset :: .unset :: .unset :: .unset :: .unset :: .unset :: .unset :: .unset :: .unset :: .unset :: .unset :: .unset :: .unset :: .unset :: .unset :: .unset :: .unset :: [])) ⟨rfl, rfl, rfl, rfl, rfl, rfl, trivial⟩ (okLAW_75 l Z a0 hw n0 n p5 x1 x2 x3 x4 x5 (0 : Int64) _ h)
  ·
    refine WP.ifY (pc' := 58) at_51 (XT.i0_ge_t hc6) (by decide) rfl ?_
    refine WP.iload at_58 rfl ?_
    refine WP.sipush (3000 : Int32) at_60 rfl ?_
    rcases ite_e h with ⟨hc7, h⟩ | ⟨hc7, h⟩
    ·
      refine WP.icmpN at_63 (XT.ii_le_f hc7) ?_
      refine WP.sipush (3000 : Int32) at_66 rfl ?_
      refine WP.goto (pc' := 74) at_69 (by decide) rfl ?_
      exact WP.weak (L' := (.unset :: .unset :: .unset :: .unset :: .unset :: .val (.int p5) :: .val (.int x1) :: .val (.int x2) :: .val (.int x3) :: .val (.int x4) :: .val (.int x5) :: .unset :: .unset :: .unset :: .unset :: .unset :: .unset :: .unset :: .unset :: .unset :: .unset :: .unset :: .unset :: .unset :: .unset :: .unset :: .unset :: .unset :: .unset :: .unset :: .unset :: .unset :: .unset :: .unset :: .unset :: .unset :: .unset :: .unset :: .unset :: .unset :: [])) ⟨rfl, rfl, rfl, rfl, rfl, rfl, trivial⟩ (okLAW_74 l Z a0 hw n0 n p5 x1 x2 x3 x4 x5 (3000 : Int32) _ h)
    ·
      refine WP.icmpY (pc' := 72) at_63 (XT.ii_le_t hc7) (by decide) rfl ?_
      refine WP.iload at_72 rfl ?_
      exact WP.weak (L' := (.unset :: .unset :: .unset :: .unset :: .unset :: .val (.int p5) :: .val (.int x1) :: .val (.int x2) :: .val (.int x3) :: .val (.int x4) :: .val (.int x5) :: .unset :: .unset :: .unset :: .unset :: .unset :: .unset :: .unset :: .unset :: .unset :: .unset :: .unset :: .unset :: .unset :: .unset :: .unset :: .unset :: .unset :: .unset :: .unset :: .unset :: .unset :: .unset :: .unset :: .unset :: .unset :: .unset :: .unset :: .unset :: .unset :: [])) ⟨rfl, rfl, rfl, rfl, rfl, rfl, trivial⟩ (okLAW_74 l Z a0 hw n0 n p5 x1 x2 x3 x4 x5 p5 _ h)
def own_cl (a b c : Int32) : Int32 := if a < b then b else if c < a then c else a
theorem own_clamp (a b c : Int32) : f_clamp a b c = some (own_cl a b c) := by
  unfold f_clamp own_cl; split; rfl; split <;> rfl
def own_s0 (p1 p2 : Int32) : St := sA (sI (sI st0 0 (own_cl p1 7 31)) 1 (own_cl p2 0 3000)) 2 (List.replicate 32 1000000)
theorem own_l253 (s : St) (h : gA s 5 = List.replicate 16 0) : Ev (fun n => f_init_253 n 0 s) s := by
  obtain ⟨s', rfl, h2⟩ := loop_up (F := f_init_253) (E := fun _ s => some s) (N := 16) (fun _ t => t = s) (fun i t hi e => by
    subst e
    refine ⟨t, rfl, fun n => ?_⟩
    show g_init_253 (f_init_253 n) n _ _ = _
    unfold g_init_253 lt
    rw [if_pos ((ofN_ltL (by omega) (by decide)).mpr hi), wrA_of (k := i) _ (ofN_int (by omega)) (by rw [h]; simpa using hi), Option.bind_some, ofN_succ, sA_self (by rw [h, List.set_replicate_self])]) (fun t e n => by
    show g_init_253 (f_init_253 n) n _ _ = _
    unfold g_init_253
    rw [if_neg (by decide)]) 16 0 s rfl rfl
  exact h2 _ (Ev.const rfl)
theorem own_l224 (s : St) (h2 : gA s 2 = List.replicate 32 0) (h3 : gA s 3 = List.replicate 32 0) (h5 : gA s 5 = List.replicate 16 0) : Ev (fun n => f_init_224 n 0 s) (sA s 2 (List.replicate 32 1000000)) := by
  obtain ⟨s', rfl, hh⟩ := loop_up (F := f_init_224) (E := fun n s => f_init_253 n 0 s) (N := 32) (fun i t => t = sA s 2 (List.replicate i 1000000 ++ List.replicate (32 - i) 0)) (fun i t hi e => by
    subst e
    refine ⟨_, rfl, fun n => ?_⟩
    show g_init_224 (f_init_224 n) n _ _ = _
    unfold g_init_224 lt
    rw [if_pos ((ofN_ltL (by omega) (by decide)).mpr hi), wrA_of (k := i) _ (ofN_int (by omega)) (by rw [gA_sA, if_pos rfl]; simp; omega), Option.bind_some, wrA_of (k := i) _ (ofN_int (by omega)) (by rw [gA_sA, if_neg (by decide), gA_sA, if_neg (by decide), h3]; simpa using hi), Option.bind_some, ofN_succ]
    rw [sA_sA, gA_sA, if_pos rfl, fill_set _ _ _ _ hi, sA_self (i := 3) (by rw [gA_sA, if_neg (by decide), h3, List.set_replicate_self])]) (fun t e n => by
    show g_init_224 (f_init_224 n) n _ _ = _
    unfold g_init_224
    rw [if_neg (by decide)]) 32 0 s rfl (by rw [← h2] ; exact (sA_self (by simp [h2])).symm)
  exact hh _ (own_l253 _ (by rw [gA_sA, if_neg (by decide)]; exact h5))
theorem own_init (p1 p2 : Int32) : Ev (fun n => f_init n p1 p2) (own_s0 p1 p2) := by
  unfold f_init
  simp only [lt, own_clamp, Option.bind_some]
  exact own_l224 _ rfl rfl rfl
theorem own_vc (c : Int32) (s : St) : f_validCustomer c s = some (if c < 0 then 0 else if c < 16 then 1 else 0) := by
  unfold f_validCustomer f_validCustomer_14 f_validCustomer_15
  split
  · rfl
  · split <;> rfl

set_option maxRecDepth 100000
set_option maxHeartbeats 1000000
theorem own_wA {s : St} {f k : Nat} {v : Int32} {i : Int32} (hi : i.toInt = k) (h : (gA s f)[k]? = some v) : wrA s f i v = some s := by
  have hk : k < (gA s f).length := (List.getElem?_eq_some_iff.mp h).1
  rw [wrA_of v hi hk, sA_self]
  apply List.ext_getElem?
  intro j
  by_cases e : k = j
  · subst e; rw [get_set_self v hk]; exact h
  · rw [get_set_ne v e]
theorem own_wB {s : St} {f k : Nat} {v : Int64} {i : Int32} (hi : i.toInt = k) (h : (gB s f)[k]? = some v) : wrB s f i v = some s := by
  have hk : k < (gB s f).length := (List.getElem?_eq_some_iff.mp h).1
  rw [wrB_of v hi hk, sB_self]
  apply List.ext_getElem?
  intro j
  by_cases e : k = j
  · subst e; rw [get_set_self v hk]; exact h
  · rw [get_set_ne v e]
theorem own_sa {β : Type} {t : St} {f : Nat} {i : Int32} {k : Nat} {x : Int32} {G : St → Option β} {r : Option β} (hi : i.toInt = k) (h : k < (gA t f).length) (e : G (sA t f ((gA t f).set k x)) = r) : (wrA t f i x).bind G = r := by
  rw [wrA_of x hi h]; exact e
theorem own_sb {β : Type} {t : St} {f : Nat} {i : Int32} {k : Nat} {x : Int64} {G : St → Option β} {r : Option β} (hi : i.toInt = k) (h : k < (gB t f).length) (e : G (sB t f ((gB t f).set k x)) = r) : (wrB t f i x).bind G = r := by
  rw [wrB_of x hi h]; exact e
theorem own_rr {α β : Type} {xs : List α} {i : Int32} {k : Nat} {x : α} {G : α → Option β} {r : Option β} (hi : i.toInt = k) (h : xs[k]? = some x) (e : G x = r) : (rd xs i).bind G = r := by
  rw [rd_of hi h]; exact e
theorem own_wBb {β : Type} {s : St} {f k : Nat} {v : Int64} {i : Int32} {G : St → Option β} {r : Option β} (hi : i.toInt = k) (h : (gB s f)[k]? = some v) (e : G s = r) : (wrB s f i v).bind G = r := by
  rw [own_wB hi h]; exact e
/-! setting up -/
theorem own_sp (f : Int32) (s : St) (h0 : ¬ f < 0) (h1 : ¬ 1000000 < f) (l0 : (gA s 0).length = 8) (l1 : (gA s 1).length = 8) : f_setPlan 0 f 0 s = some (1, sA (sA s 0 ((gA s 0).set 0 f)) 1 ((gA s 1).set 0 0)) := by
  unfold f_setPlan f_setPlan_31
  rw [show f_validPlan 0 s = some 1 from rfl, Option.bind_some, if_neg (by decide), if_neg h0, if_neg h1, if_pos rfl, wrA_of (s := s) (k := 0) f (by decide) (by omega), Option.bind_some]
  exact own_sa (k := 0) (by decide) (show 0 < (gA s 1).length by omega) rfl
theorem own_st (t : Int32) (k : Nat) (hk : k < 4) (e : t = Int32.ofNat k) (u p : Int32) (s : St) (h0 : ¬ u < 0) (h1 : ¬ 1000000 < u) (h2 : ¬ p < 0) (h3 : ¬ 100000000 < p) (l0 : (gA s 2).length = 32) (l1 : (gA s 3).length = 32) : f_setTier 0 t u p s = some (1, sA (sA s 2 ((gA s 2).set k u)) 3 ((gA s 3).set k p)) := by
  subst e
  unfold f_setTier
  have hi : ((0 : Int32) * 4 + Int32.ofNat k).toInt = k := by
    rw [show (0 : Int32) * 4 = 0 from by decide, Int32.zero_add]; exact ofN_int (by omega)
  rw [show f_validPlan 0 s = some 1 from rfl, Option.bind_some, if_neg (by decide), if_neg (ofN_nn (by omega)), if_pos ((ofN_ltL (by omega) (by decide)).mpr hk), if_neg h0, if_neg h1, if_neg h2, if_neg h3, wrA_of (s := s) (k := k) u hi (by omega), Option.bind_some]
  exact own_sa hi (show k < (gA s 3).length by omega) rfl
def own_app (s : St) (d p : Int32) : St := sA (sA (sA (sA (sA s 7 ((gA s 7).set 12 d)) 8 ((gA s 8).set 12 (-1))) 9 ((gA s 9).set 12 p)) 10 ((gA s 10).set 12 0)) 6 ((gA s 6).set 3 1)
theorem own_ap (s : St) (d p : Int32) (h6 : (gA s 6)[3]? = some 0) (l7 : (gA s 7).length = 64) (l8 : (gA s 8).length = 64) (l9 : (gA s 9).length = 64) (l10 : (gA s 10).length = 64) : f_appendSegment 3 d p s = some (own_app s d p) := by
  have hk : 3 < (gA s 6).length := (List.getElem?_eq_some_iff.mp h6).1
  unfold f_appendSegment lt
  dsimp only
  rw [rd_of (k := 3) (by decide) h6, Option.bind_some, if_neg (by decide), if_pos (by decide), wrA_of (s := s) (k := 12) d (by decide) (by omega), Option.bind_some]
  refine own_sa (k := 12) (by decide) (show 12 < (gA s 8).length by omega) ?_
  refine own_sa (k := 12) (by decide) (show 12 < (gA s 9).length by omega) ?_
  refine own_sa (k := 12) (by decide) (show 12 < (gA s 10).length by omega) ?_
  exact own_sa (k := 3) (by decide) (show 3 < (gA s 6).length by omega) rfl
theorem own_vd (d : Int32) (s : St) (h1 : ¬ d < gI s 2) (h2 : ¬ gI s 0 - 1 < d) : f_validDay d s = some 1 := by
  unfold f_validDay f_validDay_23
  rw [if_neg h1, if_neg h2]; rfl
theorem own_sub (d : Int32) (s : St) (h4 : (gA s 4)[3]? = some 0) (h6 : (gA s 6)[3]? = some 0) (h5 : (gA s 5).length = 16) (l7 : (gA s 7).length = 64) (l8 : (gA s 8).length = 64) (l9 : (gA s 9).length = 64) (l10 : (gA s 10).length = 64) (hd : f_validDay d s = some 1) : f_subscribe 3 0 d s = some (1, sI (sA (sA (own_app s d 0) 4 ((gA s 4).set 3 1)) 5 ((gA s 5).set 3 0)) 2 d) := by
  have hk : 3 < (gA s 4).length := (List.getElem?_eq_some_iff.mp h4).1
  unfold f_subscribe
  rw [show f_validCustomer 3 s = some 1 from rfl, Option.bind_some, if_neg (by decide), rd_of (k := 3) (by decide) h4, Option.bind_some, if_pos rfl, show f_validPlan 0 s = some 1 from rfl, Option.bind_some, if_neg (by decide), hd, Option.bind_some, if_neg (by decide), rd_of (k := 3) (by decide) h6, Option.bind_some, if_pos (by decide), own_ap s d 0 h6 l7 l8 l9 l10, Option.bind_some]
  refine own_sa (k := 3) (by decide) (show 3 < (gA s 4).length by omega) ?_
  exact own_sa (k := 3) (by decide) (show 3 < (gA s 5).length by omega) rfl
theorem own_os (s : St) (h4 : (gA s 4)[3]? = some 1) (h6 : (gA s 6)[3]? = some 1) : f_openSlot 3 s = some 12 := by
  unfold f_openSlot
  rw [rd_of (k := 3) (by decide) h4, Option.bind_some, if_neg (by decide), rd_of (k := 3) (by decide) h6, Option.bind_some]; rfl
theorem own_ru (d q : Int32) (s : St) (h4 : (gA s 4)[3]? = some 1) (h6 : (gA s 6)[3]? = some 1) (h10 : (gA s 10)[12]? = some 0) (hd : f_validDay d s = some 1) (q1 : ¬ q < 1) (q2 : ¬ 10000 < q) : f_recordUsage 3 d q s = some (1, sI (sA s 10 ((gA s 10).set 12 q)) 2 d) := by
  have hk : 12 < (gA s 10).length := (List.getElem?_eq_some_iff.mp h10).1
  have q3 : ¬ (1000000 : Int32) < q := by
    rw [x32_lt] at q2 ⊢
    have h1 : (10000 : Int32).toInt = 10000 := by decide
    have h2 : (1000000 : Int32).toInt = 1000000 := by decide
    omega
  unfold f_recordUsage
  rw [show f_validCustomer 3 s = some 1 from rfl, Option.bind_some, if_neg (by decide), rd_of (k := 3) (by decide) h4, Option.bind_some, if_neg (by decide), hd, Option.bind_some, if_neg (by decide), if_neg q1, if_neg q2, own_os s h4 h6, Option.bind_some, if_neg (by decide), rd_of (k := 12) (by decide) h10, Option.bind_some, Int32.zero_add, if_neg q3, Option.bind_some, Int32.zero_add, wrA_of (s := s) (k := 12) q (by decide) hk]; rfl
/-! an idle customer -/
theorem own_fl0 (s : St) (m c : Nat) (hc : c < 16) (a : Int64) (h7 : ∀ i, m ≤ i → i < 8 → (gB s 7)[c * 8 + i]? = some 0) (h8 : ∀ i, m ≤ i → i < 8 → (gB s 8)[c * 8 + i]? = some 0) (n : Nat) : ∀ (j k : Nat), j + k = 8 → m ≤ k → f_fillLines_181 (n + 1 + j) (Int32.ofNat c * 8) a (Int32.ofNat k) s = some (a, s)
  | 0, k, h, _ => by
    have : k = 8 := by omega
    subst this
    show g_fillLines_181 (f_fillLines_181 n) n _ a 8 s = _
    unfold g_fillLines_181
    rw [if_neg (by decide)]
  | j + 1, k, h, hm => by
    show g_fillLines_181 (f_fillLines_181 (n + 1 + j)) (n + 1 + j) _ a (Int32.ofNat k) s = _
    unfold g_fillLines_181 lt
    have hk : k < 8 := by omega
    have hi : (Int32.ofNat c * 8 + Int32.ofNat k).toInt = (c * 8 + k : Nat) := by
      have e : Int32.ofNat c * 8 + Int32.ofNat k = Int32.ofNat (c * 8 + k) := by
        rw [Int32.ofNat_add, Int32.ofNat_mul]; rfl
      rw [e]; exact ofN_int (by omega)
    rw [if_pos ((ofN_ltL (m := 8) (by omega) (by decide)).mpr hk), own_wB hi (h7 k hm hk), Option.bind_some, own_wB hi (h8 k hm hk), Option.bind_some, ofN_succ]
    exact own_fl0 s m c hc a h7 h8 n j (k + 1) (by omega) (by omega)
/-- s but the scratch of the tax -/
def own_sc (s : St) (a : List Int32) (b : List Int64) : St := sB (sA s 13 a) 9 b
theorem own_sc_sc (s : St) (a a' : List Int32) (b b' : List Int64) : sB (sA (own_sc s a b) 13 a') 9 b' = own_sc s a' b' := by
  unfold own_sc
  have : sA (sB (sA s 13 a) 9 b) 13 a' = sB (sA (sA s 13 a) 13 a') 9 b := rfl
  rw [this, sA_sA, sB_sB]
theorem own_tx0 (s : St) (v5 : Int32) (v3 v6 : Int64) (m : Nat) (hm : m ≤ 8) (n : Nat) : ∀ (j k : Nat), j + k = 8 → m ≤ k → ∀ a b, a.length = 8 → b.length = 8 → ∃ a' b', a'.length = 8 ∧ b'.length = 8 ∧ (∀ i, i < k → a'[i]? = a[i]? ∧ b'[i]? = b[i]?) ∧ f_spreadTax_12 (n + 1 + j) (Int32.ofNat m) v3 v5 v6 (Int32.ofNat k) (own_sc s a b) = f_spreadTax_127 n (Int32.ofNat m) v5 (v3 - v6) 0 (own_sc s a' b')
  | 0, k, h, _, a, b, la, lb => by
    have : k = 8 := by omega
    subst this
    refine ⟨a, b, la, lb, fun i _ => ⟨rfl, rfl⟩, ?_⟩
    show g_spreadTax_12 (f_spreadTax_12 n) n _ v3 v5 v6 8 _ = _
    unfold g_spreadTax_12
    rw [if_neg (by decide)]; rfl
  | j + 1, k, h, hmk, a, b, la, lb => by
    have hk : k < 8 := by omega
    obtain ⟨a', b', la', lb', hh, e⟩ := own_tx0 s v5 v3 v6 m hm n j (k + 1) (by omega) (by omega) (a.set k 1) (b.set k 0) (by rw [List.length_set, la]) (by rw [List.length_set, lb])
    refine ⟨a', b', la', lb', fun i hi => ?_, ?_⟩
    · obtain ⟨q1, q2⟩ := hh i (by omega)
      exact ⟨q1.trans (get_set_ne _ (by omega)), q2.trans (get_set_ne _ (by omega))⟩
    rw [← e]
    show g_spreadTax_12 (f_spreadTax_12 (n + 1 + j)) (n + 1 + j) _ v3 v5 v6 (Int32.ofNat k) _ = _
    have nlt : ¬ Int32.ofNat k < Int32.ofNat m := fun q => by have := (ofN_lt (by omega) (by omega)).mp q; omega
    unfold g_spreadTax_12 f_spreadTax_36 f_spreadTax_112 lt
    rw [if_pos ((ofN_ltL (m := 8) (by omega) (by decide)).mpr hk), if_neg nlt]
    refine own_sa (k := k) (ofN_int (by omega)) (show k < a.length by omega) ?_
    refine own_sb (k := k) (ofN_int (by omega)) (show k < b.length by omega) ?_
    rw [if_neg nlt]
    dsimp only
    rw [ofN_succ]
    have := own_sc_sc s a (a.set k 1) b (b.set k 0)
    show f_spreadTax_12 (n + 1 + j) _ v3 v5 v6 (Int32.ofNat (k + 1)) (sB (sA (own_sc s a b) 13 (a.set k 1)) 9 (b.set k 0)) = _
    rw [this]
def own_k (s : St) (a : List Int32) (b : List Int64) (l : List Int32) : St := sA (own_sc s a b) 12 l
theorem own_k_k (s : St) (a a' : List Int32) (b b' : List Int64) (l l' : List Int32) : own_k (own_k s a b l) a' b' l' = own_k s a' b' l' := by
  unfold own_k own_sc
  have e1 : ∀ t : St, ∀ x y z, sA (sB t 9 x) 12 y = sB (sA t 12 y) 9 x ∧ sA (sB t 9 x) 13 z = sB (sA t 13 z) 9 x := fun t x y z => ⟨rfl, rfl⟩
  rw [(e1 _ b l []).1, (e1 _ b [] a').2, sB_sB, (e1 _ b' l' []).1, (e1 _ b' l' []).1, sA_comm (i := 12) (j := 13) (by decide), sA_sA, sA_sA]
theorem own_k_self (s : St) : own_k s (gA s 13) (gB s 9) (gA s 12) = s := by
  unfold own_k own_sc
  rw [sA_self (i := 13) rfl, sB_self (i := 9) rfl, sA_self (i := 12) rfl]
abbrev own_Z (s : St) (c : Nat) : Prop := ((gA s 6)[c]? = some 0) ∧ ((gA s 4)[c]? = some 0) ∧ ((gA s 11)[c]? = some 0) ∧ ((gB s 0)[c]? = some 0) ∧ ((gB s 2)[c]? = some 0) ∧ ((gB s 3)[c]? = some 0) ∧ ((gB s 4)[c]? = some 0) ∧ ((gB s 5)[c]? = some 0) ∧ ((gB s 6)[c]? = some 0) ∧ (∀ i, i < 8 → (gB s 7)[c * 8 + i]? = some 0) ∧ (∀ i, i < 8 → (gB s 8)[c * 8 + i]? = some 0)
theorem own_Z.a6 {s : St} {c : Nat} (h : own_Z s c) : (gA s 6)[c]? = some 0 := h.1
theorem own_Z.a4 {s : St} {c : Nat} (h : own_Z s c) : (gA s 4)[c]? = some 0 := h.2.1
theorem own_Z.a11 {s : St} {c : Nat} (h : own_Z s c) : (gA s 11)[c]? = some 0 := h.2.2.1
theorem own_Z.b0 {s : St} {c : Nat} (h : own_Z s c) : (gB s 0)[c]? = some 0 := h.2.2.2.1
theorem own_Z.b2 {s : St} {c : Nat} (h : own_Z s c) : (gB s 2)[c]? = some 0 := h.2.2.2.2.1
theorem own_Z.b3 {s : St} {c : Nat} (h : own_Z s c) : (gB s 3)[c]? = some 0 := h.2.2.2.2.2.1
theorem own_Z.b4 {s : St} {c : Nat} (h : own_Z s c) : (gB s 4)[c]? = some 0 := h.2.2.2.2.2.2.1
theorem own_Z.b5 {s : St} {c : Nat} (h : own_Z s c) : (gB s 5)[c]? = some 0 := h.2.2.2.2.2.2.2.1
theorem own_Z.b6 {s : St} {c : Nat} (h : own_Z s c) : (gB s 6)[c]? = some 0 := h.2.2.2.2.2.2.2.2.1
theorem own_Z.b7 {s : St} {c : Nat} (h : own_Z s c) : ∀ i, i < 8 → (gB s 7)[c * 8 + i]? = some 0 := h.2.2.2.2.2.2.2.2.2.1
theorem own_Z.b8 {s : St} {c : Nat} (h : own_Z s c) : ∀ i, i < 8 → (gB s 8)[c * 8 + i]? = some 0 := h.2.2.2.2.2.2.2.2.2.2
theorem own_fl (n c : Nat) (hc : c < 16) (s : St) (z : own_Z s c) : f_fillLines (n + 20) (Int32.ofNat c) 0 s = some (0, s) := by
  unfold f_fillLines lt
  show g_fillLines_11 (f_fillLines_11 (n + 19)) (n + 19) (Int32.ofNat c) 0 (Int32.ofNat c * 8) 0 0 s = _
  unfold g_fillLines_11 f_fillLines_176 lt
  rw [if_pos (by decide), if_neg (by decide)]
  exact own_fl0 s 0 c hc 0 (fun i _ h => z.b7 i h) (fun i _ h => z.b8 i h) (n + 10) 8 0 rfl (by decide)
theorem own_bi (n c : Nat) (hc : c < 16) (s : St) (z : own_Z s c) (a : List Int32) (b : List Int64) (l : List Int32) (la : a.length = 8) (lb : b.length = 8) (ll : l.length = 16) : ∃ a' b', a'.length = 8 ∧ b'.length = 8 ∧ f_buildInvoice (n + 20) (Int32.ofNat c) (own_k s a b l) = some (own_k s a' b' (l.set c (gI s 3))) := by
  obtain ⟨a', b', la', lb', -, ht⟩ := own_tx0 (sA s 12 l) (Int32.ofNat c * 8) 0 0 0 (by decide) (n + 11) 8 0 rfl (by decide) a b la lb
  refine ⟨a', b', la', lb', ?_⟩
  have hi : (Int32.ofNat c).toInt = c := ofN_int (by omega)
  have ek : ∀ a b l, own_k s a b l = own_sc (sA s 12 l) a b := fun a b l => by
    unfold own_k own_sc
    have e1 : ∀ t : St, ∀ x y, sA (sB t 9 x) 12 y = sB (sA t 12 y) 9 x := fun t x y => rfl
    rw [e1, sA_comm (i := 13) (j := 12) (by decide)]
  have hz : own_Z (own_k s a b l) c := ⟨z.a6, z.a4, z.a11, z.b0, z.b2, z.b3, z.b4, z.b5, z.b6, z.b7, z.b8⟩
  unfold f_buildInvoice f_buildInvoice_13
  rw [rd_of hi hz.a6, Option.bind_some, if_neg (by decide), if_neg (by decide)]
  unfold f_buildInvoice_20 lt
  dsimp only
  rw [own_fl n c hc _ hz, Option.bind_some]
  dsimp only
  rw [Int64.zero_mul, show (0 : Int64) / 10000 = 0 from by decide, show (2 : Int32) * 0 = 0 from by decide, show (0 : Int64) + 0 = 0 from by decide]
  have hs : f_spreadTax (n + 20) (Int32.ofNat c) 0 0 (own_k s a b l) = some (own_k s a' b' l) := by
    unfold f_spreadTax lt
    dsimp only
    rw [ek]
    refine ht.trans ?_
    show g_spreadTax_127 (f_spreadTax_127 (n + 10)) (n + 10) _ _ _ 0 _ = _
    unfold g_spreadTax_127 f_spreadTax_237
    rw [if_pos (by decide), if_neg (by decide), ek]
  rw [hs, Option.bind_some]
  refine own_rr hi z.b0 ?_
  rw [if_neg (by decide)]
  unfold f_buildInvoice_84 f_buildInvoice_93
  rw [if_pos rfl]
  refine own_rr hi z.b0 ?_
  rw [show (0 : Int64) - 0 = 0 from by decide, own_wB hi (show (gB (own_k s a' b' l) 0)[c]? = some 0 from z.b0), Option.bind_some]
  refine own_rr hi z.b2 ?_
  rw [show (0 : Int64) + 0 = 0 from by decide, own_wB hi (show (gB (own_k s a' b' l) 2)[c]? = some 0 from z.b2), Option.bind_some, own_wA hi (show (gA (own_k s a' b' l) 11)[c]? = some 0 from z.a11), Option.bind_some, own_wB hi (show (gB (own_k s a' b' l) 3)[c]? = some 0 from z.b3), Option.bind_some, own_wB hi (show (gB (own_k s a' b' l) 4)[c]? = some 0 from z.b4), Option.bind_some, own_wB hi (show (gB (own_k s a' b' l) 5)[c]? = some 0 from z.b5), Option.bind_some, own_wB hi (show (gB (own_k s a' b' l) 6)[c]? = some 0 from z.b6), Option.bind_some]
  refine own_sa hi (show c < l.length by omega) ?_
  show some (sA (own_k s a' b' l) 12 (l.set c (gI s 3))) = _
  unfold own_k
  rw [sA_sA]
theorem own_turn (n c : Nat) (hc : c < 16) (v1 : Int32) (s : St) (z : own_Z s c) (a : List Int32) (b : List Int64) (l : List Int32) (la : a.length = 8) (lb : b.length = 8) (ll : l.length = 16) : ∃ a' b', a'.length = 8 ∧ b'.length = 8 ∧ f_closeCycle_14 (n + 21) v1 (Int32.ofNat c) (own_k s a b l) = f_closeCycle_14 (n + 20) v1 (Int32.ofNat (c + 1)) (own_k s a' b' (l.set c (gI s 3))) := by
  obtain ⟨a', b', la', lb', hb⟩ := own_bi n c hc s z a b l la lb ll
  refine ⟨a', b', la', lb', ?_⟩
  have hi : (Int32.ofNat c).toInt = c := ofN_int (by omega)
  show g_closeCycle_14 (f_closeCycle_14 (n + 20)) (n + 20) v1 (Int32.ofNat c) _ = _
  unfold g_closeCycle_14
  rw [if_pos ((ofN_ltL (m := 16) (by omega) (by decide)).mpr hc)]
  refine own_rr hi z.a6 ?_
  rw [if_neg (by decide)]
  unfold f_closeCycle_32
  have ho : f_openSlot (Int32.ofNat c) (own_k s a b l) = some (-1) := by
    unfold f_openSlot
    refine own_rr hi z.a4 ?_
    rw [if_pos rfl]
  rw [ho, Option.bind_some, if_pos (by decide)]
  unfold f_closeCycle_52
  rw [hb, Option.bind_some, own_wA hi (show (gA (own_k s a' b' (l.set c (gI s 3))) 6)[c]? = some 0 from z.a6), Option.bind_some]
  refine own_rr hi z.a4 ?_
  rw [if_pos rfl]
  unfold f_closeCycle_85 lt
  dsimp only
  rw [ofN_succ]
theorem own_run (n : Nat) (v1 : Int32) (s : St) : ∀ (j c : Nat), c + j ≤ 16 → (∀ i, c ≤ i → i < c + j → own_Z s i ∧ i ≠ 3) → ∀ a b l, a.length = 8 → b.length = 8 → l.length = 16 → ∃ a' b' l', a'.length = 8 ∧ b'.length = 8 ∧ l'.length = 16 ∧ l'[3]? = l[3]? ∧ f_closeCycle_14 (n + 20 + j) v1 (Int32.ofNat c) (own_k s a b l) = f_closeCycle_14 (n + 20) v1 (Int32.ofNat (c + j)) (own_k s a' b' l')
  | 0, c, _, _, a, b, l, la, lb, ll => ⟨a, b, l, la, lb, ll, rfl, rfl⟩
  | j + 1, c, h, hz, a, b, l, la, lb, ll => by
    obtain ⟨z, h3⟩ := hz c (by omega) (by omega)
    obtain ⟨a1, b1, la1, lb1, e1⟩ := own_turn (n + j) c (by omega) v1 s z a b l la lb ll
    obtain ⟨a2, b2, l2, la2, lb2, ll2, hl2, e2⟩ := own_run n v1 s j (c + 1) (by omega) (fun i h1 h2 => hz i (by omega) (by omega)) a1 b1 (l.set c (gI s 3)) la1 lb1 (by rw [List.length_set, ll])
    refine ⟨a2, b2, l2, la2, lb2, ll2, hl2.trans (get_set_ne _ h3), ?_⟩
    rw [show n + 20 + (j + 1) = n + j + 21 by omega, e1, show n + j + 20 = n + 20 + j by omega, e2, show c + 1 + j = c + (j + 1) by omega]
/-! the charge -/
abbrev own_Pr (s : St) (u p : Int32) : Prop := ((gA s 1)[0]? = some 0) ∧ ((gA s 2)[0]? = some u) ∧ ((gA s 2)[1]? = some 1000000) ∧ ((gA s 2)[2]? = some 1000000) ∧ ((gA s 3)[0]? = some p) ∧ ((gA s 3)[1]? = some 7000) ∧ ((gA s 3)[2]? = some 0) ∧ ((gA s 3)[3]? = some 0)
theorem own_Pr.k1 {s : St} {u p : Int32} (h : own_Pr s u p) : (gA s 1)[0]? = some 0 := h.1
theorem own_Pr.u0 {s : St} {u p : Int32} (h : own_Pr s u p) : (gA s 2)[0]? = some u := h.2.1
theorem own_Pr.u1 {s : St} {u p : Int32} (h : own_Pr s u p) : (gA s 2)[1]? = some 1000000 := h.2.2.1
theorem own_Pr.u2 {s : St} {u p : Int32} (h : own_Pr s u p) : (gA s 2)[2]? = some 1000000 := h.2.2.2.1
theorem own_Pr.p0 {s : St} {u p : Int32} (h : own_Pr s u p) : (gA s 3)[0]? = some p := h.2.2.2.2.1
theorem own_Pr.p1 {s : St} {u p : Int32} (h : own_Pr s u p) : (gA s 3)[1]? = some 7000 := h.2.2.2.2.2.1
theorem own_Pr.p2 {s : St} {u p : Int32} (h : own_Pr s u p) : (gA s 3)[2]? = some 0 := h.2.2.2.2.2.2.1
theorem own_Pr.p3 {s : St} {u p : Int32} (h : own_Pr s u p) : (gA s 3)[3]? = some 0 := h.2.2.2.2.2.2.2
theorem own_eb1 (n : Nat) (v2 : Int32) (v3 : Int64) (k : Nat) (x : Int32) (s : St) (h : (gA s 2)[k]? = some x) (hk : k < 3) (h2 : ¬ v2 < Int32.ofNat k) : f_effBound_20 (n + 1) 0 v2 v3 (Int32.ofNat k) s = f_effBound_20 n 0 v2 (if v3 < x.toInt64 then x.toInt64 else v3) (Int32.ofNat (k + 1)) s := by
  show g_effBound_20 (f_effBound_20 n) n 0 v2 v3 (Int32.ofNat k) s = _
  unfold g_effBound_20 f_effBound_59 lt
  have hi : ((0 : Int32) * 4 + Int32.ofNat k).toInt = k := by
    rw [show (0 : Int32) * 4 = 0 from by decide, Int32.zero_add]; exact ofN_int (by omega)
  rw [if_pos ((ofN_ltL (m := 3) (by omega) (by decide)).mpr hk), if_neg h2]
  refine own_rr hi h ?_
  dsimp only
  rw [ofN_succ]
  split <;> rfl
theorem own_eb2 (n : Nat) (v2 v5 : Int32) (v3 : Int64) (s : St) (h : v2 < v5 ∨ ¬ v5 < 3) : f_effBound_20 (n + 1) 0 v2 v3 v5 s = some v3 := by
  show g_effBound_20 (f_effBound_20 n) n 0 v2 v3 v5 s = _
  unfold g_effBound_20 f_effBound_65
  by_cases q : v5 < 3
  · rw [if_pos q]
    rcases h with h | h
    · rw [if_pos h]
    · exact absurd q h
  · rw [if_neg q]
theorem own_u1 {u : Int32} (h : ¬ u < 0) : (if (0 : Int64) < u.toInt64 then u.toInt64 else 0) = u.toInt64 := by
  by_cases q : (0 : Int64) < u.toInt64
  · rw [if_pos q]
  · rw [if_neg q]
    rw [x64_lt, Int32.toInt_toInt64, show (0 : Int64).toInt = 0 from by decide] at q
    rw [x32_lt, show (0 : Int32).toInt = 0 from by decide] at h
    rw [x64_eq, Int32.toInt_toInt64, show (0 : Int64).toInt = 0 from by decide]; omega
theorem own_u2 {u : Int32} (h : ¬ 1000000 < u) : (if u.toInt64 < (1000000 : Int32).toInt64 then (1000000 : Int32).toInt64 else u.toInt64) = 1000000 := by
  rw [show (1000000 : Int32).toInt64 = 1000000 from by decide]
  by_cases q : u.toInt64 < 1000000
  · rw [if_pos q]
  · rw [if_neg q]
    rw [x64_lt, Int32.toInt_toInt64, show (1000000 : Int64).toInt = 1000000 from by decide] at q
    rw [x32_lt, show (1000000 : Int32).toInt = 1000000 from by decide] at h
    rw [x64_eq, Int32.toInt_toInt64, show (1000000 : Int64).toInt = 1000000 from by decide]; omega
theorem own_eb (n : Nat) (s : St) (u p : Int32) (h : own_Pr s u p) (hu : ¬ u < 0) (hu2 : ¬ 1000000 < u) : f_effBound (n + 5) 0 0 s = some u.toInt64 ∧ f_effBound (n + 5) 0 1 s = some 1000000 ∧ f_effBound (n + 5) 0 2 s = some 1000000 ∧ f_effBound (n + 5) 0 3 s = some 1000000 := by
  refine ⟨?_, ?_, ?_, ?_⟩ <;> unfold f_effBound
  · rw [if_neg (by decide), if_pos (by decide)]
    refine (own_eb1 (n + 4) 0 0 0 u s h.u0 (by decide) (by decide)).trans ?_
    rw [own_u1 hu]
    exact own_eb2 (n + 3) 0 1 _ s (Or.inl (by decide))
  · rw [if_neg (by decide), if_pos (by decide)]
    refine (own_eb1 (n + 4) 1 0 0 u s h.u0 (by decide) (by decide)).trans ?_
    rw [own_u1 hu]
    refine (own_eb1 (n + 3) 1 _ 1 _ s h.u1 (by decide) (by decide)).trans ?_
    rw [own_u2 hu2]
    exact own_eb2 (n + 2) 1 2 _ s (Or.inl (by decide))
  · rw [if_neg (by decide), if_pos (by decide)]
    refine (own_eb1 (n + 4) 2 0 0 u s h.u0 (by decide) (by decide)).trans ?_
    rw [own_u1 hu]
    refine (own_eb1 (n + 3) 2 _ 1 _ s h.u1 (by decide) (by decide)).trans ?_
    rw [own_u2 hu2]
    refine (own_eb1 (n + 2) 2 _ 2 _ s h.u2 (by decide) (by decide)).trans ?_
    exact own_eb2 (n + 1) 2 3 _ s (Or.inr (by decide))
  · rw [if_neg (by decide), if_neg (by decide)]
theorem own_cg (n k : Nat) (hk : k < 4) (q v4 v6 e : Int64) (x : Int32) (s : St) (he : f_effBound n 0 (Int32.ofNat k) s = some e) (hp : (gA s 3)[k]? = some x) : f_chargeGraduated_9 (n + 1) 0 q v4 v6 (Int32.ofNat k) s = f_chargeGraduated_9 n 0 q (v4 + ((if q < e then q else e) - v6) * x.toInt64) (if q < e then q else e) (Int32.ofNat (k + 1)) s := by
  show g_chargeGraduated_9 (f_chargeGraduated_9 n) n 0 q v4 v6 (Int32.ofNat k) s = _
  unfold g_chargeGraduated_9 f_chargeGraduated_37 lt
  have hi : ((0 : Int32) * 4 + Int32.ofNat k).toInt = k := by
    rw [show (0 : Int32) * 4 = 0 from by decide, Int32.zero_add]; exact ofN_int (by omega)
  rw [if_pos ((ofN_ltL (m := 4) (by omega) (by decide)).mpr hk), he, Option.bind_some, rd_of hi hp, Option.bind_some]
  dsimp only
  rw [ofN_succ]
  split <;> rfl
def own_a1 (u p q : Int32) : Int64 := (if q < u then q.toInt64 else u.toInt64) * p.toInt64 + (q.toInt64 - (if q < u then q.toInt64 else u.toInt64)) * 7000
theorem own_ch (n : Nat) (s : St) (u p q : Int32) (h : own_Pr s u p) (hu : ¬ u < 0) (hu2 : ¬ 1000000 < u) (hq : q < 1000000) : f_charge (n + 20) 0 q.toInt64 s = some (own_a1 u p q) := by
  have e := fun m => own_eb m s u p h hu hu2
  have q1 : q.toInt64 < 1000000 := by
    rw [x64_lt, Int32.toInt_toInt64, show (1000000 : Int64).toInt = 1000000 from by decide]
    rw [x32_lt, show (1000000 : Int32).toInt = 1000000 from by decide] at hq; exact hq
  have q2 : (if q.toInt64 < u.toInt64 then q.toInt64 else u.toInt64) = if q < u then q.toInt64 else u.toInt64 := by
    by_cases z : q < u
    · have : q.toInt64 < u.toInt64 := by rw [x64_lt, Int32.toInt_toInt64, Int32.toInt_toInt64]; exact x32_lt.mp z
      rw [if_pos z, if_pos this]
    · have : ¬ q.toInt64 < u.toInt64 := by rw [x64_lt, Int32.toInt_toInt64, Int32.toInt_toInt64]; exact fun y => z (x32_lt.mpr y)
      rw [if_neg z, if_neg this]
  unfold f_charge
  rw [rd_of (k := 0) (by decide) h.k1, Option.bind_some, if_neg (by decide)]
  unfold f_chargeGraduated
  have e0 := own_cg (n + 19) 0 (by decide) q.toInt64 0 0 _ _ s (e (n + 14)).1 h.p0
  have e1 := fun v4 v6 => own_cg (n + 18) 1 (by decide) q.toInt64 v4 v6 _ _ s (e (n + 13)).2.1 h.p1
  have e2 := fun v4 v6 => own_cg (n + 17) 2 (by decide) q.toInt64 v4 v6 _ _ s (e (n + 12)).2.2.1 h.p2
  have e3 := fun v4 v6 => own_cg (n + 16) 3 (by decide) q.toInt64 v4 v6 _ _ s (e (n + 11)).2.2.2 h.p3
  have e4 : ∀ v4 v6, f_chargeGraduated_9 (n + 16) 0 q.toInt64 v4 v6 (Int32.ofNat (3 + 1)) s = some v4 := fun v4 v6 => by
    show g_chargeGraduated_9 (f_chargeGraduated_9 (n + 15)) (n + 15) 0 _ _ _ 4 s = _
    unfold g_chargeGraduated_9
    rw [if_neg (by decide)]
  rw [show f_chargeGraduated_9 (n + 20) 0 q.toInt64 0 0 0 s = _ from e0, e1, e2, e3, e4, Option.bind_some, if_pos q1, q2, Int64.sub_self, show (0 : Int32).toInt64 = 0 from by decide, Int64.mul_zero, Int64.add_zero, Int64.add_zero, Int64.zero_add, Int64.sub_zero]
  rfl
/-! spreading the tax over two lines -/
theorem own_tx1 (n i : Nat) (hi : i < 2) (v3 v6 y bc : Int64) (s : St) (a : List Int32) (b : List Int64) (la : a.length = 8) (lb : b.length = 8) (h7 : (gB s 7)[24 + i]? = some y) (hb : (gI s 1).toInt64 = bc) (l8 : (gB s 8).length = 128) :
    f_spreadTax_12 (n + 1) 2 v3 24 v6 (Int32.ofNat i) (own_sc s a b) = f_spreadTax_12 n 2 v3 24 (v6 + y * bc / 10000) (Int32.ofNat (i + 1)) (own_sc (sB s 8 ((gB s 8).set (24 + i) (y * bc / 10000))) (a.set i 0) (b.set i (y * bc - y * bc / 10000 * 10000))) := by
  have hx : (Int32.ofNat i).toInt = i := ofN_int (by omega)
  have hy : ((24 : Int32) + Int32.ofNat i).toInt = (24 + i : Nat) := by
    have e : (24 : Int32) + Int32.ofNat i = Int32.ofNat (24 + i) := by rw [Int32.ofNat_add]; rfl
    rw [e]; exact ofN_int (by omega)
  have hlt : Int32.ofNat i < 2 := (ofN_ltL (m := 2) (by omega) (by decide)).mpr hi
  show g_spreadTax_12 (f_spreadTax_12 n) n 2 v3 24 v6 (Int32.ofNat i) _ = _
  unfold g_spreadTax_12 f_spreadTax_36 f_spreadTax_112 lt
  rw [if_pos ((ofN_ltL (m := 8) (by omega) (by decide)).mpr (by omega)), if_pos hlt]
  refine own_sa hx (show i < a.length by omega) ?_
  refine own_sb hx (show i < b.length by omega) ?_
  rw [if_pos hlt]
  refine own_rr hy h7 ?_
  dsimp only
  rw [show (gI (sB (sA (own_sc s a b) 13 ((gA (own_sc s a b) 13).set i (0 &&& 1))) 9 ((gB (sA (own_sc s a b) 13 ((gA (own_sc s a b) 13).set i (0 &&& 1))) 9).set i 0)) 1).toInt64 = bc from hb]
  refine own_sb hx (show i < (b.set i 0).length by rw [List.length_set]; omega) ?_
  refine own_sb hy (show 24 + i < (gB s 8).length by omega) ?_
  rw [ofN_succ]
  show f_spreadTax_12 n 2 v3 24 (v6 + y * bc / 10000) (Int32.ofNat (i + 1)) (sB (sB (sB (sA (sB (sA s 13 a) 9 b) 13 (a.set i 0)) 9 (b.set i 0)) 9 ((b.set i 0).set i (y * bc - y * bc / 10000 * 10000))) 8 ((gB s 8).set (24 + i) (y * bc / 10000))) = _
  have e1 : ∀ t : St, ∀ x y, sA (sB t 9 x) 13 y = sB (sA t 13 y) 9 x := fun t x y => rfl
  have e2 : ∀ t : St, ∀ x y, sA (sB t 8 x) 13 y = sB (sA t 13 y) 8 x := fun t x y => rfl
  rw [e1, sA_sA, sB_sB, sB_sB, List.set_set]
  unfold own_sc
  rw [e2, sB_comm (i := 8) (j := 9) (by decide)]
theorem own_pe (k127 : Int32 → Int32 → Int64 → Int32 → St → Option St) (n i : Nat) (hi : i < 2) (v8 F : Int64) (v10 : Int32) (s : St) (a : List Int32) (b : List Int64) (la : a.length = 8) (h8 : (gB s 8)[24 + i]? = some F) :
    f_spreadTax_152 k127 (n + 1) 2 24 v8 v10 (Int32.ofNat i) 2 (own_sc s a b) = k127 2 24 v8 (v10 + 1) (own_sc (sB s 8 ((gB s 8).set (24 + i) (F + 1))) (a.set i 1) b) := by
  have hl := (List.getElem?_eq_some_iff.mp h8).1
  have hx : (Int32.ofNat i).toInt = i := ofN_int (by omega)
  have hy : ((24 : Int32) + Int32.ofNat i).toInt = (24 + i : Nat) := by
    have e : (24 : Int32) + Int32.ofNat i = Int32.ofNat (24 + i) := by rw [Int32.ofNat_add]; rfl
    rw [e]; exact ofN_int (by omega)
  show g_spreadTax_152 k127 (f_spreadTax_152 k127 n) n 2 24 v8 v10 (Int32.ofNat i) 2 _ = _
  unfold g_spreadTax_152 lt
  rw [if_neg (by decide), if_neg (ofN_nn (by omega))]
  refine own_sa hx (show i < a.length by omega) ?_
  refine own_rr hy h8 ?_
  refine own_sb hy hl ?_
  show k127 2 24 v8 (v10 + 1) (sB (sA (sB (sA s 13 a) 9 b) 13 (a.set i 1)) 8 ((gB s 8).set (24 + i) (F + 1))) = _
  have e1 : ∀ t : St, ∀ x y, sA (sB t 9 x) 13 y = sB (sA t 13 y) 9 x := fun t x y => rfl
  have e2 : ∀ t : St, ∀ x y, sA (sB t 8 x) 13 y = sB (sA t 13 y) 8 x := fun t x y => rfl
  rw [e1, sA_sA]
  unfold own_sc
  rw [e2, sB_comm (i := 8) (j := 9) (by decide)]
theorem own_p0 (k127 : Int32 → Int32 → Int64 → Int32 → St → Option St) (n : Nat) (v8 : Int64) (v10 x : Int32) (s : St) (a : List Int32) (b : List Int64) (ha : a[0]? = some x) :
    f_spreadTax_152 k127 (n + 1) 2 24 v8 v10 (-1) 0 (own_sc s a b) = f_spreadTax_152 k127 n 2 24 v8 v10 (if x = 0 then 0 else -1) 1 (own_sc s a b) := by
  show g_spreadTax_152 k127 (f_spreadTax_152 k127 n) n 2 24 v8 v10 (-1) 0 _ = _
  unfold g_spreadTax_152 f_spreadTax_191 f_spreadTax_195 lt
  rw [if_pos (by decide)]
  refine own_rr (k := 0) (by decide) ha ?_
  by_cases q : x = 0
  · rw [if_pos q, if_pos q, if_pos (by decide)]; rfl
  · rw [if_neg q, if_neg q]; rfl
theorem own_p1 (k127 : Int32 → Int32 → Int64 → Int32 → St → Option St) (n : Nat) (v8 r0 r1 : Int64) (v10 x : Int32) (s : St) (a : List Int32) (b : List Int64) (ha : a[1]? = some x) (h0 : b[0]? = some r0) (h1 : b[1]? = some r1) :
    f_spreadTax_152 k127 (n + 1) 2 24 v8 v10 0 1 (own_sc s a b) = f_spreadTax_152 k127 n 2 24 v8 v10 (if x = 0 then (if r0 < r1 then 1 else 0) else 0) 2 (own_sc s a b) := by
  show g_spreadTax_152 k127 (f_spreadTax_152 k127 n) n 2 24 v8 v10 0 1 _ = _
  unfold g_spreadTax_152 f_spreadTax_191 f_spreadTax_195 lt
  rw [if_pos (by decide)]
  refine own_rr (k := 1) (by decide) ha ?_
  by_cases q : x = 0
  · rw [if_pos q, if_pos q, if_neg (by decide)]
    refine own_rr (k := 1) (by decide) h1 ?_
    refine own_rr (k := 0) (by decide) h0 ?_
    by_cases w : r0 < r1
    · rw [if_pos w, if_pos w]; rfl
    · rw [if_neg w, if_neg w]; rfl
  · rw [if_neg q, if_neg q]; rfl
theorem own_p1m (k127 : Int32 → Int32 → Int64 → Int32 → St → Option St) (n : Nat) (v8 : Int64) (v10 x : Int32) (s : St) (a : List Int32) (b : List Int64) (ha : a[1]? = some x) :
    f_spreadTax_152 k127 (n + 1) 2 24 v8 v10 (-1) 1 (own_sc s a b) = f_spreadTax_152 k127 n 2 24 v8 v10 (if x = 0 then 1 else -1) 2 (own_sc s a b) := by
  show g_spreadTax_152 k127 (f_spreadTax_152 k127 n) n 2 24 v8 v10 (-1) 1 _ = _
  unfold g_spreadTax_152 f_spreadTax_191 f_spreadTax_195 lt
  rw [if_pos (by decide)]
  refine own_rr (k := 1) (by decide) ha ?_
  by_cases q : x = 0
  · rw [if_pos q, if_pos q, if_pos (by decide)]; rfl
  · rw [if_neg q, if_neg q]; rfl
def own_T0 (left r0 r1 f0 : Int64) : Int64 := if left < 1 then f0 else if left < 2 then (if r0 < r1 then f0 else f0 + 1) else f0 + 1
def own_T1 (left r0 r1 f1 : Int64) : Int64 := if left < 1 then f1 else if left < 2 then (if r0 < r1 then f1 + 1 else f1) else f1 + 1
theorem own_done (n : Nat) (v2 v5 v10 : Int32) (v8 : Int64) (s : St) (h : ¬ v10.toInt64 < v8) : f_spreadTax_127 (n + 1) v2 v5 v8 v10 s = some s := by
  show g_spreadTax_127 (f_spreadTax_127 n) n v2 v5 v8 v10 s = _
  unfold g_spreadTax_127 f_spreadTax_237
  by_cases q : v10 < 8
  · rw [if_pos q, if_neg h]
  · rw [if_neg q]
theorem own_more (n : Nat) (v2 v5 v10 : Int32) (v8 : Int64) (s : St) (hv : v10 < 8) (h : v10.toInt64 < v8) : f_spreadTax_127 (n + 1) v2 v5 v8 v10 s = f_spreadTax_152 (f_spreadTax_127 n) n v2 v5 v8 v10 (-1) 0 s := by
  show g_spreadTax_127 (f_spreadTax_127 n) n v2 v5 v8 v10 s = _
  unfold g_spreadTax_127
  rw [if_pos hv, if_pos h]
theorem own_all (k127 : Int32 → Int32 → Int64 → Int32 → St → Option St) (n : Nat) (v8 : Int64) (v10 : Int32) (s : St) (a : List Int32) (b : List Int64) (h0 : a[0]? = some 1) (h1 : a[1]? = some 1) :
    f_spreadTax_152 k127 (n + 3) 2 24 v8 v10 (-1) 0 (own_sc s a b) = some (own_sc s a b) := by
  rw [own_p0 _ _ _ _ _ _ _ _ h0, if_neg (by decide), own_p1m _ _ _ _ _ _ _ _ h1, if_neg (by decide)]
  show g_spreadTax_152 k127 (f_spreadTax_152 k127 n) n 2 24 v8 v10 (-1) 2 _ = _
  unfold g_spreadTax_152 f_spreadTax_237
  rw [if_neg (by decide), if_pos (by decide)]
theorem own_l64 (left : Int64) (k : Nat) (hk : k < 100) : (Int32.ofNat k).toInt64 < left ↔ ¬ left < Int64.ofNat (k + 1) := by
  rw [x64_lt, x64_lt, Int32.toInt_toInt64, ofN_int (by omega), Int64.toInt_ofNat_of_lt (by omega)]; omega
theorem own_left (n : Nat) (left r0 r1 f0 f1 : Int64) (s : St) (a : List Int32) (b : List Int64) (la : a.length = 8) (a0 : a[0]? = some 0) (a1 : a[1]? = some 0) (b0 : b[0]? = some r0) (b1 : b[1]? = some r1) (l8 : (gB s 8).length = 128) (h0 : (gB s 8)[24]? = some f0) (h1 : (gB s 8)[25]? = some f1) :
    ∃ a', a'.length = 8 ∧ f_spreadTax_127 (n + 10) 2 24 left 0 (own_sc s a b) = some (own_sc (sB s 8 (((gB s 8).set 24 (own_T0 left r0 r1 f0)).set 25 (own_T1 left r0 r1 f1))) a' b) := by
  have q0 : (0 : Int32).toInt64 < left ↔ ¬ left < 1 := own_l64 left 0 (by decide)
  have q1 : ((0 : Int32) + 1).toInt64 < left ↔ ¬ left < 2 := own_l64 left 1 (by decide)
  have set0 : ∀ (l : List Int64) (x : Int64) (k : Nat), l[k]? = some x → l.set k x = l := fun l x k h => by
    have hk := (List.getElem?_eq_some_iff.mp h).1
    apply List.ext_getElem?
    intro j
    by_cases e : k = j
    · subst e; rw [get_set_self x hk]; exact h.symm
    · rw [get_set_ne x e]
  unfold own_T0 own_T1
  by_cases c1 : left < 1
  · refine ⟨a, la, ?_⟩
    rw [if_pos c1, if_pos c1, own_done (n + 9) 2 24 0 left _ (fun z => q0.mp z c1), set0 _ _ _ h0, set0 _ _ _ h1, sB_self rfl]
  rw [if_neg c1, if_neg c1, own_more (n + 9) 2 24 0 left _ (by decide) (q0.mpr c1), own_p0 _ (n + 8) _ _ _ _ _ _ a0, if_pos rfl, own_p1 _ (n + 7) _ _ _ _ _ _ _ _ a1 b0 b1, if_pos rfl]
  by_cases c3 : r0 < r1
  · rw [if_pos c3, if_pos c3, if_pos c3, show (1 : Int32) = Int32.ofNat 1 from rfl, own_pe _ (n + 6) 1 (by decide) _ _ _ _ _ _ la h1]
    by_cases c2 : left < 2
    · refine ⟨a.set 1 1, by rw [List.length_set, la], ?_⟩
      rw [if_pos c2, if_pos c2]
      rw [own_done (n + 8) 2 24 _ left _ (fun z => q1.mp z c2), set0 _ _ _ h0]
    · rw [if_neg c2, if_neg c2]
      rw [own_more (n + 8) 2 24 _ left _ (by decide) (q1.mpr c2), own_p0 _ (n + 7) _ _ _ _ _ _ ((get_set_ne _ (by decide)).trans a0), if_pos rfl, own_p1 _ (n + 6) _ _ _ _ 1 _ _ _ (get_set_self _ (by omega)) b0 b1, if_neg (by decide), show (0 : Int32) = Int32.ofNat 0 from rfl, own_pe _ (n + 5) 0 (by decide) _ f0 _ (sB s 8 ((gB s 8).set (24 + 1) (f1 + 1))) _ _ (by rw [List.length_set, la]) (show ((gB s 8).set (24 + 1) (f1 + 1))[24]? = some f0 from (get_set_ne _ (by decide)).trans h0)]
      refine ⟨(a.set 1 1).set 0 1, by rw [List.length_set, List.length_set, la], ?_⟩
      have e : own_sc (sB (sB s 8 ((gB s 8).set (24 + 1) (f1 + 1))) 8 ((gB (sB s 8 ((gB s 8).set (24 + 1) (f1 + 1))) 8).set (24 + 0) (f0 + 1))) ((a.set 1 (Int32.ofNat 1)).set 0 (Int32.ofNat 1)) b = own_sc (sB s 8 (((gB s 8).set 24 (f0 + 1)).set 25 (f1 + 1))) ((a.set 1 1).set 0 1) b := by
        rw [sB_sB]
        show own_sc (sB s 8 (((gB s 8).set 25 (f1 + 1)).set 24 (f0 + 1))) _ b = _
        rw [List.set_comm _ _ (by decide)]; rfl
      by_cases c4 : ((0 : Int32) + 1 + 1).toInt64 < left
      · rw [show (Int32.ofNat 0 + 1 + 1) = (0 : Int32) + 1 + 1 from rfl, own_more (n + 7) 2 24 _ left _ (by decide) c4]
        refine (own_all _ (n + 4) _ _ _ _ _ (get_set_self _ (by rw [List.length_set]; omega)) ((get_set_ne _ (by decide)).trans (get_set_self _ (by omega)))).trans ?_
        exact congrArg some e
      · rw [show (Int32.ofNat 0 + 1 + 1) = (0 : Int32) + 1 + 1 from rfl, own_done (n + 7) 2 24 _ left _ c4]
        exact congrArg some e
  · rw [if_neg c3, if_neg c3, if_neg c3, show (0 : Int32) = Int32.ofNat 0 from rfl, own_pe _ (n + 6) 0 (by decide) _ _ _ _ _ _ la h0]
    by_cases c2 : left < 2
    · refine ⟨a.set 0 1, by rw [List.length_set, la], ?_⟩
      rw [if_pos c2, if_pos c2]
      rw [show (Int32.ofNat 0 + 1) = (0 : Int32) + 1 from rfl, own_done (n + 8) 2 24 _ left _ (fun z => q1.mp z c2), set0 _ f1 25 ((get_set_ne _ (by decide)).trans h1)]
    · rw [if_neg c2, if_neg c2]
      rw [show (Int32.ofNat 0 + 1) = (0 : Int32) + 1 from rfl, own_more (n + 8) 2 24 _ left _ (by decide) (q1.mpr c2), own_p0 _ (n + 7) _ _ 1 _ _ _ (get_set_self _ (by omega)), if_neg (by decide), own_p1m _ (n + 6) _ _ _ _ _ _ ((get_set_ne _ (by decide)).trans a1), if_pos rfl, show (1 : Int32) = Int32.ofNat 1 from rfl, own_pe _ (n + 5) 1 (by decide) _ f1 _ (sB s 8 ((gB s 8).set (24 + 0) (f0 + 1))) _ _ (by rw [List.length_set, la]) (show ((gB s 8).set (24 + 0) (f0 + 1))[25]? = some f1 from (get_set_ne _ (by decide)).trans h1)]
      refine ⟨(a.set 0 1).set 1 1, by rw [List.length_set, List.length_set, la], ?_⟩
      have e : own_sc (sB (sB s 8 ((gB s 8).set (24 + 0) (f0 + 1))) 8 ((gB (sB s 8 ((gB s 8).set (24 + 0) (f0 + 1))) 8).set (24 + 1) (f1 + 1))) ((a.set 0 (Int32.ofNat 1)).set 1 (Int32.ofNat 1)) b = own_sc (sB s 8 (((gB s 8).set 24 (f0 + 1)).set 25 (f1 + 1))) ((a.set 0 1).set 1 1) b := by
        rw [sB_sB]; rfl
      by_cases c4 : ((0 : Int32) + 1 + 1).toInt64 < left
      · rw [show (0 + Int32.ofNat 1 + 1) = (0 : Int32) + 1 + 1 from rfl, own_more (n + 7) 2 24 _ left _ (by decide) c4]
        refine (own_all _ (n + 4) _ _ _ _ _ ((get_set_ne _ (by decide)).trans (get_set_self _ (by omega))) (get_set_self _ (by rw [List.length_set]; omega))).trans ?_
        exact congrArg some e
      · rw [show (0 + Int32.ofNat 1 + 1) = (0 : Int32) + 1 + 1 from rfl, own_done (n + 7) 2 24 _ left _ c4]
        exact congrArg some e
theorem own_sc_self (s : St) : own_sc s (gA s 13) (gB s 9) = s := by
  unfold own_sc
  rw [sA_self (i := 13) rfl, sB_self (i := 9) rfl]
theorem own_spread (n : Nat) (tax y0 y1 bc : Int64) (s : St) (a : List Int32) (b : List Int64) (la : a.length = 8) (lb : b.length = 8) (h0 : (gB s 7)[24]? = some y0) (h1 : (gB s 7)[25]? = some y1) (hb : (gI s 1).toInt64 = bc) (l8 : (gB s 8).length = 128) :
    ∃ a' b' L, a'.length = 8 ∧ b'.length = 8 ∧ L.length = 128 ∧ L[24]? = some (own_T0 (tax - (0 + y0 * bc / 10000 + y1 * bc / 10000)) (y0 * bc - y0 * bc / 10000 * 10000) (y1 * bc - y1 * bc / 10000 * 10000) (y0 * bc / 10000)) ∧ L[25]? = some (own_T1 (tax - (0 + y0 * bc / 10000 + y1 * bc / 10000)) (y0 * bc - y0 * bc / 10000 * 10000) (y1 * bc - y1 * bc / 10000 * 10000) (y1 * bc / 10000)) ∧ (∀ j, 24 ≠ j → 25 ≠ j → L[j]? = (gB s 8)[j]?) ∧ f_spreadTax (n + 20) 3 2 tax (own_sc s a b) = some (own_sc (sB s 8 L) a' b') := by
  have e1 := own_tx1 (n + 19) 0 (by decide) tax 0 y0 bc s a b la lb h0 hb l8
  have e2 := own_tx1 (n + 18) 1 (by decide) tax (0 + y0 * bc / 10000) y1 bc (sB s 8 ((gB s 8).set (24 + 0) (y0 * bc / 10000))) (a.set 0 0) (b.set 0 (y0 * bc - y0 * bc / 10000 * 10000)) (by rw [List.length_set, la]) (by rw [List.length_set, lb]) h1 hb ((List.length_set).trans l8)
  generalize hs2 : sB (sB s 8 ((gB s 8).set (24 + 0) (y0 * bc / 10000))) 8 ((gB (sB s 8 ((gB s 8).set (24 + 0) (y0 * bc / 10000))) 8).set (24 + 1) (y1 * bc / 10000)) = s2 at e2
  have g8 : gB s2 8 = ((gB s 8).set 24 (y0 * bc / 10000)).set 25 (y1 * bc / 10000) := by subst hs2; rfl
  obtain ⟨a', b', la', lb', hh, e3⟩ := own_tx0 s2 24 tax (0 + y0 * bc / 10000 + y1 * bc / 10000) 2 (by decide) (n + 11) 6 2 rfl (by decide) ((a.set 0 0).set 1 0) ((b.set 0 (y0 * bc - y0 * bc / 10000 * 10000)).set 1 (y1 * bc - y1 * bc / 10000 * 10000)) (by rw [List.length_set, List.length_set, la]) (by rw [List.length_set, List.length_set, lb])
  obtain ⟨a2, la2, e4⟩ := own_left (n + 1) (tax - (0 + y0 * bc / 10000 + y1 * bc / 10000)) (y0 * bc - y0 * bc / 10000 * 10000) (y1 * bc - y1 * bc / 10000 * 10000) (y0 * bc / 10000) (y1 * bc / 10000) s2 a' b' la' ((hh 0 (by decide)).1.trans ((get_set_ne _ (by decide)).trans (get_set_self _ (by omega)))) ((hh 1 (by decide)).1.trans (get_set_self _ (by rw [List.length_set]; omega))) ((hh 0 (by decide)).2.trans ((get_set_ne _ (by decide)).trans (get_set_self _ (by omega)))) ((hh 1 (by decide)).2.trans (get_set_self _ (by rw [List.length_set]; omega))) (by rw [g8, List.length_set, List.length_set, l8]) (by rw [g8, get_set_ne _ (by decide), get_set_self _ (by omega)]) (by rw [g8, get_set_self _ (by rw [List.length_set]; omega)])
  generalize own_T0 (tax - (0 + y0 * bc / 10000 + y1 * bc / 10000)) (y0 * bc - y0 * bc / 10000 * 10000) (y1 * bc - y1 * bc / 10000 * 10000) (y0 * bc / 10000) = T0 at e4 ⊢
  generalize own_T1 (tax - (0 + y0 * bc / 10000 + y1 * bc / 10000)) (y0 * bc - y0 * bc / 10000 * 10000) (y1 * bc - y1 * bc / 10000 * 10000) (y1 * bc / 10000) = T1 at e4 ⊢
  refine ⟨a2, b', ((gB s2 8).set 24 T0).set 25 T1, la2, lb', ?_, ?_, ?_, ?_, ?_⟩
  · rw [g8, List.length_set, List.length_set, List.length_set, List.length_set, l8]
  · rw [get_set_ne _ (by decide), get_set_self _ (by rw [g8, List.length_set, List.length_set]; omega)]
  · rw [get_set_self _ (by rw [g8, List.length_set, List.length_set, List.length_set]; omega)]
  · intro j j1 j2
    rw [get_set_ne _ j2, get_set_ne _ j1, g8, get_set_ne _ j2, get_set_ne _ j1]
  · unfold f_spreadTax lt
    dsimp only
    rw [show (3 : Int32) * 8 = 24 from by decide]
    refine e1.trans (e2.trans (e3.trans (e4.trans ?_)))
    subst hs2
    rw [sB_sB, sB_sB]
abbrev own_Fi (s : St) (f d q u p : Int32) : Prop := (gI s 0 = 30) ∧ (own_Pr s u p) ∧ ((gA s 0)[0]? = some f) ∧ ((gA s 7)[12]? = some d) ∧ ((gA s 9)[12]? = some 0) ∧ ((gA s 10)[12]? = some q) ∧ ((gB s 7).length = 128) ∧ ((gB s 8).length = 128) ∧ (∀ i, 2 ≤ i → i < 8 → (gB s 7)[3 * 8 + i]? = some 0) ∧ (∀ i, 2 ≤ i → i < 8 → (gB s 8)[3 * 8 + i]? = some 0)
theorem own_Fi.i0 {s : St} {f d q u p : Int32} (h : own_Fi s f d q u p) : gI s 0 = 30 := h.1
theorem own_Fi.pr {s : St} {f d q u p : Int32} (h : own_Fi s f d q u p) : own_Pr s u p := h.2.1
theorem own_Fi.a0 {s : St} {f d q u p : Int32} (h : own_Fi s f d q u p) : (gA s 0)[0]? = some f := h.2.2.1
theorem own_Fi.a7 {s : St} {f d q u p : Int32} (h : own_Fi s f d q u p) : (gA s 7)[12]? = some d := h.2.2.2.1
theorem own_Fi.a9 {s : St} {f d q u p : Int32} (h : own_Fi s f d q u p) : (gA s 9)[12]? = some 0 := h.2.2.2.2.1
theorem own_Fi.a10 {s : St} {f d q u p : Int32} (h : own_Fi s f d q u p) : (gA s 10)[12]? = some q := h.2.2.2.2.2.1
theorem own_Fi.l7 {s : St} {f d q u p : Int32} (h : own_Fi s f d q u p) : (gB s 7).length = 128 := h.2.2.2.2.2.2.1
theorem own_Fi.l8 {s : St} {f d q u p : Int32} (h : own_Fi s f d q u p) : (gB s 8).length = 128 := h.2.2.2.2.2.2.2.1
theorem own_Fi.z7 {s : St} {f d q u p : Int32} (h : own_Fi s f d q u p) : ∀ i, 2 ≤ i → i < 8 → (gB s 7)[3 * 8 + i]? = some 0 := h.2.2.2.2.2.2.2.2.1
theorem own_Fi.z8 {s : St} {f d q u p : Int32} (h : own_Fi s f d q u p) : ∀ i, 2 ≤ i → i < 8 → (gB s 8)[3 * 8 + i]? = some 0 := h.2.2.2.2.2.2.2.2.2
def own_a0 (f d : Int32) : Int64 := f.toInt64 * 1000000 * 30 / 30 - f.toInt64 * 1000000 * d.toInt64 / 30
theorem own_fill (n : Nat) (s : St) (f d q u p : Int32) (A0 A1 : Int64) (h : own_Fi s f d q u p) (h8 : (gA s 8)[12]? = some 30) (hA : f.toInt64 * 1000000 * 30 / 30 - f.toInt64 * 1000000 * d.toInt64 / 30 = A0) (hc : f_charge (n + 29) 0 q.toInt64 s = some A1) :
    f_fillLines (n + 30) 3 1 s = some (0 + (A0 + A1), sB s 7 (((gB s 7).set 24 A0).set 25 A1)) := by
  have l7 := h.l7
  have l8 := h.l8
  have hl := own_fl0 (sB s 7 (((gB s 7).set 24 A0).set 25 A1)) 2 3 (by decide) (0 + (A0 + A1)) (fun i h1 h2 => (get_set_ne _ (by omega)).trans ((get_set_ne _ (by omega)).trans (h.z7 i h1 h2))) (fun i h1 h2 => h.z8 i h1 h2) (n + 21) 6 2 rfl (by decide)
  rw [show Int32.ofNat 3 * 8 = 24 from by decide] at hl
  have e : sB (sB s 7 ((gB s 7).set 24 A0)) 7 ((gB (sB s 7 ((gB s 7).set 24 A0)) 7).set 25 A1) = sB s 7 (((gB s 7).set 24 A0).set 25 A1) := by
    rw [sB_sB]; rfl
  have un : ∀ m v4 v6 t, f_fillLines_11 (m + 1) 3 1 24 v4 v6 t = g_fillLines_11 (f_fillLines_11 m) m 3 1 24 v4 v6 t := fun _ _ _ _ => rfl
  have un0 : ∀ m, f_fillLines m 3 1 s = f_fillLines_11 m 3 1 (3 * 8) 0 0 s := fun _ => rfl
  rw [un0, show (3 : Int32) * 8 = 24 from by decide, un (n + 29)]
  unfold g_fillLines_11 f_fillLines_69 lt
  rw [if_pos (by decide), if_pos (by decide)]
  dsimp only
  refine own_rr (k := 12) (by decide) h.a9 ?_
  refine own_rr (k := 12) (by decide) h8 ?_
  rw [if_neg (by decide)]
  refine own_rr (k := 12) (by decide) h8 ?_
  refine own_rr (k := 0) (by decide) h.a0 ?_
  rw [h.i0, show (30 : Int32).toInt64 = 30 from by decide, if_neg (by decide)]
  refine own_rr (k := 12) (by decide) h.a7 ?_
  rw [if_neg (by decide)]
  refine own_rr (k := 12) (by decide) h.a10 ?_
  rw [hc, Option.bind_some, hA]
  refine own_sb (k := 24) (by decide) (by omega) ?_
  refine own_sb (k := 25) (by decide) (show 25 < ((gB s 7).set 24 A0).length by rw [List.length_set]; omega) ?_
  rw [e, show (0 : Int32) + 1 = 1 from by decide, un (n + 28)]
  generalize sB s 7 (((gB s 7).set 24 A0).set 25 A1) = s' at hl ⊢
  unfold g_fillLines_11 f_fillLines_176 lt
  rw [if_pos (by decide), if_neg (by decide)]
  dsimp only
  rw [show (2 : Int32) * 1 = Int32.ofNat 2 from by decide]
  exact hl
abbrev own_Ac (s : St) (cy f d q u p : Int32) : Prop := (own_Fi s f d q u p) ∧ (gI s 3 = cy) ∧ ((gA s 4)[3]? = some 1) ∧ ((gA s 5)[3]? = some 0) ∧ ((gA s 6)[3]? = some 1) ∧ ((gA s 7).length = 64) ∧ ((gA s 8).length = 64) ∧ ((gA s 9).length = 64) ∧ ((gA s 10).length = 64) ∧ ((gA s 11).length = 16) ∧ ((gA s 12).length = 16) ∧ ((gA s 13).length = 8) ∧ ((gB s 9).length = 8) ∧ ((gB s 0)[3]? = some 0) ∧ ((gB s 2)[3]? = some 0) ∧ ((gB s 5)[3]? = some 0) ∧ ((gB s 3).length = 16) ∧ ((gB s 4).length = 16) ∧ ((gB s 6).length = 16)
theorem own_Ac.fi {s : St} {cy f d q u p : Int32} (h : own_Ac s cy f d q u p) : own_Fi s f d q u p := h.1
theorem own_Ac.i3 {s : St} {cy f d q u p : Int32} (h : own_Ac s cy f d q u p) : gI s 3 = cy := h.2.1
theorem own_Ac.a4 {s : St} {cy f d q u p : Int32} (h : own_Ac s cy f d q u p) : (gA s 4)[3]? = some 1 := h.2.2.1
theorem own_Ac.a5 {s : St} {cy f d q u p : Int32} (h : own_Ac s cy f d q u p) : (gA s 5)[3]? = some 0 := h.2.2.2.1
theorem own_Ac.a6 {s : St} {cy f d q u p : Int32} (h : own_Ac s cy f d q u p) : (gA s 6)[3]? = some 1 := h.2.2.2.2.1
theorem own_Ac.k7 {s : St} {cy f d q u p : Int32} (h : own_Ac s cy f d q u p) : (gA s 7).length = 64 := h.2.2.2.2.2.1
theorem own_Ac.k8 {s : St} {cy f d q u p : Int32} (h : own_Ac s cy f d q u p) : (gA s 8).length = 64 := h.2.2.2.2.2.2.1
theorem own_Ac.k9 {s : St} {cy f d q u p : Int32} (h : own_Ac s cy f d q u p) : (gA s 9).length = 64 := h.2.2.2.2.2.2.2.1
theorem own_Ac.k10 {s : St} {cy f d q u p : Int32} (h : own_Ac s cy f d q u p) : (gA s 10).length = 64 := h.2.2.2.2.2.2.2.2.1
theorem own_Ac.k11 {s : St} {cy f d q u p : Int32} (h : own_Ac s cy f d q u p) : (gA s 11).length = 16 := h.2.2.2.2.2.2.2.2.2.1
theorem own_Ac.k12 {s : St} {cy f d q u p : Int32} (h : own_Ac s cy f d q u p) : (gA s 12).length = 16 := h.2.2.2.2.2.2.2.2.2.2.1
theorem own_Ac.k13 {s : St} {cy f d q u p : Int32} (h : own_Ac s cy f d q u p) : (gA s 13).length = 8 := h.2.2.2.2.2.2.2.2.2.2.2.1
theorem own_Ac.m9 {s : St} {cy f d q u p : Int32} (h : own_Ac s cy f d q u p) : (gB s 9).length = 8 := h.2.2.2.2.2.2.2.2.2.2.2.2.1
theorem own_Ac.b0 {s : St} {cy f d q u p : Int32} (h : own_Ac s cy f d q u p) : (gB s 0)[3]? = some 0 := h.2.2.2.2.2.2.2.2.2.2.2.2.2.1
theorem own_Ac.b2 {s : St} {cy f d q u p : Int32} (h : own_Ac s cy f d q u p) : (gB s 2)[3]? = some 0 := h.2.2.2.2.2.2.2.2.2.2.2.2.2.2.1
theorem own_Ac.b5 {s : St} {cy f d q u p : Int32} (h : own_Ac s cy f d q u p) : (gB s 5)[3]? = some 0 := h.2.2.2.2.2.2.2.2.2.2.2.2.2.2.2.1
theorem own_Ac.m3 {s : St} {cy f d q u p : Int32} (h : own_Ac s cy f d q u p) : (gB s 3).length = 16 := h.2.2.2.2.2.2.2.2.2.2.2.2.2.2.2.2.1
theorem own_Ac.m4 {s : St} {cy f d q u p : Int32} (h : own_Ac s cy f d q u p) : (gB s 4).length = 16 := h.2.2.2.2.2.2.2.2.2.2.2.2.2.2.2.2.2.1
theorem own_Ac.m6 {s : St} {cy f d q u p : Int32} (h : own_Ac s cy f d q u p) : (gB s 6).length = 16 := h.2.2.2.2.2.2.2.2.2.2.2.2.2.2.2.2.2.2
/-- the outcome for customer 3 -/
abbrev own_Ou (s r : St) (A0 A1 sub tax T0 T1 : Int64) : Prop := (∀ j, gI r j = gI s j) ∧ (gA r 1 = gA s 1) ∧ (gA r 2 = gA s 2) ∧ (gA r 3 = gA s 3) ∧ (∀ c, c ≠ 3 → own_Z s c → own_Z r c) ∧ ((gA r 12).length = 16) ∧ ((gA r 13).length = 8) ∧ ((gB r 9).length = 8) ∧ ((gA r 12)[3]? = some (gI s 3)) ∧ ((gA r 11)[3]? = some 2) ∧ ((gB r 3)[3]? = some sub) ∧ ((gB r 4)[3]? = some tax) ∧ ((gB r 5)[3]? = some 0) ∧ ((gB r 6)[3]? = some (sub + tax - 0)) ∧ ((gB r 7)[24]? = some A0) ∧ ((gB r 7)[25]? = some A1) ∧ ((gB r 8)[24]? = some T0) ∧ ((gB r 8)[25]? = some T1) ∧ ((gA r 6)[3]? = some 1) ∧ ((gA r 10)[12]? = some 0)
theorem own_Ou.i {s r : St} {A0 A1 sub tax T0 T1 : Int64} (h : own_Ou s r A0 A1 sub tax T0 T1) : ∀ j, gI r j = gI s j := h.1
theorem own_Ou.a1 {s r : St} {A0 A1 sub tax T0 T1 : Int64} (h : own_Ou s r A0 A1 sub tax T0 T1) : gA r 1 = gA s 1 := h.2.1
theorem own_Ou.a2 {s r : St} {A0 A1 sub tax T0 T1 : Int64} (h : own_Ou s r A0 A1 sub tax T0 T1) : gA r 2 = gA s 2 := h.2.2.1
theorem own_Ou.a3 {s r : St} {A0 A1 sub tax T0 T1 : Int64} (h : own_Ou s r A0 A1 sub tax T0 T1) : gA r 3 = gA s 3 := h.2.2.2.1
theorem own_Ou.z {s r : St} {A0 A1 sub tax T0 T1 : Int64} (h : own_Ou s r A0 A1 sub tax T0 T1) : ∀ c, c ≠ 3 → own_Z s c → own_Z r c := h.2.2.2.2.1
theorem own_Ou.k12 {s r : St} {A0 A1 sub tax T0 T1 : Int64} (h : own_Ou s r A0 A1 sub tax T0 T1) : (gA r 12).length = 16 := h.2.2.2.2.2.1
theorem own_Ou.k13 {s r : St} {A0 A1 sub tax T0 T1 : Int64} (h : own_Ou s r A0 A1 sub tax T0 T1) : (gA r 13).length = 8 := h.2.2.2.2.2.2.1
theorem own_Ou.m9 {s r : St} {A0 A1 sub tax T0 T1 : Int64} (h : own_Ou s r A0 A1 sub tax T0 T1) : (gB r 9).length = 8 := h.2.2.2.2.2.2.2.1
theorem own_Ou.a12 {s r : St} {A0 A1 sub tax T0 T1 : Int64} (h : own_Ou s r A0 A1 sub tax T0 T1) : (gA r 12)[3]? = some (gI s 3) := h.2.2.2.2.2.2.2.2.1
theorem own_Ou.a11 {s r : St} {A0 A1 sub tax T0 T1 : Int64} (h : own_Ou s r A0 A1 sub tax T0 T1) : (gA r 11)[3]? = some 2 := h.2.2.2.2.2.2.2.2.2.1
theorem own_Ou.b3 {s r : St} {A0 A1 sub tax T0 T1 : Int64} (h : own_Ou s r A0 A1 sub tax T0 T1) : (gB r 3)[3]? = some sub := h.2.2.2.2.2.2.2.2.2.2.1
theorem own_Ou.b4 {s r : St} {A0 A1 sub tax T0 T1 : Int64} (h : own_Ou s r A0 A1 sub tax T0 T1) : (gB r 4)[3]? = some tax := h.2.2.2.2.2.2.2.2.2.2.2.1
theorem own_Ou.b5 {s r : St} {A0 A1 sub tax T0 T1 : Int64} (h : own_Ou s r A0 A1 sub tax T0 T1) : (gB r 5)[3]? = some 0 := h.2.2.2.2.2.2.2.2.2.2.2.2.1
theorem own_Ou.b6 {s r : St} {A0 A1 sub tax T0 T1 : Int64} (h : own_Ou s r A0 A1 sub tax T0 T1) : (gB r 6)[3]? = some (sub + tax - 0) := h.2.2.2.2.2.2.2.2.2.2.2.2.2.1
theorem own_Ou.b70 {s r : St} {A0 A1 sub tax T0 T1 : Int64} (h : own_Ou s r A0 A1 sub tax T0 T1) : (gB r 7)[24]? = some A0 := h.2.2.2.2.2.2.2.2.2.2.2.2.2.2.1
theorem own_Ou.b71 {s r : St} {A0 A1 sub tax T0 T1 : Int64} (h : own_Ou s r A0 A1 sub tax T0 T1) : (gB r 7)[25]? = some A1 := h.2.2.2.2.2.2.2.2.2.2.2.2.2.2.2.1
theorem own_Ou.b80 {s r : St} {A0 A1 sub tax T0 T1 : Int64} (h : own_Ou s r A0 A1 sub tax T0 T1) : (gB r 8)[24]? = some T0 := h.2.2.2.2.2.2.2.2.2.2.2.2.2.2.2.2.1
theorem own_Ou.b81 {s r : St} {A0 A1 sub tax T0 T1 : Int64} (h : own_Ou s r A0 A1 sub tax T0 T1) : (gB r 8)[25]? = some T1 := h.2.2.2.2.2.2.2.2.2.2.2.2.2.2.2.2.2.1
theorem own_Ou.a6 {s r : St} {A0 A1 sub tax T0 T1 : Int64} (h : own_Ou s r A0 A1 sub tax T0 T1) : (gA r 6)[3]? = some 1 := h.2.2.2.2.2.2.2.2.2.2.2.2.2.2.2.2.2.2.1
theorem own_Ou.a10 {s r : St} {A0 A1 sub tax T0 T1 : Int64} (h : own_Ou s r A0 A1 sub tax T0 T1) : (gA r 10)[12]? = some 0 := h.2.2.2.2.2.2.2.2.2.2.2.2.2.2.2.2.2.2.2
theorem own_act (n : Nat) (s : St) (cy f d q u p : Int32) (bc A0 A1 sub tax : Int64) (h : own_Ac s cy f d q u p) (hb : (gI s 1).toInt64 = bc) (hA : f.toInt64 * 1000000 * 30 / 30 - f.toInt64 * 1000000 * d.toInt64 / 30 = A0) (hc : ∀ m s, own_Pr s u p → f_charge (m + 20) 0 q.toInt64 s = some A1) (hsub : 0 + (A0 + A1) = sub) (htax : sub * bc / 10000 = tax) (hdue : ¬ sub + tax < 0) :
    ∃ r, own_Ou s r A0 A1 sub tax (own_T0 (tax - (0 + A0 * bc / 10000 + A1 * bc / 10000)) (A0 * bc - A0 * bc / 10000 * 10000) (A1 * bc - A1 * bc / 10000 * 10000) (A0 * bc / 10000)) (own_T1 (tax - (0 + A0 * bc / 10000 + A1 * bc / 10000)) (A0 * bc - A0 * bc / 10000 * 10000) (A1 * bc - A1 * bc / 10000 * 10000) (A1 * bc / 10000)) ∧ f_closeCycle_14 (n + 31) 0 3 s = f_closeCycle_14 (n + 30) 1 4 r := by
  have hf := h.fi
  have k7 := h.k7
  have k8 := h.k8
  have k9 := h.k9
  have k10 := h.k10
  have k11 := h.k11
  have k12 := h.k12
  have m3 := h.m3
  have m4 := h.m4
  have m6 := h.m6
  have l7 := hf.l7
  have l8 := hf.l8
  -- the lines
  have e1 := own_fill n (sA s 8 ((gA s 8).set 12 30)) f d q u p A0 A1 ⟨hf.i0, ⟨hf.pr.k1, hf.pr.u0, hf.pr.u1, hf.pr.u2, hf.pr.p0, hf.pr.p1, hf.pr.p2, hf.pr.p3⟩, hf.a0, hf.a7, hf.a9, hf.a10, hf.l7, hf.l8, hf.z7, hf.z8⟩ (get_set_self _ (by omega)) hA (hc (n + 9) _ ⟨hf.pr.k1, hf.pr.u0, hf.pr.u1, hf.pr.u2, hf.pr.p0, hf.pr.p1, hf.pr.p2, hf.pr.p3⟩)
  rw [hsub, show gB (sA s 8 ((gA s 8).set 12 30)) 7 = gB s 7 from rfl] at e1
  obtain ⟨a', b', L, la', lb', lL, hL0, hL1, hLj, e2⟩ := own_spread (n + 10) tax A0 A1 bc (sB (sA s 8 ((gA s 8).set 12 30)) 7 ((((gB s 7).set 24 A0).set 25 A1))) (gA s 13) (gB s 9) h.k13 h.m9 ((get_set_ne _ (by decide)).trans (get_set_self _ (by omega))) (get_set_self _ (by rw [List.length_set]; omega)) hb l8
  rw [show own_sc (sB (sA s 8 ((gA s 8).set 12 30)) 7 (((gB s 7).set 24 A0).set 25 A1)) (gA s 13) (gB s 9) = sB (sA s 8 ((gA s 8).set 12 30)) 7 (((gB s 7).set 24 A0).set 25 A1) from own_sc_self _] at e2
  generalize own_T0 (tax - (0 + A0 * bc / 10000 + A1 * bc / 10000)) (A0 * bc - A0 * bc / 10000 * 10000) (A1 * bc - A1 * bc / 10000 * 10000) (A0 * bc / 10000) = T0 at hL0 ⊢
  generalize own_T1 (tax - (0 + A0 * bc / 10000 + A1 * bc / 10000)) (A0 * bc - A0 * bc / 10000 * 10000) (A1 * bc - A1 * bc / 10000 * 10000) (A1 * bc / 10000) = T1 at hL1 ⊢
  generalize hw : own_sc (sB (sB (sA s 8 ((gA s 8).set 12 30)) 7 (((gB s 7).set 24 A0).set 25 A1)) 8 L) a' b' = w at e2
  -- the arrays of w
  have wI : ∀ j, gI w j = gI s j := by subst hw; exact fun _ => rfl
  have w1 : gA w 1 = gA s 1 := by subst hw; rfl
  have w2 : gA w 2 = gA s 2 := by subst hw; rfl
  have w3 : gA w 3 = gA s 3 := by subst hw; rfl
  have w4 : gA w 4 = gA s 4 := by subst hw; rfl
  have w5 : gA w 5 = gA s 5 := by subst hw; rfl
  have w6 : gA w 6 = gA s 6 := by subst hw; rfl
  have w7 : gA w 7 = gA s 7 := by subst hw; rfl
  have w8 : gA w 8 = (gA s 8).set 12 30 := by subst hw; rfl
  have w9 : gA w 9 = gA s 9 := by subst hw; rfl
  have w10 : gA w 10 = gA s 10 := by subst hw; rfl
  have w11 : gA w 11 = gA s 11 := by subst hw; rfl
  have w12 : gA w 12 = gA s 12 := by subst hw; rfl
  have w13 : gA w 13 = a' := by subst hw; rfl
  have x0 : gB w 0 = gB s 0 := by subst hw; rfl
  have x2 : gB w 2 = gB s 2 := by subst hw; rfl
  have x3 : gB w 3 = gB s 3 := by subst hw; rfl
  have x4 : gB w 4 = gB s 4 := by subst hw; rfl
  have x5 : gB w 5 = gB s 5 := by subst hw; rfl
  have x6 : gB w 6 = gB s 6 := by subst hw; rfl
  have x7 : gB w 7 = ((gB s 7).set 24 A0).set 25 A1 := by subst hw; rfl
  have x8 : gB w 8 = L := by subst hw; rfl
  have x9 : gB w 9 = b' := by subst hw; rfl
  clear hw
  -- the invoice
  have e3 : f_buildInvoice (n + 30) 3 (sA s 8 ((gA s 8).set 12 30)) = some (sA (sB (sB (sB (sA w 11 ((gA w 11).set 3 2)) 3 ((gB w 3).set 3 sub)) 4 ((gB w 4).set 3 tax)) 6 ((gB w 6).set 3 (sub + tax - 0))) 12 ((gA w 12).set 3 (gI w 3))) := by
    have un1 : ∀ m s, f_buildInvoice m 3 s = (rd (gA s 6) 3).bind fun x1 => if x1 < 0 then f_buildInvoice_13 m 3 0 s else f_buildInvoice_13 m 3 x1 s := fun _ _ => rfl
    have un2 : ∀ m s, f_buildInvoice_13 m 3 1 s = if (4 : Int32) < 1 then f_buildInvoice_20 m 3 4 s else f_buildInvoice_20 m 3 1 s := fun _ _ => rfl
    have un3 : ∀ m s, f_buildInvoice_20 m 3 1 s = (f_fillLines m 3 1 s).bind fun c2 => (f_spreadTax m 3 2 (c2.1 * (gI c2.2 1).toInt64 / 10000) c2.2).bind fun c4 => (rd (gB c4 0) 3).bind fun x6 => if x6 < c2.1 + c2.1 * (gI c2.2 1).toInt64 / 10000 then (rd (gB c4 0) 3).bind fun x8 => f_buildInvoice_84 m 3 1 2 c2.1 (c2.1 * (gI c2.2 1).toInt64 / 10000) (c2.1 + c2.1 * (gI c2.2 1).toInt64 / 10000) x8 c4 else f_buildInvoice_84 m 3 1 2 c2.1 (c2.1 * (gI c2.2 1).toInt64 / 10000) (c2.1 + c2.1 * (gI c2.2 1).toInt64 / 10000) (c2.1 + c2.1 * (gI c2.2 1).toInt64 / 10000) c4 := fun _ _ => rfl
    rw [un1]
    refine own_rr (k := 3) (by decide) h.a6 ?_
    rw [if_neg (by decide), un2, if_neg (by decide), un3, e1, Option.bind_some]
    dsimp only
    rw [show (gI (sB (sA s 8 ((gA s 8).set 12 30)) 7 (((gB s 7).set 24 A0).set 25 A1)) 1).toInt64 = bc from hb, htax, show n + 30 = n + 10 + 20 from rfl, show f_spreadTax (n + 10 + 20) 3 2 tax (sB (sA s 8 ((gA s 8).set 12 30)) 7 (((gB s 7).set 24 A0).set 25 A1)) = some w from e2, Option.bind_some]
    refine own_rr (k := 3) (by decide) (by rw [x0]; exact h.b0) ?_
    have fin : ∀ m, f_buildInvoice_93 m 3 2 sub tax (sub + tax) 0 w = some (sA (sB (sB (sB (sA w 11 ((gA w 11).set 3 2)) 3 ((gB w 3).set 3 sub)) 4 ((gB w 4).set 3 tax)) 6 ((gB w 6).set 3 (sub + tax - 0))) 12 ((gA w 12).set 3 (gI w 3))) := fun m => by
      unfold f_buildInvoice_93
      refine own_rr (k := 3) (by decide) (by rw [x0]; exact h.b0) ?_
      rw [show (0 : Int64) - 0 = 0 from by decide, own_wB (k := 3) (by decide) (show (gB w 0)[3]? = some 0 by rw [x0]; exact h.b0), Option.bind_some]
      refine own_rr (k := 3) (by decide) (by rw [x2]; exact h.b2) ?_
      rw [show (0 : Int64) + 0 = 0 from by decide, own_wB (k := 3) (by decide) (show (gB w 2)[3]? = some 0 by rw [x2]; exact h.b2), Option.bind_some]
      refine own_sa (k := 3) (by decide) (by rw [w11]; omega) ?_
      refine own_sb (k := 3) (by decide) (show 3 < (gB w 3).length by rw [x3]; omega) ?_
      refine own_sb (k := 3) (by decide) (show 3 < (gB w 4).length by rw [x4]; omega) ?_
      refine own_wBb (k := 3) (by decide) (show (gB w 5)[3]? = some 0 by rw [x5]; exact h.b5) ?_
      refine own_sb (k := 3) (by decide) (show 3 < (gB w 6).length by rw [x6]; omega) ?_
      exact own_sa (k := 3) (by decide) (show 3 < (gA w 12).length by rw [w12]; omega) rfl
    have un4 : ∀ m t, f_buildInvoice_84 m 3 1 2 sub tax (sub + tax) t w = f_buildInvoice_93 m 3 2 sub tax (sub + tax) t w := fun m t => by
      unfold f_buildInvoice_84; rw [if_neg (by decide)]
    by_cases c : 0 < sub + tax
    · rw [if_pos c]
      refine own_rr (k := 3) (by decide) (by rw [x0]; exact h.b0) ?_
      rw [un4]; exact fin _
    · have e0 : sub + tax = 0 := by
        rw [x64_lt] at c hdue
        rw [x64_eq]
        have : (0 : Int64).toInt = 0 := by decide
        omega
      rw [if_neg c, un4]
      have := fin (n + 10 + 20)
      rw [e0] at this ⊢
      exact this
  obtain ⟨v, hv⟩ : ∃ v, sA (sB (sB (sB (sA w 11 ((gA w 11).set 3 2)) 3 ((gB w 3).set 3 sub)) 4 ((gB w 4).set 3 tax)) 6 ((gB w 6).set 3 (sub + tax - 0))) 12 ((gA w 12).set 3 (gI w 3)) = v := ⟨_, rfl⟩
  rw [hv] at e3
  have vI : ∀ j, gI v j = gI s j := by subst hv; exact wI
  have v1 : gA v 1 = gA s 1 := by subst hv; exact w1
  have v2 : gA v 2 = gA s 2 := by subst hv; exact w2
  have v3 : gA v 3 = gA s 3 := by subst hv; exact w3
  have v4 : gA v 4 = gA s 4 := by subst hv; exact w4
  have v5 : gA v 5 = gA s 5 := by subst hv; exact w5
  have v6 : gA v 6 = gA s 6 := by subst hv; exact w6
  have v7 : gA v 7 = gA s 7 := by subst hv; exact w7
  have v9 : gA v 9 = gA s 9 := by subst hv; exact w9
  have v10 : gA v 10 = gA s 10 := by subst hv; exact w10
  have v8 : gA v 8 = (gA s 8).set 12 30 := by subst hv; exact w8
  have v13 : gA v 13 = a' := by subst hv; exact w13
  have v11 : gA v 11 = (gA s 11).set 3 2 := by subst hv; exact by rw [← w11]; rfl
  have v12 : gA v 12 = (gA s 12).set 3 (gI s 3) := by subst hv; exact by rw [← w12, ← wI]; rfl
  have y0 : gB v 0 = gB s 0 := by subst hv; exact x0
  have y2 : gB v 2 = gB s 2 := by subst hv; exact x2
  have y5 : gB v 5 = gB s 5 := by subst hv; exact x5
  have y3 : gB v 3 = (gB s 3).set 3 sub := by subst hv; exact by rw [← x3]; rfl
  have y4 : gB v 4 = (gB s 4).set 3 tax := by subst hv; exact by rw [← x4]; rfl
  have y6 : gB v 6 = (gB s 6).set 3 (sub + tax - 0) := by subst hv; exact by rw [← x6]; rfl
  have y7 : gB v 7 = ((gB s 7).set 24 A0).set 25 A1 := by subst hv; exact x7
  have y8 : gB v 8 = L := by subst hv; exact x8
  have y9 : gB v 9 = b' := by subst hv; exact x9
  clear hv
  have l6 : 3 < (gA s 6).length := (List.getElem?_eq_some_iff.mp h.a6).1
  have e4 := own_ap (sA v 6 ((gA v 6).set 3 0)) 0 0 (get_set_self _ (by rw [v6]; exact l6)) (show (gA v 7).length = 64 by rw [v7]; exact k7) (show (gA v 8).length = 64 by rw [v8, List.length_set]; exact k8) (show (gA v 9).length = 64 by rw [v9]; exact k9) (show (gA v 10).length = 64 by rw [v10]; exact k10)
  refine ⟨own_app (sA v 6 ((gA v 6).set 3 0)) 0 0, ?_, ?_⟩
  · have ne : ∀ c, c ≠ 3 → ∀ i, i < 8 → ¬ 24 = c * 8 + i ∧ ¬ 25 = c * 8 + i := fun c hc i hi => by omega
    refine ⟨?_, ?_, ?_, ?_, ?_, ?_, ?_, ?_, ?_, ?_, ?_, ?_, ?_, ?_, ?_, ?_, ?_, ?_, ?_, ?_⟩
    · exact vI
    · exact v1
    · exact v2
    · exact v3
    · intro c hc z
      have hc' : 3 ≠ c := Ne.symm hc
      refine ⟨?_, ?_, ?_, ?_, ?_, ?_, ?_, ?_, ?_, ?_, ?_⟩
      · show (((gA v 6).set 3 0).set 3 1)[c]? = _
        rw [get_set_ne _ hc', get_set_ne _ hc', v6]; exact z.a6
      · show (gA v 4)[c]? = _
        rw [v4]; exact z.a4
      · show (gA v 11)[c]? = _
        rw [v11, get_set_ne _ hc']; exact z.a11
      · show (gB v 0)[c]? = _
        rw [y0]; exact z.b0
      · show (gB v 2)[c]? = _
        rw [y2]; exact z.b2
      · show (gB v 3)[c]? = _
        rw [y3, get_set_ne _ hc']; exact z.b3
      · show (gB v 4)[c]? = _
        rw [y4, get_set_ne _ hc']; exact z.b4
      · show (gB v 5)[c]? = _
        rw [y5]; exact z.b5
      · show (gB v 6)[c]? = _
        rw [y6, get_set_ne _ hc']; exact z.b6
      · intro i hi; show (gB v 7)[c * 8 + i]? = _
        rw [y7, get_set_ne _ (ne c hc i hi).2, get_set_ne _ (ne c hc i hi).1]; exact z.b7 i hi
      · intro i hi; show (gB v 8)[c * 8 + i]? = _
        rw [y8, hLj _ (ne c hc i hi).1 (ne c hc i hi).2]; exact z.b8 i hi
    · show (gA v 12).length = _
      rw [v12, List.length_set]; exact k12
    · show (gA v 13).length = _
      rw [v13]; exact la'
    · show (gB v 9).length = _
      rw [y9]; exact lb'
    · show (gA v 12)[3]? = _
      rw [v12, get_set_self _ (by omega)]
    · show (gA v 11)[3]? = _
      rw [v11, get_set_self _ (by omega)]
    · show (gB v 3)[3]? = _
      rw [y3, get_set_self _ (by omega)]
    · show (gB v 4)[3]? = _
      rw [y4, get_set_self _ (by omega)]
    · show (gB v 5)[3]? = _
      rw [y5]; exact h.b5
    · show (gB v 6)[3]? = _
      rw [y6, get_set_self _ (by omega)]
    · show (gB v 7)[24]? = _
      rw [y7, get_set_ne _ (by decide), get_set_self _ (by omega)]
    · show (gB v 7)[25]? = _
      rw [y7, get_set_self _ (by rw [List.length_set]; omega)]
    · show (gB v 8)[24]? = _
      rw [y8]; exact hL0
    · show (gB v 8)[25]? = _
      rw [y8]; exact hL1
    · show (((gA v 6).set 3 0).set 3 1)[3]? = _
      rw [get_set_self _ (by rw [List.length_set, v6]; exact l6)]
    · show ((gA v 10).set 12 0)[12]? = _
      rw [get_set_self _ (by rw [v10]; omega)]
  · have un5 : ∀ m v1 s, f_closeCycle_14 (m + 1) v1 3 s = g_closeCycle_14 (f_closeCycle_14 m) m v1 3 s := fun _ _ _ => rfl
    have un6 : ∀ k14 m v1 s, g_closeCycle_14 k14 m v1 3 s = if (3 : Int32) < 16 then (rd (gA s 6) 3).bind fun x2 => if 0 < x2 then f_closeCycle_32 k14 m (v1 + 1) 3 s else f_closeCycle_32 k14 m v1 3 s else some (v1, sI s 2 0) := fun _ _ _ _ => rfl
    have un7 : ∀ k14 m v1 s, f_closeCycle_32 k14 m v1 3 s = (f_openSlot 3 s).bind fun c1 => if c1 < 0 then f_closeCycle_52 k14 m v1 3 s else (wrA s 8 c1 (gI s 0)).bind fun s3 => f_closeCycle_52 k14 m v1 3 s3 := fun _ _ _ _ => rfl
    have un8 : ∀ k14 m v1 s, f_closeCycle_52 k14 m v1 3 s = (f_buildInvoice m 3 s).bind fun c1 => (wrA c1 6 3 0).bind fun s2 => (rd (gA s2 4) 3).bind fun x3 => if x3 = 0 then k14 v1 (3 + 1) s2 else (rd (gA s2 5) 3).bind fun x5 => (f_appendSegment 3 0 x5 s2).bind fun c6 => k14 v1 (3 + 1) c6 := fun _ _ _ _ => rfl
    rw [un5 (n + 30), un6, if_pos (by decide)]
    refine own_rr (k := 3) (by decide) h.a6 ?_
    rw [if_pos (by decide), un7, own_os s h.a4 h.a6, Option.bind_some, if_neg (by decide), hf.i0]
    refine own_sa (k := 12) (by decide) (by omega) ?_
    rw [un8, e3, Option.bind_some]
    refine own_sa (k := 3) (by decide) (by rw [v6]; exact l6) ?_
    refine own_rr (k := 3) (by decide) (show (gA v 4)[3]? = some 1 by rw [v4]; exact h.a4) ?_
    rw [if_neg (by decide)]
    refine own_rr (k := 3) (by decide) (show (gA v 5)[3]? = some 0 by rw [v5]; exact h.a5) ?_
    rw [e4, Option.bind_some, show (0 : Int32) + 1 = 1 from by decide, show (3 : Int32) + 1 = 4 from by decide]
theorem own_app_A (s : St) (d p : Int32) (j : Nat) : gA (own_app s d p) j = if j = 6 then (gA s 6).set 3 1 else if j = 10 then (gA s 10).set 12 0 else if j = 9 then (gA s 9).set 12 p else if j = 8 then (gA s 8).set 12 (-1) else if j = 7 then (gA s 7).set 12 d else gA s j := by
  unfold own_app
  rw [gA_sA, gA_sA, gA_sA, gA_sA, gA_sA]
abbrev own_Ba (s : St) (b : Int32) : Prop := (gI s 0 = 30) ∧ (gI s 1 = b) ∧ (gI s 2 = 0) ∧ (gI s 3 = 0) ∧ (gA s 0 = List.replicate 8 0) ∧ (gA s 1 = List.replicate 8 0) ∧ (gA s 2 = List.replicate 32 1000000) ∧ (gA s 3 = List.replicate 32 0) ∧ (gA s 4 = List.replicate 16 0) ∧ (gA s 5 = List.replicate 16 0) ∧ (gA s 6 = List.replicate 16 0) ∧ (gA s 7 = List.replicate 64 0) ∧ (gA s 8 = List.replicate 64 0) ∧ (gA s 9 = List.replicate 64 0) ∧ (gA s 10 = List.replicate 64 0) ∧ (gA s 11 = List.replicate 16 0) ∧ (gA s 12 = List.replicate 16 0) ∧ (gA s 13 = List.replicate 8 0) ∧ (gB s 0 = List.replicate 16 0) ∧ (gB s 2 = List.replicate 16 0) ∧ (gB s 3 = List.replicate 16 0) ∧ (gB s 4 = List.replicate 16 0) ∧ (gB s 5 = List.replicate 16 0) ∧ (gB s 6 = List.replicate 16 0) ∧ (gB s 7 = List.replicate 128 0) ∧ (gB s 8 = List.replicate 128 0) ∧ (gB s 9 = List.replicate 8 0)
theorem own_Ba.i0 {s : St} {b : Int32} (h : own_Ba s b) : gI s 0 = 30 := h.1
theorem own_Ba.i1 {s : St} {b : Int32} (h : own_Ba s b) : gI s 1 = b := h.2.1
theorem own_Ba.i2 {s : St} {b : Int32} (h : own_Ba s b) : gI s 2 = 0 := h.2.2.1
theorem own_Ba.i3 {s : St} {b : Int32} (h : own_Ba s b) : gI s 3 = 0 := h.2.2.2.1
theorem own_Ba.a0 {s : St} {b : Int32} (h : own_Ba s b) : gA s 0 = List.replicate 8 0 := h.2.2.2.2.1
theorem own_Ba.a1 {s : St} {b : Int32} (h : own_Ba s b) : gA s 1 = List.replicate 8 0 := h.2.2.2.2.2.1
theorem own_Ba.a2 {s : St} {b : Int32} (h : own_Ba s b) : gA s 2 = List.replicate 32 1000000 := h.2.2.2.2.2.2.1
theorem own_Ba.a3 {s : St} {b : Int32} (h : own_Ba s b) : gA s 3 = List.replicate 32 0 := h.2.2.2.2.2.2.2.1
theorem own_Ba.a4 {s : St} {b : Int32} (h : own_Ba s b) : gA s 4 = List.replicate 16 0 := h.2.2.2.2.2.2.2.2.1
theorem own_Ba.a5 {s : St} {b : Int32} (h : own_Ba s b) : gA s 5 = List.replicate 16 0 := h.2.2.2.2.2.2.2.2.2.1
theorem own_Ba.a6 {s : St} {b : Int32} (h : own_Ba s b) : gA s 6 = List.replicate 16 0 := h.2.2.2.2.2.2.2.2.2.2.1
theorem own_Ba.a7 {s : St} {b : Int32} (h : own_Ba s b) : gA s 7 = List.replicate 64 0 := h.2.2.2.2.2.2.2.2.2.2.2.1
theorem own_Ba.a8 {s : St} {b : Int32} (h : own_Ba s b) : gA s 8 = List.replicate 64 0 := h.2.2.2.2.2.2.2.2.2.2.2.2.1
theorem own_Ba.a9 {s : St} {b : Int32} (h : own_Ba s b) : gA s 9 = List.replicate 64 0 := h.2.2.2.2.2.2.2.2.2.2.2.2.2.1
theorem own_Ba.a10 {s : St} {b : Int32} (h : own_Ba s b) : gA s 10 = List.replicate 64 0 := h.2.2.2.2.2.2.2.2.2.2.2.2.2.2.1
theorem own_Ba.a11 {s : St} {b : Int32} (h : own_Ba s b) : gA s 11 = List.replicate 16 0 := h.2.2.2.2.2.2.2.2.2.2.2.2.2.2.2.1
theorem own_Ba.a12 {s : St} {b : Int32} (h : own_Ba s b) : gA s 12 = List.replicate 16 0 := h.2.2.2.2.2.2.2.2.2.2.2.2.2.2.2.2.1
theorem own_Ba.a13 {s : St} {b : Int32} (h : own_Ba s b) : gA s 13 = List.replicate 8 0 := h.2.2.2.2.2.2.2.2.2.2.2.2.2.2.2.2.2.1
theorem own_Ba.b0 {s : St} {b : Int32} (h : own_Ba s b) : gB s 0 = List.replicate 16 0 := h.2.2.2.2.2.2.2.2.2.2.2.2.2.2.2.2.2.2.1
theorem own_Ba.b2 {s : St} {b : Int32} (h : own_Ba s b) : gB s 2 = List.replicate 16 0 := h.2.2.2.2.2.2.2.2.2.2.2.2.2.2.2.2.2.2.2.1
theorem own_Ba.b3 {s : St} {b : Int32} (h : own_Ba s b) : gB s 3 = List.replicate 16 0 := h.2.2.2.2.2.2.2.2.2.2.2.2.2.2.2.2.2.2.2.2.1
theorem own_Ba.b4 {s : St} {b : Int32} (h : own_Ba s b) : gB s 4 = List.replicate 16 0 := h.2.2.2.2.2.2.2.2.2.2.2.2.2.2.2.2.2.2.2.2.2.1
theorem own_Ba.b5 {s : St} {b : Int32} (h : own_Ba s b) : gB s 5 = List.replicate 16 0 := h.2.2.2.2.2.2.2.2.2.2.2.2.2.2.2.2.2.2.2.2.2.2.1
theorem own_Ba.b6 {s : St} {b : Int32} (h : own_Ba s b) : gB s 6 = List.replicate 16 0 := h.2.2.2.2.2.2.2.2.2.2.2.2.2.2.2.2.2.2.2.2.2.2.2.1
theorem own_Ba.b7 {s : St} {b : Int32} (h : own_Ba s b) : gB s 7 = List.replicate 128 0 := h.2.2.2.2.2.2.2.2.2.2.2.2.2.2.2.2.2.2.2.2.2.2.2.2.1
theorem own_Ba.b8 {s : St} {b : Int32} (h : own_Ba s b) : gB s 8 = List.replicate 128 0 := h.2.2.2.2.2.2.2.2.2.2.2.2.2.2.2.2.2.2.2.2.2.2.2.2.2.1
theorem own_Ba.b9 {s : St} {b : Int32} (h : own_Ba s b) : gB s 9 = List.replicate 8 0 := h.2.2.2.2.2.2.2.2.2.2.2.2.2.2.2.2.2.2.2.2.2.2.2.2.2.2
theorem own_setup (s : St) (b f d q u p : Int32) (h : own_Ba s b) (f0 : ¬ f < 0) (f1 : ¬ 1000000 < f) (u0 : ¬ u < 0) (u1 : ¬ 1000000 < u) (p0 : ¬ p < 0) (p1 : ¬ 100000000 < p) (d0 : ¬ d < 0) (d1 : ¬ 29 < d) (q0 : ¬ q < 1) (q1 : ¬ 10000 < q) :
    ∃ c2 c4 c6 c8 c10, f_setPlan 0 f 0 s = some (1, c2) ∧ f_setTier 0 0 u p c2 = some (1, c4) ∧ f_setTier 0 1 1000000 7000 c4 = some (1, c6) ∧ f_subscribe 3 0 d c6 = some (1, c8) ∧ f_recordUsage 3 d q c8 = some (1, c10) ∧ gI c10 3 = 0 ∧ gI c10 1 = b ∧ own_Ac c10 0 f d q u p ∧ (∀ c, c ≠ 3 → c < 16 → own_Z c10 c) ∧ gA c10 12 = List.replicate 16 0 := by
  obtain ⟨c2, h2⟩ : ∃ x, x = sA (sA s 0 ((gA s 0).set 0 f)) 1 ((gA s 1).set 0 0) := ⟨_, rfl⟩
  have e2 := own_sp f s f0 f1 (by rw [h.a0]; rfl) (by rw [h.a1]; rfl)
  rw [← h2] at e2
  have A2 : ∀ j, gA c2 j = if j = 1 then (gA s 1).set 0 0 else if j = 0 then (gA s 0).set 0 f else gA s j := fun j => by rw [h2, gA_sA, gA_sA]
  have B2 : ∀ j, gB c2 j = gB s j := fun j => by rw [h2, gB_sA, gB_sA]
  have I2 : ∀ j, gI c2 j = gI s j := fun j => by rw [h2, gI_sA, gI_sA]
  clear h2
  obtain ⟨c4, h4⟩ : ∃ x, x = sA (sA c2 2 ((gA c2 2).set 0 u)) 3 ((gA c2 3).set 0 p) := ⟨_, rfl⟩
  have e4 := own_st 0 0 (by decide) rfl u p c2 u0 u1 p0 p1 (by rw [show gA c2 2 = gA s 2 from A2 2, h.a2]; rfl) (by rw [show gA c2 3 = gA s 3 from A2 3, h.a3]; rfl)
  rw [← h4] at e4
  have A4 : ∀ j, gA c4 j = if j = 3 then (gA c2 3).set 0 p else if j = 2 then (gA c2 2).set 0 u else gA c2 j := fun j => by rw [h4, gA_sA, gA_sA]
  have B4 : ∀ j, gB c4 j = gB c2 j := fun j => by rw [h4, gB_sA, gB_sA]
  have I4 : ∀ j, gI c4 j = gI c2 j := fun j => by rw [h4, gI_sA, gI_sA]
  clear h4
  have g42 : gA c4 2 = (List.replicate 32 1000000).set 0 u := (A4 2).trans (by rw [if_neg (by decide), if_pos rfl, show gA c2 2 = gA s 2 from A2 2, h.a2])
  have g43 : gA c4 3 = (List.replicate 32 0).set 0 p := (A4 3).trans (by rw [if_pos rfl, show gA c2 3 = gA s 3 from A2 3, h.a3])
  obtain ⟨c6, h6⟩ : ∃ x, x = sA (sA c4 2 ((gA c4 2).set 1 1000000)) 3 ((gA c4 3).set 1 7000) := ⟨_, rfl⟩
  have e6 := own_st 1 1 (by decide) rfl 1000000 7000 c4 (by decide) (by decide) (by decide) (by decide) (by rw [g42, List.length_set, List.length_replicate]) (by rw [g43, List.length_set, List.length_replicate])
  rw [← h6] at e6
  have A6 : ∀ j, gA c6 j = if j = 3 then (gA c4 3).set 1 7000 else if j = 2 then (gA c4 2).set 1 1000000 else gA c4 j := fun j => by rw [h6, gA_sA, gA_sA]
  have B6 : ∀ j, gB c6 j = gB s j := fun j => by rw [h6, gB_sA, gB_sA, B4, B2]
  have I6 : ∀ j, gI c6 j = gI s j := fun j => by rw [h6, gI_sA, gI_sA, I4, I2]
  clear h6
  have o6 : ∀ j, j ≠ 0 → j ≠ 1 → j ≠ 2 → j ≠ 3 → gA c6 j = gA s j := fun j n0 n1 n2 n3 => by rw [A6, if_neg n3, if_neg n2, A4, if_neg n3, if_neg n2, A2, if_neg n1, if_neg n0]
  have v6 : f_validDay d c6 = some 1 := own_vd d c6 (by rw [I6, h.i2]; exact d0) (by rw [I6, h.i0]; exact d1)
  obtain ⟨c8, h8⟩ : ∃ x, x = sI (sA (sA (own_app c6 d 0) 4 ((gA c6 4).set 3 1)) 5 ((gA c6 5).set 3 0)) 2 d := ⟨_, rfl⟩
  have e8 := own_sub d c6 (by rw [o6 4 (by decide) (by decide) (by decide) (by decide), h.a4]; rfl) (by rw [o6 6 (by decide) (by decide) (by decide) (by decide), h.a6]; rfl) (by rw [o6 5 (by decide) (by decide) (by decide) (by decide), h.a5]; rfl) (by rw [o6 7 (by decide) (by decide) (by decide) (by decide), h.a7]; rfl) (by rw [o6 8 (by decide) (by decide) (by decide) (by decide), h.a8]; rfl) (by rw [o6 9 (by decide) (by decide) (by decide) (by decide), h.a9]; rfl) (by rw [o6 10 (by decide) (by decide) (by decide) (by decide), h.a10]; rfl) v6
  rw [← h8] at e8
  have A8 : ∀ j, gA c8 j = if j = 5 then (gA c6 5).set 3 0 else if j = 4 then (gA c6 4).set 3 1 else gA (own_app c6 d 0) j := fun j => by rw [h8, gA_sI, gA_sA, gA_sA]
  have B8 : ∀ j, gB c8 j = gB s j := fun j => by rw [h8, gB_sI, gB_sA, gB_sA]; exact B6 j
  have I8 : ∀ j, gI c8 j = if j = 2 then d else gI s j := fun j => by rw [h8, gI_sI, gI_sA, gI_sA, ← I6 j]; rfl
  clear h8
  have g84 : gA c8 4 = (List.replicate 16 0).set 3 1 := (A8 4).trans (by rw [if_neg (by decide), if_pos rfl, o6 4 (by decide) (by decide) (by decide) (by decide), h.a4])
  have g86 : gA c8 6 = (List.replicate 16 0).set 3 1 := (A8 6).trans (by rw [if_neg (by decide), if_neg (by decide), own_app_A, if_pos rfl, o6 6 (by decide) (by decide) (by decide) (by decide), h.a6])
  have g810 : gA c8 10 = (List.replicate 64 0).set 12 0 := (A8 10).trans (by rw [if_neg (by decide), if_neg (by decide), own_app_A, if_neg (by decide), if_pos rfl, o6 10 (by decide) (by decide) (by decide) (by decide), h.a10])
  obtain ⟨c10, h10⟩ : ∃ x, x = sI (sA c8 10 ((gA c8 10).set 12 q)) 2 d := ⟨_, rfl⟩
  have hdd : ¬ d < d := by rw [x32_lt]; omega
  have e10 := own_ru d q c8 (by rw [g84]; rfl) (by rw [g86]; rfl) (by rw [g810]; rfl) (own_vd d c8 (by rw [I8, if_pos rfl]; exact hdd) (by rw [I8, if_neg (by decide), h.i0]; exact d1)) q0 q1
  rw [← h10] at e10
  have A10 : ∀ j, gA c10 j = if j = 10 then (gA c8 10).set 12 q else gA c8 j := fun j => by rw [h10, gA_sI, gA_sA]
  have B10 : ∀ j, gB c10 j = gB s j := fun j => by rw [h10, gB_sI, gB_sA, B8]
  have I10 : ∀ j, gI c10 j = if j = 2 then d else gI s j := fun j => by rw [h10, gI_sI, gI_sA, I8]; split <;> rfl
  clear h10
  have o10 : ∀ j, j ≠ 10 → j ≠ 5 → j ≠ 4 → j ≠ 6 → j ≠ 9 → j ≠ 8 → j ≠ 7 → gA c10 j = gA c6 j := fun j n0 n1 n2 n3 n4 n5 n6 => by rw [A10, if_neg n0, A8, if_neg n1, if_neg n2, own_app_A, if_neg n3, if_neg n0, if_neg n4, if_neg n5, if_neg n6]
  have g0 : gA c10 0 = (List.replicate 8 0).set 0 f := (o10 0 (by decide) (by decide) (by decide) (by decide) (by decide) (by decide) (by decide)).trans (by rw [A6, if_neg (by decide), if_neg (by decide), A4, if_neg (by decide), if_neg (by decide), A2, if_neg (by decide), if_pos rfl, h.a0])
  have g1 : gA c10 1 = (List.replicate 8 0).set 0 0 := (o10 1 (by decide) (by decide) (by decide) (by decide) (by decide) (by decide) (by decide)).trans (by rw [A6, if_neg (by decide), if_neg (by decide), A4, if_neg (by decide), if_neg (by decide), A2, if_pos rfl, h.a1])
  have g2 : gA c10 2 = ((List.replicate 32 1000000).set 0 u).set 1 1000000 := (o10 2 (by decide) (by decide) (by decide) (by decide) (by decide) (by decide) (by decide)).trans (by rw [A6, if_neg (by decide), if_pos rfl, g42])
  have g3 : gA c10 3 = ((List.replicate 32 0).set 0 p).set 1 7000 := (o10 3 (by decide) (by decide) (by decide) (by decide) (by decide) (by decide) (by decide)).trans (by rw [A6, if_pos rfl, g43])
  have g4 : gA c10 4 = (List.replicate 16 0).set 3 1 := (A10 4).trans g84
  have g5 : gA c10 5 = (List.replicate 16 0).set 3 0 := (A10 5).trans ((A8 5).trans (by rw [if_pos rfl, o6 5 (by decide) (by decide) (by decide) (by decide), h.a5]))
  have g6 : gA c10 6 = (List.replicate 16 0).set 3 1 := (A10 6).trans g86
  have g7 : gA c10 7 = (List.replicate 64 0).set 12 d := (A10 7).trans ((A8 7).trans ((own_app_A c6 d 0 7).trans (by rw [if_neg (by decide), if_neg (by decide), if_neg (by decide), if_neg (by decide), if_pos rfl, o6 7 (by decide) (by decide) (by decide) (by decide), h.a7])))
  have g8 : gA c10 8 = (List.replicate 64 0).set 12 (-1) := (A10 8).trans ((A8 8).trans ((own_app_A c6 d 0 8).trans (by rw [if_neg (by decide), if_neg (by decide), if_neg (by decide), if_pos rfl, o6 8 (by decide) (by decide) (by decide) (by decide), h.a8])))
  have g9 : gA c10 9 = (List.replicate 64 0).set 12 0 := (A10 9).trans ((A8 9).trans ((own_app_A c6 d 0 9).trans (by rw [if_neg (by decide), if_neg (by decide), if_pos rfl, o6 9 (by decide) (by decide) (by decide) (by decide), h.a9])))
  have g10 : gA c10 10 = ((List.replicate 64 0).set 12 0).set 12 q := (A10 10).trans (by rw [if_pos rfl, g810])
  have g11 : gA c10 11 = List.replicate 16 0 := (o10 11 (by decide) (by decide) (by decide) (by decide) (by decide) (by decide) (by decide)).trans ((o6 11 (by decide) (by decide) (by decide) (by decide)).trans h.a11)
  have g12 : gA c10 12 = List.replicate 16 0 := (o10 12 (by decide) (by decide) (by decide) (by decide) (by decide) (by decide) (by decide)).trans ((o6 12 (by decide) (by decide) (by decide) (by decide)).trans h.a12)
  have g13 : gA c10 13 = List.replicate 8 0 := (o10 13 (by decide) (by decide) (by decide) (by decide) (by decide) (by decide) (by decide)).trans ((o6 13 (by decide) (by decide) (by decide) (by decide)).trans h.a13)
  refine ⟨c2, c4, c6, c8, c10, e2, e4, e6, e8, e10, ?_, ?_, ?_, ?_, g12⟩
  · rw [I10, if_neg (by decide), h.i3]
  · rw [I10, if_neg (by decide), h.i1]
  · refine ⟨⟨?_, ⟨?_, ?_, ?_, ?_, ?_, ?_, ?_, ?_⟩, ?_, ?_, ?_, ?_, ?_, ?_, ?_, ?_⟩, ?_, ?_, ?_, ?_, ?_, ?_, ?_, ?_, ?_, ?_, ?_, ?_, ?_, ?_, ?_, ?_, ?_, ?_⟩
    · rw [I10, if_neg (by decide), h.i0]
    · rw [g1]; rfl
    · rw [g2]; rfl
    · rw [g2]; rfl
    · rw [g2]; rfl
    · rw [g3]; rfl
    · rw [g3]; rfl
    · rw [g3]; rfl
    · rw [g3]; rfl
    · rw [g0]; rfl
    · rw [g7]; rfl
    · rw [g9]; rfl
    · rw [g10]; rfl
    · rw [B10, h.b7]; rfl
    · rw [B10, h.b8]; rfl
    · intro i i1 i2; rw [B10, h.b7]; exact rep_get 0 (by omega)
    · intro i i1 i2; rw [B10, h.b8]; exact rep_get 0 (by omega)
    · rw [I10, if_neg (by decide), h.i3]
    · rw [g4]; rfl
    · rw [g5]; rfl
    · rw [g6]; rfl
    · rw [g7, List.length_set, List.length_replicate]
    · rw [g8, List.length_set, List.length_replicate]
    · rw [g9, List.length_set, List.length_replicate]
    · rw [g10, List.length_set, List.length_set, List.length_replicate]
    · rw [g11, List.length_replicate]
    · rw [g12, List.length_replicate]
    · rw [g13, List.length_replicate]
    · rw [B10, h.b9]; rfl
    · rw [B10, h.b0]; rfl
    · rw [B10, h.b2]; rfl
    · rw [B10, h.b5]; rfl
    · rw [B10, h.b3]; rfl
    · rw [B10, h.b4]; rfl
    · rw [B10, h.b6]; rfl
  · intro c hc h16
    have hc' : 3 ≠ c := Ne.symm hc
    refine ⟨?_, ?_, ?_, ?_, ?_, ?_, ?_, ?_, ?_, ?_, ?_⟩
    · rw [g6, get_set_ne _ hc']; exact rep_get 0 h16
    · rw [g4, get_set_ne _ hc']; exact rep_get 0 h16
    · rw [g11]; exact rep_get 0 h16
    · rw [B10, h.b0]; exact rep_get 0 h16
    · rw [B10, h.b2]; exact rep_get 0 h16
    · rw [B10, h.b3]; exact rep_get 0 h16
    · rw [B10, h.b4]; exact rep_get 0 h16
    · rw [B10, h.b5]; exact rep_get 0 h16
    · rw [B10, h.b6]; exact rep_get 0 h16
    · intro i hi; rw [B10, h.b7]; exact rep_get 0 (by omega)
    · intro i hi; rw [B10, h.b8]; exact rep_get 0 (by omega)
/-- what is asked at the end -/
abbrev own_En (s : St) (u p : Int32) (A0 A1 sub tax T0 T1 : Int64) : Prop := (own_Pr s u p) ∧ (gI s 2 = 0) ∧ ((gA s 12)[3]? = some 1) ∧ ((gA s 11)[3]? = some 2) ∧ ((gB s 3)[3]? = some sub) ∧ ((gB s 4)[3]? = some tax) ∧ ((gB s 5)[3]? = some 0) ∧ ((gB s 6)[3]? = some (sub + tax - 0)) ∧ ((gB s 7)[24]? = some A0) ∧ ((gB s 7)[25]? = some A1) ∧ ((gB s 8)[24]? = some T0) ∧ ((gB s 8)[25]? = some T1) ∧ ((gA s 6)[3]? = some 1) ∧ ((gA s 10)[12]? = some 0)
theorem own_En.pr {s : St} {u p : Int32} {A0 A1 sub tax T0 T1 : Int64} (h : own_En s u p A0 A1 sub tax T0 T1) : own_Pr s u p := h.1
theorem own_En.i2 {s : St} {u p : Int32} {A0 A1 sub tax T0 T1 : Int64} (h : own_En s u p A0 A1 sub tax T0 T1) : gI s 2 = 0 := h.2.1
theorem own_En.a12 {s : St} {u p : Int32} {A0 A1 sub tax T0 T1 : Int64} (h : own_En s u p A0 A1 sub tax T0 T1) : (gA s 12)[3]? = some 1 := h.2.2.1
theorem own_En.a11 {s : St} {u p : Int32} {A0 A1 sub tax T0 T1 : Int64} (h : own_En s u p A0 A1 sub tax T0 T1) : (gA s 11)[3]? = some 2 := h.2.2.2.1
theorem own_En.b3 {s : St} {u p : Int32} {A0 A1 sub tax T0 T1 : Int64} (h : own_En s u p A0 A1 sub tax T0 T1) : (gB s 3)[3]? = some sub := h.2.2.2.2.1
theorem own_En.b4 {s : St} {u p : Int32} {A0 A1 sub tax T0 T1 : Int64} (h : own_En s u p A0 A1 sub tax T0 T1) : (gB s 4)[3]? = some tax := h.2.2.2.2.2.1
theorem own_En.b5 {s : St} {u p : Int32} {A0 A1 sub tax T0 T1 : Int64} (h : own_En s u p A0 A1 sub tax T0 T1) : (gB s 5)[3]? = some 0 := h.2.2.2.2.2.2.1
theorem own_En.b6 {s : St} {u p : Int32} {A0 A1 sub tax T0 T1 : Int64} (h : own_En s u p A0 A1 sub tax T0 T1) : (gB s 6)[3]? = some (sub + tax - 0) := h.2.2.2.2.2.2.2.1
theorem own_En.b70 {s : St} {u p : Int32} {A0 A1 sub tax T0 T1 : Int64} (h : own_En s u p A0 A1 sub tax T0 T1) : (gB s 7)[24]? = some A0 := h.2.2.2.2.2.2.2.2.1
theorem own_En.b71 {s : St} {u p : Int32} {A0 A1 sub tax T0 T1 : Int64} (h : own_En s u p A0 A1 sub tax T0 T1) : (gB s 7)[25]? = some A1 := h.2.2.2.2.2.2.2.2.2.1
theorem own_En.b80 {s : St} {u p : Int32} {A0 A1 sub tax T0 T1 : Int64} (h : own_En s u p A0 A1 sub tax T0 T1) : (gB s 8)[24]? = some T0 := h.2.2.2.2.2.2.2.2.2.2.1
theorem own_En.b81 {s : St} {u p : Int32} {A0 A1 sub tax T0 T1 : Int64} (h : own_En s u p A0 A1 sub tax T0 T1) : (gB s 8)[25]? = some T1 := h.2.2.2.2.2.2.2.2.2.2.2.1
theorem own_En.a6 {s : St} {u p : Int32} {A0 A1 sub tax T0 T1 : Int64} (h : own_En s u p A0 A1 sub tax T0 T1) : (gA s 6)[3]? = some 1 := h.2.2.2.2.2.2.2.2.2.2.2.2.1
theorem own_En.a10 {s : St} {u p : Int32} {A0 A1 sub tax T0 T1 : Int64} (h : own_En s u p A0 A1 sub tax T0 T1) : (gA s 10)[12]? = some 0 := h.2.2.2.2.2.2.2.2.2.2.2.2.2
theorem own_close (n : Nat) (s : St) (b f d q u p : Int32) (bc A0 A1 sub tax : Int64) (i3 : gI s 3 = 0) (i1 : gI s 1 = b) (h : own_Ac s 0 f d q u p) (hz : ∀ c, c ≠ 3 → c < 16 → own_Z s c) (hb : b.toInt64 = bc) (hA : f.toInt64 * 1000000 * 30 / 30 - f.toInt64 * 1000000 * d.toInt64 / 30 = A0) (hc : ∀ m s, own_Pr s u p → f_charge (m + 20) 0 q.toInt64 s = some A1) (hsub : 0 + (A0 + A1) = sub) (htax : sub * bc / 10000 = tax) (hdue : ¬ sub + tax < 0) :
    ∃ r, f_closeCycle (n + 100) s = some (1, r) ∧ own_En r u p A0 A1 sub tax (own_T0 (tax - (0 + A0 * bc / 10000 + A1 * bc / 10000)) (A0 * bc - A0 * bc / 10000 * 10000) (A1 * bc - A1 * bc / 10000 * 10000) (A0 * bc / 10000)) (own_T1 (tax - (0 + A0 * bc / 10000 + A1 * bc / 10000)) (A0 * bc - A0 * bc / 10000 * 10000) (A1 * bc - A1 * bc / 10000 * 10000) (A1 * bc / 10000)) := by
  have hf := h.fi
  obtain ⟨a1, b1, l1, la1, lb1, ll1, hl1, e1⟩ := own_run (n + 77) 0 (sI s 3 (gI s 3 + 1)) 3 0 (by decide) (fun i h1 h2 => by
    have z := hz i (by omega) (by omega)
    exact ⟨⟨z.a6, z.a4, z.a11, z.b0, z.b2, z.b3, z.b4, z.b5, z.b6, z.b7, z.b8⟩, by omega⟩) (gA s 13) (gB s 9) (gA s 12) h.k13 h.m9 h.k12
  rw [show own_k (sI s 3 (gI s 3 + 1)) (gA s 13) (gB s 9) (gA s 12) = sI s 3 (gI s 3 + 1) from own_k_self _] at e1
  have hz1 : ∀ c, c ≠ 3 → c < 16 → own_Z (own_k (sI s 3 (gI s 3 + 1)) a1 b1 l1) c := fun c h3 h16 => by
    have z := hz c h3 h16
    exact ⟨z.a6, z.a4, z.a11, z.b0, z.b2, z.b3, z.b4, z.b5, z.b6, z.b7, z.b8⟩
  have hac : own_Ac (own_k (sI s 3 (gI s 3 + 1)) a1 b1 l1) 1 f d q u p :=
    ⟨⟨hf.i0, ⟨hf.pr.k1, hf.pr.u0, hf.pr.u1, hf.pr.u2, hf.pr.p0, hf.pr.p1, hf.pr.p2, hf.pr.p3⟩, hf.a0, hf.a7, hf.a9, hf.a10, hf.l7, hf.l8, hf.z7, hf.z8⟩, (by show gI s 3 + 1 = 1; rw [i3]; decide), h.a4, h.a5, h.a6, h.k7, h.k8, h.k9, h.k10, h.k11, ll1, la1, lb1, h.b0, h.b2, h.b5, h.m3, h.m4, h.m6⟩
  have hb1 : (gI (own_k (sI s 3 (gI s 3 + 1)) a1 b1 l1) 1).toInt64 = bc := by
    show (gI s 1).toInt64 = bc
    rw [i1]; exact hb
  have i31 : gI (own_k (sI s 3 (gI s 3 + 1)) a1 b1 l1) 3 = 1 := hac.i3
  have pr1 := hac.fi.pr
  generalize own_k (sI s 3 (gI s 3 + 1)) a1 b1 l1 = t at e1 hz1 hac hb1 i31 pr1
  obtain ⟨r, ho, e2⟩ := own_act (n + 66) t 1 f d q u p bc A0 A1 sub tax hac hb1 hA hc hsub htax hdue
  generalize own_T0 (tax - (0 + A0 * bc / 10000 + A1 * bc / 10000)) (A0 * bc - A0 * bc / 10000 * 10000) (A1 * bc - A1 * bc / 10000 * 10000) (A0 * bc / 10000) = T0 at ho ⊢
  generalize own_T1 (tax - (0 + A0 * bc / 10000 + A1 * bc / 10000)) (A0 * bc - A0 * bc / 10000 * 10000) (A1 * bc - A1 * bc / 10000 * 10000) (A1 * bc / 10000) = T1 at ho ⊢
  obtain ⟨a2, b2, l2, la2, lb2, ll2, hl2, e3⟩ := own_run (n + 64) 1 r 12 4 (by decide) (fun i h1 h2 => ⟨ho.z i (by omega) (hz1 i (by omega) (by omega)), by omega⟩) (gA r 13) (gB r 9) (gA r 12) ho.k13 ho.m9 ho.k12
  rw [own_k_self] at e3
  refine ⟨sI (own_k r a2 b2 l2) 2 0, ?_, ?_⟩
  · have un1 : ∀ m s, f_closeCycle m s = f_closeCycle_14 m 0 0 (sI s 3 (gI s 3 + 1)) := fun _ _ => rfl
    have un2 : ∀ m s, f_closeCycle_14 (m + 1) 1 16 s = some (1, sI s 2 0) := fun _ _ => rfl
    rw [un1]
    refine Eq.trans ?_ (un2 (n + 83) (own_k r a2 b2 l2))
    refine Eq.trans ?_ e3
    refine Eq.trans ?_ e2
    exact e1
  · refine ⟨⟨?_, ?_, ?_, ?_, ?_, ?_, ?_, ?_⟩, rfl, ?_, ho.a11, ho.b3, ho.b4, ho.b5, ho.b6, ho.b70, ho.b71, ho.b80, ho.b81, ho.a6, ho.a10⟩
    · show (gA r 1)[0]? = _
      rw [ho.a1]; exact pr1.k1
    · show (gA r 2)[0]? = _
      rw [ho.a2]; exact pr1.u0
    · show (gA r 2)[1]? = _
      rw [ho.a2]; exact pr1.u1
    · show (gA r 2)[2]? = _
      rw [ho.a2]; exact pr1.u2
    · show (gA r 3)[0]? = _
      rw [ho.a3]; exact pr1.p0
    · show (gA r 3)[1]? = _
      rw [ho.a3]; exact pr1.p1
    · show (gA r 3)[2]? = _
      rw [ho.a3]; exact pr1.p2
    · show (gA r 3)[3]? = _
      rw [ho.a3]; exact pr1.p3
    · show l2[3]? = _
      rw [hl2, ho.a12, i31]
theorem own_386 (n : Nat) (r : St) (u p q : Int32) (A0 A1 sub tax T0 T1 : Int64) (h : own_En r u p A0 A1 sub tax T0 T1) (hc : ∀ m s, own_Pr s u p → f_charge (m + 20) 0 q.toInt64 s = some A1) (q0 : ¬ q < 0) (q1 : ¬ 1000000 < q) : f_law_386 (n + 20) q A0 A1 sub tax T0 T1 r = some 1 := by
  have v : f_validCustomer 3 r = some 1 := rfl
  have i0 : f_getInvoice 3 0 r = some 2 := by
    unfold f_getInvoice; rw [v, Option.bind_some, if_neg (by decide), if_pos rfl, rd_of (k := 3) (by decide) h.a11]; rfl
  have i1 : f_getInvoice 3 1 r = some sub := by
    unfold f_getInvoice; rw [v, Option.bind_some, if_neg (by decide), if_neg (by decide), if_pos rfl, rd_of (k := 3) (by decide) h.b3]; rfl
  have i2 : f_getInvoice 3 2 r = some tax := by
    unfold f_getInvoice; rw [v, Option.bind_some, if_neg (by decide), if_neg (by decide), if_neg (by decide), if_pos rfl, rd_of (k := 3) (by decide) h.b4]; rfl
  have i3 : f_getInvoice 3 3 r = some 0 := by
    unfold f_getInvoice; rw [v, Option.bind_some, if_neg (by decide), if_neg (by decide), if_neg (by decide), if_neg (by decide), if_pos rfl, rd_of (k := 3) (by decide) h.b5]; rfl
  have i4 : f_getInvoice 3 4 r = some (sub + tax) := by
    unfold f_getInvoice; rw [v, Option.bind_some, if_neg (by decide), if_neg (by decide), if_neg (by decide), if_neg (by decide), if_neg (by decide), if_pos rfl, rd_of (k := 3) (by decide) h.b6, Option.bind_some, Int64.sub_zero]
  have i5 : f_getInvoice 3 5 r = some 1 := by
    unfold f_getInvoice; rw [v, Option.bind_some, if_neg (by decide), if_neg (by decide), if_neg (by decide), if_neg (by decide), if_neg (by decide), if_neg (by decide), if_pos rfl, rd_of (k := 3) (by decide) h.a12]; rfl
  have j0 : f_getLine 3 0 r = some A0 := by
    unfold f_getLine; rw [v, Option.bind_some, if_neg (by decide), if_neg (by decide), rd_of (k := 3) (by decide) h.a11, Option.bind_some, if_pos (by decide), rd_of (k := 24) (by decide) h.b70]; rfl
  have j1 : f_getLine 3 1 r = some A1 := by
    unfold f_getLine; rw [v, Option.bind_some, if_neg (by decide), if_neg (by decide), rd_of (k := 3) (by decide) h.a11, Option.bind_some, if_pos (by decide), rd_of (k := 25) (by decide) h.b71]; rfl
  have k0 : f_getLineTax 3 0 r = some T0 := by
    unfold f_getLineTax; rw [v, Option.bind_some, if_neg (by decide), if_neg (by decide), rd_of (k := 3) (by decide) h.a11, Option.bind_some, if_pos (by decide), rd_of (k := 24) (by decide) h.b80]; rfl
  have k1 : f_getLineTax 3 1 r = some T1 := by
    unfold f_getLineTax; rw [v, Option.bind_some, if_neg (by decide), if_neg (by decide), rd_of (k := 3) (by decide) h.a11, Option.bind_some, if_pos (by decide), rd_of (k := 25) (by decide) h.b81]; rfl
  have ra : f_rate (n + 20) 0 q r = some A1 := by
    unfold f_rate; rw [show f_validPlan 0 r = some 1 from rfl, Option.bind_some, if_neg (by decide), if_neg q0, if_neg q1, hc n r h.pr]; rfl
  have cu : f_getCustomer 3 2 r = some 1 := by
    unfold f_getCustomer; rw [v, Option.bind_some, if_neg (by decide), if_neg (by decide), if_neg (by decide), if_pos rfl, rd_of (k := 3) (by decide) h.a6]; rfl
  have sg : f_getSegment 3 0 3 r = some 0 := by
    unfold f_getSegment lt
    dsimp only
    rw [v, Option.bind_some, if_neg (by decide), if_neg (by decide), rd_of (k := 3) (by decide) h.a6, Option.bind_some, if_pos (by decide), if_pos (by decide), if_neg (by decide), if_neg (by decide), if_neg (by decide), if_pos rfl, rd_of (k := 12) (by decide) h.a10]; rfl
  have td : f_today r = some 0 := by unfold f_today; rw [h.i2]
  unfold f_law_386 f_law_592
  rw [i0, Option.bind_some, if_pos rfl, i1, Option.bind_some, if_pos rfl, i2, Option.bind_some, if_pos rfl, i3, Option.bind_some, if_pos rfl, i4, Option.bind_some, if_pos rfl, i5, Option.bind_some, if_pos rfl, j0, Option.bind_some, if_pos rfl, j1, Option.bind_some, if_pos rfl, k0, Option.bind_some, if_pos rfl, k1, Option.bind_some, if_pos rfl, ra, Option.bind_some, if_pos rfl, cu, Option.bind_some, if_pos rfl, sg, Option.bind_some, if_pos rfl, td, Option.bind_some, if_pos rfl]; rfl
theorem own_354 (n : Nat) (q : Int32) (A0 A1 sub tax f0 f1 r0 r1 left : Int64) (r : St) (x : Int32) (h : f_law_386 n q A0 A1 sub tax (own_T0 left r0 r1 f0) (own_T1 left r0 r1 f1) r = some x) :
    (if left < 1 then f_law_354 n q A0 A1 sub tax r0 r1 left f0 f1 r else if r0 < r1 then f_law_354 n q A0 A1 sub tax r0 r1 left f0 (f1 + 1) r else f_law_354 n q A0 A1 sub tax r0 r1 left (f0 + 1) f1 r) = some x := by
  have un : ∀ g0 g1, f_law_354 n q A0 A1 sub tax r0 r1 left g0 g1 r = if left < 2 then f_law_386 n q A0 A1 sub tax g0 g1 r else if r0 < r1 then f_law_386 n q A0 A1 sub tax (g0 + 1) g1 r else f_law_386 n q A0 A1 sub tax g0 (g1 + 1) r := fun _ _ => rfl
  unfold own_T0 own_T1 at h
  rw [un, un, un]
  by_cases c1 : left < 1
  · have c2 : left < 2 := by
      rw [x64_lt] at c1 ⊢
      have : (1 : Int64).toInt = 1 := by decide
      have : (2 : Int64).toInt = 2 := by decide
      omega
    rw [if_pos c1, if_pos c1] at h
    rw [if_pos c1, if_pos c2]; exact h
  · rw [if_neg c1, if_neg c1] at h
    rw [if_neg c1]
    by_cases c2 : left < 2
    · rw [if_pos c2, if_pos c2] at h
      rw [if_pos c2, if_pos c2]
      by_cases c3 : r0 < r1
      · rw [if_pos c3, if_pos c3] at h
        rw [if_pos c3]; exact h
      · rw [if_neg c3, if_neg c3] at h
        rw [if_neg c3]; exact h
    · rw [if_neg c2, if_neg c2] at h
      rw [if_neg c2, if_neg c2]
      by_cases c3 : r0 < r1
      · rw [if_pos c3, if_pos c3]; exact h
      · rw [if_neg c3, if_neg c3]; exact h
/-! bounds -/
theorem own_mB {x y : Int64} {A B : Int} (hx : 0 ≤ x.toInt ∧ x.toInt ≤ A) (hy : 0 ≤ y.toInt ∧ y.toInt ≤ B) (h : A * B < 9223372036854775808) : (x * y).toInt = x.toInt * y.toInt ∧ 0 ≤ x.toInt * y.toInt ∧ x.toInt * y.toInt ≤ A * B := by
  have h1 : 0 ≤ x.toInt * y.toInt := Int.mul_nonneg hx.1 hy.1
  have h2 : x.toInt * y.toInt ≤ A * B := Int.mul_le_mul hx.2 hy.2 hy.1 (Int.le_trans hx.1 hx.2)
  exact ⟨x64_mul (by omega) (by omega), h1, h2⟩
theorem own_dB {x y : Int64} (hx : 0 ≤ x.toInt) (hy : 0 < y.toInt) : (x / y).toInt = x.toInt / y.toInt := by
  have : y ≠ -1 := fun e => by
    rw [e] at hy
    have : (-1 : Int64).toInt = -1 := by decide
    omega
  rw [Int64.toInt_div_of_ne_right _ _ this, Int.tdiv_eq_ediv_of_nonneg hx]
theorem own_md (x m : Int32) (M : Nat) (hm : m.toInt = M) (h0 : 0 < M) : 0 ≤ ((x &&& 2147483647) % m).toInt ∧ ((x &&& 2147483647) % m).toInt ≤ M - 1 := by
  obtain ⟨k, hk, e⟩ := and_natL x 2147483647 (by decide)
  have hk : k ≤ 2147483647 := hk
  have e : x &&& 2147483647 = Int32.ofNat k := e
  rw [e, Int32.toInt_mod, ofN_int (by omega), hm, Int.tmod_eq_emod_of_nonneg (by omega)]
  have h1 := Int.emod_nonneg (k : Int) (show (M : Int) ≠ 0 by omega)
  have h2 := Int.emod_lt_of_pos (k : Int) (show (0 : Int) < M by omega)
  omega
theorem own_fee (f : Int32) (hf : 0 ≤ f.toInt ∧ f.toInt ≤ 1000000) : 0 ≤ (f.toInt64 * 1000000).toInt ∧ (f.toInt64 * 1000000).toInt ≤ 1000000000000 := by
  have h := own_mB (x := f.toInt64) (y := 1000000) (A := 1000000) (B := 1000000) (by rw [Int32.toInt_toInt64]; exact hf) (by decide) (by decide)
  rw [h.1]; exact ⟨h.2.1, h.2.2⟩
theorem own_b1 (X : Int64) (h : 0 ≤ X.toInt ∧ X.toInt ≤ 1000000000000) : X * 30 / 30 = X := by
  obtain ⟨m, ma, mb⟩ := own_mB (x := X) (y := 30) (A := 1000000000000) (B := 30) h (by decide) (by decide)
  have k : (30 : Int64).toInt = 30 := by decide
  rw [x64_eq, own_dB (by rw [m]; exact ma) (by decide), m, k]
  exact Int.mul_ediv_cancel _ (by decide)
theorem own_b2 (X : Int64) (d : Int32) (h : 0 ≤ X.toInt ∧ X.toInt ≤ 1000000000000) (hd : 0 ≤ d.toInt ∧ d.toInt ≤ 29) : 0 ≤ (X - X * d.toInt64 / 30).toInt ∧ (X - X * d.toInt64 / 30).toInt ≤ 1000000000000 := by
  obtain ⟨m, ma, mb⟩ := own_mB (x := X) (y := d.toInt64) (A := 1000000000000) (B := 29) h (by rw [Int32.toInt_toInt64]; exact hd) (by decide)
  have k : (30 : Int64).toInt = 30 := by decide
  have e : (X * d.toInt64 / 30).toInt = X.toInt * d.toInt / 30 := by
    rw [own_dB (by rw [m]; exact ma) (by decide), m, k, Int32.toInt_toInt64]
  have le : X.toInt * d.toInt ≤ X.toInt * 29 := Int.mul_le_mul_of_nonneg_left hd.2 h.1
  rw [Int32.toInt_toInt64] at ma
  generalize X * d.toInt64 / 30 = Y at e ⊢
  generalize X.toInt * d.toInt = w at e le ma
  rw [x64_sub (by omega) (by omega)]
  omega
theorem own_b3 (m : Int64) (p q : Int32) (mb : 0 ≤ m.toInt ∧ m.toInt ≤ q.toInt) (hp : 0 ≤ p.toInt ∧ p.toInt ≤ 100000000) (hq : 1 ≤ q.toInt ∧ q.toInt ≤ 10000) : 0 ≤ (m * p.toInt64 + (q.toInt64 - m) * 7000).toInt ∧ (m * p.toInt64 + (q.toInt64 - m) * 7000).toInt ≤ 1000070000000 := by
  obtain ⟨n1, n1a, n1b⟩ := own_mB (x := m) (y := p.toInt64) (A := 10000) (B := 100000000) (by omega) (by rw [Int32.toInt_toInt64]; exact hp) (by decide)
  have Q := Int32.toInt_toInt64 q
  have s1 : (q.toInt64 - m).toInt = q.toInt - m.toInt := by rw [x64_sub (by omega) (by omega), Q]
  obtain ⟨n2, n2a, n2b⟩ := own_mB (x := q.toInt64 - m) (y := 7000) (A := 10000) (B := 7000) (by rw [s1]; omega) (by decide) (by decide)
  rw [← n1] at n1a n1b
  rw [← n2] at n2a n2b
  generalize m * p.toInt64 = a at n1a n1b ⊢
  generalize (q.toInt64 - m) * 7000 = b at n2a n2b ⊢
  clear n1 n2 s1 Q
  rw [x64_add (by omega) (by omega)]; omega
theorem own_b4 (A0 A1 bc : Int64) (h0 : 0 ≤ A0.toInt ∧ A0.toInt ≤ 1000000000000) (h1 : 0 ≤ A1.toInt ∧ A1.toInt ≤ 1000070000000) (hb : 0 ≤ bc.toInt ∧ bc.toInt ≤ 3000) : ¬ A0 + A1 + (A0 + A1) * bc / 10000 < 0 := by
  have hs : (A0 + A1).toInt = A0.toInt + A1.toInt := x64_add (by omega) (by omega)
  generalize A0 + A1 = S at hs ⊢
  obtain ⟨m, ma, mb⟩ := own_mB (x := S) (y := bc) (A := 2000070000000) (B := 3000) (by omega) hb (by decide)
  have k : (10000 : Int64).toInt = 10000 := by decide
  have e : (S * bc / 10000).toInt = S.toInt * bc.toInt / 10000 := by rw [own_dB (by rw [m]; exact ma) (by decide), m, k]
  generalize S * bc / 10000 = T at e ⊢
  generalize S.toInt * bc.toInt = w at e ma mb
  have z : (0 : Int64).toInt = 0 := by decide
  clear k
  rw [x64_lt, z, x64_add (by omega) (by omega)]; omega
theorem own_core (n : Nat) (b f d q u p : Int32) (bc : Int64) (s : St) (hs : own_Ba s (own_cl b 0 3000)) (hb : (own_cl b 0 3000).toInt64 = bc) (hbc : 0 ≤ bc.toInt ∧ bc.toInt ≤ 3000) (hf : 0 ≤ f.toInt ∧ f.toInt ≤ 1000000) (hd : 0 ≤ d.toInt ∧ d.toInt ≤ 29) (hu : 0 ≤ u.toInt ∧ u.toInt ≤ 1000000) (hp : 0 ≤ p.toInt ∧ p.toInt ≤ 100000000) (hq : 1 ≤ q.toInt ∧ q.toInt ≤ 10000) (hi : f_init (n + 100) 30 b = some s) : f_law_75 (n + 100) b f d u p q bc = some 1 := by
  have z32 : (0 : Int32).toInt = 0 := by decide
  have z64 : (0 : Int64).toInt = 0 := by decide
  have f0 : ¬ f < 0 := by rw [x32_lt]; omega
  have f1 : ¬ 1000000 < f := by rw [x32_lt, show (1000000 : Int32).toInt = 1000000 from by decide]; omega
  have u0 : ¬ u < 0 := by rw [x32_lt]; omega
  have u1 : ¬ 1000000 < u := by rw [x32_lt, show (1000000 : Int32).toInt = 1000000 from by decide]; omega
  have p0 : ¬ p < 0 := by rw [x32_lt]; omega
  have p1 : ¬ 100000000 < p := by rw [x32_lt, show (100000000 : Int32).toInt = 100000000 from by decide]; omega
  have d0 : ¬ d < 0 := by rw [x32_lt]; omega
  have d1 : ¬ 29 < d := by rw [x32_lt, show (29 : Int32).toInt = 29 from by decide]; omega
  have q0 : ¬ q < 1 := by rw [x32_lt, show (1 : Int32).toInt = 1 from by decide]; omega
  have q1 : ¬ 10000 < q := by rw [x32_lt, show (10000 : Int32).toInt = 10000 from by decide]; omega
  have q2 : q < 1000000 := by rw [x32_lt, show (1000000 : Int32).toInt = 1000000 from by decide]; omega
  have q3 : ¬ q < 0 := by rw [x32_lt]; omega
  have q4 : ¬ 1000000 < q := by rw [x32_lt, show (1000000 : Int32).toInt = 1000000 from by decide]; omega
  obtain ⟨c2, c4, c6, c8, c10, e2, e4, e6, e8, e10, i3, i1, hac, hz, -⟩ := own_setup s (own_cl b 0 3000) f d q u p hs f0 f1 u0 u1 p0 p1 d0 d1 q0 q1
  have Q := Int32.toInt_toInt64 q
  have U := Int32.toInt_toInt64 u
  have P := Int32.toInt_toInt64 p
  -- the fee
  obtain ⟨X, hX⟩ : ∃ X, X = f.toInt64 * 1000000 := ⟨_, rfl⟩
  have Xb : 0 ≤ X.toInt ∧ X.toInt ≤ 1000000000000 := by
    rw [hX]; exact own_fee f hf
  have b1 : X * 30 / 30 = X := own_b1 X Xb
  obtain ⟨A0, hA0⟩ : ∃ A0, A0 = X - X * d.toInt64 / 30 := ⟨_, rfl⟩
  have A0b : 0 ≤ A0.toInt ∧ A0.toInt ≤ 1000000000000 := by
    rw [hA0]; exact own_b2 X d Xb hd
  -- the usage
  obtain ⟨m, hm⟩ : ∃ m, m = (if q < u then q.toInt64 else u.toInt64) := ⟨_, rfl⟩
  have mb : 0 ≤ m.toInt ∧ m.toInt ≤ q.toInt := by
    rw [hm]
    by_cases c : q < u
    · rw [if_pos c]; omega
    · rw [if_neg c]; rw [x32_lt] at c; omega
  have A1e : own_a1 u p q = m * p.toInt64 + (q.toInt64 - m) * 7000 := by unfold own_a1; rw [← hm]
  obtain ⟨A1, hA1⟩ : ∃ A1, A1 = own_a1 u p q := ⟨_, rfl⟩
  have A1b : 0 ≤ A1.toInt ∧ A1.toInt ≤ 1000070000000 := by
    rw [hA1, A1e]; exact own_b3 m p q mb hp hq
  have hc : ∀ m s, own_Pr s u p → f_charge (m + 20) 0 q.toInt64 s = some A1 := fun m s h => by rw [hA1]; exact own_ch m s u p q h u0 u1 q2
  have due : ¬ A0 + A1 + (A0 + A1) * bc / 10000 < 0 := own_b4 A0 A1 bc A0b A1b hbc
  obtain ⟨r, er, hr⟩ := own_close n c10 (own_cl b 0 3000) f d q u p bc A0 A1 (A0 + A1) ((A0 + A1) * bc / 10000) i3 i1 hac hz hb (by rw [← hX, b1, hA0]) hc (Int64.zero_add _) rfl due
  have h386 := own_386 (n + 80) r u p q A0 A1 _ _ _ _ hr hc q3 q4
  have h354 := own_354 _ _ _ _ _ _ _ _ _ _ _ _ _ h386
  have un : ∀ N b f d u p q bc, f_law_75 N b f d u p q bc = (f_init N 30 b).bind fun c1 => (f_setPlan 0 f 0 c1).bind fun c2 => if c2.1 = 0 then some 0 else (f_setTier 0 0 u p c2.2).bind fun c4 => if c4.1 = 0 then some 0 else (f_setTier 0 1 1000000 7000 c4.2).bind fun c6 => if c6.1 = 0 then some 0 else (f_subscribe 3 0 d c6.2).bind fun c8 => if c8.1 = 0 then some 0 else (f_recordUsage 3 d q c8.2).bind fun c10 => if c10.1 = 0 then some 0 else (f_closeCycle N c10.2).bind fun c12 => if c12.1 = 1 then (if q < u then f_law_217 N p q bc (f.toInt64 * 1000000 - f.toInt64 * 1000000 * d.toInt64 / 30) q.toInt64 c12.2 else f_law_217 N p q bc (f.toInt64 * 1000000 - f.toInt64 * 1000000 * d.toInt64 / 30) u.toInt64 c12.2) else some 0 := fun _ _ _ _ _ _ _ _ => rfl
  have hk : (1 : Int32) = 0 ↔ False := by decide
  rw [un, hi, Option.bind_some, e2, Option.bind_some, if_neg (show ¬ (1 : Int32) = 0 from by decide), e4, Option.bind_some, if_neg (show ¬ (1 : Int32) = 0 from by decide), e6, Option.bind_some, if_neg (show ¬ (1 : Int32) = 0 from by decide), e8, Option.bind_some, if_neg (show ¬ (1 : Int32) = 0 from by decide), e10, Option.bind_some, if_neg (show ¬ (1 : Int32) = 0 from by decide), er, Option.bind_some, if_pos rfl, ← hX, ← hA0]
  have un2 : ∀ N p q bc A0 t s, f_law_217 N p q bc A0 t s = (fun A1 => if ((A0 + A1) * bc / 10000 - A0 * bc / 10000) - A1 * bc / 10000 < 1 then f_law_354 N q A0 A1 (A0 + A1) ((A0 + A1) * bc / 10000) (A0 * bc - A0 * bc / 10000 * 10000) (A1 * bc - A1 * bc / 10000 * 10000) ((A0 + A1) * bc / 10000 - A0 * bc / 10000 - A1 * bc / 10000) (A0 * bc / 10000) (A1 * bc / 10000) s else if A0 * bc - A0 * bc / 10000 * 10000 < A1 * bc - A1 * bc / 10000 * 10000 then f_law_354 N q A0 A1 (A0 + A1) ((A0 + A1) * bc / 10000) (A0 * bc - A0 * bc / 10000 * 10000) (A1 * bc - A1 * bc / 10000 * 10000) ((A0 + A1) * bc / 10000 - A0 * bc / 10000 - A1 * bc / 10000) (A0 * bc / 10000) (A1 * bc / 10000 + 1) s else f_law_354 N q A0 A1 (A0 + A1) ((A0 + A1) * bc / 10000) (A0 * bc - A0 * bc / 10000 * 10000) (A1 * bc - A1 * bc / 10000 * 10000) ((A0 + A1) * bc / 10000 - A0 * bc / 10000 - A1 * bc / 10000) (A0 * bc / 10000 + 1) (A1 * bc / 10000) s) (t * p.toInt64 + (q.toInt64 - t) * 7000) := fun _ _ _ _ _ _ _ => rfl
  have fin : f_law_217 (n + 100) p q bc A0 m r = some 1 := by
    rw [un2, ← A1e, ← hA1]
    dsimp only
    rw [Int64.sub_sub]
    rw [Int64.zero_add] at h354
    exact h354
  by_cases c : q < u
  · rw [if_pos c] at hm ⊢
    rw [← hm]; exact fin
  · rw [if_neg c] at hm ⊢
    rw [← hm]; exact fin
theorem owed (p0 p1 p2 p3 p4 p5 : Int32) : ∃ fu, f_law fu p0 p1 p2 p3 p4 p5 = some 1 := by
  obtain ⟨N, hN⟩ := own_init 30 p5
  have hi := hN (N + 100) (by omega)
  have hs : own_Ba (own_s0 30 p5) (own_cl p5 0 3000) := ⟨rfl, rfl, rfl, rfl, rfl, rfl, rfl, rfl, rfl, rfl, rfl, rfl, rfl, rfl, rfl, rfl, rfl, rfl, rfl, rfl, rfl, rfl, rfl, rfl, rfl, rfl, rfl⟩
  generalize own_s0 30 p5 = s at hi hs
  have hf := own_md p0 1000001 1000001 (by decide) (by decide)
  have hd := own_md p1 30 30 (by decide) (by decide)
  have hu := own_md p2 1000001 1000001 (by decide) (by decide)
  have hp := own_md p3 100000001 100000001 (by decide) (by decide)
  have hq := own_md p4 10000 10000 (by decide) (by decide)
  have hq1 : (1 + (p4 &&& 2147483647) % 10000 : Int32).toInt = 1 + ((p4 &&& 2147483647) % 10000).toInt := by
    have : (1 : Int32).toInt = 1 := by decide
    rw [x32_add (by omega) (by omega), this]
  refine ⟨N + 100, ?_⟩
  have un : ∀ N, f_law N p0 p1 p2 p3 p4 p5 = if p5 < 0 then f_law_75 N p5 ((p0 &&& 2147483647) % 1000001) ((p1 &&& 2147483647) % 30) ((p2 &&& 2147483647) % 1000001) ((p3 &&& 2147483647) % 100000001) (1 + (p4 &&& 2147483647) % 10000) 0 else if 3000 < p5 then f_law_75 N p5 ((p0 &&& 2147483647) % 1000001) ((p1 &&& 2147483647) % 30) ((p2 &&& 2147483647) % 1000001) ((p3 &&& 2147483647) % 100000001) (1 + (p4 &&& 2147483647) % 10000) (3000 : Int32).toInt64 else f_law_75 N p5 ((p0 &&& 2147483647) % 1000001) ((p1 &&& 2147483647) % 30) ((p2 &&& 2147483647) % 1000001) ((p3 &&& 2147483647) % 100000001) (1 + (p4 &&& 2147483647) % 10000) p5.toInt64 := fun _ => rfl
  rw [un]
  have z32 : (0 : Int32).toInt = 0 := by decide
  by_cases c1 : p5 < 0
  · rw [if_pos c1]
    refine own_core N p5 _ _ _ _ _ _ s hs ?_ (by decide) (by omega) (by omega) (by omega) (by omega) (by omega) hi
    unfold own_cl; rw [if_pos c1]; decide
  · rw [if_neg c1]
    by_cases c2 : 3000 < p5
    · rw [if_pos c2]
      refine own_core N p5 _ _ _ _ _ _ s hs ?_ (by decide) (by omega) (by omega) (by omega) (by omega) (by omega) hi
      unfold own_cl; rw [if_neg c1, if_pos c2]
    · rw [if_neg c2]
      refine own_core N p5 _ _ _ _ _ _ s hs ?_ ?_ (by omega) (by omega) (by omega) (by omega) (by omega) hi
      · unfold own_cl; rw [if_neg c1, if_neg c2]
      · rw [x32_lt] at c1 c2
        rw [Int32.toInt_toInt64]
        have : (3000 : Int32).toInt = 3000 := by decide
        omega

set_option maxRecDepth 65536 in
set_option maxHeartbeats 40000000 in
theorem comes_1 {Post : Tables → Env → Array Value → State → Outcome → State → Prop} (hpost : ∀ tb e args s v u, (limb_1_1.after args s (.returned v) u = true ∧ limb_1_2.after args s (.returned v) u = true ∧ True) → FrameEnd s (.returned v) u (Jvm.fieldLocs frame_1_writes args s ++ Jvm.arrayLocs frame_1_arrays args s ++ Jvm.staticLocs frame_1_statics s) 64 1728 → Post tb e args s (.returned v) u) :
    ArmFor flags0 classFile x code maxLocals ret World_1 tables_1 room_1 Calls_1 rest_1 Pre_1 Post := by
  intro l hfl _ _ p e ha hc hk s m args below hf hA hF happ hP
  obtain ⟨hcalls, hrest, hpre⟩ := hP
  obtain ⟨-, -, -, hnamed, -, -, -, hat⟩ := (Spec.applies_iff hf).mp happ
  obtain ⟨hg, hn⟩ := and_e (Cond.before_iff.mp (show (Jvm.Cond.and given_1 narrow_1).before args s = true from hpre))
  obtain ⟨g0, q0⟩ := and_e hg
  obtain ⟨w0, w1, w2, w3, w4, w5, rfl⟩ : ∃ w0 w1 w2 w3 w4 w5 : Value, args = #[w0, w1, w2, w3, w4, w5] := by
    have hs : args.size = 6 := by simpa [Cond.value, given_1] using g0
    obtain ⟨L⟩ := args
    match L, hs with
    | [w0, w1, w2, w3, w4, w5], _ => exact ⟨w0, w1, w2, w3, w4, w5, rfl⟩
  have hw := fun d (hd : d ∈ tables_1) => atoms_spec (ws := Jvm.Cond.code x code maxLocals ret :: tables_1) hat d (List.mem_cons_of_mem _ hd)
  obtain ⟨h0, q1⟩ := and_e q0
  obtain ⟨i0, e0⟩ := is_v h0
  obtain rfl : w0 = (.int i0) := Option.some.inj e0
  obtain ⟨h1, q2⟩ := and_e q1
  obtain ⟨i1, e1⟩ := is_v h1
  obtain rfl : w1 = (.int i1) := Option.some.inj e1
  obtain ⟨h2, q3⟩ := and_e q2
  obtain ⟨i2, e2⟩ := is_v h2
  obtain rfl : w2 = (.int i2) := Option.some.inj e2
  obtain ⟨h3, q4⟩ := and_e q3
  obtain ⟨i3, e3⟩ := is_v h3
  obtain rfl : w3 = (.int i3) := Option.some.inj e3
  obtain ⟨h4, q5⟩ := and_e q4
  obtain ⟨i4, e4⟩ := is_v h4
  obtain rfl : w4 = (.int i4) := Option.some.inj e4
  obtain ⟨i5, e5⟩ := is_v q5
  obtain rfl : w5 = (.int i5) := Option.some.inj e5
  obtain ⟨fu, hfu⟩ := owed i0 i1 i2 i3 i4 i5
  obtain ⟨n, o, h1, h2, h3, _, L, rfl, ⟨w, H', rfl, hv, -, -, N⟩, hq⟩ := okLAW l s _ hw fu i0 i1 i2 i3 i4 i5 1 hfu tables_1 s.heap.size _ s.heap (HR.start0 s CN lay) p e ha hc hk s m _ below hf ((Spec.applies_iff_loose hf).mp happ).1 ⟨rfl, State.Warmed39.refl s, rfl⟩ trivial
  obtain rfl : w = some (.int 1) := hv
  refine ⟨n, _, h1, h2, h3, hpost _ _ _ _ _ _ ⟨Cond.after_iff.mpr rfl, Cond.after_iff.mpr (eq_i res_at (Term.int_eval (1)) rfl), trivial⟩ ⟨hq.1, hq.2.1, (hq.2.2.sift fun y hy => Or.inr (N y hy)).mono (by decide) (by decide)⟩⟩
theorem main_1_1 : Claimed_1_1 := comes_1 fun _ _ _ _ _ _ h hF => ⟨h.1, hF⟩
theorem main_1_2 : Claimed_1_2 := comes_1 fun _ _ _ _ _ _ h hF => ⟨h.2.1, hF⟩

end Jvm.Pilot.@@N@@
namespace Jvm.Pilot.@@N@@
open Jvm Jvm.ClassFile Sem Op Lib Jvm.Free Jvm.Stand Jvm.Pilot.@@N@@.Jvm.D
/-! MADE BY PROGRAM (witnessworld.py) out of the Statement's table words and the real class files: 13 classes; the members and pool entries that the words name. The judged class is class 1, her method 1. -/
namespace start1
open Jvm.ClassFile
def u (s : String) : CpInfo := .utf8 (stringToUtf16 s)
/-- a pool by its gaps: so many unusable entries, then the entry; so many at the end -/
def gap : Nat → List CpInfo → List CpInfo
  | 0, r => r
  | n + 1, r => .unusable :: gap n r
def poolList (es : List (Nat × CpInfo)) (last : Nat) : List CpInfo := es.foldr (fun e r => gap e.1 (e.2 :: r)) (gap last [])
def pool (es : List (Nat × CpInfo)) (last : Nat) : Array CpInfo := ⟨poolList es last⟩
def fileOf (pool : Array CpInfo) (this : Nat) (attrs : Array Attribute := #[]) (ms : Array MethodInfo := #[]) (fl : Nat := 33) (sup : Nat := 0) (ifs : Array Nat := #[]) (fds : Array FieldInfo := #[]) : ClassFile where
  minorVersion := 0
  majorVersion := 65
  constantPool := pool
  accessFlags := fl
  thisClass := this
  superClass := sup
  interfaces := ifs
  fields := fds
  methods := ms
  attributes := attrs
def plain (name : String) (sup : Option ClassId) : Class where
  name := name
  kind := .ordinary
  loader := none
  accessFlags := 33
  super := sup
  interfaces := #[]
  cf := none
  fields := #[]
  methods := #[]
  instanceTypes := #[]
  staticTypes := #[]
  resolved := #[]
  callSites := []
  init := .initialized
  statics := none
  mirror := none

def pool0 : Array CpInfo := pool [(5, u "<init>"), (0, u "()V"), (1, .class_ 10), (1, u "java/lang/Object")] 113

def k0c0 : Code := { maxStack := 0, maxLocals := 1, code := object_method_1_code, exceptionTable := #[], attributes := #[] }
def k0m0 : Method := { name := "<init>", desc := "()V", sig := { parameters := [], returnType := none }, accessFlags := 1, code := some k0c0 }
/-- java/lang/Object -/
def k0 : Class := { plain "java/lang/Object" none with
  accessFlags := 33
  interfaces := #[]
  cf := some (fileOf pool0 8 #[] #[{ accessFlags := 1, nameIndex := 5, descriptorIndex := 6, attributes := #[] }] 33 0 #[] #[])
  fields := #[]
  methods := #[k0m0]
  instanceTypes := #[]
  staticTypes := #[]
  resolved := Array.replicate 124 none
  statics := none }

def pool1 : Array CpInfo := pool [(2, .class_ 4), (1, u "java/lang/Object"), (0, u "<init>"), (0, u "()V"), (0, .integer 2147483647), (0, .integer 1000001), (0, .integer 100000001), (0, .class_ 11), (0, u "BillingRun"), (0, .methodref 10 13), (0, .nameAndType 5 14), (0, u "(II)V"), (0, .methodref 10 16), (0, .nameAndType 17 18), (0, u "setPlan"), (0, u "(III)Z"), (0, .methodref 10 20), (0, .nameAndType 21 22), (0, u "setTier"), (0, u "(IIII)Z"), (0, .integer 1000000), (0, .methodref 10 25), (0, .nameAndType 26 18), (0, u "subscribe"), (0, .methodref 10 28), (0, .nameAndType 29 18), (0, u "recordUsage"), (0, .methodref 10 31), (0, .nameAndType 32 33), (0, u "closeCycle"), (0, u "()I"), (0, .long 1000000), (1, .long 30), (1, .long 7000), (1, .long 10000), (1, .long 2), (1, .methodref 10 45), (0, .nameAndType 46 47), (0, u "getInvoice"), (0, u "(II)J"), (0, .methodref 10 49), (0, .nameAndType 50 47), (0, u "getLine"), (0, .methodref 10 52), (0, .nameAndType 53 47), (0, u "getLineTax"), (0, .methodref 10 55), (0, .nameAndType 56 47), (0, u "rate"), (0, .methodref 10 58), (0, .nameAndType 59 47), (0, u "getCustomer"), (0, .methodref 10 61), (0, .nameAndType 62 63), (0, u "getSegment"), (0, u "(III)J"), (0, .methodref 10 65), (0, .nameAndType 66 33), (0, u "today"), (0, .class_ 68), (0, u "BillingRunL3"), (2, u "law"), (0, u "(IIIIII)Z")] 3

def k1m0 : Method := { name := "<init>", desc := "()V", sig := { parameters := [], returnType := none }, accessFlags := 1, code := none }
def k1c1 : Code := { maxStack := 6, maxLocals := 40, code := code, exceptionTable := #[], attributes := #[] }
def k1m1 : Method := { name := "law", desc := "(IIIIII)Z", sig := { parameters := [.int, .int, .int, .int, .int, .int], returnType := some .boolean }, accessFlags := 9, code := some k1c1 }
/-- BillingRunL3 -/
def k1 : Class := { plain "BillingRunL3" (some 0) with
  accessFlags := 49
  interfaces := #[]
  cf := some (fileOf pool1 67 #[] #[{ accessFlags := 1, nameIndex := 5, descriptorIndex := 6, attributes := #[] }, { accessFlags := 9, nameIndex := 71, descriptorIndex := 72, attributes := #[] }] 49 2 #[] #[])
  fields := #[]
  methods := #[k1m0, k1m1]
  instanceTypes := #[]
  staticTypes := #[]
  resolved := Array.replicate 76 none
  statics := none }

def pool2 : Array CpInfo := pool [(1, .methodref 2 3), (0, .class_ 4), (0, .nameAndType 5 6), (0, u "java/lang/Object"), (0, u "<init>"), (0, u "()V"), (0, .fieldref 8 9), (0, .class_ 10), (0, .nameAndType 11 12), (0, u "BillingRun"), (0, u "feeCents"), (0, u "[I"), (0, .fieldref 8 14), (0, .nameAndType 15 12), (0, u "kind"), (0, .fieldref 8 17), (0, .nameAndType 18 12), (0, u "upTo"), (0, .fieldref 8 20), (0, .nameAndType 21 12), (0, u "price"), (0, .fieldref 8 23), (0, .nameAndType 24 25), (0, u "active"), (0, u "[Z"), (0, .fieldref 8 27), (0, .nameAndType 28 12), (0, u "curPlan"), (0, .fieldref 8 30), (0, .nameAndType 31 12), (0, u "segCount"), (0, .fieldref 8 33), (0, .nameAndType 34 35), (0, u "credBal"), (0, u "[J"), (0, .fieldref 8 37), (0, .nameAndType 38 35), (0, u "credIssued"), (0, .fieldref 8 40), (0, .nameAndType 41 35), (0, u "credApplied"), (0, .fieldref 8 43), (0, .nameAndType 44 12), (0, u "segStart"), (0, .fieldref 8 46), (0, .nameAndType 47 12), (0, u "segEnd"), (0, .fieldref 8 49), (0, .nameAndType 50 12), (0, u "segPlan"), (0, .fieldref 8 52), (0, .nameAndType 53 12), (0, u "segUsage"), (0, .fieldref 8 55), (0, .nameAndType 56 12), (0, u "invLines"), (0, .fieldref 8 58), (0, .nameAndType 59 35), (0, u "invSub"), (0, .fieldref 8 61), (0, .nameAndType 62 35), (0, u "invTax"), (0, .fieldref 8 64), (0, .nameAndType 65 35), (0, u "invCredit"), (0, .fieldref 8 67), (0, .nameAndType 68 35), (0, u "invTotal"), (0, .fieldref 8 70), (0, .nameAndType 71 12), (0, u "invCycle"), (0, .fieldref 8 73), (0, .nameAndType 74 35), (0, u "lineAmt"), (0, .fieldref 8 76), (0, .nameAndType 77 35), (0, u "lineTax"), (0, .fieldref 8 79), (0, .nameAndType 80 35), (0, u "rem"), (0, .fieldref 8 82), (0, .nameAndType 83 25), (0, u "picked"), (0, .methodref 8 85), (0, .nameAndType 86 87), (0, u "clamp"), (0, u "(III)I"), (0, .fieldref 8 89), (0, .nameAndType 90 91), (0, u "days"), (0, u "I"), (0, .fieldref 8 93), (0, .nameAndType 94 91), (0, u "basis"), (0, .integer 1000000), (0, .fieldref 8 97), (0, .nameAndType 98 91), (0, u "todayDay"), (0, .methodref 8 100), (0, .nameAndType 101 102), (0, u "validPlan"), (0, u "(I)Z"), (0, .integer 100000000), (0, .long 1000000), (1, .methodref 8 107), (0, .nameAndType 108 109), (0, u "effBound"), (0, u "(II)J"), (3, u "(IJ)J"), (0, .methodref 8 115), (0, .nameAndType 116 113), (0, u "chargeGraduated"), (0, .long 18446744073709551615), (1, .methodref 8 120), (0, .nameAndType 121 113), (0, u "charge"), (0, .methodref 8 123), (0, .nameAndType 124 102), (0, u "validCustomer"), (0, .methodref 8 126), (0, .nameAndType 127 102), (0, u "validDay"), (0, .methodref 8 129), (0, .nameAndType 130 131), (0, u "appendSegment"), (0, u "(III)V"), (0, .methodref 8 133), (0, .nameAndType 134 135), (0, u "openSlot"), (0, u "(I)I"), (0, .fieldref 8 137), (0, .nameAndType 138 91), (0, u "cycles"), (0, .methodref 8 140), (0, .nameAndType 141 142), (0, u "buildInvoice"), (0, u "(I)V"), (0, .long 10000), (1, .methodref 8 146), (0, .nameAndType 147 109), (0, u "fillLines"), (0, .methodref 8 149), (0, .nameAndType 150 151), (0, u "spreadTax"), (0, u "(IIJ)V"), (0, u "GRADUATED"), (2, u "VOLUME"), (1, u "INV_LINES"), (0, u "INV_SUBTOTAL"), (0, u "INV_TAX"), (1, u "INV_CREDIT"), (1, u "INV_TOTAL"), (1, u "INV_CYCLE"), (1, u "SEG_START"), (0, u "SEG_END"), (0, u "SEG_PLAN"), (0, u "SEG_USAGE"), (0, u "CUST_ACTIVE"), (0, u "CUST_PLAN"), (0, u "CUST_SEGMENTS"), (0, u "CUST_CREDIT_BALANCE"), (0, u "CUST_CREDIT_ISSUED"), (0, u "CUST_CREDIT_APPLIED"), (0, u "CUSTOMERS"), (1, u "PLANS"), (1, u "TIERS"), (0, u "MAX_SEGS"), (0, u "MAX_LINES"), (0, u "MAX_QTY"), (0, u "MICRO"), (0, u "J"), (0, u "(II)V"), (3, u "setPlan"), (0, u "(III)Z"), (0, u "setTier"), (0, u "(IIII)Z"), (0, u "rate"), (0, u "subscribe"), (3, u "recordUsage"), (1, u "closeCycle"), (0, u "()I"), (1, u "getLine"), (0, u "getLineTax"), (0, u "getInvoice"), (0, u "getSegment"), (0, u "(III)J"), (0, u "getCustomer"), (0, u "today")] 3

def k2c0 : Code := { maxStack := 4, maxLocals := 4, code := prog_1_method_1_code, exceptionTable := #[], attributes := #[] }
def k2m0 : Method := { name := "<init>", desc := "(II)V", sig := { parameters := [.int, .int], returnType := none }, accessFlags := 1, code := some k2c0 }
def k2c1 : Code := { maxStack := 2, maxLocals := 3, code := prog_1_method_2_code, exceptionTable := #[], attributes := #[] }
def k2m1 : Method := { name := "clamp", desc := "(III)I", sig := { parameters := [.int, .int, .int], returnType := some .int }, accessFlags := 10, code := some k2c1 }
def k2c2 : Code := { maxStack := 2, maxLocals := 2, code := prog_1_method_3_code, exceptionTable := #[], attributes := #[] }
def k2m2 : Method := { name := "validCustomer", desc := "(I)Z", sig := { parameters := [.int], returnType := some .boolean }, accessFlags := 2, code := some k2c2 }
def k2c3 : Code := { maxStack := 2, maxLocals := 2, code := prog_1_method_4_code, exceptionTable := #[], attributes := #[] }
def k2m3 : Method := { name := "validPlan", desc := "(I)Z", sig := { parameters := [.int], returnType := some .boolean }, accessFlags := 2, code := some k2c3 }
def k2c4 : Code := { maxStack := 3, maxLocals := 2, code := prog_1_method_5_code, exceptionTable := #[], attributes := #[] }
def k2m4 : Method := { name := "validDay", desc := "(I)Z", sig := { parameters := [.int], returnType := some .boolean }, accessFlags := 2, code := some k2c4 }
def k2c5 : Code := { maxStack := 3, maxLocals := 4, code := prog_1_method_6_code, exceptionTable := #[], attributes := #[] }
def k2m5 : Method := { name := "setPlan", desc := "(III)Z", sig := { parameters := [.int, .int, .int], returnType := some .boolean }, accessFlags := 1, code := some k2c5 }
def k2c6 : Code := { maxStack := 3, maxLocals := 5, code := prog_1_method_7_code, exceptionTable := #[], attributes := #[] }
def k2m6 : Method := { name := "setTier", desc := "(IIII)Z", sig := { parameters := [.int, .int, .int, .int], returnType := some .boolean }, accessFlags := 1, code := some k2c6 }
def k2c7 : Code := { maxStack := 4, maxLocals := 8, code := prog_1_method_8_code, exceptionTable := #[], attributes := #[] }
def k2m7 : Method := { name := "effBound", desc := "(II)J", sig := { parameters := [.int, .int], returnType := some .long }, accessFlags := 2, code := some k2c7 }
def k2c8 : Code := { maxStack := 7, maxLocals := 13, code := prog_1_method_9_code, exceptionTable := #[], attributes := #[] }
def k2m8 : Method := { name := "chargeGraduated", desc := "(IJ)J", sig := { parameters := [.int, .long], returnType := some .long }, accessFlags := 2, code := some k2c8 }
def k2c9 : Code := { maxStack := 4, maxLocals := 4, code := prog_1_method_11_code, exceptionTable := #[], attributes := #[] }
def k2m9 : Method := { name := "charge", desc := "(IJ)J", sig := { parameters := [.int, .long], returnType := some .long }, accessFlags := 2, code := some k2c9 }
def k2c10 : Code := { maxStack := 4, maxLocals := 3, code := prog_1_method_12_code, exceptionTable := #[], attributes := #[] }
def k2m10 : Method := { name := "rate", desc := "(II)J", sig := { parameters := [.int, .int], returnType := some .long }, accessFlags := 1, code := some k2c10 }
def k2c11 : Code := { maxStack := 4, maxLocals := 6, code := prog_1_method_13_code, exceptionTable := #[], attributes := #[] }
def k2m11 : Method := { name := "appendSegment", desc := "(III)V", sig := { parameters := [.int, .int, .int], returnType := none }, accessFlags := 2, code := some k2c11 }
def k2c12 : Code := { maxStack := 2, maxLocals := 3, code := prog_1_method_14_code, exceptionTable := #[], attributes := #[] }
def k2m12 : Method := { name := "openSlot", desc := "(I)I", sig := { parameters := [.int], returnType := some .int }, accessFlags := 2, code := some k2c12 }
def k2c13 : Code := { maxStack := 4, maxLocals := 4, code := prog_1_method_15_code, exceptionTable := #[], attributes := #[] }
def k2m13 : Method := { name := "subscribe", desc := "(III)Z", sig := { parameters := [.int, .int, .int], returnType := some .boolean }, accessFlags := 1, code := some k2c13 }
def k2c14 : Code := { maxStack := 4, maxLocals := 5, code := prog_1_method_18_code, exceptionTable := #[], attributes := #[] }
def k2m14 : Method := { name := "recordUsage", desc := "(III)Z", sig := { parameters := [.int, .int, .int], returnType := some .boolean }, accessFlags := 1, code := some k2c14 }
def k2c15 : Code := { maxStack := 5, maxLocals := 4, code := prog_1_method_20_code, exceptionTable := #[], attributes := #[] }
def k2m15 : Method := { name := "closeCycle", desc := "()I", sig := { parameters := [], returnType := some .int }, accessFlags := 1, code := some k2c15 }
def k2c16 : Code := { maxStack := 6, maxLocals := 17, code := prog_1_method_21_code, exceptionTable := #[], attributes := #[] }
def k2m16 : Method := { name := "fillLines", desc := "(II)J", sig := { parameters := [.int, .int], returnType := some .long }, accessFlags := 2, code := some k2c16 }
def k2c17 : Code := { maxStack := 8, maxLocals := 13, code := prog_1_method_22_code, exceptionTable := #[], attributes := #[] }
def k2m17 : Method := { name := "spreadTax", desc := "(IIJ)V", sig := { parameters := [.int, .int, .long], returnType := none }, accessFlags := 2, code := some k2c17 }
def k2c18 : Code := { maxStack := 6, maxLocals := 12, code := prog_1_method_23_code, exceptionTable := #[], attributes := #[] }
def k2m18 : Method := { name := "buildInvoice", desc := "(I)V", sig := { parameters := [.int], returnType := none }, accessFlags := 2, code := some k2c18 }
def k2c19 : Code := { maxStack := 3, maxLocals := 3, code := prog_1_method_24_code, exceptionTable := #[], attributes := #[] }
def k2m19 : Method := { name := "getLine", desc := "(II)J", sig := { parameters := [.int, .int], returnType := some .long }, accessFlags := 1, code := some k2c19 }
def k2c20 : Code := { maxStack := 3, maxLocals := 3, code := prog_1_method_25_code, exceptionTable := #[], attributes := #[] }
def k2m20 : Method := { name := "getLineTax", desc := "(II)J", sig := { parameters := [.int, .int], returnType := some .long }, accessFlags := 1, code := some k2c20 }
def k2c21 : Code := { maxStack := 2, maxLocals := 3, code := prog_1_method_26_code, exceptionTable := #[], attributes := #[] }
def k2m21 : Method := { name := "getInvoice", desc := "(II)J", sig := { parameters := [.int, .int], returnType := some .long }, accessFlags := 1, code := some k2c21 }
def k2c22 : Code := { maxStack := 3, maxLocals := 5, code := prog_1_method_27_code, exceptionTable := #[], attributes := #[] }
def k2m22 : Method := { name := "getSegment", desc := "(III)J", sig := { parameters := [.int, .int, .int], returnType := some .long }, accessFlags := 1, code := some k2c22 }
def k2c23 : Code := { maxStack := 2, maxLocals := 3, code := prog_1_method_28_code, exceptionTable := #[], attributes := #[] }
def k2m23 : Method := { name := "getCustomer", desc := "(II)J", sig := { parameters := [.int, .int], returnType := some .long }, accessFlags := 1, code := some k2c23 }
def k2c24 : Code := { maxStack := 1, maxLocals := 1, code := prog_1_method_29_code, exceptionTable := #[], attributes := #[] }
def k2m24 : Method := { name := "today", desc := "()I", sig := { parameters := [], returnType := some .int }, accessFlags := 1, code := some k2c24 }
/-- BillingRun -/
def k2 : Class := { plain "BillingRun" (some 0) with
  accessFlags := 49
  interfaces := #[]
  cf := some (fileOf pool2 8 #[] #[{ accessFlags := 1, nameIndex := 5, descriptorIndex := 187, attributes := #[] }, { accessFlags := 10, nameIndex := 86, descriptorIndex := 87, attributes := #[] }, { accessFlags := 2, nameIndex := 124, descriptorIndex := 102, attributes := #[] }, { accessFlags := 2, nameIndex := 101, descriptorIndex := 102, attributes := #[] }, { accessFlags := 2, nameIndex := 127, descriptorIndex := 102, attributes := #[] }, { accessFlags := 1, nameIndex := 191, descriptorIndex := 192, attributes := #[] }, { accessFlags := 1, nameIndex := 193, descriptorIndex := 194, attributes := #[] }, { accessFlags := 2, nameIndex := 108, descriptorIndex := 109, attributes := #[] }, { accessFlags := 2, nameIndex := 116, descriptorIndex := 113, attributes := #[] }, { accessFlags := 2, nameIndex := 121, descriptorIndex := 113, attributes := #[] }, { accessFlags := 1, nameIndex := 195, descriptorIndex := 109, attributes := #[] }, { accessFlags := 2, nameIndex := 130, descriptorIndex := 131, attributes := #[] }, { accessFlags := 2, nameIndex := 134, descriptorIndex := 135, attributes := #[] }, { accessFlags := 1, nameIndex := 196, descriptorIndex := 192, attributes := #[] }, { accessFlags := 1, nameIndex := 200, descriptorIndex := 192, attributes := #[] }, { accessFlags := 1, nameIndex := 202, descriptorIndex := 203, attributes := #[] }, { accessFlags := 2, nameIndex := 147, descriptorIndex := 109, attributes := #[] }, { accessFlags := 2, nameIndex := 150, descriptorIndex := 151, attributes := #[] }, { accessFlags := 2, nameIndex := 141, descriptorIndex := 142, attributes := #[] }, { accessFlags := 1, nameIndex := 205, descriptorIndex := 109, attributes := #[] }, { accessFlags := 1, nameIndex := 206, descriptorIndex := 109, attributes := #[] }, { accessFlags := 1, nameIndex := 207, descriptorIndex := 109, attributes := #[] }, { accessFlags := 1, nameIndex := 208, descriptorIndex := 209, attributes := #[] }, { accessFlags := 1, nameIndex := 210, descriptorIndex := 109, attributes := #[] }, { accessFlags := 1, nameIndex := 211, descriptorIndex := 203, attributes := #[] }] 49 2 #[] #[{ accessFlags := 25, nameIndex := 152, descriptorIndex := 91, attributes := #[] }, { accessFlags := 25, nameIndex := 155, descriptorIndex := 91, attributes := #[] }, { accessFlags := 25, nameIndex := 157, descriptorIndex := 91, attributes := #[] }, { accessFlags := 25, nameIndex := 158, descriptorIndex := 91, attributes := #[] }, { accessFlags := 25, nameIndex := 159, descriptorIndex := 91, attributes := #[] }, { accessFlags := 25, nameIndex := 161, descriptorIndex := 91, attributes := #[] }, { accessFlags := 25, nameIndex := 163, descriptorIndex := 91, attributes := #[] }, { accessFlags := 25, nameIndex := 165, descriptorIndex := 91, attributes := #[] }, { accessFlags := 25, nameIndex := 167, descriptorIndex := 91, attributes := #[] }, { accessFlags := 25, nameIndex := 168, descriptorIndex := 91, attributes := #[] }, { accessFlags := 25, nameIndex := 169, descriptorIndex := 91, attributes := #[] }, { accessFlags := 25, nameIndex := 170, descriptorIndex := 91, attributes := #[] }, { accessFlags := 25, nameIndex := 171, descriptorIndex := 91, attributes := #[] }, { accessFlags := 25, nameIndex := 172, descriptorIndex := 91, attributes := #[] }, { accessFlags := 25, nameIndex := 173, descriptorIndex := 91, attributes := #[] }, { accessFlags := 25, nameIndex := 174, descriptorIndex := 91, attributes := #[] }, { accessFlags := 25, nameIndex := 175, descriptorIndex := 91, attributes := #[] }, { accessFlags := 25, nameIndex := 176, descriptorIndex := 91, attributes := #[] }, { accessFlags := 26, nameIndex := 177, descriptorIndex := 91, attributes := #[] }, { accessFlags := 26, nameIndex := 179, descriptorIndex := 91, attributes := #[] }, { accessFlags := 26, nameIndex := 181, descriptorIndex := 91, attributes := #[] }, { accessFlags := 26, nameIndex := 182, descriptorIndex := 91, attributes := #[] }, { accessFlags := 26, nameIndex := 183, descriptorIndex := 91, attributes := #[] }, { accessFlags := 26, nameIndex := 184, descriptorIndex := 91, attributes := #[] }, { accessFlags := 26, nameIndex := 185, descriptorIndex := 186, attributes := #[] }, { accessFlags := 2, nameIndex := 90, descriptorIndex := 91, attributes := #[] }, { accessFlags := 2, nameIndex := 94, descriptorIndex := 91, attributes := #[] }, { accessFlags := 2, nameIndex := 98, descriptorIndex := 91, attributes := #[] }, { accessFlags := 2, nameIndex := 138, descriptorIndex := 91, attributes := #[] }, { accessFlags := 2, nameIndex := 11, descriptorIndex := 12, attributes := #[] }, { accessFlags := 2, nameIndex := 15, descriptorIndex := 12, attributes := #[] }, { accessFlags := 2, nameIndex := 18, descriptorIndex := 12, attributes := #[] }, { accessFlags := 2, nameIndex := 21, descriptorIndex := 12, attributes := #[] }, { accessFlags := 2, nameIndex := 24, descriptorIndex := 25, attributes := #[] }, { accessFlags := 2, nameIndex := 28, descriptorIndex := 12, attributes := #[] }, { accessFlags := 2, nameIndex := 31, descriptorIndex := 12, attributes := #[] }, { accessFlags := 2, nameIndex := 34, descriptorIndex := 35, attributes := #[] }, { accessFlags := 2, nameIndex := 38, descriptorIndex := 35, attributes := #[] }, { accessFlags := 2, nameIndex := 41, descriptorIndex := 35, attributes := #[] }, { accessFlags := 2, nameIndex := 44, descriptorIndex := 12, attributes := #[] }, { accessFlags := 2, nameIndex := 47, descriptorIndex := 12, attributes := #[] }, { accessFlags := 2, nameIndex := 50, descriptorIndex := 12, attributes := #[] }, { accessFlags := 2, nameIndex := 53, descriptorIndex := 12, attributes := #[] }, { accessFlags := 2, nameIndex := 56, descriptorIndex := 12, attributes := #[] }, { accessFlags := 2, nameIndex := 59, descriptorIndex := 35, attributes := #[] }, { accessFlags := 2, nameIndex := 62, descriptorIndex := 35, attributes := #[] }, { accessFlags := 2, nameIndex := 65, descriptorIndex := 35, attributes := #[] }, { accessFlags := 2, nameIndex := 68, descriptorIndex := 35, attributes := #[] }, { accessFlags := 2, nameIndex := 71, descriptorIndex := 12, attributes := #[] }, { accessFlags := 2, nameIndex := 74, descriptorIndex := 35, attributes := #[] }, { accessFlags := 2, nameIndex := 77, descriptorIndex := 35, attributes := #[] }, { accessFlags := 2, nameIndex := 80, descriptorIndex := 35, attributes := #[] }, { accessFlags := 2, nameIndex := 83, descriptorIndex := 25, attributes := #[] }])
  fields := #[{ name := "GRADUATED", type := .int, accessFlags := 25, slot := 0, constantValue := 0 }, { name := "VOLUME", type := .int, accessFlags := 25, slot := 1, constantValue := 0 }, { name := "INV_LINES", type := .int, accessFlags := 25, slot := 2, constantValue := 0 }, { name := "INV_SUBTOTAL", type := .int, accessFlags := 25, slot := 3, constantValue := 0 }, { name := "INV_TAX", type := .int, accessFlags := 25, slot := 4, constantValue := 0 }, { name := "INV_CREDIT", type := .int, accessFlags := 25, slot := 5, constantValue := 0 }, { name := "INV_TOTAL", type := .int, accessFlags := 25, slot := 6, constantValue := 0 }, { name := "INV_CYCLE", type := .int, accessFlags := 25, slot := 7, constantValue := 0 }, { name := "SEG_START", type := .int, accessFlags := 25, slot := 8, constantValue := 0 }, { name := "SEG_END", type := .int, accessFlags := 25, slot := 9, constantValue := 0 }, { name := "SEG_PLAN", type := .int, accessFlags := 25, slot := 10, constantValue := 0 }, { name := "SEG_USAGE", type := .int, accessFlags := 25, slot := 11, constantValue := 0 }, { name := "CUST_ACTIVE", type := .int, accessFlags := 25, slot := 12, constantValue := 0 }, { name := "CUST_PLAN", type := .int, accessFlags := 25, slot := 13, constantValue := 0 }, { name := "CUST_SEGMENTS", type := .int, accessFlags := 25, slot := 14, constantValue := 0 }, { name := "CUST_CREDIT_BALANCE", type := .int, accessFlags := 25, slot := 15, constantValue := 0 }, { name := "CUST_CREDIT_ISSUED", type := .int, accessFlags := 25, slot := 16, constantValue := 0 }, { name := "CUST_CREDIT_APPLIED", type := .int, accessFlags := 25, slot := 17, constantValue := 0 }, { name := "CUSTOMERS", type := .int, accessFlags := 26, slot := 18, constantValue := 0 }, { name := "PLANS", type := .int, accessFlags := 26, slot := 19, constantValue := 0 }, { name := "TIERS", type := .int, accessFlags := 26, slot := 20, constantValue := 0 }, { name := "MAX_SEGS", type := .int, accessFlags := 26, slot := 21, constantValue := 0 }, { name := "MAX_LINES", type := .int, accessFlags := 26, slot := 22, constantValue := 0 }, { name := "MAX_QTY", type := .int, accessFlags := 26, slot := 23, constantValue := 0 }, { name := "MICRO", type := .long, accessFlags := 26, slot := 24, constantValue := 0 }, { name := "days", type := .int, accessFlags := 2, slot := 0, constantValue := 0 }, { name := "basis", type := .int, accessFlags := 2, slot := 1, constantValue := 0 }, { name := "todayDay", type := .int, accessFlags := 2, slot := 2, constantValue := 0 }, { name := "cycles", type := .int, accessFlags := 2, slot := 3, constantValue := 0 }, { name := "feeCents", type := (.array .int), accessFlags := 2, slot := 4, constantValue := 0 }, { name := "kind", type := (.array .int), accessFlags := 2, slot := 5, constantValue := 0 }, { name := "upTo", type := (.array .int), accessFlags := 2, slot := 6, constantValue := 0 }, { name := "price", type := (.array .int), accessFlags := 2, slot := 7, constantValue := 0 }, { name := "active", type := (.array .boolean), accessFlags := 2, slot := 8, constantValue := 0 }, { name := "curPlan", type := (.array .int), accessFlags := 2, slot := 9, constantValue := 0 }, { name := "segCount", type := (.array .int), accessFlags := 2, slot := 10, constantValue := 0 }, { name := "credBal", type := (.array .long), accessFlags := 2, slot := 11, constantValue := 0 }, { name := "credIssued", type := (.array .long), accessFlags := 2, slot := 12, constantValue := 0 }, { name := "credApplied", type := (.array .long), accessFlags := 2, slot := 13, constantValue := 0 }, { name := "segStart", type := (.array .int), accessFlags := 2, slot := 14, constantValue := 0 }, { name := "segEnd", type := (.array .int), accessFlags := 2, slot := 15, constantValue := 0 }, { name := "segPlan", type := (.array .int), accessFlags := 2, slot := 16, constantValue := 0 }, { name := "segUsage", type := (.array .int), accessFlags := 2, slot := 17, constantValue := 0 }, { name := "invLines", type := (.array .int), accessFlags := 2, slot := 18, constantValue := 0 }, { name := "invSub", type := (.array .long), accessFlags := 2, slot := 19, constantValue := 0 }, { name := "invTax", type := (.array .long), accessFlags := 2, slot := 20, constantValue := 0 }, { name := "invCredit", type := (.array .long), accessFlags := 2, slot := 21, constantValue := 0 }, { name := "invTotal", type := (.array .long), accessFlags := 2, slot := 22, constantValue := 0 }, { name := "invCycle", type := (.array .int), accessFlags := 2, slot := 23, constantValue := 0 }, { name := "lineAmt", type := (.array .long), accessFlags := 2, slot := 24, constantValue := 0 }, { name := "lineTax", type := (.array .long), accessFlags := 2, slot := 25, constantValue := 0 }, { name := "rem", type := (.array .long), accessFlags := 2, slot := 26, constantValue := 0 }, { name := "picked", type := (.array .boolean), accessFlags := 2, slot := 27, constantValue := 0 }]
  methods := #[k2m0, k2m1, k2m2, k2m3, k2m4, k2m5, k2m6, k2m7, k2m8, k2m9, k2m10, k2m11, k2m12, k2m13, k2m14, k2m15, k2m16, k2m17, k2m18, k2m19, k2m20, k2m21, k2m22, k2m23, k2m24]
  instanceTypes := #[.int, .int, .int, .int, (.array .int), (.array .int), (.array .int), (.array .int), (.array .boolean), (.array .int), (.array .int), (.array .long), (.array .long), (.array .long), (.array .int), (.array .int), (.array .int), (.array .int), (.array .int), (.array .long), (.array .long), (.array .long), (.array .long), (.array .int), (.array .long), (.array .long), (.array .long), (.array .boolean)]
  staticTypes := #[.int, .int, .int, .int, .int, .int, .int, .int, .int, .int, .int, .int, .int, .int, .int, .int, .int, .int, .int, .int, .int, .int, .int, .int, .long]
  resolved := Array.replicate 215 none
  statics := none }

def pool3 : Array CpInfo := pool [(1, u "java/lang/Cloneable"), (0, .class_ 1), (0, u "java/lang/Object"), (0, .class_ 3)] 3

/-- java/lang/Cloneable -/
def k3 : Class := { plain "java/lang/Cloneable" (some 0) with
  accessFlags := 1537
  interfaces := #[]
  cf := some (fileOf pool3 2 #[] #[] 1537 4 #[] #[])
  fields := #[]
  methods := #[]
  instanceTypes := #[]
  staticTypes := #[]
  resolved := Array.replicate 8 none
  statics := none }

def pool4 : Array CpInfo := pool [(1, u "java/io/Serializable"), (0, .class_ 1), (0, u "java/lang/Object"), (0, .class_ 3)] 3

/-- java/io/Serializable -/
def k4 : Class := { plain "java/io/Serializable" (some 0) with
  accessFlags := 1537
  interfaces := #[]
  cf := some (fileOf pool4 2 #[] #[] 1537 4 #[] #[])
  fields := #[]
  methods := #[]
  instanceTypes := #[]
  staticTypes := #[]
  resolved := Array.replicate 8 none
  statics := none }

/-- the primitive boolean -/
def k5 : Class := { plain "boolean" none with kind := .primitive 'Z', accessFlags := 0x411 }
/-- [Z -/
def k6 : Class := { plain "[Z" (some 0) with kind := .array 5 .boolean, interfaces := #[3, 4], accessFlags := 1041 }

/-- the primitive byte -/
def k7 : Class := { plain "byte" none with kind := .primitive 'B', accessFlags := 0x411 }
/-- [B -/
def k8 : Class := { plain "[B" (some 0) with kind := .array 7 .byte, interfaces := #[3, 4], accessFlags := 1041 }

/-- the primitive int -/
def k9 : Class := { plain "int" none with kind := .primitive 'I', accessFlags := 0x411 }
/-- [I -/
def k10 : Class := { plain "[I" (some 0) with kind := .array 9 .int, interfaces := #[3, 4], accessFlags := 1041 }

/-- the primitive long -/
def k11 : Class := { plain "long" none with kind := .primitive 'J', accessFlags := 0x411 }
/-- [J -/
def k12 : Class := { plain "[J" (some 0) with kind := .array 11 .long, interfaces := #[3, 4], accessFlags := 1041 }

def heap : Heap := #[]
def classes : Array Class := #[k0, k1, k2, k3, k4, k5, k6, k7, k8, k9, k10, k11, k12]
def interned : List (Array UInt16 × Addr) := []
def slotsUsed : Nat := 0
def theMethod : MethodId := ⟨1, 1⟩
def args0 : Array Value := #[.int 1, .int 1, .int 1, .int 1, .int 1, .int 1]
def aboutOver (below : List Frame) : State where
  vm := { classes := classes, interned := interned.toArray }
  heap := heap
  slotsUsed := slotsUsed
  threads := #[{ frames := .invoking theMethod args0 :: below }]
def below0 : List Frame := [.native { method := ⟨0, 0⟩, args := #[] }]
def about1 : State := aboutOver below0
def p0 : Program := .bare "" "" ""
def e0 : Env := launch0.env 0 0 0
theorem w_frames : about1.frames = Frame.invoking theMethod args0 :: below0 := rfl
set_option maxRecDepth 65536 in
theorem w_args : argsFit about1.vm theMethod args0 = true := by decide +kernel
set_option maxRecDepth 65536 in
theorem w_heap : heapFits about1 = true := by decide +kernel
set_option maxRecDepth 65536 in
theorem w_runnable : about1.curStatus? = some .runnable := by decide +kernel
set_option maxRecDepth 65536 in
theorem w_alone : about1.alone = true := by decide +kernel
set_option maxRecDepth 65536 in
theorem w_named : about1.methodNamed? x = some theMethod := by decide +kernel
set_option maxRecDepth 65536 in
theorem w_hears : about1.hears theMethod below0 = true := by decide +kernel
set_option maxRecDepth 65536 in
theorem w_ripe : about1.ripe theMethod args0 below0 = true := by decide +kernel
theorem w_running : about1.status = .running := rfl
set_option maxRecDepth 65536 in
theorem w_room : about1.hasRoom e0.platform room_1 = true :=
  launch0.hasRoom_least _ room_1 (by decide +kernel) (by decide +kernel) (by decide +kernel) (by decide +kernel) (by decide +kernel) (by decide +kernel)
theorem allAtoms_all (ts : List Jvm.Cond) (a : Array Jvm.Value) (st : Jvm.State) : (allAtoms ts).before a st = ts.all (fun c => c.before a st) := by
  induction ts with
  | nil => rfl
  | cons c t ih =>
    show (Jvm.Cond.and c (allAtoms t)).before a st = _
    rw [Jvm.Cond.before_and, ih, List.all_cons]
def words1 : List Jvm.Cond := Jvm.Cond.code x code maxLocals ret :: tables_1
/-- a 'code' word, met by the world's own term for the bytes: nothing is compared byte by byte -/
theorem code_word {y : MethodName} {bytes : ByteArray} {mx : Nat} {rt : Option FieldType} {a : Array Value} {s : State} {m : MethodId} {meth : Method} {c : Code} (h1 : s.methodNamed? y = some m) (h2 : s.vm.method? m = some meth) (h3 : meth.code = some c) (h4 : c.code = bytes)
    (h5 : (c.maxLocals == mx && c.exceptionTable.isEmpty && decide (c.maxStack ≤ mostOperands) && decide (meth.sig.returnType = rt) && !meth.locks && decide (parseMethodDescriptor y.desc = some meth.sig)) = true) : (Jvm.Cond.code y bytes mx rt).before a s = true := by
  simp only [Bool.and_eq_true, beq_iff_eq, Bool.not_eq_true', decide_eq_true_eq] at h5
  obtain ⟨⟨⟨⟨⟨g1, g2⟩, g3⟩, g4⟩, g5⟩, g6⟩ := h5
  simp [Cond.before, Cond.holds, Cond.value, h1, h2, h3, h4, g1, g2, g3, g4, g5, g6]
def isCode : Jvm.Cond → Bool
  | .code _ _ _ _ => true
  | _ => false
theorem all_split {L : List Jvm.Cond} {P : Jvm.Cond → Bool} (h1 : L.all (fun c => isCode c || P c) = true) (h2 : ∀ c ∈ L.filter isCode, P c = true) : L.all P = true := by
  refine List.all_eq_true.mpr fun c hc => ?_
  have h := List.all_eq_true.mp h1 c hc
  rcases Bool.eq_false_or_eq_true (isCode c) with hi | hi
  · exact h2 c (List.mem_filter.mpr ⟨hc, hi⟩)
  · simpa [hi] using h
set_option maxRecDepth 65536 in
theorem w_c0 : (Jvm.Cond.code x code maxLocals ret).before args0 about1 = true := code_word (m := ⟨1, 1⟩) (meth := k1m1) (c := k1c1) (by decide +kernel) rfl rfl rfl (by decide +kernel)
set_option maxRecDepth 65536 in
theorem w_c1 : (Jvm.Cond.code ({ cls := "BillingRun", name := "<init>", desc := "(II)V" } : Jvm.MethodName) prog_1_method_1_code (4 : Nat) (Option.none : Option Jvm.ClassFile.FieldType)).before args0 about1 = true := code_word (m := ⟨2, 0⟩) (meth := k2m0) (c := k2c0) (by decide +kernel) rfl rfl rfl (by decide +kernel)
set_option maxRecDepth 65536 in
theorem w_c2 : (Jvm.Cond.code ({ cls := "java/lang/Object", name := "<init>", desc := "()V" } : Jvm.MethodName) object_method_1_code (1 : Nat) (Option.none : Option Jvm.ClassFile.FieldType)).before args0 about1 = true := code_word (m := ⟨0, 0⟩) (meth := k0m0) (c := k0c0) (by decide +kernel) rfl rfl rfl (by decide +kernel)
set_option maxRecDepth 65536 in
theorem w_c3 : (Jvm.Cond.code ({ cls := "BillingRun", name := "clamp", desc := "(III)I" } : Jvm.MethodName) prog_1_method_2_code (3 : Nat) (Option.some Jvm.ClassFile.FieldType.int)).before args0 about1 = true := code_word (m := ⟨2, 1⟩) (meth := k2m1) (c := k2c1) (by decide +kernel) rfl rfl rfl (by decide +kernel)
set_option maxRecDepth 65536 in
theorem w_c4 : (Jvm.Cond.code ({ cls := "BillingRun", name := "setPlan", desc := "(III)Z" } : Jvm.MethodName) prog_1_method_6_code (4 : Nat) (Option.some Jvm.ClassFile.FieldType.boolean)).before args0 about1 = true := code_word (m := ⟨2, 5⟩) (meth := k2m5) (c := k2c5) (by decide +kernel) rfl rfl rfl (by decide +kernel)
set_option maxRecDepth 65536 in
theorem w_c5 : (Jvm.Cond.code ({ cls := "BillingRun", name := "validPlan", desc := "(I)Z" } : Jvm.MethodName) prog_1_method_4_code (2 : Nat) (Option.some Jvm.ClassFile.FieldType.boolean)).before args0 about1 = true := code_word (m := ⟨2, 3⟩) (meth := k2m3) (c := k2c3) (by decide +kernel) rfl rfl rfl (by decide +kernel)
set_option maxRecDepth 65536 in
theorem w_c6 : (Jvm.Cond.code ({ cls := "BillingRun", name := "setTier", desc := "(IIII)Z" } : Jvm.MethodName) prog_1_method_7_code (5 : Nat) (Option.some Jvm.ClassFile.FieldType.boolean)).before args0 about1 = true := code_word (m := ⟨2, 6⟩) (meth := k2m6) (c := k2c6) (by decide +kernel) rfl rfl rfl (by decide +kernel)
set_option maxRecDepth 65536 in
theorem w_c7 : (Jvm.Cond.code ({ cls := "BillingRun", name := "subscribe", desc := "(III)Z" } : Jvm.MethodName) prog_1_method_15_code (4 : Nat) (Option.some Jvm.ClassFile.FieldType.boolean)).before args0 about1 = true := code_word (m := ⟨2, 13⟩) (meth := k2m13) (c := k2c13) (by decide +kernel) rfl rfl rfl (by decide +kernel)
set_option maxRecDepth 65536 in
theorem w_c8 : (Jvm.Cond.code ({ cls := "BillingRun", name := "validCustomer", desc := "(I)Z" } : Jvm.MethodName) prog_1_method_3_code (2 : Nat) (Option.some Jvm.ClassFile.FieldType.boolean)).before args0 about1 = true := code_word (m := ⟨2, 2⟩) (meth := k2m2) (c := k2c2) (by decide +kernel) rfl rfl rfl (by decide +kernel)
set_option maxRecDepth 65536 in
theorem w_c9 : (Jvm.Cond.code ({ cls := "BillingRun", name := "validDay", desc := "(I)Z" } : Jvm.MethodName) prog_1_method_5_code (2 : Nat) (Option.some Jvm.ClassFile.FieldType.boolean)).before args0 about1 = true := code_word (m := ⟨2, 4⟩) (meth := k2m4) (c := k2c4) (by decide +kernel) rfl rfl rfl (by decide +kernel)
set_option maxRecDepth 65536 in
theorem w_c10 : (Jvm.Cond.code ({ cls := "BillingRun", name := "appendSegment", desc := "(III)V" } : Jvm.MethodName) prog_1_method_13_code (6 : Nat) (Option.none : Option Jvm.ClassFile.FieldType)).before args0 about1 = true := code_word (m := ⟨2, 11⟩) (meth := k2m11) (c := k2c11) (by decide +kernel) rfl rfl rfl (by decide +kernel)
set_option maxRecDepth 65536 in
theorem w_c11 : (Jvm.Cond.code ({ cls := "BillingRun", name := "recordUsage", desc := "(III)Z" } : Jvm.MethodName) prog_1_method_18_code (5 : Nat) (Option.some Jvm.ClassFile.FieldType.boolean)).before args0 about1 = true := code_word (m := ⟨2, 14⟩) (meth := k2m14) (c := k2c14) (by decide +kernel) rfl rfl rfl (by decide +kernel)
set_option maxRecDepth 65536 in
theorem w_c12 : (Jvm.Cond.code ({ cls := "BillingRun", name := "openSlot", desc := "(I)I" } : Jvm.MethodName) prog_1_method_14_code (3 : Nat) (Option.some Jvm.ClassFile.FieldType.int)).before args0 about1 = true := code_word (m := ⟨2, 12⟩) (meth := k2m12) (c := k2c12) (by decide +kernel) rfl rfl rfl (by decide +kernel)
set_option maxRecDepth 65536 in
theorem w_c13 : (Jvm.Cond.code ({ cls := "BillingRun", name := "closeCycle", desc := "()I" } : Jvm.MethodName) prog_1_method_20_code (4 : Nat) (Option.some Jvm.ClassFile.FieldType.int)).before args0 about1 = true := code_word (m := ⟨2, 15⟩) (meth := k2m15) (c := k2c15) (by decide +kernel) rfl rfl rfl (by decide +kernel)
set_option maxRecDepth 65536 in
theorem w_c14 : (Jvm.Cond.code ({ cls := "BillingRun", name := "buildInvoice", desc := "(I)V" } : Jvm.MethodName) prog_1_method_23_code (12 : Nat) (Option.none : Option Jvm.ClassFile.FieldType)).before args0 about1 = true := code_word (m := ⟨2, 18⟩) (meth := k2m18) (c := k2c18) (by decide +kernel) rfl rfl rfl (by decide +kernel)
set_option maxRecDepth 65536 in
theorem w_c15 : (Jvm.Cond.code ({ cls := "BillingRun", name := "fillLines", desc := "(II)J" } : Jvm.MethodName) prog_1_method_21_code (17 : Nat) (Option.some Jvm.ClassFile.FieldType.long)).before args0 about1 = true := code_word (m := ⟨2, 16⟩) (meth := k2m16) (c := k2c16) (by decide +kernel) rfl rfl rfl (by decide +kernel)
set_option maxRecDepth 65536 in
theorem w_c16 : (Jvm.Cond.code ({ cls := "BillingRun", name := "spreadTax", desc := "(IIJ)V" } : Jvm.MethodName) prog_1_method_22_code (13 : Nat) (Option.none : Option Jvm.ClassFile.FieldType)).before args0 about1 = true := code_word (m := ⟨2, 17⟩) (meth := k2m17) (c := k2c17) (by decide +kernel) rfl rfl rfl (by decide +kernel)
set_option maxRecDepth 65536 in
theorem w_c17 : (Jvm.Cond.code ({ cls := "BillingRun", name := "charge", desc := "(IJ)J" } : Jvm.MethodName) prog_1_method_11_code (4 : Nat) (Option.some Jvm.ClassFile.FieldType.long)).before args0 about1 = true := code_word (m := ⟨2, 9⟩) (meth := k2m9) (c := k2c9) (by decide +kernel) rfl rfl rfl (by decide +kernel)
set_option maxRecDepth 65536 in
theorem w_c18 : (Jvm.Cond.code ({ cls := "BillingRun", name := "chargeGraduated", desc := "(IJ)J" } : Jvm.MethodName) prog_1_method_9_code (13 : Nat) (Option.some Jvm.ClassFile.FieldType.long)).before args0 about1 = true := code_word (m := ⟨2, 8⟩) (meth := k2m8) (c := k2c8) (by decide +kernel) rfl rfl rfl (by decide +kernel)
set_option maxRecDepth 65536 in
theorem w_c19 : (Jvm.Cond.code ({ cls := "BillingRun", name := "effBound", desc := "(II)J" } : Jvm.MethodName) prog_1_method_8_code (8 : Nat) (Option.some Jvm.ClassFile.FieldType.long)).before args0 about1 = true := code_word (m := ⟨2, 7⟩) (meth := k2m7) (c := k2c7) (by decide +kernel) rfl rfl rfl (by decide +kernel)
set_option maxRecDepth 65536 in
theorem w_c20 : (Jvm.Cond.code ({ cls := "BillingRun", name := "getInvoice", desc := "(II)J" } : Jvm.MethodName) prog_1_method_26_code (3 : Nat) (Option.some Jvm.ClassFile.FieldType.long)).before args0 about1 = true := code_word (m := ⟨2, 21⟩) (meth := k2m21) (c := k2c21) (by decide +kernel) rfl rfl rfl (by decide +kernel)
set_option maxRecDepth 65536 in
theorem w_c21 : (Jvm.Cond.code ({ cls := "BillingRun", name := "getLine", desc := "(II)J" } : Jvm.MethodName) prog_1_method_24_code (3 : Nat) (Option.some Jvm.ClassFile.FieldType.long)).before args0 about1 = true := code_word (m := ⟨2, 19⟩) (meth := k2m19) (c := k2c19) (by decide +kernel) rfl rfl rfl (by decide +kernel)
set_option maxRecDepth 65536 in
theorem w_c22 : (Jvm.Cond.code ({ cls := "BillingRun", name := "getLineTax", desc := "(II)J" } : Jvm.MethodName) prog_1_method_25_code (3 : Nat) (Option.some Jvm.ClassFile.FieldType.long)).before args0 about1 = true := code_word (m := ⟨2, 20⟩) (meth := k2m20) (c := k2c20) (by decide +kernel) rfl rfl rfl (by decide +kernel)
set_option maxRecDepth 65536 in
theorem w_c23 : (Jvm.Cond.code ({ cls := "BillingRun", name := "rate", desc := "(II)J" } : Jvm.MethodName) prog_1_method_12_code (3 : Nat) (Option.some Jvm.ClassFile.FieldType.long)).before args0 about1 = true := code_word (m := ⟨2, 10⟩) (meth := k2m10) (c := k2c10) (by decide +kernel) rfl rfl rfl (by decide +kernel)
set_option maxRecDepth 65536 in
theorem w_c24 : (Jvm.Cond.code ({ cls := "BillingRun", name := "getCustomer", desc := "(II)J" } : Jvm.MethodName) prog_1_method_28_code (3 : Nat) (Option.some Jvm.ClassFile.FieldType.long)).before args0 about1 = true := code_word (m := ⟨2, 23⟩) (meth := k2m23) (c := k2c23) (by decide +kernel) rfl rfl rfl (by decide +kernel)
set_option maxRecDepth 65536 in
theorem w_c25 : (Jvm.Cond.code ({ cls := "BillingRun", name := "getSegment", desc := "(III)J" } : Jvm.MethodName) prog_1_method_27_code (5 : Nat) (Option.some Jvm.ClassFile.FieldType.long)).before args0 about1 = true := code_word (m := ⟨2, 22⟩) (meth := k2m22) (c := k2c22) (by decide +kernel) rfl rfl rfl (by decide +kernel)
set_option maxRecDepth 65536 in
theorem w_c26 : (Jvm.Cond.code ({ cls := "BillingRun", name := "today", desc := "()I" } : Jvm.MethodName) prog_1_method_29_code (1 : Nat) (Option.some Jvm.ClassFile.FieldType.int)).before args0 about1 = true := code_word (m := ⟨2, 24⟩) (meth := k2m24) (c := k2c24) (by decide +kernel) rfl rfl rfl (by decide +kernel)
def codes1 : List Jvm.Cond := [Jvm.Cond.code x code maxLocals ret, Jvm.Cond.code ({ cls := "BillingRun", name := "<init>", desc := "(II)V" } : Jvm.MethodName) prog_1_method_1_code (4 : Nat) (Option.none : Option Jvm.ClassFile.FieldType), Jvm.Cond.code ({ cls := "java/lang/Object", name := "<init>", desc := "()V" } : Jvm.MethodName) object_method_1_code (1 : Nat) (Option.none : Option Jvm.ClassFile.FieldType), Jvm.Cond.code ({ cls := "BillingRun", name := "clamp", desc := "(III)I" } : Jvm.MethodName) prog_1_method_2_code (3 : Nat) (Option.some Jvm.ClassFile.FieldType.int), Jvm.Cond.code ({ cls := "BillingRun", name := "setPlan", desc := "(III)Z" } : Jvm.MethodName) prog_1_method_6_code (4 : Nat) (Option.some Jvm.ClassFile.FieldType.boolean), Jvm.Cond.code ({ cls := "BillingRun", name := "validPlan", desc := "(I)Z" } : Jvm.MethodName) prog_1_method_4_code (2 : Nat) (Option.some Jvm.ClassFile.FieldType.boolean), Jvm.Cond.code ({ cls := "BillingRun", name := "setTier", desc := "(IIII)Z" } : Jvm.MethodName) prog_1_method_7_code (5 : Nat) (Option.some Jvm.ClassFile.FieldType.boolean), Jvm.Cond.code ({ cls := "BillingRun", name := "subscribe", desc := "(III)Z" } : Jvm.MethodName) prog_1_method_15_code (4 : Nat) (Option.some Jvm.ClassFile.FieldType.boolean), Jvm.Cond.code ({ cls := "BillingRun", name := "validCustomer", desc := "(I)Z" } : Jvm.MethodName) prog_1_method_3_code (2 : Nat) (Option.some Jvm.ClassFile.FieldType.boolean), Jvm.Cond.code ({ cls := "BillingRun", name := "validDay", desc := "(I)Z" } : Jvm.MethodName) prog_1_method_5_code (2 : Nat) (Option.some Jvm.ClassFile.FieldType.boolean), Jvm.Cond.code ({ cls := "BillingRun", name := "appendSegment", desc := "(III)V" } : Jvm.MethodName) prog_1_method_13_code (6 : Nat) (Option.none : Option Jvm.ClassFile.FieldType), Jvm.Cond.code ({ cls := "BillingRun", name := "recordUsage", desc := "(III)Z" } : Jvm.MethodName) prog_1_method_18_code (5 : Nat) (Option.some Jvm.ClassFile.FieldType.boolean), Jvm.Cond.code ({ cls := "BillingRun", name := "openSlot", desc := "(I)I" } : Jvm.MethodName) prog_1_method_14_code (3 : Nat) (Option.some Jvm.ClassFile.FieldType.int), Jvm.Cond.code ({ cls := "BillingRun", name := "closeCycle", desc := "()I" } : Jvm.MethodName) prog_1_method_20_code (4 : Nat) (Option.some Jvm.ClassFile.FieldType.int), Jvm.Cond.code ({ cls := "BillingRun", name := "buildInvoice", desc := "(I)V" } : Jvm.MethodName) prog_1_method_23_code (12 : Nat) (Option.none : Option Jvm.ClassFile.FieldType), Jvm.Cond.code ({ cls := "BillingRun", name := "fillLines", desc := "(II)J" } : Jvm.MethodName) prog_1_method_21_code (17 : Nat) (Option.some Jvm.ClassFile.FieldType.long), Jvm.Cond.code ({ cls := "BillingRun", name := "spreadTax", desc := "(IIJ)V" } : Jvm.MethodName) prog_1_method_22_code (13 : Nat) (Option.none : Option Jvm.ClassFile.FieldType), Jvm.Cond.code ({ cls := "BillingRun", name := "charge", desc := "(IJ)J" } : Jvm.MethodName) prog_1_method_11_code (4 : Nat) (Option.some Jvm.ClassFile.FieldType.long), Jvm.Cond.code ({ cls := "BillingRun", name := "chargeGraduated", desc := "(IJ)J" } : Jvm.MethodName) prog_1_method_9_code (13 : Nat) (Option.some Jvm.ClassFile.FieldType.long), Jvm.Cond.code ({ cls := "BillingRun", name := "effBound", desc := "(II)J" } : Jvm.MethodName) prog_1_method_8_code (8 : Nat) (Option.some Jvm.ClassFile.FieldType.long), Jvm.Cond.code ({ cls := "BillingRun", name := "getInvoice", desc := "(II)J" } : Jvm.MethodName) prog_1_method_26_code (3 : Nat) (Option.some Jvm.ClassFile.FieldType.long), Jvm.Cond.code ({ cls := "BillingRun", name := "getLine", desc := "(II)J" } : Jvm.MethodName) prog_1_method_24_code (3 : Nat) (Option.some Jvm.ClassFile.FieldType.long), Jvm.Cond.code ({ cls := "BillingRun", name := "getLineTax", desc := "(II)J" } : Jvm.MethodName) prog_1_method_25_code (3 : Nat) (Option.some Jvm.ClassFile.FieldType.long), Jvm.Cond.code ({ cls := "BillingRun", name := "rate", desc := "(II)J" } : Jvm.MethodName) prog_1_method_12_code (3 : Nat) (Option.some Jvm.ClassFile.FieldType.long), Jvm.Cond.code ({ cls := "BillingRun", name := "getCustomer", desc := "(II)J" } : Jvm.MethodName) prog_1_method_28_code (3 : Nat) (Option.some Jvm.ClassFile.FieldType.long), Jvm.Cond.code ({ cls := "BillingRun", name := "getSegment", desc := "(III)J" } : Jvm.MethodName) prog_1_method_27_code (5 : Nat) (Option.some Jvm.ClassFile.FieldType.long), Jvm.Cond.code ({ cls := "BillingRun", name := "today", desc := "()I" } : Jvm.MethodName) prog_1_method_29_code (1 : Nat) (Option.some Jvm.ClassFile.FieldType.int)]
set_option maxRecDepth 65536 in
theorem codes_eq : words1.filter isCode = codes1 := rfl
theorem w_codes : ∀ c ∈ words1.filter isCode, c.before args0 about1 = true := by
  rw [codes_eq]
  intro c hc
  simp only [codes1, List.mem_cons, List.not_mem_nil, or_false] at hc
  rcases hc with rfl | rfl | rfl | rfl | rfl | rfl | rfl | rfl | rfl | rfl | rfl | rfl | rfl | rfl | rfl | rfl | rfl | rfl | rfl | rfl | rfl | rfl | rfl | rfl | rfl | rfl | rfl
  · exact w_c0
  · exact w_c1
  · exact w_c2
  · exact w_c3
  · exact w_c4
  · exact w_c5
  · exact w_c6
  · exact w_c7
  · exact w_c8
  · exact w_c9
  · exact w_c10
  · exact w_c11
  · exact w_c12
  · exact w_c13
  · exact w_c14
  · exact w_c15
  · exact w_c16
  · exact w_c17
  · exact w_c18
  · exact w_c19
  · exact w_c20
  · exact w_c21
  · exact w_c22
  · exact w_c23
  · exact w_c24
  · exact w_c25
  · exact w_c26
set_option maxRecDepth 65536 in
theorem w_t1 : (words1.take 24).all (fun c => isCode c || c.before args0 about1) = true := by decide +kernel
set_option maxRecDepth 65536 in
theorem w_t2 : ((words1.drop 24).take 24).all (fun c => isCode c || c.before args0 about1) = true := by decide +kernel
set_option maxRecDepth 65536 in
theorem w_t3 : (((words1.drop 24).drop 24).take 24).all (fun c => isCode c || c.before args0 about1) = true := by decide +kernel
set_option maxRecDepth 65536 in
theorem w_t4 : ((((words1.drop 24).drop 24).drop 24).take 24).all (fun c => isCode c || c.before args0 about1) = true := by decide +kernel
set_option maxRecDepth 65536 in
theorem w_t5 : (((((words1.drop 24).drop 24).drop 24).drop 24).take 24).all (fun c => isCode c || c.before args0 about1) = true := by decide +kernel
set_option maxRecDepth 65536 in
theorem w_t6 : ((((((words1.drop 24).drop 24).drop 24).drop 24).drop 24).take 24).all (fun c => isCode c || c.before args0 about1) = true := by decide +kernel
set_option maxRecDepth 65536 in
theorem w_t7 : (((((((words1.drop 24).drop 24).drop 24).drop 24).drop 24).drop 24).take 24).all (fun c => isCode c || c.before args0 about1) = true := by decide +kernel
set_option maxRecDepth 65536 in
theorem w_t8 : (((((((words1.drop 24).drop 24).drop 24).drop 24).drop 24).drop 24).drop 24).all (fun c => isCode c || c.before args0 about1) = true := by decide +kernel
theorem w_tables : (allAtoms (Jvm.Cond.code x code maxLocals ret :: tables_1)).before args0 about1 = true := by
  rw [allAtoms_all]
  show words1.all (fun c => c.before args0 about1) = true
  refine all_split ?_ w_codes
  rw [← List.take_append_drop 24 words1, List.all_append, w_t1, ← List.take_append_drop 24 (words1.drop 24), List.all_append, w_t2, ← List.take_append_drop 24 ((words1.drop 24).drop 24), List.all_append, w_t3, ← List.take_append_drop 24 (((words1.drop 24).drop 24).drop 24), List.all_append, w_t4, ← List.take_append_drop 24 ((((words1.drop 24).drop 24).drop 24).drop 24), List.all_append, w_t5, ← List.take_append_drop 24 (((((words1.drop 24).drop 24).drop 24).drop 24).drop 24), List.all_append, w_t6, ← List.take_append_drop 24 ((((((words1.drop 24).drop 24).drop 24).drop 24).drop 24).drop 24), List.all_append, w_t7, w_t8]
  rfl
set_option maxRecDepth 65536 in
theorem w_case : (Jvm.Cond.and given_1 narrow_1).before args0 about1 = true := by decide +kernel
theorem w_applies : (headSpec (Jvm.Cond.code x code maxLocals ret :: tables_1) room_1).applies x e0.platform about1 = true :=
  (Spec.applies_iff w_frames).mpr ⟨w_running, w_runnable, w_alone, w_named, w_hears, w_ripe, w_room, w_tables⟩
theorem atStart : AtStart classFile x code maxLocals ret World_1 tables_1 room_1 Calls_1 rest_1 Pre_1 launch0 p0 e0 about1 theMethod args0 below0 :=
  ⟨lists_1, trivial, launch0.admits_env _ _ _, launch0.least_env, fairChoices_fair.cas, fairChoices_fair.clock, w_frames, w_args, w_heap, w_applies, trivial, trivial, w_case⟩
end start1
theorem witness_1 : WitnessClaimed_1 := ⟨start1.p0, start1.e0, start1.about1, start1.theMethod, start1.args0, start1.below0, start1.atStart⟩
end Jvm.Pilot.@@N@@
