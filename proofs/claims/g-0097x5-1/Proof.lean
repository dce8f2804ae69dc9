import JvmDerived
import JvmDerived.Pilot.@@N@@Statement
import JvmDerived.Pilot.@@N@@Code
set_option linter.unusedVariables false
set_option linter.unusedSimpArgs false
namespace Jvm.Own
open Jvm Jvm.ClassFile Sem Op Lib Jvm.Free Jvm.Stand Jvm.LawKit Jvm.RoadKit Bundle
/-! ## values, cells, heaps of the small view -/
theorem leb {a b : Nat} (h : Nat.ble a b = true) : a ≤ b := Nat.le_of_ble_eq_true h
abbrev dc (b : ByteArray) (pc : Nat) (i : Instr) (n : Nat) : Prop := decode b pc = .ok (i, n)
abbrev OwnC : Type := Sum (List Value) (Sum (List Int32) (Sum (List Int64) (List Int32)))
abbrev cO (vs : List Value) : OwnC := .inl vs
abbrev cI (xs : List Int32) : OwnC := .inr (.inl xs)
abbrev cJ (xs : List Int64) : OwnC := .inr (.inr (.inl xs))
abbrev cZ (xs : List Int32) : OwnC := .inr (.inr (.inr xs))
def rf (ad : Nat → Addr) : Value → Value
  | .ref i => .ref (ad i)
  | .int x => .int x
  | .long x => .long x
  | .float x => .float x
  | .double x => .double x
  | .null => .null
  | .retAddr x => .retAddr x
theorem rf_cat (ad : Nat → Addr) (v : Value) : (rf ad v).category = v.category := by cases v <;> rfl
theorem rf_isRef (ad : Nat → Addr) (v : Value) : (rf ad v).isRef = v.isRef := by cases v <;> rfl
theorem rf_cats (ad : Nat → Addr) (S : List Value) : ((S.map (rf ad)).map fun v => v.category) = S.map fun v => v.category := by
  simp [List.map_map, Function.comp_def, rf_cat]
def CelOk (Z : State) (C : String) (lay : List (String × String)) (ad : Nat → Addr) (h : Heap) (a : Addr) : OwnC → Prop
  | .inl vs => Exa Z h a C ∧ ∀ (i : Nat) (f : String × String) (v : Value), lay[i]? = some f → vs[i]? = some v → Fld Z h a C f.1 f.2 (rf ad v)
  | .inr (.inl xs) => ∃ cl : Cell, Arr Z h a cl .int ∧ cl.slots.toList = xs.map Value.int
  | .inr (.inr (.inl xs)) => ∃ cl : Cell, Arr Z h a cl .long ∧ cl.slots.toList = xs.map Value.long
  | .inr (.inr (.inr xs)) => ∃ cl : Cell, Arr Z h a cl .boolean ∧ cl.slots.toList = xs.map Value.int
def HR (Z : State) (C : String) (lay : List (String × String)) (n0 ro : Nat) (ad : Nat → Addr) (H : List OwnC) (h : Heap) : Prop :=
  (∀ i c, H[i]? = some c → CelOk Z C lay ad h (ad i) c) ∧ (∀ i j, i < H.length → j < H.length → ad i = ad j → i = j) ∧ (∀ t, ad (H.length + t) = h.size + t) ∧ (∀ i, i < H.length → ro ≤ i → n0 ≤ ad i) ∧ n0 ≤ h.size
def Kp (ad : Nat → Addr) (N : Nat) (h h' : Heap) : Prop := h.size ≤ h'.size ∧ ∀ (a : Addr) (c : Cell), h[a]? = some c → (∀ i, i < N → ad i ≠ a) → h'[a]? = some c
theorem CelOk.keep {Z : State} {C : String} {lay : List (String × String)} {ad : Nat → Addr} {h h' : Heap} {a : Addr} {c : OwnC} (q : ∀ cz : Cell, h[a]? = some cz → h'[a]? = some cz) (F : CelOk Z C lay ad h a c) : CelOk Z C lay ad h' a c := by
  rcases c with vs | xs | xs | xs
  · obtain ⟨⟨cell, k, h1, r⟩, F2⟩ := F
    refine ⟨⟨cell, k, q _ h1, r⟩, fun i f v hf hv => ?_⟩
    obtain ⟨cell, cf, k, i, f, h1, r⟩ := F2 i f v hf hv
    exact ⟨cell, cf, k, i, f, q _ h1, r⟩
  all_goals
    obtain ⟨cl, ⟨h1, r⟩, h2⟩ := F
    exact ⟨cl, ⟨q _ h1, r⟩, h2⟩
theorem CelOk.lt {Z : State} {C : String} {lay : List (String × String)} {ad : Nat → Addr} {h : Heap} {a : Addr} {c : OwnC} (F : CelOk Z C lay ad h a c) : a < h.size := by
  rcases c with vs | xs | xs | xs
  · exact F.1.lt
  all_goals
    obtain ⟨cl, A, h2⟩ := F
    exact A.lt
theorem Kp.refl (ad : Nat → Addr) (N : Nat) (h : Heap) : Kp ad N h h := ⟨Nat.le_refl _, fun _ _ q _ => q⟩
theorem get_lt {α : Type} {L : List α} {i : Nat} {c : α} (h : L[i]? = some c) : i < L.length := (List.getElem?_eq_some_iff.mp h).1
section HRs
variable {Z : State} {C : String} {lay : List (String × String)} {n0 ro : Nat} {ad : Nat → Addr} {H H' : List OwnC} {h h' h'' : Heap}
/-- the addresses at or above H.length lie at or above the heap's size -/
theorem HR.new (R : HR Z C lay n0 ro ad H h) {i : Nat} (hi : H.length ≤ i) : h.size ≤ ad i := by
  obtain ⟨t, rfl⟩ := Nat.exists_eq_add_of_le hi
  rw [R.2.2.1 t]; exact Nat.le_add_right _ _
theorem Kp.trans (R : HR Z C lay n0 ro ad H h) (K : Kp ad H.length h h') {N : Nat} (K' : Kp ad N h' h'') : Kp ad H.length h h'' := by
  refine ⟨Nat.le_trans K.1 K'.1, fun a c hc hn => K'.2 a c (K.2 a c hc hn) fun i hi q => ?_⟩
  by_cases hl : i < H.length
  · exact hn i hl q
  · have h1 := R.new (Nat.le_of_not_lt hl)
    rw [q] at h1
    exact absurd (Array.getElem?_eq_some_iff.mp hc).1 (Nat.not_lt.mpr h1)
/-- one cell of the small heap is written anew, at its own address -/
theorem HR.put (R : HR Z C lay n0 ro ad H h) {i : Nat} {c : OwnC} (hi : i < H.length) (hs : h'.size = h.size) (ho : ∀ a cz, a ≠ ad i → h[a]? = some cz → h'[a]? = some cz) (hc : CelOk Z C lay ad h' (ad i) c) :
    HR Z C lay n0 ro ad (H.set i c) h' ∧ Kp ad H.length h h' := by
  refine ⟨⟨fun j c' hj => ?_, fun i' j' hi' hj' => ?_, fun t => ?_, fun i' hi' => ?_, by rw [hs]; exact R.2.2.2.2⟩, by rw [hs]; exact Nat.le_refl _, fun a cz hz hn => ho a cz (fun q => hn i hi q.symm) hz⟩
  · rw [List.getElem?_set] at hj
    by_cases e : i = j
    · subst e
      simp [hi] at hj
      subst hj; exact hc
    · rw [if_neg e] at hj
      exact (R.1 j c' hj).keep fun cz q => ho _ cz (fun q' => e (R.2.1 _ _ hi (get_lt hj) q'.symm)) q
  · simp only [List.length_set] at hi' hj'; exact R.2.1 _ _ hi' hj'
  · rw [List.length_set, hs]; exact R.2.2.1 t
  · simp only [List.length_set] at hi'; exact R.2.2.2.1 _ hi'
/-- a new cell behind all others -/
theorem HR.push (R : HR Z C lay n0 ro ad H h) {c : OwnC} (hs : h'.size = h.size + 1) (hE : Ext h h') (hc : CelOk Z C lay ad h' h.size c) :
    HR Z C lay n0 ro ad (H ++ [c]) h' ∧ Kp ad H.length h h' ∧ ad H.length = h.size := by
  have e0 : ad H.length = h.size := R.2.2.1 0
  refine ⟨⟨fun j c' hj => ?_, fun i j hi hj q => ?_, fun t => ?_, fun i hi hr => ?_, by rw [hs]; exact Nat.le_succ_of_le R.2.2.2.2⟩, ⟨hE.1, fun a cz hz _ => hE.2 _ _ hz⟩, e0⟩
  · by_cases hl : j < H.length
    · rw [List.getElem?_append_left hl] at hj
      exact (R.1 j c' hj).keep fun cz q => hE.2 _ _ q
    · have hl' := get_lt hj
      simp only [List.length_append, List.length_singleton] at hl'
      obtain rfl : j = H.length := by omega
      simp at hj
      subst hj; rw [e0]; exact hc
  · simp only [List.length_append, List.length_singleton] at hi hj
    by_cases h1 : i < H.length
    · by_cases h2 : j < H.length
      · exact R.2.1 _ _ h1 h2 q
      · have a1 := (R.1 i _ (List.getElem?_eq_getElem h1)).lt
        have a2 := R.new (Nat.le_of_not_lt h2)
        rw [q] at a1
        exact absurd a1 (Nat.not_lt.mpr a2)
    · by_cases h2 : j < H.length
      · have a1 := (R.1 j _ (List.getElem?_eq_getElem h2)).lt
        have a2 := R.new (Nat.le_of_not_lt h1)
        rw [q] at a2
        exact absurd a1 (Nat.not_lt.mpr a2)
      · omega
  · rw [hs]
    have := R.2.2.1 (1 + t)
    simp only [List.length_append, List.length_singleton]
    rw [Nat.add_assoc, this]; exact (Nat.add_assoc _ _ _).symm
  · simp only [List.length_append, List.length_singleton] at hi
    by_cases h1 : i < H.length
    · exact R.2.2.2.1 _ h1 hr
    · exact Nat.le_trans R.2.2.2.2 (R.new (Nat.le_of_not_lt h1))
end HRs
/-! ## local variables: 'unset' in the small view says nothing -/
def WFs (f : Nat → Option Slot) : Prop := (∀ i, f i = some .second → ∃ j v, i = j + 1 ∧ f j = some (.val v) ∧ v.category = 2) ∧ ∀ i v, f i = some (.val v) → v.category = 2 → f (i + 1) = some .second
def LR (ad : Nat → Addr) (L : List Slot) (Ls : Array Slot) : Prop :=
  L.length = Ls.size ∧ (∀ (i : Nat) (v : Value), L[i]? = some (.val v) → Ls[i]? = some (.val (rf ad v))) ∧ (∀ i : Nat, L[i]? = some .second → Ls[i]? = some .second) ∧ WFs fun i => Ls[i]?
def kill2 : Slot → Slot
  | .val (.long _) => .unset
  | .val (.double _) => .unset
  | s => s
def killS : Slot → Slot
  | .second => .unset
  | s => s
def hd1 (f : Slot → Slot) : List Slot → List Slot
  | [] => []
  | y :: t => f y :: t
def st1 : List Slot → Nat → Value → List Slot
  | [], _, _ => []
  | _ :: t, 0, v => .val v :: hd1 killS t
  | y :: t, n + 1, v => match n with
    | 0 => kill2 y :: st1 t 0 v
    | k + 1 => y :: st1 t (k + 1) v
def st2 : List Slot → Nat → Value → List Slot
  | [], _, _ => []
  | _ :: t, 0, v => .val v :: (match t with | [] => [] | _ :: t' => .second :: hd1 killS t')
  | y :: t, n + 1, v => match n with
    | 0 => kill2 y :: st2 t 0 v
    | k + 1 => y :: st2 t (k + 1) v
theorem st1_len (v : Value) : ∀ (L : List Slot) (i : Nat), (st1 L i v).length = L.length
  | [], _ => rfl
  | y :: [], 0 => rfl
  | y :: z :: t, 0 => rfl
  | y :: t, 1 => congrArg Nat.succ (st1_len v t 0)
  | y :: t, k + 2 => congrArg Nat.succ (st1_len v t (k + 1))
theorem st2_len (v : Value) : ∀ (L : List Slot) (i : Nat), (st2 L i v).length = L.length
  | [], _ => rfl
  | y :: [], 0 => rfl
  | y :: z :: [], 0 => rfl
  | y :: z :: w :: t, 0 => rfl
  | y :: t, 1 => congrArg Nat.succ (st2_len v t 0)
  | y :: t, k + 2 => congrArg Nat.succ (st2_len v t (k + 1))
theorem kill2_e {y s : Slot} (h : kill2 y = s) (hs : s ≠ .unset) : y = s ∧ ∀ w, s = .val w → w.category = 1 := by
  subst h
  rcases y with _ | _ | w
  · exact absurd rfl hs
  · exact ⟨rfl, fun w h => by cases h⟩
  · cases w <;> first | exact absurd rfl hs | exact ⟨rfl, fun w h => by cases h; rfl⟩
theorem killS_e {y s : Slot} (h : killS y = s) (hs : s ≠ .unset) : y = s ∧ s ≠ .second := by
  subst h
  rcases y with _ | _ | w
  · exact absurd rfl hs
  · exact absurd rfl hs
  · exact ⟨rfl, fun h => by cases h⟩
theorem hd1_e {t : List Slot} {j : Nat} {s : Slot} (h : (hd1 killS t)[j]? = some s) (hs : s ≠ .unset) : t[j]? = some s ∧ (j = 0 → s ≠ .second) := by
  cases t with
  | nil => simp [hd1] at h
  | cons y t =>
    cases j with
    | zero =>
      have h' : killS y = s := by simpa [hd1] using h
      obtain ⟨e1, e2⟩ := killS_e h' hs
      exact ⟨by simp [e1], fun _ => e2⟩
    | succ j => exact ⟨by simpa [hd1] using h, fun q => by cases q⟩
theorem st1_at (v : Value) : ∀ (L : List Slot) (i : Nat), i < L.length → (st1 L i v)[i]? = some (.val v)
  | [], _, h => absurd h (by simp)
  | y :: t, 0, _ => rfl
  | y :: t, 1, h => by simpa [st1] using st1_at v t 0 (by simp at h; omega)
  | y :: t, k + 2, h => by simpa [st1] using st1_at v t (k + 1) (by simp at h; omega)
theorem st1_else (v : Value) : ∀ (L : List Slot) (i j : Nat) (s : Slot), j ≠ i → (st1 L i v)[j]? = some s → s ≠ .unset → L[j]? = some s ∧ (j + 1 = i → ∀ w, s = .val w → w.category = 1) ∧ (j = i + 1 → s ≠ .second)
  | [], _, j, s, _, h, _ => by simp [st1] at h
  | y :: t, 0, 0, s, hj, _, _ => absurd rfl hj
  | y :: t, 0, j + 1, s, hj, h, hs => by
    obtain ⟨e1, e2⟩ := hd1_e (t := t) (j := j) (by simpa [st1] using h) hs
    exact ⟨by simpa using e1, fun q => by omega, fun q => e2 (by omega)⟩
  | y :: t, 1, 0, s, hj, h, hs => by
    obtain ⟨e1, e2⟩ := kill2_e (y := y) (by simpa [st1] using h) hs
    exact ⟨by simp [e1], fun _ => e2, fun q => by omega⟩
  | y :: t, 1, j + 1, s, hj, h, hs => by
    obtain ⟨e1, e2, e3⟩ := st1_else v t 0 j s (by omega) (by simpa [st1] using h) hs
    exact ⟨by simpa using e1, fun q => by omega, fun q => e3 (by omega)⟩
  | y :: t, k + 2, 0, s, hj, h, hs => ⟨by simpa [st1] using h, fun q => by omega, fun q => by omega⟩
  | y :: t, k + 2, j + 1, s, hj, h, hs => by
    obtain ⟨e1, e2, e3⟩ := st1_else v t (k + 1) j s (by omega) (by simpa [st1] using h) hs
    exact ⟨by simpa using e1, fun q => e2 (by omega), fun q => e3 (by omega)⟩
theorem st2_at (v : Value) : ∀ (L : List Slot) (i : Nat), i + 1 < L.length → (st2 L i v)[i]? = some (.val v) ∧ (st2 L i v)[i + 1]? = some .second
  | [], _, h => absurd h (by simp)
  | y :: [], 0, h => absurd h (by simp)
  | y :: z :: t, 0, _ => ⟨rfl, rfl⟩
  | y :: t, 1, h => by simpa [st2] using st2_at v t 0 (by simp at h; omega)
  | y :: t, k + 2, h => by simpa [st2] using st2_at v t (k + 1) (by simp at h; omega)
theorem st2_else (v : Value) : ∀ (L : List Slot) (i j : Nat) (s : Slot), j ≠ i → j ≠ i + 1 → (st2 L i v)[j]? = some s → s ≠ .unset → L[j]? = some s ∧ (j + 1 = i → ∀ w, s = .val w → w.category = 1) ∧ (j = i + 2 → s ≠ .second)
  | [], _, j, s, _, _, h, _ => by simp [st2] at h
  | y :: t, 0, 0, s, hj, _, _, _ => absurd rfl hj
  | y :: t, 0, 1, s, _, hj, _, _ => absurd rfl hj
  | y :: [], 0, j + 2, s, _, _, h, _ => by simp [st2] at h
  | y :: z :: t, 0, j + 2, s, hj, _, h, hs => by
    obtain ⟨e1, e2⟩ := hd1_e (t := t) (j := j) (by simpa [st2] using h) hs
    exact ⟨by simpa using e1, fun q => by omega, fun q => e2 (by omega)⟩
  | y :: t, 1, 0, s, hj, _, h, hs => by
    obtain ⟨e1, e2⟩ := kill2_e (y := y) (by simpa [st2] using h) hs
    exact ⟨by simp [e1], fun _ => e2, fun q => by omega⟩
  | y :: t, 1, j + 1, s, hj, hj', h, hs => by
    obtain ⟨e1, e2, e3⟩ := st2_else v t 0 j s (by omega) (by omega) (by simpa [st2] using h) hs
    exact ⟨by simpa using e1, fun q => by omega, fun q => e3 (by omega)⟩
  | y :: t, k + 2, 0, s, hj, _, h, hs => ⟨by simpa [st2] using h, fun q => by omega, fun q => by omega⟩
  | y :: t, k + 2, j + 1, s, hj, hj', h, hs => by
    obtain ⟨e1, e2, e3⟩ := st2_else v t (k + 1) j s (by omega) (by omega) (by simpa [st2] using h) hs
    exact ⟨by simpa using e1, fun q => e2 (by omega), fun q => e3 (by omega)⟩
theorem setAt_ok {l : Array Slot} {i : Nat} (h : i < l.size) (x : Slot) : setAt l i x = some (l.setIfInBounds i x) := if_pos h
/-- which neighbours a store at i wipes -/
def Bad (Ls : Array Slot) (i j : Nat) : Prop := (j + 1 = i ∧ Ls[i]? = some .second) ∨ (j = i + 1 ∧ ∃ o, Ls[i]? = some (.val o) ∧ o.category = 2)
def Pre1 (Ls Ls1 : Array Slot) (i : Nat) : Prop := Ls1.size = Ls.size ∧ ∀ j, j ≠ i → (¬ Bad Ls i j ∧ Ls1[j]? = Ls[j]?) ∨ (Bad Ls i j ∧ Ls1[j]? = some .unset)
theorem storeLocals_pre {Ls : Array Slot} (wf : WFs fun i => Ls[i]?) {i : Nat} (hi : i < Ls.size) (w : Value) : ∃ Ls1, Pre1 Ls Ls1 i ∧ storeLocals Ls i w = storeSelf Ls1 i w := by
  have hg : Ls[i]? = some Ls[i] := Array.getElem?_eq_getElem hi
  rcases hs : Ls[i] with _ | _ | old
  · rw [hs] at hg
    refine ⟨Ls, ⟨rfl, fun j hj => Or.inl ⟨?_, rfl⟩⟩, ?_⟩
    · rintro (⟨-, q⟩ | ⟨-, o, q, -⟩) <;> (rw [hg] at q; cases q)
    · show (Ls[i]?).bind _ = _; rw [hg]; rfl
  · rw [hs] at hg
    obtain ⟨j0, v, rfl, hv, hc⟩ := wf.1 i hg
    have h0 : j0 < Ls.size := by omega
    refine ⟨Ls.setIfInBounds j0 .unset, ⟨by simp, fun j hj => ?_⟩, ?_⟩
    · by_cases e : j = j0
      · subst e; right; exact ⟨Or.inl ⟨rfl, hg⟩, by simp [h0]⟩
      · left
        refine ⟨?_, by rw [Array.getElem?_setIfInBounds_ne (Ne.symm e)]⟩
        rintro (⟨q', q⟩ | ⟨-, o, q, -⟩)
        · exact e (by omega)
        · rw [hg] at q; cases q
    · show (Ls[j0 + 1]?).bind _ = _; rw [hg]
      show (setAt Ls (j0 + 1 - 1) .unset).bind _ = _
      rw [Nat.add_sub_cancel, setAt_ok h0]; rfl
  · rw [hs] at hg
    by_cases hc : old.category = 2
    · have h1 := wf.2 i old hg hc
      have h1' : i + 1 < Ls.size := (Array.getElem?_eq_some_iff.mp h1).1
      refine ⟨Ls.setIfInBounds (i + 1) .unset, ⟨by simp, fun j hj => ?_⟩, ?_⟩
      · by_cases e : j = i + 1
        · subst e; right; exact ⟨Or.inr ⟨rfl, old, hg, hc⟩, by simp [h1']⟩
        · left
          refine ⟨?_, by rw [Array.getElem?_setIfInBounds_ne (Ne.symm e)]⟩
          rintro (⟨-, q⟩ | ⟨q, -⟩)
          · rw [hg] at q; cases q
          · exact e q
      · show (Ls[i]?).bind _ = _; rw [hg]
        show (if old.category = 2 then _ else _) = _
        rw [if_pos hc]
        show (setAt Ls (i + 1) .unset).bind _ = _
        rw [setAt_ok h1']; rfl
    · refine ⟨Ls, ⟨rfl, fun j hj => Or.inl ⟨?_, rfl⟩⟩, ?_⟩
      · rintro (⟨-, q⟩ | ⟨-, o, q, q'⟩) <;> (rw [hg] at q; cases q)
        exact hc q'
      · show (Ls[i]?).bind _ = _; rw [hg]
        show (if old.category = 2 then _ else _) = _
        rw [if_neg hc]
section St
variable {Ls : Array Slot} {i j : Nat}
/-- a value of one word is not wiped -/
theorem not_bad_val (wf : WFs fun i => Ls[i]?) {w : Value} (hj : Ls[j]? = some (.val w)) (hw : j + 1 = i → w.category = 1) : ¬ Bad Ls i j := by
  rintro (⟨rfl, q⟩ | ⟨rfl, o, q, q'⟩)
  · obtain ⟨j0, v, e, h1, h2⟩ := wf.1 _ q
    obtain rfl : j0 = j := by omega
    cases h1.symm.trans hj
    rw [hw rfl] at h2; cases h2
  · have := wf.2 _ _ q q'
    cases this.symm.trans hj
theorem not_bad_second (wf : WFs fun i => Ls[i]?) (hj : Ls[j]? = some .second) (hne : j ≠ i + 1) : ¬ Bad Ls i j := by
  rintro (⟨rfl, q⟩ | ⟨q, -⟩)
  · obtain ⟨j0, v, e, h1, h2⟩ := wf.1 _ q
    obtain rfl : j0 = j := by omega
    cases h1.symm.trans hj
  · exact hne q
end St
theorem LR.store1 {ad : Nat → Addr} {L : List Slot} {Ls : Array Slot} (hL : LR ad L Ls) {i : Nat} (hi : i < L.length) {v : Value} (hv : v.category = 1) : ∃ Ls', storeLocals Ls i (rf ad v) = some Ls' ∧ LR ad (st1 L i v) Ls' ∧ Ls'.size = Ls.size := by
  obtain ⟨l1, l2, l3, wf⟩ := hL
  have hi' : i < Ls.size := l1 ▸ hi
  have hv' : (rf ad v).category = 1 := by rw [rf_cat]; exact hv
  obtain ⟨Ls1, ⟨p1, p2⟩, e⟩ := storeLocals_pre wf hi' (rf ad v)
  have hi1 : i < Ls1.size := by rw [p1]; exact hi'
  have e2 : storeSelf Ls1 i (rf ad v) = some (Ls1.setIfInBounds i (.val (rf ad v))) := by
    show (setAt Ls1 i _).bind _ = _
    rw [setAt_ok hi1]
    show (if (rf ad v).category = 2 then _ else _) = _
    rw [if_neg (by rw [hv']; decide)]
  have at_i : (Ls1.setIfInBounds i (.val (rf ad v)))[i]? = some (.val (rf ad v)) := by simp [hi1]
  have at_j : ∀ j, j ≠ i → (Ls1.setIfInBounds i (.val (rf ad v)))[j]? = Ls1[j]? := fun j hj => Array.getElem?_setIfInBounds_ne (Ne.symm hj)
  have good : ∀ j, j ≠ i → ¬ Bad Ls i j → (Ls1.setIfInBounds i (.val (rf ad v)))[j]? = Ls[j]? := fun j hj hb => by
    rw [at_j j hj]
    rcases p2 j hj with ⟨-, q⟩ | ⟨q, -⟩
    · exact q
    · exact absurd q hb
  have back : ∀ j s, j ≠ i → s ≠ .unset → (Ls1.setIfInBounds i (.val (rf ad v)))[j]? = some s → ¬ Bad Ls i j ∧ Ls[j]? = some s := fun j s hj hs h => by
    rw [at_j j hj] at h
    rcases p2 j hj with ⟨q, q'⟩ | ⟨-, q⟩
    · exact ⟨q, by rw [← q']; exact h⟩
    · rw [q] at h; cases h; exact absurd rfl hs
  refine ⟨_, e.trans e2, ⟨by rw [st1_len, l1]; simp [p1], fun j w hj => ?_, fun j hj => ?_, fun j hj => ?_, fun j w hj hc => ?_⟩, by simp [p1]⟩
  · by_cases q : j = i
    · subst q
      rw [st1_at v L j hi] at hj
      cases hj; exact at_i
    · obtain ⟨a1, a2, -⟩ := st1_else v L i j _ q hj (by simp)
      have b1 := l2 j w a1
      rw [good j q (not_bad_val wf b1 fun z => by rw [rf_cat]; exact a2 z w rfl)]; exact b1
  · by_cases q : j = i
    · subst q
      rw [st1_at v L j hi] at hj
      cases hj
    · obtain ⟨a1, -, a3⟩ := st1_else v L i j _ q hj (by simp)
      have b1 := l3 j a1
      rw [good j q (not_bad_second wf b1 fun z => a3 z rfl)]; exact b1
  · dsimp only at hj ⊢
    have q : j ≠ i := fun q => by subst q; rw [at_i] at hj; cases hj
    obtain ⟨b1, b2⟩ := back j _ q (by simp) hj
    obtain ⟨j0, v', rfl, h1, h2⟩ := wf.1 j b2
    refine ⟨j0, v', rfl, ?_, h2⟩
    have q0 : j0 ≠ i := fun z => b1 (Or.inr ⟨by omega, v', z ▸ h1, h2⟩)
    rw [good j0 q0 ?_]; exact h1
    rintro (⟨z, -⟩ | ⟨z, o, z1, z2⟩)
    · exact q z
    · have := wf.2 _ _ z1 z2
      rw [← z] at this
      cases this.symm.trans h1
  · dsimp only at hj ⊢
    have q : j ≠ i := fun q => by subst q; rw [at_i] at hj; cases hj; rw [hv'] at hc; cases hc
    obtain ⟨b1, b2⟩ := back j _ q (by simp) hj
    have h1 := wf.2 j w b2 hc
    dsimp only at h1
    have q0 : j + 1 ≠ i := fun z => b1 (Or.inl ⟨z, z ▸ h1⟩)
    rw [good (j + 1) q0 ?_]; exact h1
    rintro (⟨z, z1⟩ | ⟨z, -⟩)
    · obtain ⟨j1, v1, e1, e2, -⟩ := wf.1 _ z1
      obtain rfl : j1 = j + 1 := by omega
      cases h1.symm.trans e2
    · omega
theorem LR.store2 {ad : Nat → Addr} {L : List Slot} {Ls : Array Slot} (hL : LR ad L Ls) {i : Nat} (hi : i + 1 < L.length) {v : Value} (hv : v.category = 2) : ∃ Ls', storeLocals Ls i (rf ad v) = some Ls' ∧ LR ad (st2 L i v) Ls' ∧ Ls'.size = Ls.size := by
  obtain ⟨l1, l2, l3, wf⟩ := hL
  have hi' : i + 1 < Ls.size := l1 ▸ hi
  have hv' : (rf ad v).category = 2 := by rw [rf_cat]; exact hv
  obtain ⟨Ls1, ⟨p1, p2⟩, e⟩ := storeLocals_pre wf (by omega : i < Ls.size) (rf ad v)
  have hi1 : i < Ls1.size := by rw [p1]; omega
  have hi2 : i + 1 < Ls1.size := by rw [p1]; omega
  -- what the second half leaves: two slots, and the one behind wiped where a long began at i + 1
  have key : ∃ Ls', storeSelf Ls1 i (rf ad v) = some Ls' ∧ Ls'.size = Ls1.size ∧ Ls'[i]? = some (.val (rf ad v)) ∧ Ls'[i + 1]? = some .second ∧ ∀ j, j ≠ i → j ≠ i + 1 → (Ls'[j]? = Ls1[j]? ∧ ¬ (j = i + 2 ∧ ∃ o, Ls1[i + 1]? = some (.val o) ∧ o.category = 2)) ∨ (Ls'[j]? = some .unset ∧ j = i + 2 ∧ ∃ o, Ls1[i + 1]? = some (.val o) ∧ o.category = 2) := by
    have n1 : (Ls1.setIfInBounds i (.val (rf ad v)))[i + 1]? = Ls1[i + 1]? := Array.getElem?_setIfInBounds_ne (by omega)
    have g1 : Ls1[i + 1]? = some Ls1[i + 1] := Array.getElem?_eq_getElem hi2
    have open1 : storeSelf Ls1 i (rf ad v) = ((Ls1.setIfInBounds i (.val (rf ad v)))[i + 1]?).bind fun x => match x with
      | .val old => if old.category = 2 then (setAt (Ls1.setIfInBounds i (.val (rf ad v))) (i + 2) .unset).bind fun z => setAt z (i + 1) .second else setAt (Ls1.setIfInBounds i (.val (rf ad v))) (i + 1) .second
      | _ => setAt (Ls1.setIfInBounds i (.val (rf ad v))) (i + 1) .second := by
      show (setAt Ls1 i _).bind _ = _
      rw [setAt_ok hi1]
      show (if (rf ad v).category = 2 then _ else _) = _
      rw [if_pos hv']; rfl
    have plain : (∀ o, Ls1[i + 1]? = some (.val o) → o.category ≠ 2) → storeSelf Ls1 i (rf ad v) = setAt (Ls1.setIfInBounds i (.val (rf ad v))) (i + 1) .second := fun hno => by
      rw [open1, n1, g1]
      rcases hs : Ls1[i + 1] with _ | _ | old
      · rfl
      · rfl
      · show (if old.category = 2 then _ else _) = _
        rw [if_neg (hno old (by rw [g1, hs]))]
    have szz : i + 1 < (Ls1.setIfInBounds i (.val (rf ad v))).size := by simpa using hi2
    by_cases hb : ∃ o, Ls1[i + 1]? = some (.val o) ∧ o.category = 2
    · obtain ⟨o, ho, ho2⟩ := hb
      have b1 : Ls[i + 1]? = some (.val o) := by
        rcases p2 (i + 1) (by omega) with ⟨-, q⟩ | ⟨-, q⟩
        · rw [← q]; exact ho
        · rw [q] at ho; cases ho
      have h3 : i + 2 < Ls1.size := by rw [p1]; exact (Array.getElem?_eq_some_iff.mp (wf.2 _ _ b1 ho2)).1
      refine ⟨((Ls1.setIfInBounds i (.val (rf ad v))).setIfInBounds (i + 2) .unset).setIfInBounds (i + 1) .second, ?_, by simp, ?_, ?_, fun j hj hj' => ?_⟩
      · rw [open1, n1, ho]
        show (if o.category = 2 then _ else _) = _
        rw [if_pos ho2, setAt_ok (by simpa using h3)]
        show setAt _ (i + 1) .second = _
        rw [setAt_ok (by simpa using hi2)]
      · rw [Array.getElem?_setIfInBounds_ne (by omega), Array.getElem?_setIfInBounds_ne (by omega)]; simp [hi1]
      · simp [hi2]
      · rw [Array.getElem?_setIfInBounds_ne (by omega)]
        by_cases z : j = i + 2
        · subst z; right; exact ⟨by simp [h3], rfl, o, ho, ho2⟩
        · left; exact ⟨by rw [Array.getElem?_setIfInBounds_ne (by omega), Array.getElem?_setIfInBounds_ne (by omega)], fun q => z q.1⟩
    · refine ⟨(Ls1.setIfInBounds i (.val (rf ad v))).setIfInBounds (i + 1) .second, ?_, by simp, ?_, ?_, fun j hj hj' => Or.inl ⟨?_, fun q => hb q.2⟩⟩
      · rw [plain fun o ho q => hb ⟨o, ho, q⟩, setAt_ok szz]
      · rw [Array.getElem?_setIfInBounds_ne (by omega)]; simp [hi1]
      · simp [hi2]
      · rw [Array.getElem?_setIfInBounds_ne (by omega), Array.getElem?_setIfInBounds_ne (by omega)]
  obtain ⟨Ls', e2, sz, at_i, at_i1, at_j⟩ := key
  -- i + 1 seen from Ls
  have up : ∀ o, Ls1[i + 1]? = some (.val o) → Ls[i + 1]? = some (.val o) := fun o ho => by
    rcases p2 (i + 1) (by omega) with ⟨-, q⟩ | ⟨-, q⟩
    · rw [← q]; exact ho
    · rw [q] at ho; cases ho
  have good : ∀ j, j ≠ i → j ≠ i + 1 → ¬ Bad Ls i j → ¬ (j = i + 2 ∧ ∃ o, Ls[i + 1]? = some (.val o) ∧ o.category = 2) → Ls'[j]? = Ls[j]? := fun j hj hj' hb hb' => by
    rcases at_j j hj hj' with ⟨q, -⟩ | ⟨-, q1, o, q2, q3⟩
    · rw [q]
      rcases p2 j hj with ⟨-, q⟩ | ⟨q, -⟩
      · exact q
      · exact absurd q hb
    · exact absurd ⟨q1, o, up o q2, q3⟩ hb'
  have back : ∀ j s, j ≠ i → j ≠ i + 1 → s ≠ .unset → Ls'[j]? = some s → ¬ Bad Ls i j ∧ Ls[j]? = some s ∧ ¬ (j = i + 2 ∧ ∃ o, Ls1[i + 1]? = some (.val o) ∧ o.category = 2) := fun j s hj hj' hs h => by
    rcases at_j j hj hj' with ⟨q, q0⟩ | ⟨q, -⟩
    · rw [q] at h
      rcases p2 j hj with ⟨q1, q'⟩ | ⟨-, q'⟩
      · exact ⟨q1, by rw [← q']; exact h, q0⟩
      · rw [q'] at h; cases h; exact absurd rfl hs
    · rw [q] at h; cases h; exact absurd rfl hs
  have s2 := st2_at v L i hi
  refine ⟨_, e.trans e2, ⟨by rw [st2_len, l1, sz, p1], fun j w hj => ?_, fun j hj => ?_, fun j hj => ?_, fun j w hj hc => ?_⟩, by rw [sz, p1]⟩
  · by_cases q : j = i
    · subst q
      rw [s2.1] at hj
      cases hj; exact at_i
    · by_cases q1 : j = i + 1
      · subst q1; rw [s2.2] at hj; cases hj
      · obtain ⟨a1, a2, -⟩ := st2_else v L i j _ q q1 hj (by simp)
        have b1 := l2 j w a1
        rw [good j q q1 (not_bad_val wf b1 fun z => by rw [rf_cat]; exact a2 z w rfl) ?_]; exact b1
        rintro ⟨rfl, o, z1, z2⟩
        have := wf.2 _ _ z1 z2
        cases this.symm.trans b1
  · by_cases q : j = i
    · subst q
      rw [s2.1] at hj
      cases hj
    · by_cases q1 : j = i + 1
      · subst q1; exact at_i1
      · obtain ⟨a1, -, a3⟩ := st2_else v L i j _ q q1 hj (by simp)
        have b1 := l3 j a1
        rw [good j q q1 (not_bad_second wf b1 q1) fun z => a3 z.1 rfl]; exact b1
  · dsimp only at hj ⊢
    by_cases q1 : j = i + 1
    · subst q1; exact ⟨i, _, rfl, at_i, hv'⟩
    have q : j ≠ i := fun q => by subst q; rw [at_i] at hj; cases hj
    obtain ⟨b1, b2, b3⟩ := back j _ q q1 (by simp) hj
    obtain ⟨j0, v', rfl, h1, h2⟩ := wf.1 j b2
    dsimp only at h1
    have q0 : j0 ≠ i := fun z => b1 (Or.inr ⟨by omega, v', z ▸ h1, h2⟩)
    -- j0 = i + 1: then j = i + 2 was wiped
    have q0' : j0 ≠ i + 1 := fun z => by
      subst z
      rcases p2 (i + 1) (by omega) with ⟨-, w1⟩ | ⟨w1, -⟩
      · exact b3 ⟨rfl, v', by rw [w1]; exact h1, h2⟩
      · rcases w1 with ⟨w1, -⟩ | ⟨-, o, w1, w2⟩
        · omega
        · have := wf.2 _ _ w1 w2
          cases this.symm.trans h1
    refine ⟨j0, v', rfl, ?_, h2⟩
    rw [good j0 q0 q0' ?_ ?_]; exact h1
    · rintro (⟨z, -⟩ | ⟨z, -⟩)
      · exact q z
      · exact q0' z
    · rintro ⟨rfl, o, z1, z2⟩
      have := wf.2 _ _ z1 z2
      cases this.symm.trans h1
  · dsimp only at hj ⊢
    by_cases q1 : j = i
    · subst q1; exact at_i1
    have q : j ≠ i + 1 := fun q => by subst q; rw [at_i1] at hj; cases hj
    obtain ⟨b1, b2, -⟩ := back j _ q1 q (by simp) hj
    have h1 := wf.2 j w b2 hc
    dsimp only at h1
    have q0 : j + 1 ≠ i := fun z => b1 (Or.inl ⟨z, z ▸ h1⟩)
    rw [good (j + 1) q0 (by omega) ?_ ?_]; exact h1
    · rintro (⟨z, z1⟩ | ⟨z, -⟩)
      · obtain ⟨j1, v1, e1, e2, -⟩ := wf.1 _ z1
        obtain rfl : j1 = j + 1 := by omega
        cases h1.symm.trans e2
      · omega
    · rintro ⟨z, -⟩; omega
/-! what is known less of -/
def leL : List Slot → List Slot → Prop
  | [], [] => True
  | .unset :: a, _ :: b => leL a b
  | x :: a, y :: b => x = y ∧ leL a b
  | _, _ => False
theorem leL_len : ∀ {A B : List Slot}, leL A B → A.length = B.length
  | [], [], _ => rfl
  | .unset :: a, _ :: b, h => congrArg Nat.succ (leL_len (A := a) (B := b) h)
  | .second :: a, _ :: b, h => congrArg Nat.succ (leL_len (A := a) (B := b) h.2)
  | .val _ :: a, _ :: b, h => congrArg Nat.succ (leL_len (A := a) (B := b) h.2)
theorem leL_get : ∀ {A B : List Slot}, leL A B → ∀ {i : Nat} {s : Slot}, A[i]? = some s → s ≠ .unset → B[i]? = some s
  | [], [], _, i, s, h, _ => by simp at h
  | .unset :: a, _ :: b, _, 0, s, h, hs => by simp at h; exact absurd h.symm hs
  | .unset :: a, _ :: b, hl, i + 1, s, h, hs => by simpa using leL_get (A := a) (B := b) hl (by simpa using h) hs
  | .second :: a, _ :: b, hl, 0, s, h, hs => by simp at h; subst h; simp [← hl.1]
  | .second :: a, _ :: b, hl, i + 1, s, h, hs => by simpa using leL_get (A := a) (B := b) hl.2 (by simpa using h) hs
  | .val _ :: a, _ :: b, hl, 0, s, h, hs => by simp at h; subst h; simp [← hl.1]
  | .val _ :: a, _ :: b, hl, i + 1, s, h, hs => by simpa using leL_get (A := a) (B := b) hl.2 (by simpa using h) hs
theorem LR.weak {ad : Nat → Addr} {A B : List Slot} {Ls : Array Slot} (h : leL A B) (hL : LR ad B Ls) : LR ad A Ls :=
  ⟨(leL_len h).trans hL.1, fun i v q => hL.2.1 i v (leL_get h q (by simp)), fun i q => hL.2.2.1 i (leL_get h q (by simp)), hL.2.2.2⟩
theorem wf_cons {x : Slot} {M : List Slot} (hx : x = .unset ∨ ∃ v, x = .val v ∧ v.category = 1) (h : WFs fun i => M[i]?) : WFs fun i => (x :: M)[i]? := by
  refine ⟨fun i hi => ?_, fun i v hi hc => ?_⟩
  · cases i with
    | zero => rcases hx with rfl | ⟨v, rfl, -⟩ <;> (simp at hi)
    | succ i =>
      obtain ⟨j, v, rfl, h1, h2⟩ := h.1 i (by simpa using hi)
      exact ⟨j + 1, v, rfl, by simpa using h1, h2⟩
  · cases i with
    | zero =>
      rcases hx with rfl | ⟨w, rfl, hw⟩
      · simp at hi
      · simp at hi; subst hi; rw [hw] at hc; cases hc
    | succ i => simpa using h.2 i v (by simpa using hi) hc
theorem wf_cons2 {w : Value} {M : List Slot} (hw : w.category = 2) (h : WFs fun i => M[i]?) : WFs fun i => (.val w :: .second :: M)[i]? := by
  refine ⟨fun i hi => ?_, fun i v hi hc => ?_⟩
  · match i, hi with
    | 0, hi => simp at hi
    | 1, _ => exact ⟨0, w, rfl, rfl, hw⟩
    | i + 2, hi =>
      obtain ⟨j, v, rfl, h1, h2⟩ := h.1 i (by simpa using hi)
      exact ⟨j + 2, v, rfl, by simpa using h1, h2⟩
  · match i, hi with
    | 0, _ => rfl
    | 1, hi => simp at hi
    | i + 2, hi => simpa using h.2 i v (by simpa using hi) hc
/-- the local variables at the entry -/
def laid : List Value → List Slot
  | [] => []
  | v :: vs => if v.category = 2 then .val v :: .second :: laid vs else .val v :: laid vs
def entL (as : List Value) (n : Nat) : List Slot := laid as ++ List.replicate (n - (laid as).length) Slot.unset
theorem laid_rel (ad : Nat → Addr) (k : Nat) : ∀ as : List Value, (laid as ++ List.replicate k Slot.unset).length = (laid (as.map (rf ad)) ++ List.replicate k Slot.unset).length ∧ (∀ (i : Nat) (v : Value), (laid as ++ List.replicate k Slot.unset)[i]? = some (.val v) → (laid (as.map (rf ad)) ++ List.replicate k Slot.unset)[i]? = some (.val (rf ad v))) ∧
    (∀ i : Nat, (laid as ++ List.replicate k Slot.unset)[i]? = some .second → (laid (as.map (rf ad)) ++ List.replicate k Slot.unset)[i]? = some .second) ∧ WFs fun i => (laid (as.map (rf ad)) ++ List.replicate k Slot.unset)[i]?
  | [] => by
    refine ⟨rfl, fun i v h => ?_, fun i h => h, fun i h => ?_, fun i v h => ?_⟩
    · simp [laid, List.getElem?_replicate] at h
    · simp [laid, List.getElem?_replicate] at h
    · simp [laid, List.getElem?_replicate] at h
  | v :: vs => by
    obtain ⟨a1, a2, a3, a4⟩ := laid_rel ad k vs
    have hc : (rf ad v).category = v.category := rf_cat ad v
    by_cases h : v.category = 2
    · have e1 : laid (v :: vs) = .val v :: .second :: laid vs := if_pos h
      have e2 : laid ((v :: vs).map (rf ad)) = .val (rf ad v) :: .second :: laid (vs.map (rf ad)) := if_pos (hc.trans h)
      rw [e1, e2]
      refine ⟨by simpa using a1, fun i w hi => ?_, fun i hi => ?_, wf_cons2 (hc.trans h) a4⟩
      · match i, hi with
        | 0, hi => simp at hi; subst hi; rfl
        | 1, hi => simp at hi
        | i + 2, hi => simpa using a2 i w (by simpa using hi)
      · match i, hi with
        | 0, hi => simp at hi
        | 1, hi => rfl
        | i + 2, hi => simpa using a3 i (by simpa using hi)
    · have e1 : laid (v :: vs) = .val v :: laid vs := if_neg h
      have e2 : laid ((v :: vs).map (rf ad)) = .val (rf ad v) :: laid (vs.map (rf ad)) := if_neg (by rw [hc]; exact h)
      have h1 : (rf ad v).category = 1 := by
        rw [hc]; cases v <;> first | rfl | exact absurd rfl h
      rw [e1, e2]
      refine ⟨by simpa using a1, fun i w hi => ?_, fun i hi => ?_, wf_cons (Or.inr ⟨_, rfl, h1⟩) a4⟩
      · match i, hi with
        | 0, hi => simp at hi; subst hi; rfl
        | i + 1, hi => simpa using a2 i w (by simpa using hi)
      · match i, hi with
        | 0, hi => simp at hi
        | i + 1, hi => simpa using a3 i (by simpa using hi)
theorem laid_foldl : ∀ (as : List Value) (acc : Array Slot), (as.foldl (fun acc v => if v.category = 2 then (acc.push (.val v)).push .second else acc.push (.val v)) acc).toList = acc.toList ++ laid as
  | [], acc => by simp [laid]
  | v :: vs, acc => by
    show (List.foldl _ (if v.category = 2 then (acc.push (.val v)).push .second else acc.push (.val v)) vs : Array Slot).toList = _
    rw [laid_foldl vs]
    by_cases h : v.category = 2
    · rw [if_pos h, show laid (v :: vs) = .val v :: .second :: laid vs from if_pos h]; simp
    · rw [if_neg h, show laid (v :: vs) = .val v :: laid vs from if_neg h]; simp
theorem laid_map_len (ad : Nat → Addr) (as : List Value) : (laid (as.map (rf ad))).length = (laid as).length := by
  have := (laid_rel ad 0 as).1
  simpa using this.symm
theorem entry_LR (ad : Nat → Addr) (as : List Value) (n : Nat) (hn : (laid as).length ≤ n) : LR ad (entL as n) (argsToLocals (as.map (rf ad)).toArray n) ∧ (argsToLocals (as.map (rf ad)).toArray n).size = n := by
  have e : (argsToLocals (as.map (rf ad)).toArray n).toList = laid (as.map (rf ad)) ++ List.replicate (n - (laid as).length) Slot.unset := by
    have e1 := laid_foldl (as.map (rf ad)) #[]
    have e2 : ((as.map (rf ad)).toArray.foldl (fun acc v => if v.category = 2 then (acc.push (.val v)).push .second else acc.push (.val v)) #[] : Array Slot).toList = laid (as.map (rf ad)) := by
      rw [List.foldl_toArray']
      · rw [e1]; rfl
      · rfl
    have e3 : ((as.map (rf ad)).toArray.foldl (fun acc v => if v.category = 2 then (acc.push (.val v)).push .second else acc.push (.val v)) #[] : Array Slot).size = (laid as).length := by
      rw [← Array.length_toList, e2, laid_map_len]
    show (_ ++ Array.replicate (n - _) Slot.unset).toList = _
    rw [Array.toList_append, e2, Array.toList_replicate, e3]
  obtain ⟨a1, a2, a3, a4⟩ := laid_rel ad (n - (laid as).length) as
  have g : ∀ i : Nat, (argsToLocals (as.map (rf ad)).toArray n)[i]? = (laid (as.map (rf ad)) ++ List.replicate (n - (laid as).length) Slot.unset)[i]? := fun i => by rw [← e, Array.getElem?_toList]
  have sz : (argsToLocals (as.map (rf ad)).toArray n).size = (laid (as.map (rf ad)) ++ List.replicate (n - (laid as).length) Slot.unset).length := by rw [← e, Array.length_toList]
  refine ⟨⟨by rw [sz]; exact a1, fun i v h => by rw [g]; exact a2 i v h, fun i h => by rw [g]; exact a3 i h, ?_⟩, by rw [sz, ← a1]; simp; omega⟩
  have : (fun i => (argsToLocals (as.map (rf ad)).toArray n)[i]?) = fun i => (laid (as.map (rf ad)) ++ List.replicate (n - (laid as).length) Slot.unset)[i]? := funext g
  rw [this]; exact a4
/-! ## reading and writing a list as Java does an array -/
def rd {α : Type} (xs : List α) (i : Int32) : Option α := if i < 0 then none else xs[i.toNatClampNeg]?
def wr {α : Type} (xs : List α) (i : Int32) (x : α) : Option (List α) := if i < 0 then none else if i.toNatClampNeg < xs.length then some (xs.set i.toNatClampNeg x) else none
theorem rd_slots {α : Type} {f : α → Value} {sl : Array Value} {xs : List α} (h : sl.toList = xs.map f) {j : Int32} {x : α} (hx : rd xs j = some x) : ¬ (j < 0 ∨ sl.size ≤ j.toNatClampNeg) ∧ sl[j.toNatClampNeg]? = some (f x) := by
  unfold rd at hx
  by_cases hj : j < 0
  · rw [if_pos hj] at hx; cases hx
  · rw [if_neg hj] at hx
    have h1 : sl[j.toNatClampNeg]? = some (f x) := by rw [← Array.getElem?_toList, h, List.getElem?_map, hx]; rfl
    exact ⟨fun q => q.elim hj fun q => absurd (Array.getElem?_eq_some_iff.mp h1).1 (Nat.not_lt.mpr q), h1⟩
theorem wr_slots {α : Type} {f : α → Value} {cl : Cell} {xs xs' : List α} (h : cl.slots.toList = xs.map f) {j : Int32} {x : α} (hx : wr xs j x = some xs') : ¬ (j < 0 ∨ cl.slots.size ≤ j.toNatClampNeg) ∧ (cl.setSlot j.toNatClampNeg (f x)).slots.toList = xs'.map f := by
  unfold wr at hx
  by_cases hj : j < 0
  · rw [if_pos hj] at hx; cases hx
  · rw [if_neg hj] at hx
    by_cases hl : j.toNatClampNeg < xs.length
    · rw [if_pos hl] at hx; cases hx
      have sz : cl.slots.size = xs.length := by rw [← Array.length_toList, h, List.length_map]
      refine ⟨fun q => q.elim hj fun q => by omega, ?_⟩
      show (cl.slots.setIfInBounds _ _).toList = _
      rw [Array.toList_setIfInBounds, h, List.map_set]
    · rw [if_neg hl] at hx; cases hx
/-! ## the walk's promise, said of the small view -/
def Am (Z : State) (own mn : String) (bytes : ByteArray) (maxL : Nat) (ret : Option FieldType) (p : Program) (s : State) (m : MethodId) (meth : Method) (c : Code) : Prop :=
  p.tables.exec = Jvm.exec ∧ Z.Warmed39 s.vm ∧ c.code = bytes ∧ c.maxLocals = maxL ∧ meth.sig.returnType = ret ∧ meth.locks = false ∧ s.vm.findClass own = some m.cls ∧ meth.name = mn
def WP (l : Launch) (Z : State) (C : String) (lay : List (String × String)) (own mn : String) (bytes : ByteArray) (maxL : Nat) (ret : Option FieldType) (R : Room) (n0 ro : Nat) (Q : Option Value → List OwnC → Prop) (k n pc : Nat) (L : List Slot) (S : List Value) (H : List OwnC) : Prop :=
  ∀ (p : Program) (e : Env) (s : State) (m : MethodId) (args : Array Value) (below : List Frame) (meth : Method) (c : Code) (T : State) (locs : List Loc) (ad : Nat → Addr) (Ls : Array Slot),
    Stand p l e R s m args below meth c T locs k n → Am Z own mn bytes maxL ret p s m meth c → HR Z C lay n0 ro ad H T.heap → Fr n0 locs → LR ad L Ls → Ls.size = maxL →
    ∃ (s₂ : State) (v : Option Value) (H' : List OwnC) (locs' : List Loc),
      Steps p.tables e below (T.setTop (mkF m pc Ls (S.map (rf ad)))) s₂ ∧ s₂.status = .running ∧ Ended s₂ below (.returned (v.map (rf ad))) ∧ Q v H' ∧ HR Z C lay n0 ro ad H' s₂.heap ∧ Kp ad H.length T.heap s₂.heap ∧ Fr n0 locs' ∧ FrameEnd s (.returned (v.map (rf ad))) s₂ locs' R.cells R.slots
section Rules
variable {l : Launch} {Z : State} {a0 : Array Value} {C : String} {lay : List (String × String)} {own mn : String} {bytes : ByteArray} {maxL : Nat} {ret : Option FieldType} {R : Room} {n0 ro : Nat} {Q : Option Value → List OwnC → Prop} {k n pc pc' : Nat} {L L' : List Slot} {S S' : List Value} {H H' : List OwnC}
theorem WP.weak (h : leL L' L) (nx : WP l Z C lay own mn bytes maxL ret R n0 ro Q k n pc L' S H) : WP l Z C lay own mn bytes maxL ret R n0 ro Q k n pc L S H :=
  fun p e s m args below meth c T locs ad Ls X A hr N hL hz => nx p e s m args below meth c T locs ad Ls X A hr N (LR.weak h hL) hz
theorem WP.of (hs : ∀ (p : Program) (e : Env) (s : State) (m : MethodId) (args : Array Value) (below : List Frame) (meth : Method) (c : Code) (T : State) (locs : List Loc) (ad : Nat → Addr) (Ls : Array Slot), Stand p l e R s m args below meth c T locs k n → Am Z own mn bytes maxL ret p s m meth c → LR ad L Ls → Ls.size = maxL →
      ∃ Ls', LR ad L' Ls' ∧ Ls'.size = maxL ∧ ∀ t, Steps p.tables e below (T.setTop (mkF m pc' Ls' (S'.map (rf ad)))) t → Steps p.tables e below (T.setTop (mkF m pc Ls (S.map (rf ad)))) t)
    (nx : WP l Z C lay own mn bytes maxL ret R n0 ro Q k n pc' L' S' H) : WP l Z C lay own mn bytes maxL ret R n0 ro Q k n pc L S H := by
  intro p e s m args below meth c T locs ad Ls X A hr N hL hz
  obtain ⟨Ls', hL', hz', st⟩ := hs p e s m args below meth c T locs ad Ls X A hL hz
  obtain ⟨s₂, v, H', locs', h1, h2⟩ := nx p e s m args below meth c T locs ad Ls' X A hr N hL' hz'
  exact ⟨s₂, v, H', locs', st _ h1, h2⟩
theorem WP.iload {j : Nat} {x : Int32} (hd : decode bytes pc = .ok (.iload j, 2)) (hl : L[j]? = some (.val (.int x))) (nx : WP l Z C lay own mn bytes maxL ret R n0 ro Q k n (pc + 2) L (.int x :: S) H) : WP l Z C lay own mn bytes maxL ret R n0 ro Q k n pc L (S) H :=
  WP.of (fun p e s m args below meth c T locs ad Ls X A hL hz => ⟨Ls, hL, hz, fun t ht => XS.iload X.here A.1 rfl (hb A.2.2.1 hd) (hL.2.1 _ _ hl) ht⟩) nx
theorem WP.iloadN {j : Fin 4} {x : Int32} (hd : decode bytes pc = .ok (.iload_n j, 1)) (hl : L[j.val]? = some (.val (.int x))) (nx : WP l Z C lay own mn bytes maxL ret R n0 ro Q k n (pc + 1) L (.int x :: S) H) : WP l Z C lay own mn bytes maxL ret R n0 ro Q k n pc L (S) H :=
  WP.of (fun p e s m args below meth c T locs ad Ls X A hL hz => ⟨Ls, hL, hz, fun t ht => XS.iloadN X.here A.1 rfl (hb A.2.2.1 hd) (hL.2.1 _ _ hl) ht⟩) nx
theorem WP.lload {j : Nat} {x : Int64} (hd : decode bytes pc = .ok (.lload j, 2)) (hl : L[j]? = some (.val (.long x))) (nx : WP l Z C lay own mn bytes maxL ret R n0 ro Q k n (pc + 2) L (.long x :: S) H) : WP l Z C lay own mn bytes maxL ret R n0 ro Q k n pc L (S) H :=
  WP.of (fun p e s m args below meth c T locs ad Ls X A hL hz => ⟨Ls, hL, hz, fun t ht => XT.lload X.here A.1 rfl (hb A.2.2.1 hd) (hL.2.1 _ _ hl) ht⟩) nx
theorem WP.lloadN {j : Fin 4} {x : Int64} (hd : decode bytes pc = .ok (.lload_n j, 1)) (hl : L[j.val]? = some (.val (.long x))) (nx : WP l Z C lay own mn bytes maxL ret R n0 ro Q k n (pc + 1) L (.long x :: S) H) : WP l Z C lay own mn bytes maxL ret R n0 ro Q k n pc L (S) H :=
  WP.of (fun p e s m args below meth c T locs ad Ls X A hL hz => ⟨Ls, hL, hz, fun t ht => XT.lloadN X.here A.1 rfl (hb A.2.2.1 hd) (hL.2.1 _ _ hl) ht⟩) nx
theorem WP.aload {j : Nat} {i : Nat} (hd : decode bytes pc = .ok (.aload j, 2)) (hl : L[j]? = some (.val (.ref i))) (nx : WP l Z C lay own mn bytes maxL ret R n0 ro Q k n (pc + 2) L (.ref i :: S) H) : WP l Z C lay own mn bytes maxL ret R n0 ro Q k n pc L (S) H :=
  WP.of (fun p e s m args below meth c T locs ad Ls X A hL hz => ⟨Ls, hL, hz, fun t ht => XS.aload X.here A.1 rfl (hb A.2.2.1 hd) (hL.2.1 _ _ hl) rfl ht⟩) nx
theorem WP.aloadN {j : Fin 4} {i : Nat} (hd : decode bytes pc = .ok (.aload_n j, 1)) (hl : L[j.val]? = some (.val (.ref i))) (nx : WP l Z C lay own mn bytes maxL ret R n0 ro Q k n (pc + 1) L (.ref i :: S) H) : WP l Z C lay own mn bytes maxL ret R n0 ro Q k n pc L (S) H :=
  WP.of (fun p e s m args below meth c T locs ad Ls X A hL hz => ⟨Ls, hL, hz, fun t ht => XS.aloadN X.here A.1 rfl (hb A.2.2.1 hd) (hL.2.1 _ _ hl) rfl ht⟩) nx
theorem WP.iconst {i : Int} (v : Int32) (hd : decode bytes pc = .ok (.iconst i, 1)) (hv : Int32.ofInt i = v) (nx : WP l Z C lay own mn bytes maxL ret R n0 ro Q k n (pc + 1) L (.int v :: S) H) : WP l Z C lay own mn bytes maxL ret R n0 ro Q k n pc L (S) H :=
  WP.of (fun p e s m args below meth c T locs ad Ls X A hL hz => ⟨Ls, hL, hz, fun t ht => XS.iconst X.here A.1 rfl (hb A.2.2.1 hd) (by rw [hv]; exact ht)⟩) nx
theorem WP.bipush {i : Int} (v : Int32) (hd : decode bytes pc = .ok (.bipush i, 2)) (hv : (Int8.ofInt i).toInt32 = v) (nx : WP l Z C lay own mn bytes maxL ret R n0 ro Q k n (pc + 2) L (.int v :: S) H) : WP l Z C lay own mn bytes maxL ret R n0 ro Q k n pc L (S) H :=
  WP.of (fun p e s m args below meth c T locs ad Ls X A hL hz => ⟨Ls, hL, hz, fun t ht => XS.bipush X.here A.1 rfl (hb A.2.2.1 hd) (by rw [hv]; exact ht)⟩) nx
theorem WP.sipush {i : Int} (v : Int32) (hd : decode bytes pc = .ok (.sipush i, 3)) (hv : (Int16.ofInt i).toInt32 = v) (nx : WP l Z C lay own mn bytes maxL ret R n0 ro Q k n (pc + 3) L (.int v :: S) H) : WP l Z C lay own mn bytes maxL ret R n0 ro Q k n pc L (S) H :=
  WP.of (fun p e s m args below meth c T locs ad Ls X A hL hz => ⟨Ls, hL, hz, fun t ht => XS.sipush X.here A.1 rfl (hb A.2.2.1 hd) (by rw [hv]; exact ht)⟩) nx
theorem WP.lconst {j : Fin 2} (v : Int64) (hd : decode bytes pc = .ok (.lconst j, 1)) (hv : Int64.ofNat j = v) (nx : WP l Z C lay own mn bytes maxL ret R n0 ro Q k n (pc + 1) L (.long v :: S) H) : WP l Z C lay own mn bytes maxL ret R n0 ro Q k n pc L (S) H :=
  WP.of (fun p e s m args below meth c T locs ad Ls X A hL hz => ⟨Ls, hL, hz, fun t ht => XT.lconst X.here A.1 rfl (hb A.2.2.1 hd) (by rw [hv]; exact ht)⟩) nx
theorem WP.ldc {idx : Nat} {v : Int32} (hd : decode bytes pc = .ok (.ldc idx, 2)) (hw : (Cond.constant own idx v).before a0 Z = true) (nx : WP l Z C lay own mn bytes maxL ret R n0 ro Q k n (pc + 2) L (.int v :: S) H) : WP l Z C lay own mn bytes maxL ret R n0 ro Q k n pc L (S) H :=
  WP.of (fun p e s m args below meth c T locs ad Ls X A hL hz => ⟨Ls, hL, hz, fun t ht => X.ldcInt A.1 A.2.2.2.2.2.2.1 (mvT A.2.1 hw) (g := mkF m pc Ls (S.map (rf ad))) rfl (hb A.2.2.1 hd) t ht⟩) nx
theorem WP.ldcw {idx : Nat} {v : Int32} (hd : decode bytes pc = .ok (.ldc_w idx, 3)) (hw : (Cond.constant own idx v).before a0 Z = true) (nx : WP l Z C lay own mn bytes maxL ret R n0 ro Q k n (pc + 3) L (.int v :: S) H) : WP l Z C lay own mn bytes maxL ret R n0 ro Q k n pc L (S) H :=
  WP.of (fun p e s m args below meth c T locs ad Ls X A hL hz => ⟨Ls, hL, hz, fun t ht => X.ldcwInt A.1 A.2.2.2.2.2.2.1 (mvT A.2.1 hw) (g := mkF m pc Ls (S.map (rf ad))) rfl (hb A.2.2.1 hd) t ht⟩) nx
theorem WP.ldc2 {idx : Nat} {v : Int64} (hd : decode bytes pc = .ok (.ldc2_w idx, 3)) (hw : (Cond.constantLong own idx v).before a0 Z = true) (nx : WP l Z C lay own mn bytes maxL ret R n0 ro Q k n (pc + 3) L (.long v :: S) H) : WP l Z C lay own mn bytes maxL ret R n0 ro Q k n pc L (S) H :=
  WP.of (fun p e s m args below meth c T locs ad Ls X A hL hz => ⟨Ls, hL, hz, fun t ht => X.ldc2Long A.1 A.2.2.2.2.2.2.1 (mvT A.2.1 hw) (g := mkF m pc Ls (S.map (rf ad))) rfl (hb A.2.2.1 hd) t ht⟩) nx
theorem WP.iadd {x y : Int32} (hd : decode bytes pc = .ok (.iadd, 1)) (nx : WP l Z C lay own mn bytes maxL ret R n0 ro Q k n (pc + 1) L (.int (x + y) :: S) H) : WP l Z C lay own mn bytes maxL ret R n0 ro Q k n pc L (.int y :: .int x :: S) H :=
  WP.of (fun p e s m args below meth c T locs ad Ls X A hL hz => ⟨Ls, hL, hz, fun t ht => XS.iadd X.here A.1 rfl (hb A.2.2.1 hd) rfl ht⟩) nx
theorem WP.ladd {x y : Int64} (hd : decode bytes pc = .ok (.ladd, 1)) (nx : WP l Z C lay own mn bytes maxL ret R n0 ro Q k n (pc + 1) L (.long (x + y) :: S) H) : WP l Z C lay own mn bytes maxL ret R n0 ro Q k n pc L (.long y :: .long x :: S) H :=
  WP.of (fun p e s m args below meth c T locs ad Ls X A hL hz => ⟨Ls, hL, hz, fun t ht => XT.ladd X.here A.1 rfl (hb A.2.2.1 hd) rfl ht⟩) nx
theorem WP.isub {x y : Int32} (hd : decode bytes pc = .ok (.isub, 1)) (nx : WP l Z C lay own mn bytes maxL ret R n0 ro Q k n (pc + 1) L (.int (x - y) :: S) H) : WP l Z C lay own mn bytes maxL ret R n0 ro Q k n pc L (.int y :: .int x :: S) H :=
  WP.of (fun p e s m args below meth c T locs ad Ls X A hL hz => ⟨Ls, hL, hz, fun t ht => XS.isub X.here A.1 rfl (hb A.2.2.1 hd) rfl ht⟩) nx
theorem WP.lsub {x y : Int64} (hd : decode bytes pc = .ok (.lsub, 1)) (nx : WP l Z C lay own mn bytes maxL ret R n0 ro Q k n (pc + 1) L (.long (x - y) :: S) H) : WP l Z C lay own mn bytes maxL ret R n0 ro Q k n pc L (.long y :: .long x :: S) H :=
  WP.of (fun p e s m args below meth c T locs ad Ls X A hL hz => ⟨Ls, hL, hz, fun t ht => XT.lsub X.here A.1 rfl (hb A.2.2.1 hd) rfl ht⟩) nx
theorem WP.imul {x y : Int32} (hd : decode bytes pc = .ok (.imul, 1)) (nx : WP l Z C lay own mn bytes maxL ret R n0 ro Q k n (pc + 1) L (.int (x * y) :: S) H) : WP l Z C lay own mn bytes maxL ret R n0 ro Q k n pc L (.int y :: .int x :: S) H :=
  WP.of (fun p e s m args below meth c T locs ad Ls X A hL hz => ⟨Ls, hL, hz, fun t ht => XS.imul X.here A.1 rfl (hb A.2.2.1 hd) rfl ht⟩) nx
theorem WP.lmul {x y : Int64} (hd : decode bytes pc = .ok (.lmul, 1)) (nx : WP l Z C lay own mn bytes maxL ret R n0 ro Q k n (pc + 1) L (.long (x * y) :: S) H) : WP l Z C lay own mn bytes maxL ret R n0 ro Q k n pc L (.long y :: .long x :: S) H :=
  WP.of (fun p e s m args below meth c T locs ad Ls X A hL hz => ⟨Ls, hL, hz, fun t ht => XT.lmul X.here A.1 rfl (hb A.2.2.1 hd) rfl ht⟩) nx
theorem WP.iand {x y : Int32} (hd : decode bytes pc = .ok (.iand, 1)) (nx : WP l Z C lay own mn bytes maxL ret R n0 ro Q k n (pc + 1) L (.int (x &&& y) :: S) H) : WP l Z C lay own mn bytes maxL ret R n0 ro Q k n pc L (.int y :: .int x :: S) H :=
  WP.of (fun p e s m args below meth c T locs ad Ls X A hL hz => ⟨Ls, hL, hz, fun t ht => XS.iand X.here A.1 rfl (hb A.2.2.1 hd) rfl ht⟩) nx
theorem WP.land {x y : Int64} (hd : decode bytes pc = .ok (.land, 1)) (nx : WP l Z C lay own mn bytes maxL ret R n0 ro Q k n (pc + 1) L (.long (x &&& y) :: S) H) : WP l Z C lay own mn bytes maxL ret R n0 ro Q k n pc L (.long y :: .long x :: S) H :=
  WP.of (fun p e s m args below meth c T locs ad Ls X A hL hz => ⟨Ls, hL, hz, fun t ht => XT.land X.here A.1 rfl (hb A.2.2.1 hd) rfl ht⟩) nx
theorem WP.ior {x y : Int32} (hd : decode bytes pc = .ok (.ior, 1)) (nx : WP l Z C lay own mn bytes maxL ret R n0 ro Q k n (pc + 1) L (.int (x ||| y) :: S) H) : WP l Z C lay own mn bytes maxL ret R n0 ro Q k n pc L (.int y :: .int x :: S) H :=
  WP.of (fun p e s m args below meth c T locs ad Ls X A hL hz => ⟨Ls, hL, hz, fun t ht => XT.ior X.here A.1 rfl (hb A.2.2.1 hd) rfl ht⟩) nx
theorem WP.lor {x y : Int64} (hd : decode bytes pc = .ok (.lor, 1)) (nx : WP l Z C lay own mn bytes maxL ret R n0 ro Q k n (pc + 1) L (.long (x ||| y) :: S) H) : WP l Z C lay own mn bytes maxL ret R n0 ro Q k n pc L (.long y :: .long x :: S) H :=
  WP.of (fun p e s m args below meth c T locs ad Ls X A hL hz => ⟨Ls, hL, hz, fun t ht => XT.lor X.here A.1 rfl (hb A.2.2.1 hd) rfl ht⟩) nx
theorem WP.ixor {x y : Int32} (hd : decode bytes pc = .ok (.ixor, 1)) (nx : WP l Z C lay own mn bytes maxL ret R n0 ro Q k n (pc + 1) L (.int (x ^^^ y) :: S) H) : WP l Z C lay own mn bytes maxL ret R n0 ro Q k n pc L (.int y :: .int x :: S) H :=
  WP.of (fun p e s m args below meth c T locs ad Ls X A hL hz => ⟨Ls, hL, hz, fun t ht => XT.ixor X.here A.1 rfl (hb A.2.2.1 hd) rfl ht⟩) nx
theorem WP.lxor {x y : Int64} (hd : decode bytes pc = .ok (.lxor, 1)) (nx : WP l Z C lay own mn bytes maxL ret R n0 ro Q k n (pc + 1) L (.long (x ^^^ y) :: S) H) : WP l Z C lay own mn bytes maxL ret R n0 ro Q k n pc L (.long y :: .long x :: S) H :=
  WP.of (fun p e s m args below meth c T locs ad Ls X A hL hz => ⟨Ls, hL, hz, fun t ht => XT.lxor X.here A.1 rfl (hb A.2.2.1 hd) rfl ht⟩) nx
theorem WP.idiv {x y : Int32} (hd : decode bytes pc = .ok (.idiv, 1)) (hy : ¬ y = 0) (nx : WP l Z C lay own mn bytes maxL ret R n0 ro Q k n (pc + 1) L (.int (x / y) :: S) H) : WP l Z C lay own mn bytes maxL ret R n0 ro Q k n pc L (.int y :: .int x :: S) H :=
  WP.of (fun p e s m args below meth c T locs ad Ls X A hL hz => ⟨Ls, hL, hz, fun t ht => XS.idiv X.here A.1 rfl (hb A.2.2.1 hd) rfl hy ht⟩) nx
theorem WP.irem {x y : Int32} (hd : decode bytes pc = .ok (.irem, 1)) (hy : ¬ y = 0) (nx : WP l Z C lay own mn bytes maxL ret R n0 ro Q k n (pc + 1) L (.int (x % y) :: S) H) : WP l Z C lay own mn bytes maxL ret R n0 ro Q k n pc L (.int y :: .int x :: S) H :=
  WP.of (fun p e s m args below meth c T locs ad Ls X A hL hz => ⟨Ls, hL, hz, fun t ht => iremM X A.1 rfl (hb A.2.2.1 hd) rfl hy ht⟩) nx
theorem WP.ldiv {x y : Int64} (hd : decode bytes pc = .ok (.ldiv, 1)) (hy : ¬ y = 0) (nx : WP l Z C lay own mn bytes maxL ret R n0 ro Q k n (pc + 1) L (.long (x / y) :: S) H) : WP l Z C lay own mn bytes maxL ret R n0 ro Q k n pc L (.long y :: .long x :: S) H :=
  WP.of (fun p e s m args below meth c T locs ad Ls X A hL hz => ⟨Ls, hL, hz, fun t ht => XT.ldiv X.here A.1 rfl (hb A.2.2.1 hd) rfl hy ht⟩) nx
theorem lrem_mod (x y : Int64) : x - (x / y) * y = x % y := by
  apply Int64.toInt_inj.mp
  have h1 := Int64.le_toInt (x % y)
  have h2 := Int64.toInt_lt (x % y)
  rw [Int64.toInt_sub, Int64.toInt_mul, Int64.toInt_div, Int.bmod_mul_bmod, Int.sub_bmod_bmod, Int.mul_comm (x.toInt.tdiv y.toInt), ← Int.tmod_def, ← Int64.toInt_mod]
  exact Int.bmod_eq_of_le_mul_two (by omega) (by omega)
theorem WP.lrem {x y : Int64} (hd : decode bytes pc = .ok (.lrem, 1)) (hy : ¬ y = 0) (nx : WP l Z C lay own mn bytes maxL ret R n0 ro Q k n (pc + 1) L (.long (x % y) :: S) H) : WP l Z C lay own mn bytes maxL ret R n0 ro Q k n pc L (.long y :: .long x :: S) H :=
  WP.of (fun p e s m args below meth c T locs ad Ls X A hL hz => ⟨Ls, hL, hz, fun t ht => XT.lrem X.here A.1 rfl (hb A.2.2.1 hd) rfl hy (by rw [lrem_mod]; exact ht)⟩) nx
theorem WP.ishl {x y : Int32} (hd : decode bytes pc = .ok (.ishl, 1)) (nx : WP l Z C lay own mn bytes maxL ret R n0 ro Q k n (pc + 1) L (.int (x <<< (y &&& 31)) :: S) H) : WP l Z C lay own mn bytes maxL ret R n0 ro Q k n pc L (.int y :: .int x :: S) H :=
  WP.of (fun p e s m args below meth c T locs ad Ls X A hL hz => ⟨Ls, hL, hz, fun t ht => XT.ishl X.here A.1 rfl (hb A.2.2.1 hd) rfl ht⟩) nx
theorem WP.ishr {x y : Int32} (hd : decode bytes pc = .ok (.ishr, 1)) (nx : WP l Z C lay own mn bytes maxL ret R n0 ro Q k n (pc + 1) L (.int (x >>> (y &&& 31)) :: S) H) : WP l Z C lay own mn bytes maxL ret R n0 ro Q k n pc L (.int y :: .int x :: S) H :=
  WP.of (fun p e s m args below meth c T locs ad Ls X A hL hz => ⟨Ls, hL, hz, fun t ht => XT.ishr X.here A.1 rfl (hb A.2.2.1 hd) rfl ht⟩) nx
theorem WP.iushr {x y : Int32} (hd : decode bytes pc = .ok (.iushr, 1)) (nx : WP l Z C lay own mn bytes maxL ret R n0 ro Q k n (pc + 1) L (.int (XT.ushr x y) :: S) H) : WP l Z C lay own mn bytes maxL ret R n0 ro Q k n pc L (.int y :: .int x :: S) H :=
  WP.of (fun p e s m args below meth c T locs ad Ls X A hL hz => ⟨Ls, hL, hz, fun t ht => XT.iushr X.here A.1 rfl (hb A.2.2.1 hd) rfl ht⟩) nx
theorem WP.lshl {x : Int64} {y : Int32} (hd : decode bytes pc = .ok (.lshl, 1)) (nx : WP l Z C lay own mn bytes maxL ret R n0 ro Q k n (pc + 1) L (.long (x <<< (y.toInt64 &&& 63)) :: S) H) : WP l Z C lay own mn bytes maxL ret R n0 ro Q k n pc L (.int y :: .long x :: S) H :=
  WP.of (fun p e s m args below meth c T locs ad Ls X A hL hz => ⟨Ls, hL, hz, fun t ht => XT.lshl X.here A.1 rfl (hb A.2.2.1 hd) rfl ht⟩) nx
theorem WP.lshr {x : Int64} {y : Int32} (hd : decode bytes pc = .ok (.lshr, 1)) (nx : WP l Z C lay own mn bytes maxL ret R n0 ro Q k n (pc + 1) L (.long (x >>> (y.toInt64 &&& 63)) :: S) H) : WP l Z C lay own mn bytes maxL ret R n0 ro Q k n pc L (.int y :: .long x :: S) H :=
  WP.of (fun p e s m args below meth c T locs ad Ls X A hL hz => ⟨Ls, hL, hz, fun t ht => XT.lshr X.here A.1 rfl (hb A.2.2.1 hd) rfl ht⟩) nx
theorem WP.lushr {x : Int64} {y : Int32} (hd : decode bytes pc = .ok (.lushr, 1)) (nx : WP l Z C lay own mn bytes maxL ret R n0 ro Q k n (pc + 1) L (.long (XT.ushrL x y) :: S) H) : WP l Z C lay own mn bytes maxL ret R n0 ro Q k n pc L (.int y :: .long x :: S) H :=
  WP.of (fun p e s m args below meth c T locs ad Ls X A hL hz => ⟨Ls, hL, hz, fun t ht => XT.lushr X.here A.1 rfl (hb A.2.2.1 hd) rfl ht⟩) nx
theorem WP.ineg {x : Int32} (hd : decode bytes pc = .ok (.ineg, 1)) (nx : WP l Z C lay own mn bytes maxL ret R n0 ro Q k n (pc + 1) L (.int (-x) :: S) H) : WP l Z C lay own mn bytes maxL ret R n0 ro Q k n pc L (.int x :: S) H :=
  WP.of (fun p e s m args below meth c T locs ad Ls X A hL hz => ⟨Ls, hL, hz, fun t ht => XS.ineg X.here A.1 rfl (hb A.2.2.1 hd) rfl ht⟩) nx
theorem WP.lneg {x : Int64} (hd : decode bytes pc = .ok (.lneg, 1)) (nx : WP l Z C lay own mn bytes maxL ret R n0 ro Q k n (pc + 1) L (.long (-x) :: S) H) : WP l Z C lay own mn bytes maxL ret R n0 ro Q k n pc L (.long x :: S) H :=
  WP.of (fun p e s m args below meth c T locs ad Ls X A hL hz => ⟨Ls, hL, hz, fun t ht => XT.lneg X.here A.1 rfl (hb A.2.2.1 hd) rfl ht⟩) nx
theorem WP.i2l {x : Int32} (hd : decode bytes pc = .ok (.i2l, 1)) (nx : WP l Z C lay own mn bytes maxL ret R n0 ro Q k n (pc + 1) L (.long x.toInt64 :: S) H) : WP l Z C lay own mn bytes maxL ret R n0 ro Q k n pc L (.int x :: S) H :=
  WP.of (fun p e s m args below meth c T locs ad Ls X A hL hz => ⟨Ls, hL, hz, fun t ht => XT.i2l X.here A.1 rfl (hb A.2.2.1 hd) rfl ht⟩) nx
theorem WP.l2i {x : Int64} (hd : decode bytes pc = .ok (.l2i, 1)) (nx : WP l Z C lay own mn bytes maxL ret R n0 ro Q k n (pc + 1) L (.int x.toInt32 :: S) H) : WP l Z C lay own mn bytes maxL ret R n0 ro Q k n pc L (.long x :: S) H :=
  WP.of (fun p e s m args below meth c T locs ad Ls X A hL hz => ⟨Ls, hL, hz, fun t ht => XT.l2i X.here A.1 rfl (hb A.2.2.1 hd) rfl ht⟩) nx
theorem WP.lcmp {x y : Int64} (hd : decode bytes pc = .ok (.lcmp, 1)) (nx : WP l Z C lay own mn bytes maxL ret R n0 ro Q k n (pc + 1) L (.int (XT.cmpL x y) :: S) H) : WP l Z C lay own mn bytes maxL ret R n0 ro Q k n pc L (.long y :: .long x :: S) H :=
  WP.of (fun p e s m args below meth c T locs ad Ls X A hL hz => ⟨Ls, hL, hz, fun t ht => XT.lcmp X.here A.1 rfl (hb A.2.2.1 hd) rfl ht⟩) nx
theorem WP.dup {v : Value} (hd : decode bytes pc = .ok (.dup, 1)) (hc : v.category = 1) (nx : WP l Z C lay own mn bytes maxL ret R n0 ro Q k n (pc + 1) L (v :: v :: S) H) : WP l Z C lay own mn bytes maxL ret R n0 ro Q k n pc L (v :: S) H :=
  WP.of (fun p e s m args below meth c T locs ad Ls X A hL hz => ⟨Ls, hL, hz, fun t ht => XS.dup X.here A.1 rfl (hb A.2.2.1 hd) rfl (by rw [rf_cat]; exact hc) ht⟩) nx
theorem WP.dup2 {v w : Value} (hd : decode bytes pc = .ok (.dup2, 1)) (hc : v.category = 1) (hc' : w.category = 1) (nx : WP l Z C lay own mn bytes maxL ret R n0 ro Q k n (pc + 1) L (v :: w :: v :: w :: S) H) : WP l Z C lay own mn bytes maxL ret R n0 ro Q k n pc L (v :: w :: S) H :=
  WP.of (fun p e s m args below meth c T locs ad Ls X A hL hz => ⟨Ls, hL, hz, fun t ht => XT.dup2 X.here A.1 rfl (hb A.2.2.1 hd) rfl (by rw [rf_cat]; exact hc) (by rw [rf_cat]; exact hc') ht⟩) nx
theorem WP.dup2L {x : Int64} (hd : decode bytes pc = .ok (.dup2, 1)) (nx : WP l Z C lay own mn bytes maxL ret R n0 ro Q k n (pc + 1) L (.long x :: .long x :: S) H) : WP l Z C lay own mn bytes maxL ret R n0 ro Q k n pc L (.long x :: S) H :=
  WP.of (fun p e s m args below meth c T locs ad Ls X A hL hz => ⟨Ls, hL, hz, fun t ht => XT.dup2L X.here A.1 rfl (hb A.2.2.1 hd) rfl ht⟩) nx
theorem WP.pop {v : Value} (hd : decode bytes pc = .ok (.pop, 1)) (hc : v.category = 1) (nx : WP l Z C lay own mn bytes maxL ret R n0 ro Q k n (pc + 1) L (S) H) : WP l Z C lay own mn bytes maxL ret R n0 ro Q k n pc L (v :: S) H :=
  WP.of (fun p e s m args below meth c T locs ad Ls X A hL hz => ⟨Ls, hL, hz, fun t ht => XT.pop X.here A.1 rfl (hb A.2.2.1 hd) rfl (by rw [rf_cat]; exact hc) ht⟩) nx
theorem WP.istore {j : Nat} {x : Int32} (hd : decode bytes pc = .ok (.istore j, 2)) (hi : j < L.length) (hL' : st1 L j (.int x) = L') (nx : WP l Z C lay own mn bytes maxL ret R n0 ro Q k n (pc + 2) L' S H) : WP l Z C lay own mn bytes maxL ret R n0 ro Q k n pc L (.int x :: S) H :=
  WP.of (fun p e s m args below meth c T locs ad Ls X A hL hz => by
    obtain ⟨Ls', e1, e2, e3⟩ := hL.store1 hi (v := .int x) rfl
    exact ⟨Ls', hL' ▸ e2, e3.trans hz, fun t ht => XS.istore X.here A.1 rfl (hb A.2.2.1 hd) rfl e1 ht⟩) nx
theorem WP.istoreN {j : Fin 4} {x : Int32} (hd : decode bytes pc = .ok (.istore_n j, 1)) (hi : j.val < L.length) (hL' : st1 L j.val (.int x) = L') (nx : WP l Z C lay own mn bytes maxL ret R n0 ro Q k n (pc + 1) L' S H) : WP l Z C lay own mn bytes maxL ret R n0 ro Q k n pc L (.int x :: S) H :=
  WP.of (fun p e s m args below meth c T locs ad Ls X A hL hz => by
    obtain ⟨Ls', e1, e2, e3⟩ := hL.store1 hi (v := .int x) rfl
    exact ⟨Ls', hL' ▸ e2, e3.trans hz, fun t ht => XS.istoreN X.here A.1 rfl (hb A.2.2.1 hd) rfl e1 ht⟩) nx
theorem WP.astore {j : Nat} {i : Nat} (hd : decode bytes pc = .ok (.astore j, 2)) (hi : j < L.length) (hL' : st1 L j (.ref i) = L') (nx : WP l Z C lay own mn bytes maxL ret R n0 ro Q k n (pc + 2) L' S H) : WP l Z C lay own mn bytes maxL ret R n0 ro Q k n pc L (.ref i :: S) H :=
  WP.of (fun p e s m args below meth c T locs ad Ls X A hL hz => by
    obtain ⟨Ls', e1, e2, e3⟩ := hL.store1 hi (v := .ref i) rfl
    exact ⟨Ls', hL' ▸ e2, e3.trans hz, fun t ht => XS.astore X.here A.1 rfl (hb A.2.2.1 hd) rfl rfl e1 ht⟩) nx
theorem WP.astoreN {j : Fin 4} {i : Nat} (hd : decode bytes pc = .ok (.astore_n j, 1)) (hi : j.val < L.length) (hL' : st1 L j.val (.ref i) = L') (nx : WP l Z C lay own mn bytes maxL ret R n0 ro Q k n (pc + 1) L' S H) : WP l Z C lay own mn bytes maxL ret R n0 ro Q k n pc L (.ref i :: S) H :=
  WP.of (fun p e s m args below meth c T locs ad Ls X A hL hz => by
    obtain ⟨Ls', e1, e2, e3⟩ := hL.store1 hi (v := .ref i) rfl
    exact ⟨Ls', hL' ▸ e2, e3.trans hz, fun t ht => XS.astoreN X.here A.1 rfl (hb A.2.2.1 hd) rfl rfl e1 ht⟩) nx
theorem WP.lstore {j : Nat} {x : Int64} (hd : decode bytes pc = .ok (.lstore j, 2)) (hi : j + 1 < L.length) (hL' : st2 L j (.long x) = L') (nx : WP l Z C lay own mn bytes maxL ret R n0 ro Q k n (pc + 2) L' S H) : WP l Z C lay own mn bytes maxL ret R n0 ro Q k n pc L (.long x :: S) H :=
  WP.of (fun p e s m args below meth c T locs ad Ls X A hL hz => by
    obtain ⟨Ls', e1, e2, e3⟩ := hL.store2 hi (v := .long x) rfl
    exact ⟨Ls', hL' ▸ e2, e3.trans hz, fun t ht => XT.lstore X.here A.1 rfl (hb A.2.2.1 hd) rfl e1 ht⟩) nx
theorem WP.lstoreN {j : Fin 4} {x : Int64} (hd : decode bytes pc = .ok (.lstore_n j, 1)) (hi : j.val + 1 < L.length) (hL' : st2 L j.val (.long x) = L') (nx : WP l Z C lay own mn bytes maxL ret R n0 ro Q k n (pc + 1) L' S H) : WP l Z C lay own mn bytes maxL ret R n0 ro Q k n pc L (.long x :: S) H :=
  WP.of (fun p e s m args below meth c T locs ad Ls X A hL hz => by
    obtain ⟨Ls', e1, e2, e3⟩ := hL.store2 hi (v := .long x) rfl
    exact ⟨Ls', hL' ▸ e2, e3.trans hz, fun t ht => XT.lstoreN X.here A.1 rfl (hb A.2.2.1 hd) rfl e1 ht⟩) nx
theorem WP.iinc {j : Nat} {cst : Int} {x : Int32} (v : Int32) (hd : decode bytes pc = .ok (.iinc j cst, 3)) (hv : Int32.ofInt cst = v) (hl : L[j]? = some (.val (.int x))) (hL' : st1 L j (.int (x + v)) = L') (nx : WP l Z C lay own mn bytes maxL ret R n0 ro Q k n (pc + 3) L' S H) : WP l Z C lay own mn bytes maxL ret R n0 ro Q k n pc L S H :=
  WP.of (fun p e s m args below meth c T locs ad Ls X A hL hz => by
    subst hv
    obtain ⟨Ls', e1, e2, e3⟩ := hL.store1 (get_lt hl) (v := .int (x + Int32.ofInt cst)) rfl
    exact ⟨Ls', hL' ▸ e2, e3.trans hz, fun t ht => XS.iinc X.here A.1 rfl (hb A.2.2.1 hd) (hL.2.1 _ _ hl) e1 ht⟩) nx
theorem iincW {tb : Tables} [Ours tb] {e : Env} {below : List Frame} {T target : State} {m : MethodId} {c : Code} {g : JFrame} (h : At T m c below) (hx : tb.exec = Jvm.exec) (hg : g.method = m) {k : Nat} {cst : Int} {x : Int32} {l' : Array Slot} (hd : decode c.code g.pc = .ok (.iinc k cst, 6)) (hl : g.locals[k]? = some (.val (.int x))) (hl' : storeLocals g.locals k (.int (x + Int32.ofInt cst)) = some l')
    (hr : Steps tb e below (T.setTop { g with pc := g.pc + 6, locals := l' }) target) : Steps tb e below (T.setTop g) target := by
  subst hg
  jvm_step h [h.top, hx, hd, hl, hl']
  exact hr
theorem WP.iincW {j : Nat} {cst : Int} {x : Int32} (v : Int32) (hd : decode bytes pc = .ok (.iinc j cst, 6)) (hv : Int32.ofInt cst = v) (hl : L[j]? = some (.val (.int x))) (hL' : st1 L j (.int (x + v)) = L') (nx : WP l Z C lay own mn bytes maxL ret R n0 ro Q k n (pc + 6) L' S H) : WP l Z C lay own mn bytes maxL ret R n0 ro Q k n pc L S H :=
  WP.of (fun p e s m args below meth c T locs ad Ls X A hL hz => by
    subst hv
    obtain ⟨Ls', e1, e2, e3⟩ := hL.store1 (get_lt hl) (v := .int (x + Int32.ofInt cst)) rfl
    exact ⟨Ls', hL' ▸ e2, e3.trans hz, fun t ht => Own.iincW X.here A.1 rfl (hb A.2.2.1 hd) (hL.2.1 _ _ hl) e1 ht⟩) nx
theorem WP.goto {o : Int} (hd : decode bytes pc = .ok (.goto o, 3)) (ho : 0 ≤ (pc : Int) + o) (hp : ((pc : Int) + o).toNat = pc') (nx : WP l Z C lay own mn bytes maxL ret R n0 ro Q k n pc' L S H) : WP l Z C lay own mn bytes maxL ret R n0 ro Q k n pc L S H :=
  WP.of (fun p e s m args below meth c T locs ad Ls X A hL hz => ⟨Ls, hL, hz, fun t ht => XS.goto X.here A.1 rfl rfl (hb A.2.2.1 hd) ho hp ht⟩) nx
theorem WP.ifY {cd : ClassFile.Cond} {x : Int32} {o : Int} (hd : decode bytes pc = .ok (.ifCond cd o, 3)) (hc : ifCond.holds cd x = true) (ho : 0 ≤ (pc : Int) + o) (hp : ((pc : Int) + o).toNat = pc') (nx : WP l Z C lay own mn bytes maxL ret R n0 ro Q k n pc' L S H) : WP l Z C lay own mn bytes maxL ret R n0 ro Q k n pc L (.int x :: S) H :=
  WP.of (fun p e s m args below meth c T locs ad Ls X A hL hz => ⟨Ls, hL, hz, fun t ht => XS.ifYes X.here A.1 rfl rfl (hb A.2.2.1 hd) rfl hc ho hp ht⟩) nx
theorem WP.ifN {cd : ClassFile.Cond} {x : Int32} {o : Int} (hd : decode bytes pc = .ok (.ifCond cd o, 3)) (hc : ifCond.holds cd x = false) (nx : WP l Z C lay own mn bytes maxL ret R n0 ro Q k n (pc + 3) L S H) : WP l Z C lay own mn bytes maxL ret R n0 ro Q k n pc L (.int x :: S) H :=
  WP.of (fun p e s m args below meth c T locs ad Ls X A hL hz => ⟨Ls, hL, hz, fun t ht => XS.ifNo X.here A.1 rfl (hb A.2.2.1 hd) rfl hc ht⟩) nx
theorem WP.icmpY {cd : ClassFile.Cond} {x y : Int32} {o : Int} (hd : decode bytes pc = .ok (.if_icmp cd o, 3)) (hc : if_icmp.holds cd x y = true) (ho : 0 ≤ (pc : Int) + o) (hp : ((pc : Int) + o).toNat = pc') (nx : WP l Z C lay own mn bytes maxL ret R n0 ro Q k n pc' L S H) : WP l Z C lay own mn bytes maxL ret R n0 ro Q k n pc L (.int y :: .int x :: S) H :=
  WP.of (fun p e s m args below meth c T locs ad Ls X A hL hz => ⟨Ls, hL, hz, fun t ht => XS.icmpYes X.here A.1 rfl rfl (hb A.2.2.1 hd) rfl hc ho hp ht⟩) nx
theorem WP.icmpN {cd : ClassFile.Cond} {x y : Int32} {o : Int} (hd : decode bytes pc = .ok (.if_icmp cd o, 3)) (hc : if_icmp.holds cd x y = false) (nx : WP l Z C lay own mn bytes maxL ret R n0 ro Q k n (pc + 3) L S H) : WP l Z C lay own mn bytes maxL ret R n0 ro Q k n pc L (.int y :: .int x :: S) H :=
  WP.of (fun p e s m args below meth c T locs ad Ls X A hL hz => ⟨Ls, hL, hz, fun t ht => XS.icmpNo X.here A.1 rfl (hb A.2.2.1 hd) rfl hc ht⟩) nx
theorem WP.nonnull {i : Nat} {o : Int} (hd : decode bytes pc = .ok (.ifnonnull o, 3)) (ho : 0 ≤ (pc : Int) + o) (hp : ((pc : Int) + o).toNat = pc') (nx : WP l Z C lay own mn bytes maxL ret R n0 ro Q k n pc' L S H) : WP l Z C lay own mn bytes maxL ret R n0 ro Q k n pc L (.ref i :: S) H :=
  WP.of (fun p e s m args below meth c T locs ad Ls X A hL hz => ⟨Ls, hL, hz, fun t ht => XT.ifnonnullYes X.here A.1 rfl rfl (hb A.2.2.1 hd) rfl ho hp ht⟩) nx
theorem WP.tswIn {dflt low high o : Int} {offs : Array Int} {len : Nat} {i : Int32} (hd : decode bytes pc = .ok (.tableswitch dflt low high offs, len)) (hin : ¬ (i.toInt < low ∨ i.toInt > high)) (hoff : offs[(i.toInt - low).toNat]? = some o) (ho : 0 ≤ (pc : Int) + o) (hp : ((pc : Int) + o).toNat = pc') (nx : WP l Z C lay own mn bytes maxL ret R n0 ro Q k n pc' L S H) : WP l Z C lay own mn bytes maxL ret R n0 ro Q k n pc L (.int i :: S) H :=
  WP.of (fun p e s m args below meth c T locs ad Ls X A hL hz => ⟨Ls, hL, hz, fun t ht => XS.tswIn X.here A.1 rfl rfl (hb A.2.2.1 hd) rfl hin hoff ho hp ht⟩) nx
theorem WP.tswOut {dflt low high : Int} {offs : Array Int} {len : Nat} {i : Int32} (hd : decode bytes pc = .ok (.tableswitch dflt low high offs, len)) (hout : i.toInt < low ∨ i.toInt > high) (ho : 0 ≤ (pc : Int) + dflt) (hp : ((pc : Int) + dflt).toNat = pc') (nx : WP l Z C lay own mn bytes maxL ret R n0 ro Q k n pc' L S H) : WP l Z C lay own mn bytes maxL ret R n0 ro Q k n pc L (.int i :: S) H :=
  WP.of (fun p e s m args below meth c T locs ad Ls X A hL hz => ⟨Ls, hL, hz, fun t ht => XS.tswOut X.here A.1 rfl rfl (hb A.2.2.1 hd) rfl hout ho hp ht⟩) nx
theorem tsw_miss {i : Int32} {low high : Int} (h : ∀ z : Int, low ≤ z → z ≤ high → ¬ i = Int32.ofInt z) : i.toInt < low ∨ i.toInt > high := by
  by_cases a : i.toInt < low
  · exact Or.inl a
  · by_cases b : i.toInt > high
    · exact Or.inr b
    · exact absurd (by rw [Int32.ofInt_toInt]) (h i.toInt (by omega) (by omega))
theorem WP.moved (hs : ∀ (p : Program) (e : Env) (s : State) (m : MethodId) (args : Array Value) (below : List Frame) (meth : Method) (c : Code) (T : State) (locs : List Loc) (ad : Nat → Addr) (Ls : Array Slot), Stand p l e R s m args below meth c T locs k n → Am Z own mn bytes maxL ret p s m meth c → HR Z C lay n0 ro ad H T.heap → Fr n0 locs → LR ad L Ls → Ls.size = maxL →
      ∃ T' locs', Stand p l e R s m args below meth c T' locs' k' n' ∧ HR Z C lay n0 ro ad H' T'.heap ∧ Kp ad H.length T.heap T'.heap ∧ Fr n0 locs' ∧ ∀ t, Steps p.tables e below (T'.setTop (mkF m pc' Ls (S'.map (rf ad)))) t → Steps p.tables e below (T.setTop (mkF m pc Ls (S.map (rf ad)))) t)
    (nx : WP l Z C lay own mn bytes maxL ret R n0 ro Q k' n' pc' L S' H') : WP l Z C lay own mn bytes maxL ret R n0 ro Q k n pc L S H := by
  intro p e s m args below meth c T locs ad Ls X A hr N hL hz
  obtain ⟨T', locs', X', hr', K, N', st⟩ := hs p e s m args below meth c T locs ad Ls X A hr N hL hz
  obtain ⟨s₂, v, H2, locs2, h1, h2, h3, h4, h5, h6, h7⟩ := nx p e s m args below meth c T' locs' ad Ls X' A hr' N' hL hz
  exact ⟨s₂, v, H2, locs2, st _ h1, h2, h3, h4, h5, Kp.trans hr K h6, h7⟩
theorem WP.getfield {idx i j : Nat} {f d : String} {vs : List Value} {v : Value} (hd : decode bytes pc = .ok (.getfield idx, 3)) (hw : (Cond.fieldLink own idx C f d).before a0 Z = true) (hj : lay[j]? = some (f, d)) (hH : H[i]? = some (.inl vs)) (hv : vs[j]? = some v) (nx : WP l Z C lay own mn bytes maxL ret R n0 ro Q k n (pc + 3) L (v :: S) H) : WP l Z C lay own mn bytes maxL ret R n0 ro Q k n pc L (.ref i :: S) H :=
  WP.moved (fun p e s m args below meth c T locs ad Ls X A hr N hL hz => by
    have F := (hr.1 i _ hH).2 j _ v hj hv
    obtain ⟨T', X', e', st⟩ := getF X A.1 A.2.1 A.2.2.2.2.2.2.1 (host := "") (Or.inl hw) Via.refl rfl F (g := mkF m pc Ls (.ref (ad i) :: S.map (rf ad))) rfl rfl (hb A.2.2.1 hd)
    exact ⟨T', locs, X', by rw [e']; exact hr, by rw [e']; exact Kp.refl _ _ _, N, fun t ht => st t ht⟩) nx
theorem WP.iaload {i : Nat} {xs : List Int32} {j x : Int32} (hd : decode bytes pc = .ok (.iaload, 1)) (hH : H[i]? = some (cI xs)) (hx : rd xs j = some x) (nx : WP l Z C lay own mn bytes maxL ret R n0 ro Q k n (pc + 1) L (.int x :: S) H) : WP l Z C lay own mn bytes maxL ret R n0 ro Q k n pc L (.int j :: .ref i :: S) H :=
  WP.moved (fun p e s m args below meth c T locs ad Ls X A hr N hL hz => by
    obtain ⟨cl, Ar, hsl⟩ := hr.1 i _ hH
    obtain ⟨q1, q2⟩ := rd_slots hsl hx
    exact ⟨T, locs, X, hr, Kp.refl _ _ _, N, fun t ht => X.iaload A.1 (j := j) Ar.1 (State.isArrayOf_alike A.2.1.alike Ar.2.1) Ar.2.2 q1 q2 (g := mkF m pc Ls (.int j :: .ref (ad i) :: S.map (rf ad))) rfl rfl (hb A.2.2.1 hd) _ ht⟩) nx
theorem WP.laload {i : Nat} {xs : List Int64} {j : Int32} {x : Int64} (hd : decode bytes pc = .ok (.laload, 1)) (hH : H[i]? = some (cJ xs)) (hx : rd xs j = some x) (nx : WP l Z C lay own mn bytes maxL ret R n0 ro Q k n (pc + 1) L (.long x :: S) H) : WP l Z C lay own mn bytes maxL ret R n0 ro Q k n pc L (.int j :: .ref i :: S) H :=
  WP.moved (fun p e s m args below meth c T locs ad Ls X A hr N hL hz => by
    obtain ⟨cl, Ar, hsl⟩ := hr.1 i _ hH
    obtain ⟨q1, q2⟩ := rd_slots hsl hx
    exact ⟨T, locs, X, hr, Kp.refl _ _ _, N, fun t ht => X.laload A.1 (j := j) Ar.1 (State.isArrayOf_alike A.2.1.alike Ar.2.1) Ar.2.2 q1 q2 (g := mkF m pc Ls (.int j :: .ref (ad i) :: S.map (rf ad))) rfl rfl (hb A.2.2.1 hd) _ ht⟩) nx
theorem baloadZ {p : Program} {e : Env} {s : State} {m : MethodId} {args : Array Value} {below : List Frame} {meth : Method} {c : Code} {T : State} {locs : List Loc} {cells slots : Nat} (X : Stand p l e R s m args below meth c T locs cells slots) (hexec : p.tables.exec = Jvm.exec) {a : Addr} {cell : Cell} {j : Int32} {v : Value} (hcell : T.heap[a]? = some cell) (harr : s.isArrayOf cell .boolean) (hknown : cell.vm ≠ .unknown)
    (hin : ¬ (j < 0 ∨ cell.slots.size ≤ j.toNatClampNeg)) (hv : cell.slots[j.toNatClampNeg]? = some v) {g : JFrame} (hg : g.method = m) {rest : List Value} (hstack : g.stack = .int j :: .ref a :: rest) (hdg : decode c.code g.pc = .ok (.baload, 1)) (target : State)
    (hrest : Steps p.tables e below (T.setTop { g with pc := g.pc + 1, stack := v :: rest }) target) : Steps p.tables e below (T.setTop g) target := by
  have hT := State.isArrayOf_alike X.warmed.alike harr
  subst hg
  jvm_step X.here [hexec, hdg, baload.wp_booleans (e := e) (s := T) (f := g) X.here.top hstack hcell hT hin hknown hv]
  exact hrest
theorem WP.baload {i : Nat} {xs : List Int32} {j x : Int32} (hd : decode bytes pc = .ok (.baload, 1)) (hH : H[i]? = some (cZ xs)) (hx : rd xs j = some x) (nx : WP l Z C lay own mn bytes maxL ret R n0 ro Q k n (pc + 1) L (.int x :: S) H) : WP l Z C lay own mn bytes maxL ret R n0 ro Q k n pc L (.int j :: .ref i :: S) H :=
  WP.moved (fun p e s m args below meth c T locs ad Ls X A hr N hL hz => by
    obtain ⟨cl, Ar, hsl⟩ := hr.1 i _ hH
    obtain ⟨q1, q2⟩ := rd_slots hsl hx
    exact ⟨T, locs, X, hr, Kp.refl _ _ _, N, fun t ht => baloadZ X A.1 (j := j) Ar.1 (State.isArrayOf_alike A.2.1.alike Ar.2.1) Ar.2.2 q1 q2 (g := mkF m pc Ls (.int j :: .ref (ad i) :: S.map (rf ad))) rfl rfl (hb A.2.2.1 hd) _ ht⟩) nx
theorem WP.arraylength {i : Nat} {xs : List Int32} (hd : decode bytes pc = .ok (.arraylength, 1)) (hH : H[i]? = some (cI xs)) (nx : WP l Z C lay own mn bytes maxL ret R n0 ro Q k n (pc + 1) L (.int xs.length.toInt32 :: S) H) : WP l Z C lay own mn bytes maxL ret R n0 ro Q k n pc L (.ref i :: S) H :=
  WP.moved (fun p e s m args below meth c T locs ad Ls X A hr N hL hz => by
    obtain ⟨cl, Ar, hsl⟩ := hr.1 i _ hH
    have e1 : cl.slots.size = xs.length := by rw [← Array.length_toList, hsl, List.length_map]
    refine ⟨T, locs, X, hr, Kp.refl _ _ _, N, fun t ht => X.arraylength A.1 Ar.1 (State.isArrayOf_alike A.2.1.alike Ar.2.1) (g := mkF m pc Ls (.ref (ad i) :: S.map (rf ad))) rfl rfl (hb A.2.2.1 hd) _ ?_⟩
    rw [e1]; exact ht) nx
theorem WP.iastore {i : Nat} {xs xs' : List Int32} {j : Int32} {x : Int32} (hd : decode bytes pc = .ok (.iastore, 1)) (hH : H[i]? = some (cI xs)) (hi : ro ≤ i) (hx : wr xs j x = some xs') (hH' : H.set i (cI xs') = H') (nx : WP l Z C lay own mn bytes maxL ret R n0 ro Q k n (pc + 1) L S H') : WP l Z C lay own mn bytes maxL ret R n0 ro Q k n pc L (.int x :: .int j :: .ref i :: S) H :=
  WP.moved (fun p e s m args below meth c T locs ad Ls X A hr N hL hz => by
    obtain ⟨cl, Ar, hsl⟩ := hr.1 i _ hH
    obtain ⟨q1, q2⟩ := wr_slots hsl hx
    obtain ⟨T', h', X', e', w, st⟩ := stI X A.1 A.2.1 rfl Ar (j := j) (x := x) q1 (g := mkF m pc Ls (.int x :: .int j :: .ref (ad i) :: S.map (rf ad))) rfl rfl (hb A.2.2.1 hd)
    subst e'
    have hi' := get_lt hH
    have P := hr.put (h' := T'.heap) (c := cI xs') hi' w.size (fun a cz hne q => by
      obtain ⟨c', g1, -, -, -, g5, -⟩ := wr_at w q
      rw [g5 hne] at g1; exact g1) ⟨_, Ar.same w, q2⟩
    exact ⟨T', _, X', hH' ▸ P.1, P.2, Fr.snoc X' N (hr.2.2.2.1 i hi' hi), fun t ht => st t ht⟩) nx
theorem WP.lastore {i : Nat} {xs xs' : List Int64} {j : Int32} {x : Int64} (hd : decode bytes pc = .ok (.lastore, 1)) (hH : H[i]? = some (cJ xs)) (hi : ro ≤ i) (hx : wr xs j x = some xs') (hH' : H.set i (cJ xs') = H') (nx : WP l Z C lay own mn bytes maxL ret R n0 ro Q k n (pc + 1) L S H') : WP l Z C lay own mn bytes maxL ret R n0 ro Q k n pc L (.long x :: .int j :: .ref i :: S) H :=
  WP.moved (fun p e s m args below meth c T locs ad Ls X A hr N hL hz => by
    obtain ⟨cl, Ar, hsl⟩ := hr.1 i _ hH
    obtain ⟨q1, q2⟩ := wr_slots hsl hx
    obtain ⟨T', h', X', e', w, st⟩ := stJ X A.1 A.2.1 rfl Ar (j := j) (x := x) q1 (g := mkF m pc Ls (.long x :: .int j :: .ref (ad i) :: S.map (rf ad))) rfl rfl (hb A.2.2.1 hd)
    subst e'
    have hi' := get_lt hH
    have P := hr.put (h' := T'.heap) (c := cJ xs') hi' w.size (fun a cz hne q => by
      obtain ⟨c', g1, -, -, -, g5, -⟩ := wr_at w q
      rw [g5 hne] at g1; exact g1) ⟨_, Ar.same w, q2⟩
    exact ⟨T', _, X', hH' ▸ P.1, P.2, Fr.snoc X' N (hr.2.2.2.1 i hi' hi), fun t ht => st t ht⟩) nx
theorem WP.bastore {i : Nat} {xs xs' : List Int32} {j : Int32} {x : Int32} (hd : decode bytes pc = .ok (.bastore, 1)) (hH : H[i]? = some (cZ xs)) (hi : ro ≤ i) (hx : wr xs j (x &&& 1) = some xs') (hH' : H.set i (cZ xs') = H') (nx : WP l Z C lay own mn bytes maxL ret R n0 ro Q k n (pc + 1) L S H') : WP l Z C lay own mn bytes maxL ret R n0 ro Q k n pc L (.int x :: .int j :: .ref i :: S) H :=
  WP.moved (fun p e s m args below meth c T locs ad Ls X A hr N hL hz => by
    obtain ⟨cl, Ar, hsl⟩ := hr.1 i _ hH
    obtain ⟨q1, q2⟩ := wr_slots hsl hx
    obtain ⟨T', h', X', e', w, st⟩ := stZ X A.1 A.2.1 rfl Ar (j := j) (x := x) q1 (g := mkF m pc Ls (.int x :: .int j :: .ref (ad i) :: S.map (rf ad))) rfl rfl (hb A.2.2.1 hd)
    subst e'
    have hi' := get_lt hH
    have P := hr.put (h' := T'.heap) (c := cZ xs') hi' w.size (fun a cz hne q => by
      obtain ⟨c', g1, -, -, -, g5, -⟩ := wr_at w q
      rw [g5 hne] at g1; exact g1) ⟨_, Ar.same w, q2⟩
    exact ⟨T', _, X', hH' ▸ P.1, P.2, Fr.snoc X' N (hr.2.2.2.1 i hi' hi), fun t ht => st t ht⟩) nx
/-- a field of the one class is written -/
theorem WP.put {idx i j kk : Nat} {f d : String} {vs : List Value} {v v' old : Value} {ty : FieldType} (hd : decode bytes pc = .ok (.putfield idx, 3)) (hw : (Cond.fieldLink own idx C f d).before a0 Z = true) (hl : (Cond.lays C C f d).before a0 Z = true ∨ ((Cond.laysFinal C C f d).before a0 Z = true ∧ own = C ∧ mn = "<init>")) (wi : (Cond.instantiable C kk).before a0 Z = true)
    (hlay : ∀ (a b : Nat) (f g : String × String), lay[a]? = some f → lay[b]? = some g → a ≠ b → RoadKit.slotOf Z C f.1 f.2 ≠ RoadKit.slotOf Z C g.1 g.2) (hty : parseFieldDescriptor d = some ty) (hn : ∀ ad, narrow ty (rf ad v) = rf ad v') (hf : ∀ ad, fits ty (rf ad v') = true)
    (hj : lay[j]? = some (f, d)) (hH : H[i]? = some (.inl vs)) (hv : vs[j]? = some old) (hi : ro ≤ i) (hH' : H.set i (.inl (vs.set j v')) = H') (nx : WP l Z C lay own mn bytes maxL ret R n0 ro Q k n (pc + 3) L S H') : WP l Z C lay own mn bytes maxL ret R n0 ro Q k n pc L (v :: .ref i :: S) H :=
  WP.moved (fun p e s m args below meth c T locs ad Ls X A hr N hL hz => by
    obtain ⟨E, F⟩ := hr.1 i _ hH
    obtain ⟨T', h', X', e', w, st⟩ := putFN X A.1 A.2.1 A.2.2.2.2.2.2.1 hw Via.refl rfl (F j _ old hj hv) E (hl.imp id fun q => ⟨q.1, q.2.1, A.2.2.2.2.2.2.2.trans q.2.2⟩) wi hty (hn ad) (hf ad) (g := mkF m pc Ls (rf ad v :: .ref (ad i) :: S.map (rf ad))) rfl rfl (hb A.2.2.1 hd)
    subst e'
    have hi' := get_lt hH
    have P := hr.put (h' := T'.heap) (c := .inl (vs.set j v')) hi' w.size (fun a cz hne q => by
      obtain ⟨c', g1, -, -, -, g5, -⟩ := wr_at w q
      rw [g5 hne] at g1; exact g1) ⟨E.wr w, fun a g u hg hu => by
        rw [List.getElem?_set] at hu
        by_cases e : j = a
        · subst e
          cases hj.symm.trans hg
          rw [if_pos rfl, if_pos (get_lt hv)] at hu
          cases hu
          exact (F j _ old hj hv).same w
        · rw [if_neg e] at hu
          exact (F a g u hg hu).other w (Or.inr (hlay a j g (f, d) hg hj (Ne.symm e)))⟩
    exact ⟨T', _, X', hH' ▸ P.1, P.2, Fr.snoc X' N (hr.2.2.2.1 i hi' hi), fun t ht => st t ht⟩) nx
/-- newarray -/
theorem WP.newarray {aty : ArrayType} {c0 : OwnC} {cnt : Int32} (hd : decode bytes pc = .ok (.newarray aty, 2)) (hw : (Cond.arrayClass (newarray.typeOf aty)).before a0 Z = true) (hn : ¬ cnt < 0) (hb8 : cnt.toNatClampNeg * 8 ≤ 536870912) (hc : k + 1 ≤ R.cells) (hl : n + cnt.toNatClampNeg ≤ R.slots)
    (h0 : (aty = .int ∧ c0 = cI (List.replicate cnt.toNatClampNeg 0)) ∨ (aty = .long ∧ c0 = cJ (List.replicate cnt.toNatClampNeg 0)) ∨ (aty = .boolean ∧ c0 = cZ (List.replicate cnt.toNatClampNeg 0)))
    (nx : WP l Z C lay own mn bytes maxL ret R n0 ro Q (k + 1) (n + cnt.toNatClampNeg) (pc + 2) L (.ref H.length :: S) (H ++ [c0])) : WP l Z C lay own mn bytes maxL ret R n0 ro Q k n pc L (.int cnt :: S) H :=
  WP.moved (fun p e s m args below meth c T locs ad Ls X A hr N hL hz => by
    have hcb : componentBytes (newarray.typeOf aty) ≤ 8 := by cases aty <;> decide
    obtain ⟨cA, kA, comp, h1, h2, h3, X', st⟩ := X.newarrayPrim A.1 (mvA A.2.1 hw) (g := mkF m pc Ls (.int cnt :: S.map (rf ad))) rfl (hb A.2.2.1 hd) rfl hn (Nat.le_trans (Nat.mul_le_mul (Nat.le_refl _) hcb) hb8) hc hl
    rw [A.2.1.alike.findClass] at h1
    obtain ⟨kZ, z1, -⟩ := Vm.findClass_spec h1
    obtain ⟨k', z2, z3⟩ := A.2.1.alike.2.2 _ _ z1
    cases h2.symm.trans z2
    have hE : Ext T.heap (T.heap.push { cls := cA, slots := Array.replicate cnt.toNatClampNeg (defaultValue (newarray.typeOf aty)), vm := .none }) := ⟨by simp, fun a c h => by
      rw [Array.getElem?_push_lt (Array.getElem?_eq_some_iff.mp h).1]; exact (Array.getElem?_eq_getElem _).symm.trans h⟩
    have Ar : Arr Z (T.heap.push { cls := cA, slots := Array.replicate cnt.toNatClampNeg (defaultValue (newarray.typeOf aty)), vm := .none }) T.heap.size { cls := cA, slots := Array.replicate cnt.toNatClampNeg (defaultValue (newarray.typeOf aty)), vm := .none } (newarray.typeOf aty) :=
      ⟨by simp, ⟨by simp, kZ, z1, comp, by rw [← h3, z3]⟩, by simp⟩
    have hc0 : CelOk Z C lay ad (T.heap.push { cls := cA, slots := Array.replicate cnt.toNatClampNeg (defaultValue (newarray.typeOf aty)), vm := .none }) T.heap.size c0 := by
      rcases h0 with ⟨rfl, rfl⟩ | ⟨rfl, rfl⟩ | ⟨rfl, rfl⟩
      all_goals exact ⟨_, Ar, by simp [defaultValue, newarray.typeOf]⟩
    have P := hr.push (h' := T.heap.push _) (by simp) hE hc0
    refine ⟨_, locs, X', P.1, P.2.1, N, fun t ht => st t ?_⟩
    have e0 : (List.map (rf ad) (.ref H.length :: S)) = .ref T.heap.size :: S.map (rf ad) := by show (Value.ref (ad H.length) :: _) = _; rw [P.2.2]
    rw [e0] at ht; exact ht) nx
theorem rf_default (ad : Nat → Addr) (ty : FieldType) : rf ad (defaultValue ty) = defaultValue ty := by cases ty <;> rfl
/-- new -/
theorem WP.new {idx kk : Nat} {vs : List Value} (hd : decode bytes pc = .ok (.new idx, 3)) (hw : (Cond.classLink own idx C).before a0 Z = true) (wi : (Cond.instantiable C kk).before a0 Z = true) (wz : (Cond.initialized C).before a0 Z = true) (hc : k + 1 ≤ R.cells) (hl : n + kk ≤ R.slots)
    (h0 : ∀ (i : Nat) (f : String × String) (v : Value), lay[i]? = some f → vs[i]? = some v → Laid Z a0 C C f.1 f.2 ∧ ∃ ty, parseFieldDescriptor f.2 = some ty ∧ v = defaultValue ty)
    (nx : WP l Z C lay own mn bytes maxL ret R n0 ro Q (k + 1) (n + kk) (pc + 3) L (.ref H.length :: S) (H ++ [.inl vs])) : WP l Z C lay own mn bytes maxL ret R n0 ro Q k n pc L S H :=
  WP.moved (fun p e s m args below meth c T locs ad Ls X A hr N hL hz => by
    obtain ⟨vm', cC, kC, h1, h2, h3, h4, X', st⟩ := X.newCold A.1 A.2.2.2.2.2.2.1 (mv A.2.1 hw) (mv A.2.1 wi) (mv A.2.1 wz) (g := mkF m pc Ls (S.map (rf ad))) rfl (hb A.2.2.1 hd) hc hl
    rw [A.2.1.alike.findClass] at h1
    obtain ⟨kZ, z1, -⟩ := Vm.findClass_spec h1
    obtain ⟨k', z2, z3⟩ := A.2.1.alike.2.2 _ _ z1
    cases h2.symm.trans z2
    have ei : kC.instanceTypes = kZ.instanceTypes := by rw [z3]
    have hN : (T.heap.push { cls := cC, slots := kC.instanceTypes.map defaultValue, vm := .none })[T.heap.size]? = some { cls := cC, slots := kC.instanceTypes.map defaultValue, vm := .none } := by simp
    have hE : Ext T.heap (T.heap.push { cls := cC, slots := kC.instanceTypes.map defaultValue, vm := .none }) := ⟨by simp, fun a c h => by
      rw [Array.getElem?_push_lt (Array.getElem?_eq_some_iff.mp h).1]; exact (Array.getElem?_eq_getElem _).symm.trans h⟩
    have hc0 : CelOk Z C lay ad (T.heap.push { cls := cC, slots := kC.instanceTypes.map defaultValue, vm := .none }) T.heap.size (.inl vs) := by
      refine ⟨⟨_, kZ, hN, h1, z1, rfl, fun _ => by simp [ei]⟩, fun i f v hf hv => ?_⟩
      obtain ⟨La, ty, ht, rfl⟩ := h0 i f v hf hv
      obtain ⟨c1, k1, cf, kf, i1, f1, a1, a2, a3, a4, a5, a6, -⟩ := La.spec
      cases h1.symm.trans a1
      cases z1.symm.trans a2
      rw [rf_default]
      exact ⟨_, cf, kf, i1, f1, hN, a3, a4, by simp, rfl, a5, by simp [ei, a6, (State.fieldFound?_type a3 ht).2]⟩
    have P := hr.push (h' := T.heap.push _) (by simp) hE hc0
    refine ⟨_, locs, X', P.1, P.2.1, N, fun t ht => st t ?_⟩
    have e0 : (List.map (rf ad) (.ref H.length :: S)) = .ref T.heap.size :: S.map (rf ad) := by show (Value.ref (ad H.length) :: _) = _; rw [P.2.2]
    rw [e0] at ht; exact ht) nx
/-- Object.<init> -/
theorem WP.initO {idx i : Nat} (hd : decode bytes pc = .ok (.invokespecial idx, 3)) (w1 : (Cond.methodLink own idx Lib.objectInit).before a0 Z = true) (w2 : (Cond.instanceMethod Lib.objectInit).before a0 Z = true) (w3 : (Cond.code Lib.objectInit ⟨#[0xb1]⟩ 1 none).before a0 Z = true) (hf : 1 ≤ R.frames) (hl : (S.map fun v => v.category).sum + 12 ≤ R.locals)
    (nx : WP l Z C lay own mn bytes maxL ret R n0 ro Q k n (pc + 3) L S H) : WP l Z C lay own mn bytes maxL ret R n0 ro Q k n pc L (.ref i :: S) H :=
  WP.moved (fun p e s m args below meth c T locs ad Ls X A hr N hL hz => by
    obtain ⟨T', X', e', st⟩ := RoadKit.initO X A.1 A.2.1 A.2.2.2.2.2.2.1 w1 w2 w3 rfl (g := mkF m pc Ls (.ref (ad i) :: S.map (rf ad))) rfl (hz.trans A.2.2.2.1.symm) rfl (hb A.2.2.1 hd) hf (W := (S.map fun v => v.category).sum) (by show 2 * 0 + _ ≤ _; rw [rf_cats]; omega) hl
    exact ⟨T', locs, X', by rw [e']; exact hr, by rw [e']; exact Kp.refl _ _ _, N, fun t ht => st t ht⟩) nx
theorem WP.leave {v : Option Value} (hk : k ≤ R.cells) (hn : n ≤ R.slots) (hv : ret = none → v = none) (hq : Q v H)
    (hs : ∀ (p : Program) (e : Env) (s : State) (m : MethodId) (args : Array Value) (below : List Frame) (meth : Method) (c : Code) (T : State) (locs : List Loc) (ad : Nat → Addr) (Ls : Array Slot) (fs : List Frame), Stand p l e R s m args below meth c T locs k n → Am Z own mn bytes maxL ret p s m meth c →
      (∀ (f : JFrame) (acts : List Action), f.method = m → f.locked = none → f.entered = [] → (doReturn e (T.setTop f) acts (v.map (rf ad))).1 = T.setFrames fs) → Steps p.tables e below (T.setTop (mkF m pc Ls (S.map (rf ad)))) (T.setFrames fs)) : WP l Z C lay own mn bytes maxL ret R n0 ro Q k n pc L S H := by
  intro p e s m args below meth c T locs ad Ls X A hr N hL hz
  obtain ⟨fs, hr', hrun, hended, hW, hsame⟩ := X.leave (v := v.map (rf ad)) (fun q => by rw [hv (A.2.2.2.2.1.symm.trans q)]; rfl) A.2.2.2.2.2.1
  exact ⟨_, v, H, locs, hs p e s m args below meth c T locs ad Ls fs X A hr', hrun, hended, hq, hr, Kp.refl _ _ _, N, ⟨_, rfl⟩, hW, hsame.mono hk hn⟩
theorem retI' {p : Program} {e : Env} {s : State} {m : MethodId} {args : Array Value} {below : List Frame} {meth : Method} {c : Code} {T : State} {locs : List Loc} {cells slots : Nat} (X : Stand p l e R s m args below meth c T locs cells slots) (hx : p.tables.exec = Jvm.exec) {pc : Nat} {Ls : Array Slot} {z : Int32} {rest : List Value} (hret : meth.sig.returnType = some .int) (hd : decode c.code pc = .ok (.ireturn, 1)) {fs : List Frame}
    (hl : ∀ (f : JFrame) (acts : List Action), f.method = m → f.locked = none → f.entered = [] → (doReturn e (T.setTop f) acts (some (.int z))).1 = T.setFrames fs) : Steps p.tables e below (T.setTop (mkF m pc Ls (.int z :: rest))) (T.setFrames fs) := by
  have hm' : T.vm.method? m = some meth := X.method'
  have hn : narrow .int (.int z) = .int z := rfl
  show Steps p.tables e below (T.setTop { method := m, pc := pc, locals := Ls, stack := _ :: rest, locked := none }) _
  jvm_step X.here [X.here.top, hx, hd, hm', hret, hn]
  first | (intro acts; rw [hl _ acts rfl rfl rfl]) | rw [hl _ _ rfl rfl rfl]
  exact Steps.refl _
theorem WP.ireturn {x : Int32} (hd : decode bytes pc = .ok (.ireturn, 1)) (hret : ret = some .int) (hk : k ≤ R.cells) (hn : n ≤ R.slots) (hq : Q (some (.int x)) H) : WP l Z C lay own mn bytes maxL ret R n0 ro Q k n pc L (.int x :: S) H :=
  WP.leave (v := some (.int x)) hk hn (fun q => by rw [hret] at q; cases q) hq fun p e s m args below meth c T locs ad Ls fs X A hr' => retI' X A.1 (A.2.2.2.2.1.trans hret) (hb A.2.2.1 hd) hr'
theorem WP.zreturn {x : Int32} (hd : decode bytes pc = .ok (.ireturn, 1)) (hret : ret = some .boolean) (hk : k ≤ R.cells) (hn : n ≤ R.slots) (hq : Q (some (.int (x &&& 1))) H) : WP l Z C lay own mn bytes maxL ret R n0 ro Q k n pc L (.int x :: S) H :=
  WP.leave (v := some (.int (x &&& 1))) hk hn (fun q => by rw [hret] at q; cases q) hq fun p e s m args below meth c T locs ad Ls fs X A hr' => retN X A.1 (t := .boolean) (A.2.2.2.2.1.trans hret) (Or.inl rfl) (hb A.2.2.1 hd) hr'
theorem WP.lreturn {x : Int64} (hd : decode bytes pc = .ok (.lreturn, 1)) (hret : ret = some .long) (hk : k ≤ R.cells) (hn : n ≤ R.slots) (hq : Q (some (.long x)) H) : WP l Z C lay own mn bytes maxL ret R n0 ro Q k n pc L [.long x] H :=
  WP.leave (v := some (.long x)) hk hn (fun q => by rw [hret] at q; cases q) hq fun p e s m args below meth c T locs ad Ls fs X A hr' => X.lreturnOut A.1 (A.2.2.2.2.1.trans hret) (hb A.2.2.1 hd) hr'
theorem WP.vreturn (hd : decode bytes pc = .ok (.return_, 1)) (hret : ret = none) (hk : k ≤ R.cells) (hn : n ≤ R.slots) (hq : Q none H) : WP l Z C lay own mn bytes maxL ret R n0 ro Q k n pc L [] H :=
  WP.leave (v := none) hk hn (fun _ => rfl) hq fun p e s m args below meth c T locs ad Ls fs X A hr' => X.returnOut A.1 (A.2.2.2.2.1.trans hret) (hb A.2.2.1 hd) hr'
end Rules
/-! ## a callee's promise, said of the small view -/
def QQ (Z : State) (C : String) (lay : List (String × String)) (n0 ro : Nat) (ad : Nat → Addr) (N : Nat) (h : Heap) (Q : Option Value → List OwnC → Prop) (v : Option Value) (h' : Heap) (L : List Loc) : Prop :=
  ∃ w H', v = w.map (rf ad) ∧ Q w H' ∧ HR Z C lay n0 ro ad H' h' ∧ Kp ad N h h' ∧ Fr n0 L
def CS (l : Launch) (Z : State) (C : String) (lay : List (String × String)) (y : MethodName) (bytes : ByteArray) (maxL : Nat) (ret : Option FieldType) (R : Room) (ro : Nat) (as : List Value) (H : List OwnC) (Q : Option Value → List OwnC → Prop) : Prop :=
  ∀ (ws : List Cond) (n0 : Nat) (ad : Nat → Addr) (h : Heap), HR Z C lay n0 ro ad H h →
    MetFree l y (head1 (Cond.code y bytes maxL ret :: ws) R) (fun a U => a = (as.map (rf ad)).toArray ∧ Z.Warmed39 U.vm ∧ U.heap = h) (fun _ _ _ _ _ => True)
      (fun _ U o U' => ∃ v L, o = .returned v ∧ QQ Z C lay n0 ro ad H.length h Q v U'.heap L ∧ FrameEnd U o U' L R.cells R.slots)
section Calls
variable {l : Launch} {Z : State} {a0 : Array Value} {C : String} {lay : List (String × String)} {own mn : String} {bytes cb : ByteArray} {maxL cm : Nat} {ret cr : Option FieldType} {R Rc : Room} {n0 ro : Nat} {Q Qc : Option Value → List OwnC → Prop} {k n pc pc' : Nat} {L L' : List Slot} {S S0 as : List Value} {H H' : List OwnC} {y : MethodName}
theorem CS.of_wp (hx : plainName y.cls = true) (hn : (laid as).length ≤ maxL) (w : ∀ n0, WP l Z C lay y.cls y.name bytes maxL ret R n0 ro Q 0 0 0 (entL as maxL) [] H) : CS l Z C lay y bytes maxL ret R ro as H Q := by
  intro ws n0 ad h hr
  refine MetFree.of_bodySF (plainFor_of_name hx) hisR ?_
  intro p e s m args below meth c s₁ Bd hml0 hP hK
  obtain ⟨rfl, hZ, hh⟩ := hP
  have e0 : s₁.heap = h := by rw [← hh, Bd.state]; rfl
  obtain ⟨E1, E2⟩ := entry_LR ad as maxL hn
  obtain ⟨s₂, v, H', locs', h1, h2, h3, h4, h5, h6, h7, h8⟩ := w n0 p e s m _ below meth c s₁ [] ad _ (Stand.of_body Bd) ⟨Bd.exec, hZ, Bd.bytes, hml0, Bd.returns, Bd.notSynchronized, findClass_of_methodNamed Bd.named, (name_of_methodNamed Bd.named Bd.method).1⟩ (by rw [e0]; exact hr) (Fr.nil n0) E1 E2
  rw [e0] at h6
  exact ⟨s₂, _, h1, h2, h3, _, locs', rfl, ⟨v, H', rfl, h4, h5, h6, h7⟩, h8⟩
theorem CS.mono (cs : CS l Z C lay y bytes maxL ret R ro as H Q) (h : ∀ v H', Q v H' → Qc v H') : CS l Z C lay y bytes maxL ret R ro as H Qc := by
  intro ws n0 ad hh hr p e ha hc hk s m args below hf happ hP hK
  obtain ⟨N, o, h1, h2, h3, v, L, h4, ⟨w, H', g1, g2, g3⟩, h5⟩ := cs ws n0 ad hh hr p e ha hc hk s m args below hf happ hP hK
  exact ⟨N, o, h1, h2, h3, v, L, h4, ⟨w, H', g1, h _ _ g2, g3⟩, h5⟩
/-- what every call leaves: the walk goes on behind it -/
theorem go_on {p : Program} {e : Env} {s : State} {m : MethodId} {args : Array Value} {below : List Frame} {meth : Method} {c : Code} {T : State} {locs : List Loc} {ad : Nat → Addr} {Ls : Array Slot} {B : Pt} {v : Option Value} {Lc : List Loc} {s₀ : State}
    (nx : ∀ v H', Qc v H' → WP l Z C lay own mn bytes maxL ret R n0 ro Q (k + Rc.cells) (n + Rc.slots) (pc + 3) L (v.toList ++ S) H') (X : Stand p l e R s m args below meth c B.U B.locs B.cells B.slots) (A : Am Z own mn bytes maxL ret p s m meth c) (hr : HR Z C lay n0 ro ad H T.heap) (N : Fr n0 locs) (hL : LR ad L Ls) (hz : Ls.size = maxL)
    (hQ : QQ Z C lay n0 ro ad H.length T.heap Qc v B.U.heap Lc) (e1 : B.locs = locs ++ Lc) (e2 : B.cells = k + Rc.cells) (e3 : B.slots = n + Rc.slots) (st : Steps p.tables e below s₀ (B.U.setTop (mkF m (pc + 3) Ls (v.toList ++ S.map (rf ad))))) :
    ∃ (s₂ : State) (v : Option Value) (H' : List OwnC) (locs' : List Loc), Steps p.tables e below s₀ s₂ ∧ s₂.status = .running ∧ Ended s₂ below (.returned (v.map (rf ad))) ∧ Q v H' ∧ HR Z C lay n0 ro ad H' s₂.heap ∧ Kp ad H.length T.heap s₂.heap ∧ Fr n0 locs' ∧ FrameEnd s (.returned (v.map (rf ad))) s₂ locs' R.cells R.slots := by
  obtain ⟨w, H1, rfl, g2, g3, g4, g5⟩ := hQ
  rw [e1, e2, e3] at X
  obtain ⟨s₂, v, H2, locs2, h1, h2, h3, h4, h5, h6, h7⟩ := nx w H1 g2 p e s m args below meth c B.U _ ad Ls X A g3 (N.app g5) hL hz
  refine ⟨s₂, v, H2, locs2, st.trans ?_, h2, h3, h4, h5, Kp.trans hr g4 h6, h7⟩
  have e0 : (w.toList ++ S).map (rf ad) = (w.map (rf ad)).toList ++ S.map (rf ad) := by cases w <;> rfl
  rw [← e0]; exact h1
theorem stack_of (ad : Nat → Addr) (h : S0 = as.reverse ++ S) : S0.map (rf ad) = (as.map (rf ad)).reverse ++ S.map (rf ad) := by rw [h, List.map_append, List.map_reverse]
theorem stack_of1 {i : Nat} (ad : Nat → Addr) (h : S0 = as.reverse ++ .ref i :: S) : S0.map (rf ad) = (as.map (rf ad)).reverse ++ .ref (ad i) :: S.map (rf ad) := by rw [h, List.map_append, List.map_reverse]; rfl
theorem WP.callS {idx : Nat} (hd : decode bytes pc = .ok (.invokestatic idx, 3)) (w1 : (Cond.methodLink own idx y).before a0 Z = true) (w2 : (Cond.static y).before a0 Z = true) (w3 : (Cond.initialized y.cls).before a0 Z = true) (w4 : (Cond.code y cb cm cr).before a0 Z = true) (hy : y.cls ≠ "java/lang/invoke/MethodHandle" ∧ y.cls ≠ "java/lang/invoke/VarHandle")
    (cs : CS l Z C lay y cb cm cr Rc ro as H Qc) (hS : S0 = as.reverse ++ S) (hlen : ∀ sig, parseMethodDescriptor y.desc = some sig → as.length = sig.parameters.length) (hf : Rc.frames + 1 ≤ R.frames) (hl : (S.map fun v => v.category).sum + (cm + 11) + Rc.locals ≤ R.locals) (hc : k + Rc.cells ≤ R.cells) (hs : n + Rc.slots ≤ R.slots)
    (nx : ∀ v H', Qc v H' → WP l Z C lay own mn bytes maxL ret R n0 ro Q (k + Rc.cells) (n + Rc.slots) (pc + 3) L (v.toList ++ S) H') : WP l Z C lay own mn bytes maxL ret R n0 ro Q k n pc L S0 H := by
  intro p e s m args below meth c T locs ad Ls X A hr N hL hz
  obtain ⟨v, vm₁, B, hW₁, X', ⟨Lc, hQ, e1, e2, e3⟩, st⟩ := Jvm.LawKit.callS X A.1 (y := y) A.2.2.2.2.2.2.1 (mvT A.2.1 w1) (mvT A.2.1 w2) (mvT A.2.1 w3) (mvT A.2.1 w4) hy
    (backOf (W := (S.map fun v => v.category).sum) (cs [] n0 ad T.heap hr) A.2.1 w4 w3 hf hl) (g := mkF m pc Ls (S0.map (rf ad))) rfl (hz.trans A.2.2.2.1.symm) (argsL := as.map (rf ad)) (rest := S.map (rf ad)) (fun sig q => by rw [List.length_map]; exact hlen sig q) (stack_of ad hS) (by show 2 * 0 + _ ≤ _; rw [rf_cats]; omega) (hb A.2.2.1 hd) (fun _ _ => ⟨rfl, rfl, hc, hs⟩)
  exact go_on (T := T) nx X' A hr N hL hz hQ e1 e2 e3 (st _ (Steps.refl _))
theorem WP.callV {idx i : Nat} {vs : List Value} (hd : decode bytes pc = .ok (.invokevirtual idx, 3)) (w1 : (Cond.methodLink own idx y).before a0 Z = true) (w2 : (Cond.declares y).before a0 Z = true) (w3 : (Cond.selects C y y).before a0 Z = true) (w4 : (Cond.instanceMethod y).before a0 Z = true) (w5 : (Cond.code y cb cm cr).before a0 Z = true) (w6 : (Cond.initialized y.cls).before a0 Z = true) (hy : y.cls ≠ "java/lang/invoke/MethodHandle" ∧ y.cls ≠ "java/lang/invoke/VarHandle")
    (hH : H[i]? = some (.inl vs)) (cs : CS l Z C lay y cb cm cr Rc ro (.ref i :: as) H Qc) (hS : S0 = as.reverse ++ .ref i :: S) (hlen : ∀ sig, parseMethodDescriptor y.desc = some sig → as.length = sig.parameters.length) (hf : Rc.frames + 1 ≤ R.frames) (hl : (S.map fun v => v.category).sum + (cm + 11) + Rc.locals ≤ R.locals) (hc : k + Rc.cells ≤ R.cells) (hs : n + Rc.slots ≤ R.slots)
    (nx : ∀ v H', Qc v H' → WP l Z C lay own mn bytes maxL ret R n0 ro Q (k + Rc.cells) (n + Rc.slots) (pc + 3) L (v.toList ++ S) H') : WP l Z C lay own mn bytes maxL ret R n0 ro Q k n pc L S0 H := by
  intro p e s m args below meth c T locs ad Ls X A hr N hL hz
  obtain ⟨cq, kq, qa, qb, qc⟩ := isOf A.2.1 rfl (hr.1 i _ hH).1
  obtain ⟨v, vm₁, B, hW₁, X', ⟨Lc, hQ, e1, e2, e3⟩, st⟩ := X.virtualBack A.1 (y := y) (z := y) A.2.2.2.2.2.2.1 (mvT A.2.1 w1) (mvT A.2.1 w2) (notFace_of_selects (args := #[]) (mvT A.2.1 w3)) (mvT A.2.1 w3) (mvT A.2.1 w4) hy
    (backOf (W := (S.map fun v => v.category).sum) (cs [] n0 ad T.heap hr) A.2.1 w5 w6 hf hl) qa qc (g := mkF m pc Ls (S0.map (rf ad))) rfl (hz.trans A.2.2.2.1.symm) (Steps.refl _) (argsL := as.map (rf ad)) (rest := S.map (rf ad)) (fun sig q => by rw [List.length_map]; exact hlen sig q) (stack_of1 ad hS) (by show 2 * 0 + _ ≤ _; rw [rf_cats]; omega) (hb A.2.2.1 hd) (fun _ _ => ⟨rfl, rfl, hc, hs⟩)
  exact go_on (T := T) nx X' A hr N hL hz hQ e1 e2 e3 st
theorem WP.callP {idx i kk : Nat} {vs : List Value} (hd : decode bytes pc = .ok (.invokevirtual idx, 3)) (w1 : (Cond.methodLink own idx y).before a0 Z = true) (w2 : (Cond.privateMethod y).before a0 Z = true) (wi : (Cond.instantiable y.cls kk).before a0 Z = true) (w4 : (Cond.instanceMethod y).before a0 Z = true) (w5 : (Cond.code y cb cm cr).before a0 Z = true) (w6 : (Cond.initialized y.cls).before a0 Z = true) (hy : y.cls ≠ "java/lang/invoke/MethodHandle" ∧ y.cls ≠ "java/lang/invoke/VarHandle")
    (hH : H[i]? = some (.inl vs)) (cs : CS l Z C lay y cb cm cr Rc ro (.ref i :: as) H Qc) (hS : S0 = as.reverse ++ .ref i :: S) (hlen : ∀ sig, parseMethodDescriptor y.desc = some sig → as.length = sig.parameters.length) (hf : Rc.frames + 1 ≤ R.frames) (hl : (S.map fun v => v.category).sum + (cm + 11) + Rc.locals ≤ R.locals) (hc : k + Rc.cells ≤ R.cells) (hs : n + Rc.slots ≤ R.slots)
    (nx : ∀ v H', Qc v H' → WP l Z C lay own mn bytes maxL ret R n0 ro Q (k + Rc.cells) (n + Rc.slots) (pc + 3) L (v.toList ++ S) H') : WP l Z C lay own mn bytes maxL ret R n0 ro Q k n pc L S0 H := by
  intro p e s m args below meth c T locs ad Ls X A hr N hL hz
  obtain ⟨cq, q, q'⟩ := (hr.1 i _ hH).1.cell
  have hpr : s.PrivateAt y := Cond.privateMethod_at (mvP A.2.1 w2 (args := #[]))
  have hin : (Cond.instanceMethod y).before args s = true := mvT A.2.1 w4
  have hsel : (Cond.selects y.cls y y).before args s = true := by
    have wi' : (Cond.instantiable y.cls kk).before args s = true := mvT A.2.1 wi
    obtain ⟨c1, k1, g1, g2, g3, g4, -⟩ := Cond.instantiable_spec wi'
    have g5 : k1.isInterface = false := by
      cases hq : k1.isInterface
      · rfl
      · rw [hq] at g4; cases g4
    exact selects_self_of_private g1 g2 g5 hpr hin hy
  obtain ⟨v, vm₁, B, hW₁, X', ⟨Lc, hQ, e1, e2, e3⟩, st⟩ := X.privateBack A.1 (y := y) A.2.2.2.2.2.2.1 (mvT A.2.1 w1) hin hsel hpr (mvT A.2.1 w5) hy
    (backOf (W := (S.map fun v => v.category).sum) (cs [] n0 ad T.heap hr) A.2.1 w5 w6 hf hl) (g := mkF m pc Ls (S0.map (rf ad))) rfl (hz.trans A.2.2.2.1.symm) (Steps.refl _) q q' (argsL := as.map (rf ad)) (rest := S.map (rf ad)) (fun sig q => by rw [List.length_map]; exact hlen sig q) (stack_of1 ad hS) (by show 2 * 0 + _ ≤ _; rw [rf_cats]; omega) (hb A.2.2.1 hd) (fun _ _ => ⟨rfl, rfl, hc, hs⟩)
  exact go_on (T := T) nx X' A hr N hL hz hQ e1 e2 e3 st
theorem WP.callI {idx i : Nat} (hd : decode bytes pc = .ok (.invokespecial idx, 3)) (hn1 : y.name = "<init>") (w1 : (Cond.methodLink own idx y).before a0 Z = true) (w4 : (Cond.instanceMethod y).before a0 Z = true) (w5 : (Cond.code y cb cm none).before a0 Z = true) (w6 : (Cond.initialized y.cls).before a0 Z = true) (hy : y.cls ≠ "java/lang/invoke/MethodHandle" ∧ y.cls ≠ "java/lang/invoke/VarHandle")
    (cs : CS l Z C lay y cb cm none Rc ro (.ref i :: as) H Qc) (hS : S0 = as.reverse ++ .ref i :: S) (hlen : ∀ sig, parseMethodDescriptor y.desc = some sig → as.length = sig.parameters.length) (hf : Rc.frames + 1 ≤ R.frames) (hl : (S.map fun v => v.category).sum + (cm + 11) + Rc.locals ≤ R.locals) (hc : k + Rc.cells ≤ R.cells) (hs : n + Rc.slots ≤ R.slots)
    (nx : ∀ v H', Qc v H' → WP l Z C lay own mn bytes maxL ret R n0 ro Q (k + Rc.cells) (n + Rc.slots) (pc + 3) L (v.toList ++ S) H') : WP l Z C lay own mn bytes maxL ret R n0 ro Q k n pc L S0 H := by
  intro p e s m args below meth c T locs ad Ls X A hr N hL hz
  obtain ⟨v, vm₁, B, hW₁, X', ⟨Lc, hQ, e1, e2, e3⟩, st⟩ := X.specialBack A.1 (y := y) hn1 A.2.2.2.2.2.2.1 (mvT A.2.1 w1) (mvT A.2.1 w4) (mvT A.2.1 w5) hy
    (backOf (W := (S.map fun v => v.category).sum) (cs [] n0 ad T.heap hr) A.2.1 w5 w6 hf hl) (g := mkF m pc Ls (S0.map (rf ad))) rfl (hz.trans A.2.2.2.1.symm) (Steps.refl _) (a := ad i) (argsL := as.map (rf ad)) (rest := S.map (rf ad)) (fun sig q => by rw [List.length_map]; exact hlen sig q) (stack_of1 ad hS) (by show 2 * 0 + _ ≤ _; rw [rf_cats]; omega) (hb A.2.2.1 hd) (fun _ _ => ⟨rfl, rfl, hc, hs⟩)
  exact go_on (T := T) nx X' A hr N hL hz hQ e1 e2 e3 st
end Calls
/-! ## a callee that sees a part of the heap -/
def rn (ρ : Nat → Nat) : Value → Value
  | .ref i => .ref (ρ i)
  | .int x => .int x
  | .long x => .long x
  | .float x => .float x
  | .double x => .double x
  | .null => .null
  | .retAddr x => .retAddr x
theorem rf_rn (ad : Nat → Addr) (ρ : Nat → Nat) (v : Value) : rf ad (rn ρ v) = rf (fun j => ad (ρ j)) v := by cases v <;> rfl
def rnC (ρ : Nat → Nat) : OwnC → OwnC
  | .inl vs => .inl (vs.map (rn ρ))
  | .inr x => .inr x
theorem CelOk_rn {Z : State} {C : String} {lay : List (String × String)} {ad : Nat → Addr} {ρ : Nat → Nat} {h : Heap} {a : Addr} {c : OwnC} : CelOk Z C lay ad h a (rnC ρ c) ↔ CelOk Z C lay (fun j => ad (ρ j)) h a c := by
  rcases c with vs | xs | xs | xs
  · constructor
    · rintro ⟨E, F⟩
      refine ⟨E, fun i f v hf hv => ?_⟩
      have := F i f (rn ρ v) hf (by rw [List.getElem?_map, hv]; rfl)
      rwa [rf_rn] at this
    · rintro ⟨E, F⟩
      refine ⟨E, fun i f v hf hv => ?_⟩
      rw [List.getElem?_map] at hv
      obtain ⟨w, hw, rfl⟩ := Option.map_eq_some_iff.mp hv
      rw [rf_rn]; exact F i f w hf hw
  all_goals exact Iff.rfl
def patch (ρ : Nat → Nat) : List Nat → List OwnC → List OwnC → List OwnC
  | [], D, H => H ++ D.map (rnC ρ)
  | i :: is, c :: D, H => patch ρ is D (H.set i (rnC ρ c))
  | _ :: _, [], H => H
theorem patch_len (ρ : Nat → Nat) : ∀ (foot : List Nat) (D H : List OwnC), foot.length ≤ D.length → (patch ρ foot D H).length = H.length + (D.length - foot.length)
  | [], D, H, _ => by simp [patch]
  | i :: is, [], H, h => by simp at h
  | i :: is, c :: D, H, h => by
    show (patch ρ is D (H.set i (rnC ρ c))).length = _
    rw [patch_len ρ is D _ (by simpa using h)]; simp
theorem patch_out (ρ : Nat → Nat) : ∀ (foot : List Nat) (D H : List OwnC) (i : Nat), i < H.length → i ∉ foot → (patch ρ foot D H)[i]? = H[i]?
  | [], D, H, i, hi, _ => by simp [patch, List.getElem?_append_left hi]
  | j :: is, [], H, i, _, _ => rfl
  | j :: is, c :: D, H, i, hi, hn => by
    show (patch ρ is D (H.set j (rnC ρ c)))[i]? = _
    rw [patch_out ρ is D _ i (by simpa using hi) (fun q => hn (List.mem_cons_of_mem _ q)), List.getElem?_set_ne (fun q => hn (by rw [q]; exact List.mem_cons_self ..))]
theorem patch_new (ρ : Nat → Nat) : ∀ (foot : List Nat) (D H : List OwnC) (t : Nat), foot.length ≤ D.length → (patch ρ foot D H)[H.length + t]? = (D[foot.length + t]?).map (rnC ρ)
  | [], D, H, t, _ => by simp [patch, List.getElem?_append_right (Nat.le_add_right _ _)]
  | i :: is, [], H, _, h => by simp at h
  | i :: is, c :: D, H, t, h => by
    show (patch ρ is D (H.set i (rnC ρ c)))[H.length + t]? = _
    have := patch_new ρ is D (H.set i (rnC ρ c)) t (by simpa using h)
    rw [List.length_set] at this
    rw [this]; simp [Nat.add_right_comm _ 1 t]
theorem patch_in (ρ : Nat → Nat) : ∀ (foot : List Nat) (D H : List OwnC) (j i : Nat), foot.Nodup → (∀ x ∈ foot, x < H.length) → foot[j]? = some i → foot.length ≤ D.length → (patch ρ foot D H)[i]? = (D[j]?).map (rnC ρ)
  | [], D, H, j, i, _, _, h, _ => by simp at h
  | x :: is, [], H, j, i, _, _, _, h => by simp at h
  | x :: is, c :: D, H, 0, i, nd, hl, h, _ => by
    obtain rfl : x = i := by simpa using h
    show (patch ρ is D (H.set x (rnC ρ c)))[x]? = _
    rw [patch_out ρ is D _ x (by simpa using hl x (List.mem_cons_self ..)) (List.nodup_cons.mp nd).1]
    simp [hl x (List.mem_cons_self ..)]
  | x :: is, c :: D, H, j + 1, i, nd, hl, h, hd => by
    show (patch ρ is D (H.set x (rnC ρ c)))[i]? = _
    rw [patch_in ρ is D _ j i (List.nodup_cons.mp nd).2 (fun y hy => by simpa using hl y (List.mem_cons_of_mem _ hy)) (by simpa using h) (by simpa using hd)]
    simp
def ro1 (foot : List Nat) (N : Nat) (j : Nat) : Nat := if j < foot.length then foot.getD j 0 else N + (j - foot.length)
theorem ro1_in {foot : List Nat} {N j i : Nat} (h : foot[j]? = some i) : ro1 foot N j = i := by
  have hj := get_lt h
  unfold ro1
  rw [if_pos hj, List.getD_eq_getElem?_getD, h]; rfl
theorem ro1_new (foot : List Nat) (N t : Nat) : ro1 foot N (foot.length + t) = N + t := by
  unfold ro1
  rw [if_neg (by omega)]; omega
theorem CS.frame {l : Launch} {Z : State} {C : String} {lay : List (String × String)} {y : MethodName} {bytes : ByteArray} {maxL : Nat} {ret : Option FieldType} {R : Room} {ro roc : Nat} {as asc : List Value} {H Hc : List OwnC} {Qc : Option Value → List OwnC → Prop} (foot : List Nat)
    (cs : CS l Z C lay y bytes maxL ret R roc asc Hc Qc) (hlen : Hc.length = foot.length) (hnd : foot.Nodup) (hlt : ∀ x ∈ foot, x < H.length) (hcell : foot.map (fun i => H[i]?) = Hc.map (fun c => some (rnC (ro1 foot H.length) c))) (hro : ∀ x ∈ foot.drop roc, ro ≤ x) (has : asc.map (rn (ro1 foot H.length)) = as) :
    CS l Z C lay y bytes maxL ret R ro as H (fun v H' => ∃ vc D, Qc vc D ∧ v = vc.map (rn (ro1 foot H.length)) ∧ H' = patch (ro1 foot H.length) foot D H) := by
  intro ws n0 ad h hr
  obtain ⟨r1, r2, r3, r4, r5⟩ := hr
  have cellAt : ∀ (j i : Nat), foot[j]? = some i → ∃ c, Hc[j]? = some c ∧ H[i]? = some (rnC (ro1 foot H.length) c) := fun j i hj => by
    have h1 : (foot.map (fun i => H[i]?))[j]? = some H[i]? := by rw [List.getElem?_map, hj]; rfl
    rw [hcell, List.getElem?_map] at h1
    obtain ⟨c, e1, e2⟩ := Option.map_eq_some_iff.mp h1
    exact ⟨c, e1, e2.symm⟩
  have idx : ∀ j : Nat, j < foot.length → ∃ i, foot[j]? = some i ∧ i < H.length := fun j hj => ⟨_, List.getElem?_eq_getElem hj, hlt _ (List.getElem_mem hj)⟩
  have hrc : HR Z C lay n0 roc (fun j => ad (ro1 foot H.length j)) Hc h := by
    refine ⟨fun j c hj => ?_, fun i j hi hj q => ?_, fun t => ?_, fun j hj hr => ?_, r5⟩
    · obtain ⟨i, e1, e2⟩ := idx j (hlen ▸ get_lt hj)
      obtain ⟨c', g1, g2⟩ := cellAt j i e1
      cases g1.symm.trans hj
      show CelOk Z C lay (fun j => ad (ro1 foot H.length j)) h (ad (ro1 foot H.length j)) c
      rw [ro1_in e1]
      exact CelOk_rn.mp (r1 i _ g2)
    · rw [hlen] at hi hj
      obtain ⟨i', e1, e2⟩ := idx i hi
      obtain ⟨j', g1, g2⟩ := idx j hj
      dsimp only at q
      rw [ro1_in e1, ro1_in g1] at q
      have q' := r2 _ _ e2 g2 q
      subst q'
      exact (List.getElem?_inj hi hnd).mp (e1.trans g1.symm)
    · dsimp only
      rw [hlen, ro1_new]; exact r3 t
    · rw [hlen] at hj
      obtain ⟨i', e1, e2⟩ := idx j hj
      dsimp only
      rw [ro1_in e1]; refine r4 _ e2 (hro i' (List.mem_of_getElem? (i := j - roc) ?_)); rw [List.getElem?_drop, Nat.add_sub_cancel' hr]; exact e1
  intro p e ha hc hk s m args below hf happ hP hK
  have eas : (asc.map (rf fun j => ad (ro1 foot H.length j))) = as.map (rf ad) := by
    rw [← has, List.map_map]; congr 1; funext v; exact (rf_rn ad _ v).symm
  obtain ⟨N, o, h1, h2, h3, v, L, h4, ⟨w, D, rfl, g2, g3, g4, g5⟩, h5⟩ := cs ws n0 _ h hrc p e ha hc hk s m args below hf happ (by rw [eas]; exact hP) hK
  refine ⟨N, o, h1, h2, h3, _, L, h4, ⟨w.map (rn (ro1 foot H.length)), patch (ro1 foot H.length) foot D H, ?_, ⟨w, D, g2, rfl, rfl⟩, ?_, ?_, g5⟩, h5⟩
  · cases w with
    | none => rfl
    | some w => exact congrArg some (rf_rn ad _ w).symm
  · generalize hU : (stepsAlone p.tables e N s).heap = h' at g3 g4
    obtain ⟨d1, d2, d3, d4, d5⟩ := g3
    have hD : foot.length ≤ D.length := by
      by_cases q : foot.length ≤ D.length
      · exact q
      · exfalso
        obtain ⟨i, e1, e2⟩ := idx D.length (by omega)
        have z := d3 0
        simp only [Nat.add_zero] at z
        rw [ro1_in e1] at z
        obtain ⟨c', -, g2'⟩ := cellAt _ i e1
        have a1 := (r1 i _ g2').lt
        rw [z] at a1
        exact absurd a1 (Nat.not_lt.mpr g4.1)
    have hPl := patch_len (ro1 foot H.length) foot D H hD
    have old : ∀ i, i < H.length → ad i < h.size := fun i hi => (r1 i _ (List.getElem?_eq_getElem hi)).lt
    have new : ∀ i, H.length ≤ i → h.size ≤ ad i := fun i hi => by
      obtain ⟨t, rfl⟩ := Nat.exists_eq_add_of_le hi
      rw [r3 t]; exact Nat.le_add_right _ _
    refine ⟨fun i c hi => ?_, fun i j hi hj q => ?_, fun t => ?_, fun i hi hr => ?_, Nat.le_trans r5 g4.1⟩
    · by_cases hl : i < H.length
      · by_cases hm : i ∈ foot
        · obtain ⟨j, hj⟩ := List.getElem?_of_mem hm
          rw [patch_in _ foot D H j i hnd hlt hj hD] at hi
          obtain ⟨c', e1, rfl⟩ := Option.map_eq_some_iff.mp hi
          have := d1 j c' e1
          dsimp only at this
          rw [ro1_in hj] at this
          exact CelOk_rn.mpr this
        · rw [patch_out _ foot D H i hl hm] at hi
          refine (r1 i c hi).keep fun cz q => g4.2 _ cz q fun j hj q' => ?_
          rw [hlen] at hj
          obtain ⟨i', e1, e2⟩ := idx j hj
          dsimp only at q'
          rw [ro1_in e1] at q'
          have := r2 _ _ e2 hl q'
          subst this
          exact hm (List.mem_of_getElem? e1)
      · obtain ⟨t, rfl⟩ := Nat.exists_eq_add_of_le (Nat.le_of_not_lt hl)
        rw [patch_new _ foot D H t hD] at hi
        obtain ⟨c', e1, rfl⟩ := Option.map_eq_some_iff.mp hi
        have := d1 _ c' e1
        dsimp only at this
        rw [ro1_new] at this
        exact CelOk_rn.mpr this
    · by_cases a1 : i < H.length
      · by_cases a2 : j < H.length
        · exact r2 _ _ a1 a2 q
        · have b1 := old i a1
          rw [q] at b1
          exact absurd b1 (Nat.not_lt.mpr (new j (Nat.le_of_not_lt a2)))
      · by_cases a2 : j < H.length
        · have b1 := new i (Nat.le_of_not_lt a1)
          rw [q] at b1
          exact absurd (old j a2) (Nat.not_lt.mpr b1)
        · obtain ⟨t, rfl⟩ := Nat.exists_eq_add_of_le (Nat.le_of_not_lt a1)
          obtain ⟨t', rfl⟩ := Nat.exists_eq_add_of_le (Nat.le_of_not_lt a2)
          rw [r3, r3] at q; exact congrArg (H.length + ·) (Nat.add_left_cancel q)
    · have z := d3 t
      dsimp only at z
      have e1 : D.length + t = foot.length + (D.length - foot.length + t) := by omega
      rw [e1, ro1_new] at z
      rw [hPl, Nat.add_assoc]; exact z
    · by_cases a1 : i < H.length
      · exact r4 i a1 hr
      · exact Nat.le_trans r5 (new i (Nat.le_of_not_lt a1))
  · refine ⟨g4.1, fun a cz hz hn => g4.2 a cz hz fun j hj q => ?_⟩
    rw [hlen] at hj
    obtain ⟨i', e1, e2⟩ := idx j hj
    dsimp only at q
    rw [ro1_in e1] at q
    exact hn i' e2 q
/-! ## an object's state: ints (and booleans), longs, int[] (and boolean[]), long[], each by a number -/
abbrev St : Type := (Nat → Int32) × (Nat → Int64) × (Nat → List Int32) × (Nat → List Int64)
def upd {α : Type} (f : Nat → α) (i : Nat) (v : α) : Nat → α := fun j => if j = i then v else f j
def gI (s : St) (i : Nat) : Int32 := s.1 i
def gJ (s : St) (i : Nat) : Int64 := s.2.1 i
def gA (s : St) (i : Nat) : List Int32 := s.2.2.1 i
def gB (s : St) (i : Nat) : List Int64 := s.2.2.2 i
def sI (s : St) (i : Nat) (v : Int32) : St := (upd s.1 i v, s.2.1, s.2.2.1, s.2.2.2)
def sJ (s : St) (i : Nat) (v : Int64) : St := (s.1, upd s.2.1 i v, s.2.2.1, s.2.2.2)
def sA (s : St) (i : Nat) (v : List Int32) : St := (s.1, s.2.1, upd s.2.2.1 i v, s.2.2.2)
def sB (s : St) (i : Nat) (v : List Int64) : St := (s.1, s.2.1, s.2.2.1, upd s.2.2.2 i v)
theorem gI_sI (s : St) (i j : Nat) (v : Int32) : gI (sI s i v) j = if j = i then v else gI s j := rfl
theorem gI_sJ (s : St) (i j : Nat) (v : Int64) : gI (sJ s i v) j = gI s j := rfl
theorem gI_sA (s : St) (i j : Nat) (v : List Int32) : gI (sA s i v) j = gI s j := rfl
theorem gI_sB (s : St) (i j : Nat) (v : List Int64) : gI (sB s i v) j = gI s j := rfl
theorem gJ_sI (s : St) (i j : Nat) (v : Int32) : gJ (sI s i v) j = gJ s j := rfl
theorem gJ_sJ (s : St) (i j : Nat) (v : Int64) : gJ (sJ s i v) j = if j = i then v else gJ s j := rfl
theorem gJ_sA (s : St) (i j : Nat) (v : List Int32) : gJ (sA s i v) j = gJ s j := rfl
theorem gJ_sB (s : St) (i j : Nat) (v : List Int64) : gJ (sB s i v) j = gJ s j := rfl
theorem gA_sI (s : St) (i j : Nat) (v : Int32) : gA (sI s i v) j = gA s j := rfl
theorem gA_sJ (s : St) (i j : Nat) (v : Int64) : gA (sJ s i v) j = gA s j := rfl
theorem gA_sA (s : St) (i j : Nat) (v : List Int32) : gA (sA s i v) j = if j = i then v else gA s j := rfl
theorem gA_sB (s : St) (i j : Nat) (v : List Int64) : gA (sB s i v) j = gA s j := rfl
theorem gB_sI (s : St) (i j : Nat) (v : Int32) : gB (sI s i v) j = gB s j := rfl
theorem gB_sJ (s : St) (i j : Nat) (v : Int64) : gB (sJ s i v) j = gB s j := rfl
theorem gB_sA (s : St) (i j : Nat) (v : List Int32) : gB (sA s i v) j = gB s j := rfl
theorem gB_sB (s : St) (i j : Nat) (v : List Int64) : gB (sB s i v) j = if j = i then v else gB s j := rfl
def wrA (s : St) (i : Nat) (j x : Int32) : Option St := (wr (gA s i) j x).map (sA s i)
def wrB (s : St) (i : Nat) (j : Int32) (x : Int64) : Option St := (wr (gB s i) j x).map (sB s i)
theorem wrA_e {s s' : St} {i : Nat} {j x : Int32} (h : wrA s i j x = some s') : ∃ ys, wr (gA s i) j x = some ys ∧ s' = sA s i ys := by
  obtain ⟨ys, h1, h2⟩ := Option.map_eq_some_iff.mp h
  exact ⟨ys, h1, h2.symm⟩
theorem wrB_e {s s' : St} {i : Nat} {j : Int32} {x : Int64} (h : wrB s i j x = some s') : ∃ ys, wr (gB s i) j x = some ys ∧ s' = sB s i ys := by
  obtain ⟨ys, h1, h2⟩ := Option.map_eq_some_iff.mp h
  exact ⟨ys, h1, h2.symm⟩
def lt {α β : Type} (x : α) (f : α → β) : β := f x
theorem lt_e {α β : Type} {x : α} {f : α → β} {r : β} (h : lt x f = r) : ∃ y, y = x ∧ f y = r := ⟨x, rfl, h⟩
theorem ite_e {α : Type} {c : Prop} [Decidable c] {a b r : α} (h : (if c then a else b) = r) : (c ∧ a = r) ∨ (¬ c ∧ b = r) := by
  by_cases hc : c
  · rw [if_pos hc] at h; exact Or.inl ⟨hc, h⟩
  · rw [if_neg hc] at h; exact Or.inr ⟨hc, h⟩
theorem nz_e {α : Type} {c : Prop} [Decidable c] {b : Option α} {r : α} (h : (if c then none else b) = some r) : ¬ c ∧ b = some r := by
  by_cases hc : c
  · rw [if_pos hc] at h; cases h
  · rw [if_neg hc] at h; exact ⟨hc, h⟩
/-! the class's fields -/
def LaidAll (Z : State) (a0 : Array Value) (C : String) : List (String × String) → List Value → Prop
  | f :: fs, v :: vs => (Laid Z a0 C C f.1 f.2 ∧ ∃ ty, parseFieldDescriptor f.2 = some ty ∧ v = defaultValue ty) ∧ LaidAll Z a0 C fs vs
  | [], [] => True
  | _, _ => False
theorem LaidAll.new {Z : State} {a0 : Array Value} {C : String} : ∀ {lay : List (String × String)} {vs : List Value}, LaidAll Z a0 C lay vs → ∀ (i : Nat) (f : String × String) (v : Value), lay[i]? = some f → vs[i]? = some v → Laid Z a0 C C f.1 f.2 ∧ ∃ ty, parseFieldDescriptor f.2 = some ty ∧ v = defaultValue ty
  | [], [], _, i, f, v, h, _ => by simp at h
  | g :: fs, w :: vs, h, 0, f, v, h1, h2 => by
    obtain rfl : g = f := by simpa using h1
    obtain rfl : w = v := by simpa using h2
    exact h.1
  | g :: fs, w :: vs, h, i + 1, f, v, h1, h2 => LaidAll.new h.2 i f v (by simpa using h1) (by simpa using h2)
theorem LaidAll.len {Z : State} {a0 : Array Value} {C : String} : ∀ {lay : List (String × String)} {vs : List Value}, LaidAll Z a0 C lay vs → lay.length = vs.length
  | [], [], _ => rfl
  | g :: fs, w :: vs, h => congrArg Nat.succ (LaidAll.len h.2)
theorem LaidAll.ne {Z : State} {a0 : Array Value} {C : String} {lay : List (String × String)} {vs : List Value} (h : LaidAll Z a0 C lay vs) (nd : (lay.map Prod.fst).Nodup) : ∀ (a b : Nat) (f g : String × String), lay[a]? = some f → lay[b]? = some g → a ≠ b → RoadKit.slotOf Z C f.1 f.2 ≠ RoadKit.slotOf Z C g.1 g.2 := by
  intro a b f g ha hb' hne
  have la := get_lt ha
  have lb := get_lt hb'
  obtain ⟨L1, t1, e1, -⟩ := h.new a f _ ha (List.getElem?_eq_getElem (h.len ▸ la))
  obtain ⟨L2, t2, e2, -⟩ := h.new b g _ hb' (List.getElem?_eq_getElem (h.len ▸ lb))
  refine slot_ne L1 L2 (fun q => hne ?_) e1 e2
  have h1 : (lay.map Prod.fst)[a]? = some f.1 := by rw [List.getElem?_map, ha]; rfl
  have h2 : (lay.map Prod.fst)[b]? = some g.1 := by rw [List.getElem?_map, hb']; rfl
  exact (List.getElem?_inj (by simpa using la) nd).mp (h1.trans (by rw [q]; exact h2.symm))
section Puts
variable {l : Launch} {Z : State} {a0 : Array Value} {C : String} {lay : List (String × String)} {own mn : String} {bytes : ByteArray} {maxL : Nat} {ret : Option FieldType} {R : Room} {n0 ro : Nat} {Q : Option Value → List OwnC → Prop} {k n pc pc' : Nat} {L L' : List Slot} {S S' : List Value} {H H' : List OwnC}
theorem WP.putI {idx i j kk : Nat} {f : String} {vs : List Value} {x : Int32} {old : Value} (hd : decode bytes pc = .ok (.putfield idx, 3)) (hw : (Cond.fieldLink own idx C f "I").before a0 Z = true) (hl : (Cond.lays C C f "I").before a0 Z = true ∨ ((Cond.laysFinal C C f "I").before a0 Z = true ∧ own = C ∧ mn = "<init>")) (wi : (Cond.instantiable C kk).before a0 Z = true)
    (hlay : ∀ (a b : Nat) (f g : String × String), lay[a]? = some f → lay[b]? = some g → a ≠ b → RoadKit.slotOf Z C f.1 f.2 ≠ RoadKit.slotOf Z C g.1 g.2) (hj : lay[j]? = some (f, "I")) (hH : H[i]? = some (.inl vs)) (hv : vs[j]? = some old) (hi : ro ≤ i) (hH' : H.set i (.inl (vs.set j (.int x))) = H') (nx : WP l Z C lay own mn bytes maxL ret R n0 ro Q k n (pc + 3) L S H') : WP l Z C lay own mn bytes maxL ret R n0 ro Q k n pc L (.int x :: .ref i :: S) H :=
  WP.put hd hw hl wi hlay (ty := .int) (by decide) (fun _ => rfl) (fun _ => rfl) hj hH hv hi hH' nx
theorem WP.putJ {idx i j kk : Nat} {f : String} {vs : List Value} {x : Int64} {old : Value} (hd : decode bytes pc = .ok (.putfield idx, 3)) (hw : (Cond.fieldLink own idx C f "J").before a0 Z = true) (hl : (Cond.lays C C f "J").before a0 Z = true ∨ ((Cond.laysFinal C C f "J").before a0 Z = true ∧ own = C ∧ mn = "<init>")) (wi : (Cond.instantiable C kk).before a0 Z = true)
    (hlay : ∀ (a b : Nat) (f g : String × String), lay[a]? = some f → lay[b]? = some g → a ≠ b → RoadKit.slotOf Z C f.1 f.2 ≠ RoadKit.slotOf Z C g.1 g.2) (hj : lay[j]? = some (f, "J")) (hH : H[i]? = some (.inl vs)) (hv : vs[j]? = some old) (hi : ro ≤ i) (hH' : H.set i (.inl (vs.set j (.long x))) = H') (nx : WP l Z C lay own mn bytes maxL ret R n0 ro Q k n (pc + 3) L S H') : WP l Z C lay own mn bytes maxL ret R n0 ro Q k n pc L (.long x :: .ref i :: S) H :=
  WP.put hd hw hl wi hlay (ty := .long) (by decide) (fun _ => rfl) (fun _ => rfl) hj hH hv hi hH' nx
theorem WP.putZ {idx i j kk : Nat} {f : String} {vs : List Value} {x : Int32} {old : Value} (hd : decode bytes pc = .ok (.putfield idx, 3)) (hw : (Cond.fieldLink own idx C f "Z").before a0 Z = true) (hl : (Cond.lays C C f "Z").before a0 Z = true ∨ ((Cond.laysFinal C C f "Z").before a0 Z = true ∧ own = C ∧ mn = "<init>")) (wi : (Cond.instantiable C kk).before a0 Z = true)
    (hlay : ∀ (a b : Nat) (f g : String × String), lay[a]? = some f → lay[b]? = some g → a ≠ b → RoadKit.slotOf Z C f.1 f.2 ≠ RoadKit.slotOf Z C g.1 g.2) (hj : lay[j]? = some (f, "Z")) (hH : H[i]? = some (.inl vs)) (hv : vs[j]? = some old) (hi : ro ≤ i) (hH' : H.set i (.inl (vs.set j (.int (x &&& 1)))) = H') (nx : WP l Z C lay own mn bytes maxL ret R n0 ro Q k n (pc + 3) L S H') : WP l Z C lay own mn bytes maxL ret R n0 ro Q k n pc L (.int x :: .ref i :: S) H :=
  WP.put (v' := .int (x &&& 1)) hd hw hl wi hlay (ty := .boolean) (by decide) (fun _ => rfl) (fun _ => fits_nar_bool x) hj hH hv hi hH' nx
theorem WP.putR {idx i j kk i2 : Nat} {f d : String} {vs : List Value} {old : Value} {ty : FieldType} (hd : decode bytes pc = .ok (.putfield idx, 3)) (hw : (Cond.fieldLink own idx C f d).before a0 Z = true) (hl : (Cond.lays C C f d).before a0 Z = true ∨ ((Cond.laysFinal C C f d).before a0 Z = true ∧ own = C ∧ mn = "<init>")) (wi : (Cond.instantiable C kk).before a0 Z = true)
    (hlay : ∀ (a b : Nat) (f g : String × String), lay[a]? = some f → lay[b]? = some g → a ≠ b → RoadKit.slotOf Z C f.1 f.2 ≠ RoadKit.slotOf Z C g.1 g.2) (hty : parseFieldDescriptor d = some ty) (hn : ∀ a, narrow ty (.ref a) = .ref a) (hf : ∀ a, fits ty (.ref a) = true) (hj : lay[j]? = some (f, d)) (hH : H[i]? = some (.inl vs)) (hv : vs[j]? = some old) (hi : ro ≤ i) (hH' : H.set i (.inl (vs.set j (.ref i2))) = H') (nx : WP l Z C lay own mn bytes maxL ret R n0 ro Q k n (pc + 3) L S H') : WP l Z C lay own mn bytes maxL ret R n0 ro Q k n pc L (.ref i2 :: .ref i :: S) H :=
  WP.put (v' := .ref i2) hd hw hl wi hlay hty (fun ad => hn (ad i2)) (fun ad => hf (ad i2)) hj hH hv hi hH' nx
end Puts
/-! ## the start of a law -/
theorem HR.start0 (s : State) (C : String) (lay : List (String × String)) : HR s C lay s.heap.size 0 (fun t => s.heap.size + t) [] s.heap :=
  ⟨fun i c h => by simp at h, fun i j h => by simp at h, fun t => by simp, fun i h => by simp at h, Nat.le_refl _⟩
theorem script_ints {s : State} {a : Addr} {c : Cell} (hf : Fit s) (A : Arr s s.heap a c .int) : ∃ xs : List Int32, c.slots.toList = xs.map Value.int := by
  have h : ∀ v ∈ c.slots.toList, ∃ x : Int32, v = Value.int x := fun v hv => by
    obtain ⟨i, hi, e⟩ := List.mem_iff_getElem.mp hv
    have hi' : i < c.slots.size := by simpa using hi
    have q := hf A.1 hi'
    obtain ⟨hs, k, hk, comp, hkind⟩ := A.2.1
    have e2 : s.slotType? c.cls c.vm i = some .int := by
      cases hq : c.vm <;> first | exact absurd hq (hs _) | simp [State.slotType?, hk, hkind]
    have e3 : c.slots[i] = v := by rw [← e]; simp
    have q2 : fits .int v = true := by rw [← e3]; simpa [State.fitsSlot, e2] using q
    exact fit_I q2 (by simp)
  generalize c.slots.toList = L at h
  induction L with
  | nil => exact ⟨[], rfl⟩
  | cons v L ih =>
    obtain ⟨x, rfl⟩ := h v (List.mem_cons_self ..)
    obtain ⟨xs, rfl⟩ := ih fun w hw => h w (List.mem_cons_of_mem _ hw)
    exact ⟨x :: xs, rfl⟩
def ad1 (a N : Nat) : Nat → Addr
  | 0 => a
  | t + 1 => N + t
theorem HR.start1 {s : State} (C : String) (lay : List (String × String)) {a : Addr} {c : Cell} {xs : List Int32} (A : Arr s s.heap a c .int) (hx : c.slots.toList = xs.map Value.int) : HR s C lay s.heap.size 1 (ad1 a s.heap.size) [cI xs] s.heap := by
  refine ⟨fun i cc h => ?_, fun i j hi hj _ => ?_, fun t => ?_, fun i hi hr => ?_, Nat.le_refl _⟩
  · have hi := get_lt h
    simp at hi; subst hi
    simp at h; subst h
    exact ⟨c, A, hx⟩
  · simp at hi hj; omega
  · show ad1 a s.heap.size (1 + t) = _; rw [Nat.add_comm 1 t]; rfl
  · simp at hi; omega
theorem script_len {s : State} {a : Addr} {c : Cell} {n : Nat} {args : Array Value} {t : Term} (ev : t.eval args s none [] s = some (.ref a)) (A : Arr s s.heap a c .int) (e1 : c.slots.size = n) (h : (Cond.le (Term.length t) (Term.int (260 : Int32))).value args s none s [] = some true) : n ≤ 260 := by
  have hat := A.fin (Vm.Alike.refl _)
  have hl : (Term.length t).eval args s none [] s = if n < 2 ^ 31 then some (.int n.toInt32) else none := by
    simp only [Term.eval, ev, hat, Option.bind_eq_bind, Option.bind_some, e1]; rfl
  by_cases hn : n < 2 ^ 31
  · rw [if_pos hn] at hl
    have h1 := gotT (Cond.le_ints hl (Term.int_eval (260 : Int32))) h
    have h2 : n.toInt32.toInt = n := by
      show (Int32.ofNat n).toInt = n
      exact Int32.toInt_ofNat_of_lt hn
    have h3 := Int32.le_iff_toInt_le.mp h1
    rw [h2] at h3
    have : (260 : Int32).toInt = 260 := by decide
    omega
  · rw [if_neg hn] at hl
    simp [Cond.value, hl] at h
/-! ## plain laws -/
/-- with fuel enough it answers r -/
def Ev {α : Type} (f : Nat → Option α) (r : α) : Prop := ∃ N, ∀ n, N ≤ n → f n = some r
theorem Ev.const {α : Type} {x : Option α} {r : α} (h : x = some r) : Ev (fun _ => x) r := ⟨0, fun _ _ => h⟩
theorem Ev.get {α : Type} {f : Nat → Option α} {r : α} (h : Ev f r) : ∃ n, f n = some r := by obtain ⟨N, h⟩ := h; exact ⟨N, h N (Nat.le_refl _)⟩
theorem Ev.step {α : Type} {f g : Nat → Option α} {r : α} (e : ∀ n, f (n + 1) = g n) (h : Ev g r) : Ev f r := by
  obtain ⟨N, h⟩ := h
  refine ⟨N + 1, fun n hn => ?_⟩
  cases n with
  | zero => omega
  | succ n => rw [e n]; exact h n (by omega)
theorem Ev.congr {α : Type} {f g : Nat → Option α} {r : α} (e : ∀ n, f n = g n) (h : Ev g r) : Ev f r := by
  obtain ⟨N, h⟩ := h
  exact ⟨N, fun n hn => (e n).trans (h n hn)⟩
theorem Ev.bind {α β : Type} {f : Nat → Option β} {g : Nat → β → Option α} {c : β} {r : α} (h1 : Ev f c) (h2 : Ev (fun n => g n c) r) : Ev (fun n => (f n).bind (g n)) r := by
  obtain ⟨N, h1⟩ := h1
  obtain ⟨M, h2⟩ := h2
  refine ⟨N + M, fun n hn => ?_⟩
  show (f n).bind (g n) = some r
  rw [h1 n (by omega)]; exact h2 n (by omega)
theorem Ev.uniq {α : Type} {f : Nat → Option α} {r r' : α} (h : Ev f r) (h' : Ev f r') : r = r' := by
  obtain ⟨N, h⟩ := h
  obtain ⟨M, h'⟩ := h'
  exact Option.some.inj ((h (N + M) (by omega)).symm.trans (h' (N + M) (by omega)))
/-! Int32 as Int -/
theorem x32_lt {x y : Int32} : x < y ↔ x.toInt < y.toInt := Int32.lt_iff_toInt_lt
theorem x32_eq {x y : Int32} : x = y ↔ x.toInt = y.toInt := Int32.toInt_inj.symm
theorem x32_add {x y : Int32} (h1 : -2147483648 ≤ x.toInt + y.toInt) (h2 : x.toInt + y.toInt < 2147483648) : (x + y).toInt = x.toInt + y.toInt := by
  rw [Int32.toInt_add]; exact Int.bmod_eq_of_le (by omega) (by omega)
theorem x32_sub {x y : Int32} (h1 : -2147483648 ≤ x.toInt - y.toInt) (h2 : x.toInt - y.toInt < 2147483648) : (x - y).toInt = x.toInt - y.toInt := by
  rw [Int32.toInt_sub]; exact Int.bmod_eq_of_le (by omega) (by omega)
theorem x32_mul {x y : Int32} (h1 : -2147483648 ≤ x.toInt * y.toInt) (h2 : x.toInt * y.toInt < 2147483648) : (x * y).toInt = x.toInt * y.toInt := by
  rw [Int32.toInt_mul]; exact Int.bmod_eq_of_le (by omega) (by omega)
theorem clamp_nat (x : Int32) : x.toNatClampNeg = x.toInt.toNat := rfl
/-! reading and writing -/
theorem rd_of {α : Type} {xs : List α} {i : Int32} {k : Nat} {x : α} (hi : i.toInt = k) (h : xs[k]? = some x) : rd xs i = some x := by
  have h0 : ¬ i < 0 := by rw [x32_lt, hi]; show ¬ (k : Int) < 0; omega
  unfold rd
  rw [if_neg h0, clamp_nat, hi]; exact h
theorem wr_of {α : Type} {xs : List α} {i : Int32} {k : Nat} (x : α) (hi : i.toInt = k) (h : k < xs.length) : wr xs i x = some (xs.set k x) := by
  have h0 : ¬ i < 0 := by rw [x32_lt, hi]; show ¬ (k : Int) < 0; omega
  unfold wr
  rw [if_neg h0, clamp_nat, hi]; exact if_pos h
theorem wrA_of {s : St} {f : Nat} {i : Int32} {k : Nat} (x : Int32) (hi : i.toInt = k) (h : k < (gA s f).length) : wrA s f i x = some (sA s f ((gA s f).set k x)) := by
  unfold wrA; rw [wr_of x hi h]; rfl
theorem wrB_of {s : St} {f : Nat} {i : Int32} {k : Nat} (x : Int64) (hi : i.toInt = k) (h : k < (gB s f).length) : wrB s f i x = some (sB s f ((gB s f).set k x)) := by
  unfold wrB; rw [wr_of x hi h]; rfl
theorem nn_of {i : Int32} (h : ¬ i < 0) : ∃ k : Nat, i.toInt = k := ⟨i.toInt.toNat, by
  rw [x32_lt] at h
  have : (0 : Int32).toInt = 0 := by decide
  omega⟩
theorem Ev.all {α : Type} {f : Nat → Option α} {r : α} (h : ∀ n, f n = some r) : Ev f r := ⟨0, fun n _ => h n⟩
theorem ofN_int {k : Nat} (h : k < 2147483648) : (Int32.ofNat k).toInt = k := Int32.toInt_ofNat_of_lt (by omega)
theorem ofN_lt {i m : Nat} (hi : i < 2147483648) (hm : m < 2147483648) : Int32.ofNat i < Int32.ofNat m ↔ i < m := by
  rw [x32_lt, ofN_int hi, ofN_int hm]; omega
theorem ofN_succ (k : Nat) : Int32.ofNat k + 1 = Int32.ofNat (k + 1) := (Int32.ofNat_add k 1).symm
theorem ofN_eq {i m : Nat} (hi : i < 2147483648) (hm : m < 2147483648) : Int32.ofNat i = Int32.ofNat m ↔ i = m := by
  rw [x32_eq, ofN_int hi, ofN_int hm]; omega
theorem ofN_of {x : Int32} {k : Nat} (h : x.toInt = k) : x = Int32.ofNat k := by
  have h2 := Int32.toInt_lt x
  rw [x32_eq, ofN_int (by omega)]; exact h
/-- a loop that counts up to N -/
theorem loop_up {α σ : Type} {F : Nat → Int32 → σ → Option α} {E : Nat → σ → Option α} {N : Nat} (Inv : Nat → σ → Prop)
    (hstep : ∀ (i : Nat) (s : σ), i < N → Inv i s → ∃ s', Inv (i + 1) s' ∧ ∀ n, F (n + 1) (Int32.ofNat i) s = F n (Int32.ofNat (i + 1)) s')
    (hend : ∀ s, Inv N s → ∀ n, F (n + 1) (Int32.ofNat N) s = E n s) : ∀ (k i : Nat) (s : σ), i + k = N → Inv i s → ∃ s', Inv N s' ∧ ∀ r, Ev (fun n => E n s') r → Ev (fun n => F n (Int32.ofNat i) s) r := by
  intro k
  induction k with
  | zero =>
    intro i s hi h
    obtain rfl : i = N := by omega
    exact ⟨s, h, fun r hr => Ev.step (hend s h) hr⟩
  | succ k ih =>
    intro i s hi h
    obtain ⟨s', h1, h2⟩ := hstep i s (by omega) h
    obtain ⟨s2, h3, h4⟩ := ih (i + 1) s' (by omega) h1
    exact ⟨s2, h3, fun r hr => Ev.step h2 (h4 r hr)⟩
theorem set_len {α : Type} (xs : List α) (k : Nat) (x : α) : (xs.set k x).length = xs.length := List.length_set
theorem ofN_ltL {i m : Nat} (hi : i < 2147483648) (hm : m < 2147483648) : Int32.ofNat i < (OfNat.ofNat m : Int32) ↔ i < m := ofN_lt hi hm
theorem ofN_gtL {i m : Nat} (hi : i < 2147483648) (hm : m < 2147483648) : (OfNat.ofNat m : Int32) < Int32.ofNat i ↔ m < i := ofN_lt hm hi
theorem ofN_eqL {i m : Nat} (hi : i < 2147483648) (hm : m < 2147483648) : Int32.ofNat i = (OfNat.ofNat m : Int32) ↔ i = m := ofN_eq hi hm
theorem ofN_nn {i : Nat} (hi : i < 2147483648) : ¬ Int32.ofNat i < 0 := fun h => Nat.not_lt_zero _ ((ofN_ltL hi (by decide)).mp h)
theorem lit_int {m : Nat} (hm : m < 2147483648) : (OfNat.ofNat m : Int32).toInt = m := ofN_int hm
theorem upd_upd {α : Type} (f : Nat → α) (i : Nat) (x y : α) : upd (upd f i x) i y = upd f i y := by
  funext j; unfold upd; by_cases h : j = i <;> simp [h]
theorem upd_self {α : Type} (f : Nat → α) (i : Nat) : upd f i (f i) = f := by
  funext j; unfold upd; by_cases h : j = i <;> simp [h]
theorem sA_sA (s : St) (i : Nat) (x y : List Int32) : sA (sA s i x) i y = sA s i y := by unfold sA; dsimp only; rw [upd_upd]
theorem sB_sB (s : St) (i : Nat) (x y : List Int64) : sB (sB s i x) i y = sB s i y := by unfold sB; dsimp only; rw [upd_upd]
theorem sI_sI (s : St) (i : Nat) (x y : Int32) : sI (sI s i x) i y = sI s i y := by unfold sI; dsimp only; rw [upd_upd]
theorem sA_self {s : St} {i : Nat} {x : List Int32} (h : gA s i = x) : sA s i x = s := by
  subst h; unfold sA gA; rw [upd_self]
theorem sB_self {s : St} {i : Nat} {x : List Int64} (h : gB s i = x) : sB s i x = s := by
  subst h; unfold sB gB; rw [upd_self]
theorem sI_self {s : St} {i : Nat} {x : Int32} (h : gI s i = x) : sI s i x = s := by
  subst h; unfold sI gI; rw [upd_self]
theorem fill_set {α : Type} (a b : α) (n i : Nat) (h : i < n) : (List.replicate i a ++ List.replicate (n - i) b).set i a = List.replicate (i + 1) a ++ List.replicate (n - (i + 1)) b := by
  rw [List.set_append_right _ _ (by simp), List.length_replicate, Nat.sub_self]
  obtain ⟨m, hm⟩ : ∃ m, n - i = m + 1 := ⟨n - i - 1, by omega⟩
  have hm2 : n - (i + 1) = m := by omega
  rw [hm, hm2, List.replicate_succ, List.set_cons_zero, List.replicate_succ', List.append_assoc]; rfl
theorem and_nat (x : Int32) (m : Nat) (hm : m < 2147483648) : ∃ k, k ≤ m ∧ (x &&& Int32.ofNat m) = Int32.ofNat k := by
  refine ⟨(x.toBitVec &&& BitVec.ofNat 32 m).toNat, ?_, ?_⟩
  · rw [BitVec.toNat_and, BitVec.toNat_ofNat, Nat.mod_eq_of_lt (by omega)]
    exact Nat.and_le_right
  · apply Int32.toBitVec_inj.mp
    show x.toBitVec &&& BitVec.ofNat 32 m = BitVec.ofNat 32 _
    rw [BitVec.ofNat_toNat, BitVec.setWidth_eq]
theorem and_natL (x : Int32) (m : Nat) (hm : m < 2147483648) : ∃ k, k ≤ m ∧ (x &&& (OfNat.ofNat m : Int32)) = Int32.ofNat k := and_nat x m hm
theorem nat_lt {i : Int32} {m : Nat} (h : ¬ i < 0) (h2 : i < (OfNat.ofNat m : Int32)) (hm : m < 2147483648) : ∃ k : Nat, k < m ∧ i = Int32.ofNat k := by
  obtain ⟨k, hk⟩ := nn_of h
  rw [x32_lt, lit_int hm, hk] at h2
  exact ⟨k, by omega, ofN_of hk⟩
theorem nat_le {i : Int32} {m : Nat} (h : ¬ i < 0) (h2 : ¬ (OfNat.ofNat m : Int32) < i) (hm : m < 2147483648) : ∃ k : Nat, k ≤ m ∧ i = Int32.ofNat k := by
  obtain ⟨k, hk⟩ := nn_of h
  rw [x32_lt, lit_int hm, hk] at h2
  exact ⟨k, by omega, ofN_of hk⟩
theorem rd_at {α : Type} {xs : List α} {k : Nat} {x : α} (hk : k < 2147483648) (h : xs[k]? = some x) : rd xs (Int32.ofNat k) = some x := rd_of (ofN_int hk) h
theorem wr_at' {α : Type} {xs : List α} {k : Nat} (x : α) (hk : k < 2147483648) (h : k < xs.length) : wr xs (Int32.ofNat k) x = some (xs.set k x) := wr_of x (ofN_int hk) h
theorem rep_get {α : Type} {n k : Nat} (a : α) (h : k < n) : (List.replicate n a)[k]? = some a := by rw [List.getElem?_replicate, if_pos h]
theorem get_set_self {α : Type} {xs : List α} {k : Nat} (x : α) (h : k < xs.length) : (xs.set k x)[k]? = some x := by rw [List.getElem?_set_self h]
theorem get_set_ne {α : Type} {xs : List α} {k j : Nat} (x : α) (h : k ≠ j) : (xs.set k x)[j]? = xs[j]? := List.getElem?_set_ne h
theorem upd_comm {α : Type} (f : Nat → α) {i j : Nat} (h : i ≠ j) (x y : α) : upd (upd f i x) j y = upd (upd f j y) i x := by
  funext m; unfold upd
  by_cases h1 : m = j
  · subst h1; rw [if_pos rfl, if_neg (Ne.symm h), if_pos rfl]
  · rw [if_neg h1]; by_cases h2 : m = i
    · rw [if_pos h2, if_pos h2]
    · rw [if_neg h2, if_neg h2, if_neg h1]
theorem sA_comm {s : St} {i j : Nat} (h : i ≠ j) {x y : List Int32} : sA (sA s i x) j y = sA (sA s j y) i x := by unfold sA; dsimp only; rw [upd_comm _ h]
theorem sB_comm {s : St} {i j : Nat} (h : i ≠ j) {x y : List Int64} : sB (sB s i x) j y = sB (sB s j y) i x := by unfold sB; dsimp only; rw [upd_comm _ h]
theorem sI_comm {s : St} {i j : Nat} (h : i ≠ j) {x y : Int32} : sI (sI s i x) j y = sI (sI s j y) i x := by unfold sI; dsimp only; rw [upd_comm _ h]
theorem sJ_self {s : St} {i : Nat} {x : Int64} (h : gJ s i = x) : sJ s i x = s := by
  subst h; unfold sJ gJ; rw [upd_self]
theorem wrA_nop {s : St} {f N k : Nat} {v : Int32} (h : gA s f = List.replicate N v) (hk : k < N) (hN : N ≤ 2147483647) : wrA s f (Int32.ofNat k) v = some s := by
  rw [wrA_of (k := k) v (ofN_int (by omega)) (by rw [h, List.length_replicate]; exact hk), sA_self (by rw [h, List.set_replicate_self])]
theorem wrB_nop {s : St} {f N k : Nat} {v : Int64} (h : gB s f = List.replicate N v) (hk : k < N) (hN : N ≤ 2147483647) : wrB s f (Int32.ofNat k) v = some s := by
  rw [wrB_of (k := k) v (ofN_int (by omega)) (by rw [h, List.length_replicate]; exact hk), sB_self (by rw [h, List.set_replicate_self])]
/-- a loop that fills -/
theorem wrA_fill {s : St} {f N k : Nat} {u v : Int32} (hk : k < N) (hN : N ≤ 2147483647) : wrA (sA s f (List.replicate k v ++ List.replicate (N - k) u)) f (Int32.ofNat k) v = some (sA s f (List.replicate (k + 1) v ++ List.replicate (N - (k + 1)) u)) := by
  rw [wrA_of (k := k) v (ofN_int (by omega)) (by rw [gA_sA, if_pos rfl]; simp; omega), gA_sA, if_pos rfl, fill_set _ _ _ _ hk, sA_sA]
theorem fill_start {s : St} {f N : Nat} {u v : Int32} (h : gA s f = List.replicate N u) : s = sA s f (List.replicate 0 v ++ List.replicate (N - 0) u) := (sA_self (by rw [h]; rfl)).symm
theorem fill_end {s : St} {f N : Nat} {u v : Int32} : sA s f (List.replicate N v ++ List.replicate (N - N) u) = sA s f (List.replicate N v) := by rw [Nat.sub_self]; simp
theorem x32_neg {x : Int32} (h : -2147483648 < x.toInt) : (-x).toInt = -x.toInt := by
  have := Int32.toInt_lt x
  rw [Int32.toInt_neg]; exact Int.bmod_eq_of_le (by omega) (by omega)
theorem x64_neg {x : Int64} (h : -9223372036854775808 < x.toInt) : (-x).toInt = -x.toInt := by
  have := Int64.toInt_lt x
  rw [Int64.toInt_neg]; exact Int.bmod_eq_of_le (by omega) (by omega)
theorem x64_lt {x y : Int64} : x < y ↔ x.toInt < y.toInt := Int64.lt_iff_toInt_lt
theorem x64_eq {x y : Int64} : x = y ↔ x.toInt = y.toInt := Int64.toInt_inj.symm
theorem x64_add {x y : Int64} (h1 : -9223372036854775808 ≤ x.toInt + y.toInt) (h2 : x.toInt + y.toInt < 9223372036854775808) : (x + y).toInt = x.toInt + y.toInt := by
  rw [Int64.toInt_add]; exact Int.bmod_eq_of_le (by omega) (by omega)
theorem x64_sub {x y : Int64} (h1 : -9223372036854775808 ≤ x.toInt - y.toInt) (h2 : x.toInt - y.toInt < 9223372036854775808) : (x - y).toInt = x.toInt - y.toInt := by
  rw [Int64.toInt_sub]; exact Int.bmod_eq_of_le (by omega) (by omega)
theorem x64_mul {x y : Int64} (h1 : -9223372036854775808 ≤ x.toInt * y.toInt) (h2 : x.toInt * y.toInt < 9223372036854775808) : (x * y).toInt = x.toInt * y.toInt := by
  rw [Int64.toInt_mul]; exact Int.bmod_eq_of_le (by omega) (by omega)
end Jvm.Own
namespace Jvm.Pilot.@@N@@
open Jvm Jvm.ClassFile Sem Op Lib Jvm.Free Jvm.Stand Jvm.LawKit Jvm.RoadKit Bundle Jvm.Pilot.@@N@@.Jvm.D Jvm.Own
abbrev HW (a0 : Array Value) (Z : State) : Prop := ∀ d ∈ tables_1, d.before a0 Z = true
abbrev CN : String := "GeneralLedger"
def lay : List (String × String) := [("currencyCount", "I"), ("maxLines", "I"), ("accOpen", "[Z"), ("accParent", "[I"), ("accType", "[I"), ("accCurrency", "[I"), ("accChildren", "[I"), ("accDepth", "[I"), ("accUsed", "[Z"), ("funcMove", "[J"), ("txnMove", "[J"), ("rates", "[I"), ("currencyTotals", "[J"), ("slotBusy", "[Z"), ("slotPeriod", "[I"), ("slotReversing", "[Z"), ("slotLineCount", "[I"), ("slotAccount", "[I"), ("slotAmount", "[I"), ("closedCount", "I"), ("journals", "J"), ("lines", "J"), ("lastAuto", "J"), ("fxAccount", "I"), ("retainedAccount", "I")]
abbrev vs0 : List Value := [.int 0, .int 0, .null, .null, .null, .null, .null, .null, .null, .null, .null, .null, .null, .null, .null, .null, .null, .null, .null, .int 0, .long 0, .long 0, .long 0, .int 0, .int 0]
abbrev Hb (b : Nat) (s : St) : List OwnC := [cO [.int (gI s 0), .int (gI s 1), .ref (b + 1), .ref (b + 2), .ref (b + 3), .ref (b + 4), .ref (b + 5), .ref (b + 6), .ref (b + 7), .ref (b + 8), .ref (b + 9), .ref (b + 10), .ref (b + 11), .ref (b + 12), .ref (b + 13), .ref (b + 14), .ref (b + 15), .ref (b + 16), .ref (b + 17), .int (gI s 2), .long (gJ s 0), .long (gJ s 1), .long (gJ s 2), .int (gI s 3), .int (gI s 4)], cZ (gA s 0), cI (gA s 1), cI (gA s 2), cI (gA s 3), cI (gA s 4), cI (gA s 5), cZ (gA s 6), cJ (gB s 0), cJ (gB s 1), cI (gA s 7), cJ (gB s 2), cZ (gA s 8), cI (gA s 9), cZ (gA s 10), cI (gA s 11), cI (gA s 12), cI (gA s 13)]
def st0 : St := (fun _ => 0, fun _ => 0, fun i => ([List.replicate 32 0, List.replicate 32 0, List.replicate 32 0, List.replicate 32 0, List.replicate 32 0, List.replicate 32 0, List.replicate 32 0, List.replicate 4 0, List.replicate 4 0, List.replicate 4 0, List.replicate 4 0, List.replicate 4 0, List.replicate 64 0, List.replicate 64 0] : List (List Int32)).getD i [], fun i => ([List.replicate 384 0, List.replicate 384 0, List.replicate 4 0] : List (List Int64)).getD i [])
theorem m_0 : (Jvm.Cond.constant "GeneralLedgerL3" (11 : Nat) (500000 : Int32)) ∈ tables_1 := List.mem_of_getElem? (i := 0) rfl
theorem m_1 : (Jvm.Cond.constant "GeneralLedgerL3" (12 : Nat) (100000 : Int32)) ∈ tables_1 := List.mem_of_getElem? (i := 1) rfl
theorem m_2 : (Jvm.Cond.classLink "GeneralLedgerL3" (13 : Nat) "GeneralLedger") ∈ tables_1 := List.mem_of_getElem? (i := 2) rfl
theorem m_3 : (Jvm.Cond.instantiable "GeneralLedger" (25 : Nat)) ∈ tables_1 := List.mem_of_getElem? (i := 3) rfl
theorem m_4 : (Jvm.Cond.initialized "GeneralLedger") ∈ tables_1 := List.mem_of_getElem? (i := 4) rfl
theorem m_5 : (Jvm.Cond.methodLink "GeneralLedgerL3" (15 : Nat) ({ cls := "GeneralLedger", name := "<init>", desc := "(II)V" } : Jvm.MethodName)) ∈ tables_1 := List.mem_of_getElem? (i := 5) rfl
theorem m_6 : (Jvm.Cond.instanceMethod ({ cls := "GeneralLedger", name := "<init>", desc := "(II)V" } : Jvm.MethodName)) ∈ tables_1 := List.mem_of_getElem? (i := 6) rfl
theorem m_7 : (Jvm.Cond.code ({ cls := "GeneralLedger", name := "<init>", desc := "(II)V" } : Jvm.MethodName) prog_1_method_1_code (3 : Nat) (Option.none : Option Jvm.ClassFile.FieldType)) ∈ tables_1 := List.mem_of_getElem? (i := 7) rfl
theorem m_8 : (Jvm.Cond.methodLink "GeneralLedger" (1 : Nat) ({ cls := "java/lang/Object", name := "<init>", desc := "()V" } : Jvm.MethodName)) ∈ tables_1 := List.mem_of_getElem? (i := 8) rfl
theorem m_9 : (Jvm.Cond.instanceMethod ({ cls := "java/lang/Object", name := "<init>", desc := "()V" } : Jvm.MethodName)) ∈ tables_1 := List.mem_of_getElem? (i := 9) rfl
theorem m_10 : (Jvm.Cond.code ({ cls := "java/lang/Object", name := "<init>", desc := "()V" } : Jvm.MethodName) object_method_1_code (1 : Nat) (Option.none : Option Jvm.ClassFile.FieldType)) ∈ tables_1 := List.mem_of_getElem? (i := 10) rfl
theorem m_11 : (Jvm.Cond.arrayClass Jvm.ClassFile.FieldType.boolean) ∈ tables_1 := List.mem_of_getElem? (i := 11) rfl
theorem m_12 : (Jvm.Cond.fieldLink "GeneralLedger" (7 : Nat) "GeneralLedger" "accOpen" "[Z") ∈ tables_1 := List.mem_of_getElem? (i := 12) rfl
theorem m_13 : (Jvm.Cond.lays "GeneralLedger" "GeneralLedger" "accOpen" "[Z") ∈ tables_1 := List.mem_of_getElem? (i := 13) rfl
theorem m_14 : (Jvm.Cond.arrayClass Jvm.ClassFile.FieldType.int) ∈ tables_1 := List.mem_of_getElem? (i := 14) rfl
theorem m_15 : (Jvm.Cond.fieldLink "GeneralLedger" (13 : Nat) "GeneralLedger" "accParent" "[I") ∈ tables_1 := List.mem_of_getElem? (i := 15) rfl
theorem m_16 : (Jvm.Cond.lays "GeneralLedger" "GeneralLedger" "accParent" "[I") ∈ tables_1 := List.mem_of_getElem? (i := 16) rfl
theorem m_17 : (Jvm.Cond.fieldLink "GeneralLedger" (17 : Nat) "GeneralLedger" "accType" "[I") ∈ tables_1 := List.mem_of_getElem? (i := 17) rfl
theorem m_18 : (Jvm.Cond.lays "GeneralLedger" "GeneralLedger" "accType" "[I") ∈ tables_1 := List.mem_of_getElem? (i := 18) rfl
theorem m_19 : (Jvm.Cond.fieldLink "GeneralLedger" (20 : Nat) "GeneralLedger" "accCurrency" "[I") ∈ tables_1 := List.mem_of_getElem? (i := 19) rfl
theorem m_20 : (Jvm.Cond.lays "GeneralLedger" "GeneralLedger" "accCurrency" "[I") ∈ tables_1 := List.mem_of_getElem? (i := 20) rfl
theorem m_21 : (Jvm.Cond.fieldLink "GeneralLedger" (23 : Nat) "GeneralLedger" "accChildren" "[I") ∈ tables_1 := List.mem_of_getElem? (i := 21) rfl
theorem m_22 : (Jvm.Cond.lays "GeneralLedger" "GeneralLedger" "accChildren" "[I") ∈ tables_1 := List.mem_of_getElem? (i := 22) rfl
theorem m_23 : (Jvm.Cond.fieldLink "GeneralLedger" (26 : Nat) "GeneralLedger" "accDepth" "[I") ∈ tables_1 := List.mem_of_getElem? (i := 23) rfl
theorem m_24 : (Jvm.Cond.lays "GeneralLedger" "GeneralLedger" "accDepth" "[I") ∈ tables_1 := List.mem_of_getElem? (i := 24) rfl
theorem m_25 : (Jvm.Cond.fieldLink "GeneralLedger" (29 : Nat) "GeneralLedger" "accUsed" "[Z") ∈ tables_1 := List.mem_of_getElem? (i := 25) rfl
theorem m_26 : (Jvm.Cond.lays "GeneralLedger" "GeneralLedger" "accUsed" "[Z") ∈ tables_1 := List.mem_of_getElem? (i := 26) rfl
theorem m_27 : (Jvm.Cond.arrayClass Jvm.ClassFile.FieldType.long) ∈ tables_1 := List.mem_of_getElem? (i := 27) rfl
theorem m_28 : (Jvm.Cond.fieldLink "GeneralLedger" (32 : Nat) "GeneralLedger" "funcMove" "[J") ∈ tables_1 := List.mem_of_getElem? (i := 28) rfl
theorem m_29 : (Jvm.Cond.lays "GeneralLedger" "GeneralLedger" "funcMove" "[J") ∈ tables_1 := List.mem_of_getElem? (i := 29) rfl
theorem m_30 : (Jvm.Cond.fieldLink "GeneralLedger" (36 : Nat) "GeneralLedger" "txnMove" "[J") ∈ tables_1 := List.mem_of_getElem? (i := 30) rfl
theorem m_31 : (Jvm.Cond.lays "GeneralLedger" "GeneralLedger" "txnMove" "[J") ∈ tables_1 := List.mem_of_getElem? (i := 31) rfl
theorem m_32 : (Jvm.Cond.fieldLink "GeneralLedger" (39 : Nat) "GeneralLedger" "rates" "[I") ∈ tables_1 := List.mem_of_getElem? (i := 32) rfl
theorem m_33 : (Jvm.Cond.lays "GeneralLedger" "GeneralLedger" "rates" "[I") ∈ tables_1 := List.mem_of_getElem? (i := 33) rfl
theorem m_34 : (Jvm.Cond.fieldLink "GeneralLedger" (42 : Nat) "GeneralLedger" "currencyTotals" "[J") ∈ tables_1 := List.mem_of_getElem? (i := 34) rfl
theorem m_35 : (Jvm.Cond.lays "GeneralLedger" "GeneralLedger" "currencyTotals" "[J") ∈ tables_1 := List.mem_of_getElem? (i := 35) rfl
theorem m_36 : (Jvm.Cond.fieldLink "GeneralLedger" (45 : Nat) "GeneralLedger" "slotBusy" "[Z") ∈ tables_1 := List.mem_of_getElem? (i := 36) rfl
theorem m_37 : (Jvm.Cond.lays "GeneralLedger" "GeneralLedger" "slotBusy" "[Z") ∈ tables_1 := List.mem_of_getElem? (i := 37) rfl
theorem m_38 : (Jvm.Cond.fieldLink "GeneralLedger" (48 : Nat) "GeneralLedger" "slotPeriod" "[I") ∈ tables_1 := List.mem_of_getElem? (i := 38) rfl
theorem m_39 : (Jvm.Cond.lays "GeneralLedger" "GeneralLedger" "slotPeriod" "[I") ∈ tables_1 := List.mem_of_getElem? (i := 39) rfl
theorem m_40 : (Jvm.Cond.fieldLink "GeneralLedger" (51 : Nat) "GeneralLedger" "slotReversing" "[Z") ∈ tables_1 := List.mem_of_getElem? (i := 40) rfl
theorem m_41 : (Jvm.Cond.lays "GeneralLedger" "GeneralLedger" "slotReversing" "[Z") ∈ tables_1 := List.mem_of_getElem? (i := 41) rfl
theorem m_42 : (Jvm.Cond.fieldLink "GeneralLedger" (54 : Nat) "GeneralLedger" "slotLineCount" "[I") ∈ tables_1 := List.mem_of_getElem? (i := 42) rfl
theorem m_43 : (Jvm.Cond.lays "GeneralLedger" "GeneralLedger" "slotLineCount" "[I") ∈ tables_1 := List.mem_of_getElem? (i := 43) rfl
theorem m_44 : (Jvm.Cond.fieldLink "GeneralLedger" (57 : Nat) "GeneralLedger" "slotAccount" "[I") ∈ tables_1 := List.mem_of_getElem? (i := 44) rfl
theorem m_45 : (Jvm.Cond.lays "GeneralLedger" "GeneralLedger" "slotAccount" "[I") ∈ tables_1 := List.mem_of_getElem? (i := 45) rfl
theorem m_46 : (Jvm.Cond.fieldLink "GeneralLedger" (60 : Nat) "GeneralLedger" "slotAmount" "[I") ∈ tables_1 := List.mem_of_getElem? (i := 46) rfl
theorem m_47 : (Jvm.Cond.lays "GeneralLedger" "GeneralLedger" "slotAmount" "[I") ∈ tables_1 := List.mem_of_getElem? (i := 47) rfl
theorem m_48 : (Jvm.Cond.methodLink "GeneralLedger" (63 : Nat) ({ cls := "GeneralLedger", name := "clamp", desc := "(III)I" } : Jvm.MethodName)) ∈ tables_1 := List.mem_of_getElem? (i := 48) rfl
theorem m_49 : (Jvm.Cond.instanceMethod ({ cls := "GeneralLedger", name := "clamp", desc := "(III)I" } : Jvm.MethodName)) ∈ tables_1 := List.mem_of_getElem? (i := 49) rfl
theorem m_50 : (Jvm.Cond.privateMethod ({ cls := "GeneralLedger", name := "clamp", desc := "(III)I" } : Jvm.MethodName)) ∈ tables_1 := List.mem_of_getElem? (i := 50) rfl
theorem m_51 : (Jvm.Cond.code ({ cls := "GeneralLedger", name := "clamp", desc := "(III)I" } : Jvm.MethodName) prog_1_method_2_code (4 : Nat) (Option.some Jvm.ClassFile.FieldType.int)) ∈ tables_1 := List.mem_of_getElem? (i := 51) rfl
theorem m_52 : (Jvm.Cond.fieldLink "GeneralLedger" (67 : Nat) "GeneralLedger" "currencyCount" "I") ∈ tables_1 := List.mem_of_getElem? (i := 52) rfl
theorem m_53 : (Jvm.Cond.lays "GeneralLedger" "GeneralLedger" "currencyCount" "I") ∈ tables_1 := List.mem_of_getElem? (i := 53) rfl
theorem m_54 : (Jvm.Cond.fieldLink "GeneralLedger" (71 : Nat) "GeneralLedger" "maxLines" "I") ∈ tables_1 := List.mem_of_getElem? (i := 54) rfl
theorem m_55 : (Jvm.Cond.lays "GeneralLedger" "GeneralLedger" "maxLines" "I") ∈ tables_1 := List.mem_of_getElem? (i := 55) rfl
theorem m_56 : (Jvm.Cond.methodLink "GeneralLedger" (74 : Nat) ({ cls := "GeneralLedger", name := "resetRates", desc := "()V" } : Jvm.MethodName)) ∈ tables_1 := List.mem_of_getElem? (i := 56) rfl
theorem m_57 : (Jvm.Cond.instanceMethod ({ cls := "GeneralLedger", name := "resetRates", desc := "()V" } : Jvm.MethodName)) ∈ tables_1 := List.mem_of_getElem? (i := 57) rfl
theorem m_58 : (Jvm.Cond.privateMethod ({ cls := "GeneralLedger", name := "resetRates", desc := "()V" } : Jvm.MethodName)) ∈ tables_1 := List.mem_of_getElem? (i := 58) rfl
theorem m_59 : (Jvm.Cond.code ({ cls := "GeneralLedger", name := "resetRates", desc := "()V" } : Jvm.MethodName) prog_1_method_3_code (2 : Nat) (Option.none : Option Jvm.ClassFile.FieldType)) ∈ tables_1 := List.mem_of_getElem? (i := 59) rfl
theorem m_60 : (Jvm.Cond.methodLink "GeneralLedger" (77 : Nat) ({ cls := "GeneralLedger", name := "resetAccounts", desc := "()V" } : Jvm.MethodName)) ∈ tables_1 := List.mem_of_getElem? (i := 60) rfl
theorem m_61 : (Jvm.Cond.instanceMethod ({ cls := "GeneralLedger", name := "resetAccounts", desc := "()V" } : Jvm.MethodName)) ∈ tables_1 := List.mem_of_getElem? (i := 61) rfl
theorem m_62 : (Jvm.Cond.privateMethod ({ cls := "GeneralLedger", name := "resetAccounts", desc := "()V" } : Jvm.MethodName)) ∈ tables_1 := List.mem_of_getElem? (i := 62) rfl
theorem m_63 : (Jvm.Cond.code ({ cls := "GeneralLedger", name := "resetAccounts", desc := "()V" } : Jvm.MethodName) prog_1_method_4_code (2 : Nat) (Option.none : Option Jvm.ClassFile.FieldType)) ∈ tables_1 := List.mem_of_getElem? (i := 63) rfl
theorem m_64 : (Jvm.Cond.methodLink "GeneralLedger" (80 : Nat) ({ cls := "GeneralLedger", name := "resetSlots", desc := "()V" } : Jvm.MethodName)) ∈ tables_1 := List.mem_of_getElem? (i := 64) rfl
theorem m_65 : (Jvm.Cond.instanceMethod ({ cls := "GeneralLedger", name := "resetSlots", desc := "()V" } : Jvm.MethodName)) ∈ tables_1 := List.mem_of_getElem? (i := 65) rfl
theorem m_66 : (Jvm.Cond.privateMethod ({ cls := "GeneralLedger", name := "resetSlots", desc := "()V" } : Jvm.MethodName)) ∈ tables_1 := List.mem_of_getElem? (i := 66) rfl
theorem m_67 : (Jvm.Cond.code ({ cls := "GeneralLedger", name := "resetSlots", desc := "()V" } : Jvm.MethodName) prog_1_method_5_code (2 : Nat) (Option.none : Option Jvm.ClassFile.FieldType)) ∈ tables_1 := List.mem_of_getElem? (i := 67) rfl
theorem m_68 : (Jvm.Cond.methodLink "GeneralLedger" (102 : Nat) ({ cls := "GeneralLedger", name := "freeSlot", desc := "(I)V" } : Jvm.MethodName)) ∈ tables_1 := List.mem_of_getElem? (i := 68) rfl
theorem m_69 : (Jvm.Cond.instanceMethod ({ cls := "GeneralLedger", name := "freeSlot", desc := "(I)V" } : Jvm.MethodName)) ∈ tables_1 := List.mem_of_getElem? (i := 69) rfl
theorem m_70 : (Jvm.Cond.privateMethod ({ cls := "GeneralLedger", name := "freeSlot", desc := "(I)V" } : Jvm.MethodName)) ∈ tables_1 := List.mem_of_getElem? (i := 70) rfl
theorem m_71 : (Jvm.Cond.code ({ cls := "GeneralLedger", name := "freeSlot", desc := "(I)V" } : Jvm.MethodName) prog_1_method_17_code (2 : Nat) (Option.none : Option Jvm.ClassFile.FieldType)) ∈ tables_1 := List.mem_of_getElem? (i := 71) rfl
theorem m_72 : (Jvm.Cond.fieldLink "GeneralLedger" (83 : Nat) "GeneralLedger" "fxAccount" "I") ∈ tables_1 := List.mem_of_getElem? (i := 72) rfl
theorem m_73 : (Jvm.Cond.lays "GeneralLedger" "GeneralLedger" "fxAccount" "I") ∈ tables_1 := List.mem_of_getElem? (i := 73) rfl
theorem m_74 : (Jvm.Cond.fieldLink "GeneralLedger" (86 : Nat) "GeneralLedger" "retainedAccount" "I") ∈ tables_1 := List.mem_of_getElem? (i := 74) rfl
theorem m_75 : (Jvm.Cond.lays "GeneralLedger" "GeneralLedger" "retainedAccount" "I") ∈ tables_1 := List.mem_of_getElem? (i := 75) rfl
theorem m_76 : (Jvm.Cond.fieldLink "GeneralLedger" (89 : Nat) "GeneralLedger" "closedCount" "I") ∈ tables_1 := List.mem_of_getElem? (i := 76) rfl
theorem m_77 : (Jvm.Cond.lays "GeneralLedger" "GeneralLedger" "closedCount" "I") ∈ tables_1 := List.mem_of_getElem? (i := 77) rfl
theorem m_78 : (Jvm.Cond.fieldLink "GeneralLedger" (92 : Nat) "GeneralLedger" "journals" "J") ∈ tables_1 := List.mem_of_getElem? (i := 78) rfl
theorem m_79 : (Jvm.Cond.lays "GeneralLedger" "GeneralLedger" "journals" "J") ∈ tables_1 := List.mem_of_getElem? (i := 79) rfl
theorem m_80 : (Jvm.Cond.fieldLink "GeneralLedger" (96 : Nat) "GeneralLedger" "lines" "J") ∈ tables_1 := List.mem_of_getElem? (i := 80) rfl
theorem m_81 : (Jvm.Cond.lays "GeneralLedger" "GeneralLedger" "lines" "J") ∈ tables_1 := List.mem_of_getElem? (i := 81) rfl
theorem m_82 : (Jvm.Cond.fieldLink "GeneralLedger" (99 : Nat) "GeneralLedger" "lastAuto" "J") ∈ tables_1 := List.mem_of_getElem? (i := 82) rfl
theorem m_83 : (Jvm.Cond.lays "GeneralLedger" "GeneralLedger" "lastAuto" "J") ∈ tables_1 := List.mem_of_getElem? (i := 83) rfl
theorem m_84 : (Jvm.Cond.methodLink "GeneralLedgerL3" (18 : Nat) ({ cls := "GeneralLedger", name := "openAccount", desc := "(IIII)I" } : Jvm.MethodName)) ∈ tables_1 := List.mem_of_getElem? (i := 84) rfl
theorem m_85 : (Jvm.Cond.declares ({ cls := "GeneralLedger", name := "openAccount", desc := "(IIII)I" } : Jvm.MethodName)) ∈ tables_1 := List.mem_of_getElem? (i := 85) rfl
theorem m_86 : (Jvm.Cond.instanceMethod ({ cls := "GeneralLedger", name := "openAccount", desc := "(IIII)I" } : Jvm.MethodName)) ∈ tables_1 := List.mem_of_getElem? (i := 86) rfl
theorem m_87 : (Jvm.Cond.selects "GeneralLedger" ({ cls := "GeneralLedger", name := "openAccount", desc := "(IIII)I" } : Jvm.MethodName) ({ cls := "GeneralLedger", name := "openAccount", desc := "(IIII)I" } : Jvm.MethodName)) ∈ tables_1 := List.mem_of_getElem? (i := 87) rfl
theorem m_88 : (Jvm.Cond.code ({ cls := "GeneralLedger", name := "openAccount", desc := "(IIII)I" } : Jvm.MethodName) prog_1_method_6_code (5 : Nat) (Option.some Jvm.ClassFile.FieldType.int)) ∈ tables_1 := List.mem_of_getElem? (i := 88) rfl
theorem m_89 : (Jvm.Cond.methodLink "GeneralLedger" (106 : Nat) ({ cls := "GeneralLedger", name := "isAccountId", desc := "(I)Z" } : Jvm.MethodName)) ∈ tables_1 := List.mem_of_getElem? (i := 89) rfl
theorem m_90 : (Jvm.Cond.instanceMethod ({ cls := "GeneralLedger", name := "isAccountId", desc := "(I)Z" } : Jvm.MethodName)) ∈ tables_1 := List.mem_of_getElem? (i := 90) rfl
theorem m_91 : (Jvm.Cond.privateMethod ({ cls := "GeneralLedger", name := "isAccountId", desc := "(I)Z" } : Jvm.MethodName)) ∈ tables_1 := List.mem_of_getElem? (i := 91) rfl
theorem m_92 : (Jvm.Cond.code ({ cls := "GeneralLedger", name := "isAccountId", desc := "(I)Z" } : Jvm.MethodName) prog_1_method_56_code (2 : Nat) (Option.some Jvm.ClassFile.FieldType.boolean)) ∈ tables_1 := List.mem_of_getElem? (i := 92) rfl
theorem m_93 : (Jvm.Cond.methodLink "GeneralLedger" (116 : Nat) ({ cls := "GeneralLedger", name := "isValidType", desc := "(I)Z" } : Jvm.MethodName)) ∈ tables_1 := List.mem_of_getElem? (i := 93) rfl
theorem m_94 : (Jvm.Cond.instanceMethod ({ cls := "GeneralLedger", name := "isValidType", desc := "(I)Z" } : Jvm.MethodName)) ∈ tables_1 := List.mem_of_getElem? (i := 94) rfl
theorem m_95 : (Jvm.Cond.privateMethod ({ cls := "GeneralLedger", name := "isValidType", desc := "(I)Z" } : Jvm.MethodName)) ∈ tables_1 := List.mem_of_getElem? (i := 95) rfl
theorem m_96 : (Jvm.Cond.code ({ cls := "GeneralLedger", name := "isValidType", desc := "(I)Z" } : Jvm.MethodName) prog_1_method_65_code (2 : Nat) (Option.some Jvm.ClassFile.FieldType.boolean)) ∈ tables_1 := List.mem_of_getElem? (i := 96) rfl
theorem m_97 : (Jvm.Cond.methodLink "GeneralLedger" (119 : Nat) ({ cls := "GeneralLedger", name := "isCurrency", desc := "(I)Z" } : Jvm.MethodName)) ∈ tables_1 := List.mem_of_getElem? (i := 97) rfl
theorem m_98 : (Jvm.Cond.instanceMethod ({ cls := "GeneralLedger", name := "isCurrency", desc := "(I)Z" } : Jvm.MethodName)) ∈ tables_1 := List.mem_of_getElem? (i := 98) rfl
theorem m_99 : (Jvm.Cond.privateMethod ({ cls := "GeneralLedger", name := "isCurrency", desc := "(I)Z" } : Jvm.MethodName)) ∈ tables_1 := List.mem_of_getElem? (i := 99) rfl
theorem m_100 : (Jvm.Cond.code ({ cls := "GeneralLedger", name := "isCurrency", desc := "(I)Z" } : Jvm.MethodName) prog_1_method_61_code (2 : Nat) (Option.some Jvm.ClassFile.FieldType.boolean)) ∈ tables_1 := List.mem_of_getElem? (i := 100) rfl
theorem m_101 : (Jvm.Cond.methodLink "GeneralLedger" (125 : Nat) ({ cls := "GeneralLedger", name := "createAccount", desc := "(IIII)V" } : Jvm.MethodName)) ∈ tables_1 := List.mem_of_getElem? (i := 101) rfl
theorem m_102 : (Jvm.Cond.instanceMethod ({ cls := "GeneralLedger", name := "createAccount", desc := "(IIII)V" } : Jvm.MethodName)) ∈ tables_1 := List.mem_of_getElem? (i := 102) rfl
theorem m_103 : (Jvm.Cond.privateMethod ({ cls := "GeneralLedger", name := "createAccount", desc := "(IIII)V" } : Jvm.MethodName)) ∈ tables_1 := List.mem_of_getElem? (i := 103) rfl
theorem m_104 : (Jvm.Cond.code ({ cls := "GeneralLedger", name := "createAccount", desc := "(IIII)V" } : Jvm.MethodName) prog_1_method_8_code (5 : Nat) (Option.none : Option Jvm.ClassFile.FieldType)) ∈ tables_1 := List.mem_of_getElem? (i := 104) rfl
theorem m_105 : (Jvm.Cond.methodLink "GeneralLedger" (129 : Nat) ({ cls := "GeneralLedger", name := "clearMovements", desc := "(I)V" } : Jvm.MethodName)) ∈ tables_1 := List.mem_of_getElem? (i := 105) rfl
theorem m_106 : (Jvm.Cond.instanceMethod ({ cls := "GeneralLedger", name := "clearMovements", desc := "(I)V" } : Jvm.MethodName)) ∈ tables_1 := List.mem_of_getElem? (i := 106) rfl
theorem m_107 : (Jvm.Cond.privateMethod ({ cls := "GeneralLedger", name := "clearMovements", desc := "(I)V" } : Jvm.MethodName)) ∈ tables_1 := List.mem_of_getElem? (i := 107) rfl
theorem m_108 : (Jvm.Cond.code ({ cls := "GeneralLedger", name := "clearMovements", desc := "(I)V" } : Jvm.MethodName) prog_1_method_9_code (4 : Nat) (Option.none : Option Jvm.ClassFile.FieldType)) ∈ tables_1 := List.mem_of_getElem? (i := 108) rfl
theorem m_109 : (Jvm.Cond.methodLink "GeneralLedger" (132 : Nat) ({ cls := "GeneralLedger", name := "cell", desc := "(II)I" } : Jvm.MethodName)) ∈ tables_1 := List.mem_of_getElem? (i := 109) rfl
theorem m_110 : (Jvm.Cond.instanceMethod ({ cls := "GeneralLedger", name := "cell", desc := "(II)I" } : Jvm.MethodName)) ∈ tables_1 := List.mem_of_getElem? (i := 110) rfl
theorem m_111 : (Jvm.Cond.privateMethod ({ cls := "GeneralLedger", name := "cell", desc := "(II)I" } : Jvm.MethodName)) ∈ tables_1 := List.mem_of_getElem? (i := 111) rfl
theorem m_112 : (Jvm.Cond.code ({ cls := "GeneralLedger", name := "cell", desc := "(II)I" } : Jvm.MethodName) prog_1_method_53_code (3 : Nat) (Option.some Jvm.ClassFile.FieldType.int)) ∈ tables_1 := List.mem_of_getElem? (i := 112) rfl
theorem m_113 : (Jvm.Cond.methodLink "GeneralLedger" (122 : Nat) ({ cls := "GeneralLedger", name := "allowsForeign", desc := "(I)Z" } : Jvm.MethodName)) ∈ tables_1 := List.mem_of_getElem? (i := 113) rfl
theorem m_114 : (Jvm.Cond.instanceMethod ({ cls := "GeneralLedger", name := "allowsForeign", desc := "(I)Z" } : Jvm.MethodName)) ∈ tables_1 := List.mem_of_getElem? (i := 114) rfl
theorem m_115 : (Jvm.Cond.privateMethod ({ cls := "GeneralLedger", name := "allowsForeign", desc := "(I)Z" } : Jvm.MethodName)) ∈ tables_1 := List.mem_of_getElem? (i := 115) rfl
theorem m_116 : (Jvm.Cond.code ({ cls := "GeneralLedger", name := "allowsForeign", desc := "(I)Z" } : Jvm.MethodName) prog_1_method_66_code (2 : Nat) (Option.some Jvm.ClassFile.FieldType.boolean)) ∈ tables_1 := List.mem_of_getElem? (i := 116) rfl
theorem m_117 : (Jvm.Cond.methodLink "GeneralLedgerL3" (22 : Nat) ({ cls := "GeneralLedger", name := "setSpecial", desc := "(II)I" } : Jvm.MethodName)) ∈ tables_1 := List.mem_of_getElem? (i := 117) rfl
theorem m_118 : (Jvm.Cond.declares ({ cls := "GeneralLedger", name := "setSpecial", desc := "(II)I" } : Jvm.MethodName)) ∈ tables_1 := List.mem_of_getElem? (i := 118) rfl
theorem m_119 : (Jvm.Cond.instanceMethod ({ cls := "GeneralLedger", name := "setSpecial", desc := "(II)I" } : Jvm.MethodName)) ∈ tables_1 := List.mem_of_getElem? (i := 119) rfl
theorem m_120 : (Jvm.Cond.selects "GeneralLedger" ({ cls := "GeneralLedger", name := "setSpecial", desc := "(II)I" } : Jvm.MethodName) ({ cls := "GeneralLedger", name := "setSpecial", desc := "(II)I" } : Jvm.MethodName)) ∈ tables_1 := List.mem_of_getElem? (i := 120) rfl
theorem m_121 : (Jvm.Cond.code ({ cls := "GeneralLedger", name := "setSpecial", desc := "(II)I" } : Jvm.MethodName) prog_1_method_10_code (3 : Nat) (Option.some Jvm.ClassFile.FieldType.int)) ∈ tables_1 := List.mem_of_getElem? (i := 121) rfl
theorem m_122 : (Jvm.Cond.methodLink "GeneralLedger" (110 : Nat) ({ cls := "GeneralLedger", name := "isOpenAccount", desc := "(I)Z" } : Jvm.MethodName)) ∈ tables_1 := List.mem_of_getElem? (i := 122) rfl
theorem m_123 : (Jvm.Cond.instanceMethod ({ cls := "GeneralLedger", name := "isOpenAccount", desc := "(I)Z" } : Jvm.MethodName)) ∈ tables_1 := List.mem_of_getElem? (i := 123) rfl
theorem m_124 : (Jvm.Cond.privateMethod ({ cls := "GeneralLedger", name := "isOpenAccount", desc := "(I)Z" } : Jvm.MethodName)) ∈ tables_1 := List.mem_of_getElem? (i := 124) rfl
theorem m_125 : (Jvm.Cond.code ({ cls := "GeneralLedger", name := "isOpenAccount", desc := "(I)Z" } : Jvm.MethodName) prog_1_method_57_code (2 : Nat) (Option.some Jvm.ClassFile.FieldType.boolean)) ∈ tables_1 := List.mem_of_getElem? (i := 125) rfl
theorem m_126 : (Jvm.Cond.methodLink "GeneralLedger" (136 : Nat) ({ cls := "GeneralLedger", name := "isLeaf", desc := "(I)Z" } : Jvm.MethodName)) ∈ tables_1 := List.mem_of_getElem? (i := 126) rfl
theorem m_127 : (Jvm.Cond.instanceMethod ({ cls := "GeneralLedger", name := "isLeaf", desc := "(I)Z" } : Jvm.MethodName)) ∈ tables_1 := List.mem_of_getElem? (i := 127) rfl
theorem m_128 : (Jvm.Cond.privateMethod ({ cls := "GeneralLedger", name := "isLeaf", desc := "(I)Z" } : Jvm.MethodName)) ∈ tables_1 := List.mem_of_getElem? (i := 128) rfl
theorem m_129 : (Jvm.Cond.code ({ cls := "GeneralLedger", name := "isLeaf", desc := "(I)Z" } : Jvm.MethodName) prog_1_method_58_code (2 : Nat) (Option.some Jvm.ClassFile.FieldType.boolean)) ∈ tables_1 := List.mem_of_getElem? (i := 129) rfl
theorem m_130 : (Jvm.Cond.methodLink "GeneralLedger" (139 : Nat) ({ cls := "GeneralLedger", name := "typeFitsKind", desc := "(II)Z" } : Jvm.MethodName)) ∈ tables_1 := List.mem_of_getElem? (i := 130) rfl
theorem m_131 : (Jvm.Cond.instanceMethod ({ cls := "GeneralLedger", name := "typeFitsKind", desc := "(II)Z" } : Jvm.MethodName)) ∈ tables_1 := List.mem_of_getElem? (i := 131) rfl
theorem m_132 : (Jvm.Cond.privateMethod ({ cls := "GeneralLedger", name := "typeFitsKind", desc := "(II)Z" } : Jvm.MethodName)) ∈ tables_1 := List.mem_of_getElem? (i := 132) rfl
theorem m_133 : (Jvm.Cond.code ({ cls := "GeneralLedger", name := "typeFitsKind", desc := "(II)Z" } : Jvm.MethodName) prog_1_method_11_code (3 : Nat) (Option.some Jvm.ClassFile.FieldType.boolean)) ∈ tables_1 := List.mem_of_getElem? (i := 133) rfl
theorem m_134 : (Jvm.Cond.methodLink "GeneralLedgerL3" (26 : Nat) ({ cls := "GeneralLedger", name := "setRate", desc := "(II)I" } : Jvm.MethodName)) ∈ tables_1 := List.mem_of_getElem? (i := 134) rfl
theorem m_135 : (Jvm.Cond.declares ({ cls := "GeneralLedger", name := "setRate", desc := "(II)I" } : Jvm.MethodName)) ∈ tables_1 := List.mem_of_getElem? (i := 135) rfl
theorem m_136 : (Jvm.Cond.instanceMethod ({ cls := "GeneralLedger", name := "setRate", desc := "(II)I" } : Jvm.MethodName)) ∈ tables_1 := List.mem_of_getElem? (i := 136) rfl
theorem m_137 : (Jvm.Cond.selects "GeneralLedger" ({ cls := "GeneralLedger", name := "setRate", desc := "(II)I" } : Jvm.MethodName) ({ cls := "GeneralLedger", name := "setRate", desc := "(II)I" } : Jvm.MethodName)) ∈ tables_1 := List.mem_of_getElem? (i := 137) rfl
theorem m_138 : (Jvm.Cond.code ({ cls := "GeneralLedger", name := "setRate", desc := "(II)I" } : Jvm.MethodName) prog_1_method_12_code (3 : Nat) (Option.some Jvm.ClassFile.FieldType.int)) ∈ tables_1 := List.mem_of_getElem? (i := 138) rfl
theorem m_139 : (Jvm.Cond.methodLink "GeneralLedger" (143 : Nat) ({ cls := "GeneralLedger", name := "isForeignCurrency", desc := "(I)Z" } : Jvm.MethodName)) ∈ tables_1 := List.mem_of_getElem? (i := 139) rfl
theorem m_140 : (Jvm.Cond.instanceMethod ({ cls := "GeneralLedger", name := "isForeignCurrency", desc := "(I)Z" } : Jvm.MethodName)) ∈ tables_1 := List.mem_of_getElem? (i := 140) rfl
theorem m_141 : (Jvm.Cond.privateMethod ({ cls := "GeneralLedger", name := "isForeignCurrency", desc := "(I)Z" } : Jvm.MethodName)) ∈ tables_1 := List.mem_of_getElem? (i := 141) rfl
theorem m_142 : (Jvm.Cond.code ({ cls := "GeneralLedger", name := "isForeignCurrency", desc := "(I)Z" } : Jvm.MethodName) prog_1_method_62_code (2 : Nat) (Option.some Jvm.ClassFile.FieldType.boolean)) ∈ tables_1 := List.mem_of_getElem? (i := 142) rfl
theorem m_143 : (Jvm.Cond.methodLink "GeneralLedger" (146 : Nat) ({ cls := "GeneralLedger", name := "isValidRate", desc := "(I)Z" } : Jvm.MethodName)) ∈ tables_1 := List.mem_of_getElem? (i := 143) rfl
theorem m_144 : (Jvm.Cond.instanceMethod ({ cls := "GeneralLedger", name := "isValidRate", desc := "(I)Z" } : Jvm.MethodName)) ∈ tables_1 := List.mem_of_getElem? (i := 144) rfl
theorem m_145 : (Jvm.Cond.privateMethod ({ cls := "GeneralLedger", name := "isValidRate", desc := "(I)Z" } : Jvm.MethodName)) ∈ tables_1 := List.mem_of_getElem? (i := 145) rfl
theorem m_146 : (Jvm.Cond.code ({ cls := "GeneralLedger", name := "isValidRate", desc := "(I)Z" } : Jvm.MethodName) prog_1_method_63_code (2 : Nat) (Option.some Jvm.ClassFile.FieldType.boolean)) ∈ tables_1 := List.mem_of_getElem? (i := 146) rfl
theorem m_147 : (Jvm.Cond.constant "GeneralLedger" (263 : Nat) (100000 : Int32)) ∈ tables_1 := List.mem_of_getElem? (i := 147) rfl
theorem m_148 : (Jvm.Cond.methodLink "GeneralLedgerL3" (29 : Nat) ({ cls := "GeneralLedger", name := "beginJournal", desc := "(III)I" } : Jvm.MethodName)) ∈ tables_1 := List.mem_of_getElem? (i := 148) rfl
theorem m_149 : (Jvm.Cond.declares ({ cls := "GeneralLedger", name := "beginJournal", desc := "(III)I" } : Jvm.MethodName)) ∈ tables_1 := List.mem_of_getElem? (i := 149) rfl
theorem m_150 : (Jvm.Cond.instanceMethod ({ cls := "GeneralLedger", name := "beginJournal", desc := "(III)I" } : Jvm.MethodName)) ∈ tables_1 := List.mem_of_getElem? (i := 150) rfl
theorem m_151 : (Jvm.Cond.selects "GeneralLedger" ({ cls := "GeneralLedger", name := "beginJournal", desc := "(III)I" } : Jvm.MethodName) ({ cls := "GeneralLedger", name := "beginJournal", desc := "(III)I" } : Jvm.MethodName)) ∈ tables_1 := List.mem_of_getElem? (i := 151) rfl
theorem m_152 : (Jvm.Cond.code ({ cls := "GeneralLedger", name := "beginJournal", desc := "(III)I" } : Jvm.MethodName) prog_1_method_13_code (4 : Nat) (Option.some Jvm.ClassFile.FieldType.int)) ∈ tables_1 := List.mem_of_getElem? (i := 152) rfl
theorem m_153 : (Jvm.Cond.methodLink "GeneralLedger" (149 : Nat) ({ cls := "GeneralLedger", name := "isSlot", desc := "(I)Z" } : Jvm.MethodName)) ∈ tables_1 := List.mem_of_getElem? (i := 153) rfl
theorem m_154 : (Jvm.Cond.instanceMethod ({ cls := "GeneralLedger", name := "isSlot", desc := "(I)Z" } : Jvm.MethodName)) ∈ tables_1 := List.mem_of_getElem? (i := 154) rfl
theorem m_155 : (Jvm.Cond.privateMethod ({ cls := "GeneralLedger", name := "isSlot", desc := "(I)Z" } : Jvm.MethodName)) ∈ tables_1 := List.mem_of_getElem? (i := 155) rfl
theorem m_156 : (Jvm.Cond.code ({ cls := "GeneralLedger", name := "isSlot", desc := "(I)Z" } : Jvm.MethodName) prog_1_method_60_code (2 : Nat) (Option.some Jvm.ClassFile.FieldType.boolean)) ∈ tables_1 := List.mem_of_getElem? (i := 156) rfl
theorem m_157 : (Jvm.Cond.methodLink "GeneralLedger" (152 : Nat) ({ cls := "GeneralLedger", name := "isPeriod", desc := "(I)Z" } : Jvm.MethodName)) ∈ tables_1 := List.mem_of_getElem? (i := 157) rfl
theorem m_158 : (Jvm.Cond.instanceMethod ({ cls := "GeneralLedger", name := "isPeriod", desc := "(I)Z" } : Jvm.MethodName)) ∈ tables_1 := List.mem_of_getElem? (i := 158) rfl
theorem m_159 : (Jvm.Cond.privateMethod ({ cls := "GeneralLedger", name := "isPeriod", desc := "(I)Z" } : Jvm.MethodName)) ∈ tables_1 := List.mem_of_getElem? (i := 159) rfl
theorem m_160 : (Jvm.Cond.code ({ cls := "GeneralLedger", name := "isPeriod", desc := "(I)Z" } : Jvm.MethodName) prog_1_method_59_code (2 : Nat) (Option.some Jvm.ClassFile.FieldType.boolean)) ∈ tables_1 := List.mem_of_getElem? (i := 160) rfl
theorem m_161 : (Jvm.Cond.methodLink "GeneralLedgerL3" (33 : Nat) ({ cls := "GeneralLedger", name := "addLine", desc := "(III)I" } : Jvm.MethodName)) ∈ tables_1 := List.mem_of_getElem? (i := 161) rfl
theorem m_162 : (Jvm.Cond.declares ({ cls := "GeneralLedger", name := "addLine", desc := "(III)I" } : Jvm.MethodName)) ∈ tables_1 := List.mem_of_getElem? (i := 162) rfl
theorem m_163 : (Jvm.Cond.instanceMethod ({ cls := "GeneralLedger", name := "addLine", desc := "(III)I" } : Jvm.MethodName)) ∈ tables_1 := List.mem_of_getElem? (i := 163) rfl
theorem m_164 : (Jvm.Cond.selects "GeneralLedger" ({ cls := "GeneralLedger", name := "addLine", desc := "(III)I" } : Jvm.MethodName) ({ cls := "GeneralLedger", name := "addLine", desc := "(III)I" } : Jvm.MethodName)) ∈ tables_1 := List.mem_of_getElem? (i := 164) rfl
theorem m_165 : (Jvm.Cond.code ({ cls := "GeneralLedger", name := "addLine", desc := "(III)I" } : Jvm.MethodName) prog_1_method_14_code (4 : Nat) (Option.some Jvm.ClassFile.FieldType.int)) ∈ tables_1 := List.mem_of_getElem? (i := 165) rfl
theorem m_166 : (Jvm.Cond.methodLink "GeneralLedger" (155 : Nat) ({ cls := "GeneralLedger", name := "isValidAmount", desc := "(I)Z" } : Jvm.MethodName)) ∈ tables_1 := List.mem_of_getElem? (i := 166) rfl
theorem m_167 : (Jvm.Cond.instanceMethod ({ cls := "GeneralLedger", name := "isValidAmount", desc := "(I)Z" } : Jvm.MethodName)) ∈ tables_1 := List.mem_of_getElem? (i := 167) rfl
theorem m_168 : (Jvm.Cond.privateMethod ({ cls := "GeneralLedger", name := "isValidAmount", desc := "(I)Z" } : Jvm.MethodName)) ∈ tables_1 := List.mem_of_getElem? (i := 168) rfl
theorem m_169 : (Jvm.Cond.code ({ cls := "GeneralLedger", name := "isValidAmount", desc := "(I)Z" } : Jvm.MethodName) prog_1_method_64_code (2 : Nat) (Option.some Jvm.ClassFile.FieldType.boolean)) ∈ tables_1 := List.mem_of_getElem? (i := 169) rfl
theorem m_170 : (Jvm.Cond.constant "GeneralLedger" (264 : Nat) (-1000000 : Int32)) ∈ tables_1 := List.mem_of_getElem? (i := 170) rfl
theorem m_171 : (Jvm.Cond.constant "GeneralLedger" (265 : Nat) (1000000 : Int32)) ∈ tables_1 := List.mem_of_getElem? (i := 171) rfl
theorem m_172 : (Jvm.Cond.methodLink "GeneralLedger" (158 : Nat) ({ cls := "GeneralLedger", name := "appendLine", desc := "(III)V" } : Jvm.MethodName)) ∈ tables_1 := List.mem_of_getElem? (i := 172) rfl
theorem m_173 : (Jvm.Cond.instanceMethod ({ cls := "GeneralLedger", name := "appendLine", desc := "(III)V" } : Jvm.MethodName)) ∈ tables_1 := List.mem_of_getElem? (i := 173) rfl
theorem m_174 : (Jvm.Cond.privateMethod ({ cls := "GeneralLedger", name := "appendLine", desc := "(III)V" } : Jvm.MethodName)) ∈ tables_1 := List.mem_of_getElem? (i := 174) rfl
theorem m_175 : (Jvm.Cond.code ({ cls := "GeneralLedger", name := "appendLine", desc := "(III)V" } : Jvm.MethodName) prog_1_method_15_code (6 : Nat) (Option.none : Option Jvm.ClassFile.FieldType)) ∈ tables_1 := List.mem_of_getElem? (i := 175) rfl
theorem m_176 : (Jvm.Cond.methodLink "GeneralLedger" (162 : Nat) ({ cls := "GeneralLedger", name := "lineCell", desc := "(II)I" } : Jvm.MethodName)) ∈ tables_1 := List.mem_of_getElem? (i := 176) rfl
theorem m_177 : (Jvm.Cond.instanceMethod ({ cls := "GeneralLedger", name := "lineCell", desc := "(II)I" } : Jvm.MethodName)) ∈ tables_1 := List.mem_of_getElem? (i := 177) rfl
theorem m_178 : (Jvm.Cond.privateMethod ({ cls := "GeneralLedger", name := "lineCell", desc := "(II)I" } : Jvm.MethodName)) ∈ tables_1 := List.mem_of_getElem? (i := 178) rfl
theorem m_179 : (Jvm.Cond.code ({ cls := "GeneralLedger", name := "lineCell", desc := "(II)I" } : Jvm.MethodName) prog_1_method_54_code (3 : Nat) (Option.some Jvm.ClassFile.FieldType.int)) ∈ tables_1 := List.mem_of_getElem? (i := 179) rfl
theorem m_180 : (Jvm.Cond.methodLink "GeneralLedgerL3" (36 : Nat) ({ cls := "GeneralLedger", name := "post", desc := "(I)I" } : Jvm.MethodName)) ∈ tables_1 := List.mem_of_getElem? (i := 180) rfl
theorem m_181 : (Jvm.Cond.declares ({ cls := "GeneralLedger", name := "post", desc := "(I)I" } : Jvm.MethodName)) ∈ tables_1 := List.mem_of_getElem? (i := 181) rfl
theorem m_182 : (Jvm.Cond.instanceMethod ({ cls := "GeneralLedger", name := "post", desc := "(I)I" } : Jvm.MethodName)) ∈ tables_1 := List.mem_of_getElem? (i := 182) rfl
theorem m_183 : (Jvm.Cond.selects "GeneralLedger" ({ cls := "GeneralLedger", name := "post", desc := "(I)I" } : Jvm.MethodName) ({ cls := "GeneralLedger", name := "post", desc := "(I)I" } : Jvm.MethodName)) ∈ tables_1 := List.mem_of_getElem? (i := 183) rfl
theorem m_184 : (Jvm.Cond.code ({ cls := "GeneralLedger", name := "post", desc := "(I)I" } : Jvm.MethodName) prog_1_method_18_code (8 : Nat) (Option.some Jvm.ClassFile.FieldType.int)) ∈ tables_1 := List.mem_of_getElem? (i := 184) rfl
theorem m_185 : (Jvm.Cond.methodLink "GeneralLedger" (165 : Nat) ({ cls := "GeneralLedger", name := "postRefusal", desc := "(I)I" } : Jvm.MethodName)) ∈ tables_1 := List.mem_of_getElem? (i := 185) rfl
theorem m_186 : (Jvm.Cond.instanceMethod ({ cls := "GeneralLedger", name := "postRefusal", desc := "(I)I" } : Jvm.MethodName)) ∈ tables_1 := List.mem_of_getElem? (i := 186) rfl
theorem m_187 : (Jvm.Cond.privateMethod ({ cls := "GeneralLedger", name := "postRefusal", desc := "(I)I" } : Jvm.MethodName)) ∈ tables_1 := List.mem_of_getElem? (i := 187) rfl
theorem m_188 : (Jvm.Cond.code ({ cls := "GeneralLedger", name := "postRefusal", desc := "(I)I" } : Jvm.MethodName) prog_1_method_19_code (4 : Nat) (Option.some Jvm.ClassFile.FieldType.int)) ∈ tables_1 := List.mem_of_getElem? (i := 188) rfl
theorem m_189 : (Jvm.Cond.methodLink "GeneralLedger" (181 : Nat) ({ cls := "GeneralLedger", name := "journalHasParent", desc := "(I)Z" } : Jvm.MethodName)) ∈ tables_1 := List.mem_of_getElem? (i := 189) rfl
theorem m_190 : (Jvm.Cond.instanceMethod ({ cls := "GeneralLedger", name := "journalHasParent", desc := "(I)Z" } : Jvm.MethodName)) ∈ tables_1 := List.mem_of_getElem? (i := 190) rfl
theorem m_191 : (Jvm.Cond.privateMethod ({ cls := "GeneralLedger", name := "journalHasParent", desc := "(I)Z" } : Jvm.MethodName)) ∈ tables_1 := List.mem_of_getElem? (i := 191) rfl
theorem m_192 : (Jvm.Cond.code ({ cls := "GeneralLedger", name := "journalHasParent", desc := "(I)Z" } : Jvm.MethodName) prog_1_method_21_code (5 : Nat) (Option.some Jvm.ClassFile.FieldType.boolean)) ∈ tables_1 := List.mem_of_getElem? (i := 192) rfl
theorem m_193 : (Jvm.Cond.methodLink "GeneralLedger" (187 : Nat) ({ cls := "GeneralLedger", name := "stagedLines", desc := "(I)I" } : Jvm.MethodName)) ∈ tables_1 := List.mem_of_getElem? (i := 193) rfl
theorem m_194 : (Jvm.Cond.instanceMethod ({ cls := "GeneralLedger", name := "stagedLines", desc := "(I)I" } : Jvm.MethodName)) ∈ tables_1 := List.mem_of_getElem? (i := 194) rfl
theorem m_195 : (Jvm.Cond.privateMethod ({ cls := "GeneralLedger", name := "stagedLines", desc := "(I)I" } : Jvm.MethodName)) ∈ tables_1 := List.mem_of_getElem? (i := 195) rfl
theorem m_196 : (Jvm.Cond.code ({ cls := "GeneralLedger", name := "stagedLines", desc := "(I)I" } : Jvm.MethodName) prog_1_method_20_code (3 : Nat) (Option.some Jvm.ClassFile.FieldType.int)) ∈ tables_1 := List.mem_of_getElem? (i := 196) rfl
theorem m_197 : (Jvm.Cond.methodLink "GeneralLedger" (184 : Nat) ({ cls := "GeneralLedger", name := "journalBalanced", desc := "(I)Z" } : Jvm.MethodName)) ∈ tables_1 := List.mem_of_getElem? (i := 197) rfl
theorem m_198 : (Jvm.Cond.instanceMethod ({ cls := "GeneralLedger", name := "journalBalanced", desc := "(I)Z" } : Jvm.MethodName)) ∈ tables_1 := List.mem_of_getElem? (i := 198) rfl
theorem m_199 : (Jvm.Cond.privateMethod ({ cls := "GeneralLedger", name := "journalBalanced", desc := "(I)Z" } : Jvm.MethodName)) ∈ tables_1 := List.mem_of_getElem? (i := 199) rfl
theorem m_200 : (Jvm.Cond.code ({ cls := "GeneralLedger", name := "journalBalanced", desc := "(I)Z" } : Jvm.MethodName) prog_1_method_22_code (6 : Nat) (Option.some Jvm.ClassFile.FieldType.boolean)) ∈ tables_1 := List.mem_of_getElem? (i := 200) rfl
theorem m_201 : (Jvm.Cond.methodLink "GeneralLedger" (190 : Nat) ({ cls := "GeneralLedger", name := "clearCurrencyTotals", desc := "()V" } : Jvm.MethodName)) ∈ tables_1 := List.mem_of_getElem? (i := 201) rfl
theorem m_202 : (Jvm.Cond.instanceMethod ({ cls := "GeneralLedger", name := "clearCurrencyTotals", desc := "()V" } : Jvm.MethodName)) ∈ tables_1 := List.mem_of_getElem? (i := 202) rfl
theorem m_203 : (Jvm.Cond.privateMethod ({ cls := "GeneralLedger", name := "clearCurrencyTotals", desc := "()V" } : Jvm.MethodName)) ∈ tables_1 := List.mem_of_getElem? (i := 203) rfl
theorem m_204 : (Jvm.Cond.code ({ cls := "GeneralLedger", name := "clearCurrencyTotals", desc := "()V" } : Jvm.MethodName) prog_1_method_23_code (2 : Nat) (Option.none : Option Jvm.ClassFile.FieldType)) ∈ tables_1 := List.mem_of_getElem? (i := 204) rfl
theorem m_205 : (Jvm.Cond.methodLink "GeneralLedger" (193 : Nat) ({ cls := "GeneralLedger", name := "currencyTotalsZero", desc := "()Z" } : Jvm.MethodName)) ∈ tables_1 := List.mem_of_getElem? (i := 205) rfl
theorem m_206 : (Jvm.Cond.instanceMethod ({ cls := "GeneralLedger", name := "currencyTotalsZero", desc := "()Z" } : Jvm.MethodName)) ∈ tables_1 := List.mem_of_getElem? (i := 206) rfl
theorem m_207 : (Jvm.Cond.privateMethod ({ cls := "GeneralLedger", name := "currencyTotalsZero", desc := "()Z" } : Jvm.MethodName)) ∈ tables_1 := List.mem_of_getElem? (i := 207) rfl
theorem m_208 : (Jvm.Cond.code ({ cls := "GeneralLedger", name := "currencyTotalsZero", desc := "()Z" } : Jvm.MethodName) prog_1_method_24_code (2 : Nat) (Option.some Jvm.ClassFile.FieldType.boolean)) ∈ tables_1 := List.mem_of_getElem? (i := 208) rfl
theorem m_209 : (Jvm.Cond.methodLink "GeneralLedger" (169 : Nat) ({ cls := "GeneralLedger", name := "journalRounding", desc := "(I)J" } : Jvm.MethodName)) ∈ tables_1 := List.mem_of_getElem? (i := 209) rfl
theorem m_210 : (Jvm.Cond.instanceMethod ({ cls := "GeneralLedger", name := "journalRounding", desc := "(I)J" } : Jvm.MethodName)) ∈ tables_1 := List.mem_of_getElem? (i := 210) rfl
theorem m_211 : (Jvm.Cond.privateMethod ({ cls := "GeneralLedger", name := "journalRounding", desc := "(I)J" } : Jvm.MethodName)) ∈ tables_1 := List.mem_of_getElem? (i := 211) rfl
theorem m_212 : (Jvm.Cond.code ({ cls := "GeneralLedger", name := "journalRounding", desc := "(I)J" } : Jvm.MethodName) prog_1_method_25_code (8 : Nat) (Option.some Jvm.ClassFile.FieldType.long)) ∈ tables_1 := List.mem_of_getElem? (i := 212) rfl
theorem m_213 : (Jvm.Cond.methodLink "GeneralLedger" (197 : Nat) ({ cls := "GeneralLedger", name := "lineFunc", desc := "(II)J" } : Jvm.MethodName)) ∈ tables_1 := List.mem_of_getElem? (i := 213) rfl
theorem m_214 : (Jvm.Cond.instanceMethod ({ cls := "GeneralLedger", name := "lineFunc", desc := "(II)J" } : Jvm.MethodName)) ∈ tables_1 := List.mem_of_getElem? (i := 214) rfl
theorem m_215 : (Jvm.Cond.privateMethod ({ cls := "GeneralLedger", name := "lineFunc", desc := "(II)J" } : Jvm.MethodName)) ∈ tables_1 := List.mem_of_getElem? (i := 215) rfl
theorem m_216 : (Jvm.Cond.code ({ cls := "GeneralLedger", name := "lineFunc", desc := "(II)J" } : Jvm.MethodName) prog_1_method_26_code (6 : Nat) (Option.some Jvm.ClassFile.FieldType.long)) ∈ tables_1 := List.mem_of_getElem? (i := 216) rfl
theorem m_217 : (Jvm.Cond.methodLink "GeneralLedger" (201 : Nat) ({ cls := "GeneralLedger", name := "rateOf", desc := "(I)I" } : Jvm.MethodName)) ∈ tables_1 := List.mem_of_getElem? (i := 217) rfl
theorem m_218 : (Jvm.Cond.instanceMethod ({ cls := "GeneralLedger", name := "rateOf", desc := "(I)I" } : Jvm.MethodName)) ∈ tables_1 := List.mem_of_getElem? (i := 218) rfl
theorem m_219 : (Jvm.Cond.privateMethod ({ cls := "GeneralLedger", name := "rateOf", desc := "(I)I" } : Jvm.MethodName)) ∈ tables_1 := List.mem_of_getElem? (i := 219) rfl
theorem m_220 : (Jvm.Cond.code ({ cls := "GeneralLedger", name := "rateOf", desc := "(I)I" } : Jvm.MethodName) prog_1_method_52_code (2 : Nat) (Option.some Jvm.ClassFile.FieldType.int)) ∈ tables_1 := List.mem_of_getElem? (i := 220) rfl
theorem m_221 : (Jvm.Cond.methodLink "GeneralLedger" (204 : Nat) ({ cls := "GeneralLedger", name := "roundRate", desc := "(JI)J" } : Jvm.MethodName)) ∈ tables_1 := List.mem_of_getElem? (i := 221) rfl
theorem m_222 : (Jvm.Cond.instanceMethod ({ cls := "GeneralLedger", name := "roundRate", desc := "(JI)J" } : Jvm.MethodName)) ∈ tables_1 := List.mem_of_getElem? (i := 222) rfl
theorem m_223 : (Jvm.Cond.privateMethod ({ cls := "GeneralLedger", name := "roundRate", desc := "(JI)J" } : Jvm.MethodName)) ∈ tables_1 := List.mem_of_getElem? (i := 223) rfl
theorem m_224 : (Jvm.Cond.code ({ cls := "GeneralLedger", name := "roundRate", desc := "(JI)J" } : Jvm.MethodName) prog_1_method_51_code (8 : Nat) (Option.some Jvm.ClassFile.FieldType.long)) ∈ tables_1 := List.mem_of_getElem? (i := 224) rfl
theorem m_225 : (Jvm.Cond.constantLong "GeneralLedger" (259 : Nat) (50 : Int64)) ∈ tables_1 := List.mem_of_getElem? (i := 225) rfl
theorem m_226 : (Jvm.Cond.constantLong "GeneralLedger" (261 : Nat) (100 : Int64)) ∈ tables_1 := List.mem_of_getElem? (i := 226) rfl
theorem m_227 : (Jvm.Cond.methodLink "GeneralLedger" (173 : Nat) ({ cls := "GeneralLedger", name := "applyJournal", desc := "(IIJZ)V" } : Jvm.MethodName)) ∈ tables_1 := List.mem_of_getElem? (i := 227) rfl
theorem m_228 : (Jvm.Cond.instanceMethod ({ cls := "GeneralLedger", name := "applyJournal", desc := "(IIJZ)V" } : Jvm.MethodName)) ∈ tables_1 := List.mem_of_getElem? (i := 228) rfl
theorem m_229 : (Jvm.Cond.privateMethod ({ cls := "GeneralLedger", name := "applyJournal", desc := "(IIJZ)V" } : Jvm.MethodName)) ∈ tables_1 := List.mem_of_getElem? (i := 229) rfl
theorem m_230 : (Jvm.Cond.code ({ cls := "GeneralLedger", name := "applyJournal", desc := "(IIJZ)V" } : Jvm.MethodName) prog_1_method_27_code (13 : Nat) (Option.none : Option Jvm.ClassFile.FieldType)) ∈ tables_1 := List.mem_of_getElem? (i := 230) rfl
theorem m_231 : (Jvm.Cond.methodLink "GeneralLedger" (208 : Nat) ({ cls := "GeneralLedger", name := "apply", desc := "(IJJI)V" } : Jvm.MethodName)) ∈ tables_1 := List.mem_of_getElem? (i := 231) rfl
theorem m_232 : (Jvm.Cond.instanceMethod ({ cls := "GeneralLedger", name := "apply", desc := "(IJJI)V" } : Jvm.MethodName)) ∈ tables_1 := List.mem_of_getElem? (i := 232) rfl
theorem m_233 : (Jvm.Cond.privateMethod ({ cls := "GeneralLedger", name := "apply", desc := "(IJJI)V" } : Jvm.MethodName)) ∈ tables_1 := List.mem_of_getElem? (i := 233) rfl
theorem m_234 : (Jvm.Cond.code ({ cls := "GeneralLedger", name := "apply", desc := "(IJJI)V" } : Jvm.MethodName) prog_1_method_48_code (8 : Nat) (Option.none : Option Jvm.ClassFile.FieldType)) ∈ tables_1 := List.mem_of_getElem? (i := 234) rfl
theorem m_235 : (Jvm.Cond.methodLink "GeneralLedger" (177 : Nat) ({ cls := "GeneralLedger", name := "countJournal", desc := "(J)V" } : Jvm.MethodName)) ∈ tables_1 := List.mem_of_getElem? (i := 235) rfl
theorem m_236 : (Jvm.Cond.instanceMethod ({ cls := "GeneralLedger", name := "countJournal", desc := "(J)V" } : Jvm.MethodName)) ∈ tables_1 := List.mem_of_getElem? (i := 236) rfl
theorem m_237 : (Jvm.Cond.privateMethod ({ cls := "GeneralLedger", name := "countJournal", desc := "(J)V" } : Jvm.MethodName)) ∈ tables_1 := List.mem_of_getElem? (i := 237) rfl
theorem m_238 : (Jvm.Cond.code ({ cls := "GeneralLedger", name := "countJournal", desc := "(J)V" } : Jvm.MethodName) prog_1_method_28_code (3 : Nat) (Option.none : Option Jvm.ClassFile.FieldType)) ∈ tables_1 := List.mem_of_getElem? (i := 238) rfl
theorem m_239 : (Jvm.Cond.methodLink "GeneralLedgerL3" (40 : Nat) ({ cls := "GeneralLedgerL3", name := "round", desc := "(JI)J" } : Jvm.MethodName)) ∈ tables_1 := List.mem_of_getElem? (i := 239) rfl
theorem m_240 : (Jvm.Cond.static ({ cls := "GeneralLedgerL3", name := "round", desc := "(JI)J" } : Jvm.MethodName)) ∈ tables_1 := List.mem_of_getElem? (i := 240) rfl
theorem m_241 : (Jvm.Cond.initialized "GeneralLedgerL3") ∈ tables_1 := List.mem_of_getElem? (i := 241) rfl
theorem m_242 : (Jvm.Cond.code ({ cls := "GeneralLedgerL3", name := "round", desc := "(JI)J" } : Jvm.MethodName) method_2_code (5 : Nat) (Option.some Jvm.ClassFile.FieldType.long)) ∈ tables_1 := List.mem_of_getElem? (i := 242) rfl
theorem m_243 : (Jvm.Cond.constantLong "GeneralLedgerL3" (7 : Nat) (50 : Int64)) ∈ tables_1 := List.mem_of_getElem? (i := 243) rfl
theorem m_244 : (Jvm.Cond.constantLong "GeneralLedgerL3" (9 : Nat) (100 : Int64)) ∈ tables_1 := List.mem_of_getElem? (i := 244) rfl
theorem m_245 : (Jvm.Cond.constantLong "GeneralLedgerL3" (48 : Nat) (3 : Int64)) ∈ tables_1 := List.mem_of_getElem? (i := 245) rfl
theorem m_246 : (Jvm.Cond.methodLink "GeneralLedgerL3" (50 : Nat) ({ cls := "GeneralLedger", name := "balance", desc := "(III)J" } : Jvm.MethodName)) ∈ tables_1 := List.mem_of_getElem? (i := 246) rfl
theorem m_247 : (Jvm.Cond.declares ({ cls := "GeneralLedger", name := "balance", desc := "(III)J" } : Jvm.MethodName)) ∈ tables_1 := List.mem_of_getElem? (i := 247) rfl
theorem m_248 : (Jvm.Cond.instanceMethod ({ cls := "GeneralLedger", name := "balance", desc := "(III)J" } : Jvm.MethodName)) ∈ tables_1 := List.mem_of_getElem? (i := 248) rfl
theorem m_249 : (Jvm.Cond.selects "GeneralLedger" ({ cls := "GeneralLedger", name := "balance", desc := "(III)J" } : Jvm.MethodName) ({ cls := "GeneralLedger", name := "balance", desc := "(III)J" } : Jvm.MethodName)) ∈ tables_1 := List.mem_of_getElem? (i := 249) rfl
theorem m_250 : (Jvm.Cond.code ({ cls := "GeneralLedger", name := "balance", desc := "(III)J" } : Jvm.MethodName) prog_1_method_36_code (9 : Nat) (Option.some Jvm.ClassFile.FieldType.long)) ∈ tables_1 := List.mem_of_getElem? (i := 250) rfl
theorem m_251 : (Jvm.Cond.methodLink "GeneralLedger" (231 : Nat) ({ cls := "GeneralLedger", name := "inSubtree", desc := "(II)Z" } : Jvm.MethodName)) ∈ tables_1 := List.mem_of_getElem? (i := 251) rfl
theorem m_252 : (Jvm.Cond.instanceMethod ({ cls := "GeneralLedger", name := "inSubtree", desc := "(II)Z" } : Jvm.MethodName)) ∈ tables_1 := List.mem_of_getElem? (i := 252) rfl
theorem m_253 : (Jvm.Cond.privateMethod ({ cls := "GeneralLedger", name := "inSubtree", desc := "(II)Z" } : Jvm.MethodName)) ∈ tables_1 := List.mem_of_getElem? (i := 253) rfl
theorem m_254 : (Jvm.Cond.code ({ cls := "GeneralLedger", name := "inSubtree", desc := "(II)Z" } : Jvm.MethodName) prog_1_method_37_code (5 : Nat) (Option.some Jvm.ClassFile.FieldType.boolean)) ∈ tables_1 := List.mem_of_getElem? (i := 254) rfl
theorem m_255 : (Jvm.Cond.methodLink "GeneralLedger" (234 : Nat) ({ cls := "GeneralLedger", name := "contribution", desc := "(IIII)J" } : Jvm.MethodName)) ∈ tables_1 := List.mem_of_getElem? (i := 255) rfl
theorem m_256 : (Jvm.Cond.instanceMethod ({ cls := "GeneralLedger", name := "contribution", desc := "(IIII)J" } : Jvm.MethodName)) ∈ tables_1 := List.mem_of_getElem? (i := 256) rfl
theorem m_257 : (Jvm.Cond.privateMethod ({ cls := "GeneralLedger", name := "contribution", desc := "(IIII)J" } : Jvm.MethodName)) ∈ tables_1 := List.mem_of_getElem? (i := 257) rfl
theorem m_258 : (Jvm.Cond.code ({ cls := "GeneralLedger", name := "contribution", desc := "(IIII)J" } : Jvm.MethodName) prog_1_method_38_code (5 : Nat) (Option.some Jvm.ClassFile.FieldType.long)) ∈ tables_1 := List.mem_of_getElem? (i := 258) rfl
theorem m_259 : (Jvm.Cond.methodLink "GeneralLedgerL3" (54 : Nat) ({ cls := "GeneralLedger", name := "trialBalance", desc := "(II)J" } : Jvm.MethodName)) ∈ tables_1 := List.mem_of_getElem? (i := 259) rfl
theorem m_260 : (Jvm.Cond.declares ({ cls := "GeneralLedger", name := "trialBalance", desc := "(II)J" } : Jvm.MethodName)) ∈ tables_1 := List.mem_of_getElem? (i := 260) rfl
theorem m_261 : (Jvm.Cond.instanceMethod ({ cls := "GeneralLedger", name := "trialBalance", desc := "(II)J" } : Jvm.MethodName)) ∈ tables_1 := List.mem_of_getElem? (i := 261) rfl
theorem m_262 : (Jvm.Cond.selects "GeneralLedger" ({ cls := "GeneralLedger", name := "trialBalance", desc := "(II)J" } : Jvm.MethodName) ({ cls := "GeneralLedger", name := "trialBalance", desc := "(II)J" } : Jvm.MethodName)) ∈ tables_1 := List.mem_of_getElem? (i := 262) rfl
theorem m_263 : (Jvm.Cond.code ({ cls := "GeneralLedger", name := "trialBalance", desc := "(II)J" } : Jvm.MethodName) prog_1_method_39_code (3 : Nat) (Option.some Jvm.ClassFile.FieldType.long)) ∈ tables_1 := List.mem_of_getElem? (i := 263) rfl
theorem m_264 : (Jvm.Cond.methodLink "GeneralLedger" (238 : Nat) ({ cls := "GeneralLedger", name := "trialFunc", desc := "(I)J" } : Jvm.MethodName)) ∈ tables_1 := List.mem_of_getElem? (i := 264) rfl
theorem m_265 : (Jvm.Cond.instanceMethod ({ cls := "GeneralLedger", name := "trialFunc", desc := "(I)J" } : Jvm.MethodName)) ∈ tables_1 := List.mem_of_getElem? (i := 265) rfl
theorem m_266 : (Jvm.Cond.privateMethod ({ cls := "GeneralLedger", name := "trialFunc", desc := "(I)J" } : Jvm.MethodName)) ∈ tables_1 := List.mem_of_getElem? (i := 266) rfl
theorem m_267 : (Jvm.Cond.code ({ cls := "GeneralLedger", name := "trialFunc", desc := "(I)J" } : Jvm.MethodName) prog_1_method_40_code (5 : Nat) (Option.some Jvm.ClassFile.FieldType.long)) ∈ tables_1 := List.mem_of_getElem? (i := 267) rfl
theorem m_268 : (Jvm.Cond.methodLink "GeneralLedger" (241 : Nat) ({ cls := "GeneralLedger", name := "trialTxn", desc := "(II)J" } : Jvm.MethodName)) ∈ tables_1 := List.mem_of_getElem? (i := 268) rfl
theorem m_269 : (Jvm.Cond.instanceMethod ({ cls := "GeneralLedger", name := "trialTxn", desc := "(II)J" } : Jvm.MethodName)) ∈ tables_1 := List.mem_of_getElem? (i := 269) rfl
theorem m_270 : (Jvm.Cond.privateMethod ({ cls := "GeneralLedger", name := "trialTxn", desc := "(II)J" } : Jvm.MethodName)) ∈ tables_1 := List.mem_of_getElem? (i := 270) rfl
theorem m_271 : (Jvm.Cond.code ({ cls := "GeneralLedger", name := "trialTxn", desc := "(II)J" } : Jvm.MethodName) prog_1_method_41_code (6 : Nat) (Option.some Jvm.ClassFile.FieldType.long)) ∈ tables_1 := List.mem_of_getElem? (i := 271) rfl
theorem m_272 : (Jvm.Cond.methodLink "GeneralLedgerL3" (58 : Nat) ({ cls := "GeneralLedger", name := "ledgerInfo", desc := "(II)J" } : Jvm.MethodName)) ∈ tables_1 := List.mem_of_getElem? (i := 272) rfl
theorem m_273 : (Jvm.Cond.declares ({ cls := "GeneralLedger", name := "ledgerInfo", desc := "(II)J" } : Jvm.MethodName)) ∈ tables_1 := List.mem_of_getElem? (i := 273) rfl
theorem m_274 : (Jvm.Cond.instanceMethod ({ cls := "GeneralLedger", name := "ledgerInfo", desc := "(II)J" } : Jvm.MethodName)) ∈ tables_1 := List.mem_of_getElem? (i := 274) rfl
theorem m_275 : (Jvm.Cond.selects "GeneralLedger" ({ cls := "GeneralLedger", name := "ledgerInfo", desc := "(II)J" } : Jvm.MethodName) ({ cls := "GeneralLedger", name := "ledgerInfo", desc := "(II)J" } : Jvm.MethodName)) ∈ tables_1 := List.mem_of_getElem? (i := 275) rfl
theorem m_276 : (Jvm.Cond.code ({ cls := "GeneralLedger", name := "ledgerInfo", desc := "(II)J" } : Jvm.MethodName) prog_1_method_46_code (3 : Nat) (Option.some Jvm.ClassFile.FieldType.long)) ∈ tables_1 := List.mem_of_getElem? (i := 276) rfl
theorem m_277 : (Jvm.Cond.methodLink "GeneralLedgerL3" (61 : Nat) ({ cls := "GeneralLedger", name := "accountInfo", desc := "(II)I" } : Jvm.MethodName)) ∈ tables_1 := List.mem_of_getElem? (i := 277) rfl
theorem m_278 : (Jvm.Cond.declares ({ cls := "GeneralLedger", name := "accountInfo", desc := "(II)I" } : Jvm.MethodName)) ∈ tables_1 := List.mem_of_getElem? (i := 278) rfl
theorem m_279 : (Jvm.Cond.instanceMethod ({ cls := "GeneralLedger", name := "accountInfo", desc := "(II)I" } : Jvm.MethodName)) ∈ tables_1 := List.mem_of_getElem? (i := 279) rfl
theorem m_280 : (Jvm.Cond.selects "GeneralLedger" ({ cls := "GeneralLedger", name := "accountInfo", desc := "(II)I" } : Jvm.MethodName) ({ cls := "GeneralLedger", name := "accountInfo", desc := "(II)I" } : Jvm.MethodName)) ∈ tables_1 := List.mem_of_getElem? (i := 280) rfl
theorem m_281 : (Jvm.Cond.code ({ cls := "GeneralLedger", name := "accountInfo", desc := "(II)I" } : Jvm.MethodName) prog_1_method_42_code (3 : Nat) (Option.some Jvm.ClassFile.FieldType.int)) ∈ tables_1 := List.mem_of_getElem? (i := 281) rfl
theorem m_282 : (Jvm.Cond.methodLink "GeneralLedger" (248 : Nat) ({ cls := "GeneralLedger", name := "openAccountField", desc := "(II)I" } : Jvm.MethodName)) ∈ tables_1 := List.mem_of_getElem? (i := 282) rfl
theorem m_283 : (Jvm.Cond.instanceMethod ({ cls := "GeneralLedger", name := "openAccountField", desc := "(II)I" } : Jvm.MethodName)) ∈ tables_1 := List.mem_of_getElem? (i := 283) rfl
theorem m_284 : (Jvm.Cond.privateMethod ({ cls := "GeneralLedger", name := "openAccountField", desc := "(II)I" } : Jvm.MethodName)) ∈ tables_1 := List.mem_of_getElem? (i := 284) rfl
theorem m_285 : (Jvm.Cond.code ({ cls := "GeneralLedger", name := "openAccountField", desc := "(II)I" } : Jvm.MethodName) prog_1_method_43_code (3 : Nat) (Option.some Jvm.ClassFile.FieldType.int)) ∈ tables_1 := List.mem_of_getElem? (i := 285) rfl
theorem m_286 : (Jvm.Cond.methodLink "GeneralLedger" (244 : Nat) ({ cls := "GeneralLedger", name := "boolToInt", desc := "(Z)I" } : Jvm.MethodName)) ∈ tables_1 := List.mem_of_getElem? (i := 286) rfl
theorem m_287 : (Jvm.Cond.instanceMethod ({ cls := "GeneralLedger", name := "boolToInt", desc := "(Z)I" } : Jvm.MethodName)) ∈ tables_1 := List.mem_of_getElem? (i := 287) rfl
theorem m_288 : (Jvm.Cond.privateMethod ({ cls := "GeneralLedger", name := "boolToInt", desc := "(Z)I" } : Jvm.MethodName)) ∈ tables_1 := List.mem_of_getElem? (i := 288) rfl
theorem m_289 : (Jvm.Cond.code ({ cls := "GeneralLedger", name := "boolToInt", desc := "(Z)I" } : Jvm.MethodName) prog_1_method_55_code (2 : Nat) (Option.some Jvm.ClassFile.FieldType.int)) ∈ tables_1 := List.mem_of_getElem? (i := 289) rfl
theorem m_290 : (Jvm.Cond.methodLink "GeneralLedgerL3" (64 : Nat) ({ cls := "GeneralLedger", name := "slotInfo", desc := "(III)I" } : Jvm.MethodName)) ∈ tables_1 := List.mem_of_getElem? (i := 290) rfl
theorem m_291 : (Jvm.Cond.declares ({ cls := "GeneralLedger", name := "slotInfo", desc := "(III)I" } : Jvm.MethodName)) ∈ tables_1 := List.mem_of_getElem? (i := 291) rfl
theorem m_292 : (Jvm.Cond.instanceMethod ({ cls := "GeneralLedger", name := "slotInfo", desc := "(III)I" } : Jvm.MethodName)) ∈ tables_1 := List.mem_of_getElem? (i := 292) rfl
theorem m_293 : (Jvm.Cond.selects "GeneralLedger" ({ cls := "GeneralLedger", name := "slotInfo", desc := "(III)I" } : Jvm.MethodName) ({ cls := "GeneralLedger", name := "slotInfo", desc := "(III)I" } : Jvm.MethodName)) ∈ tables_1 := List.mem_of_getElem? (i := 293) rfl
theorem m_294 : (Jvm.Cond.code ({ cls := "GeneralLedger", name := "slotInfo", desc := "(III)I" } : Jvm.MethodName) prog_1_method_44_code (4 : Nat) (Option.some Jvm.ClassFile.FieldType.int)) ∈ tables_1 := List.mem_of_getElem? (i := 294) rfl
theorem m_295 : (Jvm.Cond.constantLong "GeneralLedgerL3" (46 : Nat) (4 : Int64)) ∈ tables_1 := List.mem_of_getElem? (i := 295) rfl
theorem m_296 : (Jvm.Cond.constantLong "GeneralLedger" (254 : Nat) (-1 : Int64)) ∈ tables_1 := List.mem_of_getElem? (i := 296) rfl
theorem laid0 {Z : State} {a0 : Array Value} (hw : HW a0 Z) : LaidAll Z a0 CN lay vs0 :=
  ⟨⟨Or.inl (hw _ m_53), .int, by decide, rfl⟩, ⟨Or.inl (hw _ m_55), .int, by decide, rfl⟩, ⟨Or.inl (hw _ m_13), .array .boolean, by decide, rfl⟩, ⟨Or.inl (hw _ m_16), .array .int, by decide, rfl⟩, ⟨Or.inl (hw _ m_18), .array .int, by decide, rfl⟩, ⟨Or.inl (hw _ m_20), .array .int, by decide, rfl⟩, ⟨Or.inl (hw _ m_22), .array .int, by decide, rfl⟩, ⟨Or.inl (hw _ m_24), .array .int, by decide, rfl⟩, ⟨Or.inl (hw _ m_26), .array .boolean, by decide, rfl⟩, ⟨Or.inl (hw _ m_29), .array .long, by decide, rfl⟩, ⟨Or.inl (hw _ m_31), .array .long, by decide, rfl⟩, ⟨Or.inl (hw _ m_33), .array .int, by decide, rfl⟩, ⟨Or.inl (hw _ m_35), .array .long, by decide, rfl⟩, ⟨Or.inl (hw _ m_37), .array .boolean, by decide, rfl⟩, ⟨Or.inl (hw _ m_39), .array .int, by decide, rfl⟩, ⟨Or.inl (hw _ m_41), .array .boolean, by decide, rfl⟩, ⟨Or.inl (hw _ m_43), .array .int, by decide, rfl⟩, ⟨Or.inl (hw _ m_45), .array .int, by decide, rfl⟩, ⟨Or.inl (hw _ m_47), .array .int, by decide, rfl⟩, ⟨Or.inl (hw _ m_77), .int, by decide, rfl⟩, ⟨Or.inl (hw _ m_79), .long, by decide, rfl⟩, ⟨Or.inl (hw _ m_81), .long, by decide, rfl⟩, ⟨Or.inl (hw _ m_83), .long, by decide, rfl⟩, ⟨Or.inl (hw _ m_73), .int, by decide, rfl⟩, ⟨Or.inl (hw _ m_75), .int, by decide, rfl⟩, trivial⟩
theorem hlay {Z : State} {a0 : Array Value} (hw : HW a0 Z) : ∀ (a b : Nat) (f g : String × String), lay[a]? = some f → lay[b]? = some g → a ≠ b → RoadKit.slotOf Z CN f.1 f.2 ≠ RoadKit.slotOf Z CN g.1 g.2 := (laid0 hw).ne (by decide)
theorem vs0_ok {Z : State} {a0 : Array Value} (hw : HW a0 Z) : ∀ (i : Nat) (f : String × String) (v : Value), lay[i]? = some f → vs0[i]? = some v → Laid Z a0 CN CN f.1 f.2 ∧ ∃ ty, parseFieldDescriptor f.2 = some ty ∧ v = defaultValue ty := (laid0 hw).new
theorem pn_cls : plainName CN = true := by first | (simp [plainName, overriddenIn]; done) | decide +kernel
theorem pn_law : plainName "GeneralLedgerL3" = true := by first | (simp [plainName, overriddenIn]; done) | decide +kernel
theorem d1_0 : dc prog_1_method_2_code 0 (.iload_n 1) 1 := by decide +kernel
theorem d1_1 : dc prog_1_method_2_code 1 (.iload_n 2) 1 := by decide +kernel
theorem d1_2 : dc prog_1_method_2_code 2 (.if_icmp .ge 5) 3 := by decide +kernel
theorem d1_5 : dc prog_1_method_2_code 5 (.iload_n 2) 1 := by decide +kernel
theorem d1_6 : dc prog_1_method_2_code 6 (.ireturn) 1 := by decide +kernel
theorem d1_7 : dc prog_1_method_2_code 7 (.iload_n 1) 1 := by decide +kernel
theorem d1_8 : dc prog_1_method_2_code 8 (.iload_n 3) 1 := by decide +kernel
theorem d1_9 : dc prog_1_method_2_code 9 (.if_icmp .le 5) 3 := by decide +kernel
theorem d1_12 : dc prog_1_method_2_code 12 (.iload_n 3) 1 := by decide +kernel
theorem d1_13 : dc prog_1_method_2_code 13 (.ireturn) 1 := by decide +kernel
theorem d1_14 : dc prog_1_method_2_code 14 (.iload_n 1) 1 := by decide +kernel
theorem d1_15 : dc prog_1_method_2_code 15 (.ireturn) 1 := by decide +kernel
abbrev y1 : MethodName := ⟨"GeneralLedger", "clamp", "(III)I"⟩
theorem hy1 : y1.cls ≠ "java/lang/invoke/MethodHandle" ∧ y1.cls ≠ "java/lang/invoke/VarHandle" := by decide
theorem pd1 : parseMethodDescriptor y1.desc = some ⟨[.int, .int, .int], some .int⟩ := by decide +kernel
abbrev R1 : Room := { frames := 0, cells := 0, slots := 0, locals := 0 }
abbrev P1 (s : St) (r : Int32) : Option Value → List OwnC → Prop := fun v H' => v = some (.int r) ∧ H' = (Hb 0 s)
abbrev W1 (l : Launch) (Z : State) (n0 : Nat) (Q : Option Value → List OwnC → Prop) (k n pc : Nat) (L : List Slot) (S : List Value) (H : List OwnC) : Prop := WP l Z CN lay "GeneralLedger" "clamp" prog_1_method_2_code 4 (some FieldType.int) R1 n0 0 Q k n pc L S H
def f_clamp (p1 : Int32) (p2 : Int32) (p3 : Int32) (s : St) : Option (Int32) :=
  if p1 < p2 then
    some p2
  else
    if p3 < p1 then
      some p3
    else
      some p1
set_option maxRecDepth 65536 in
set_option maxHeartbeats 4000000 in
theorem ok1 (l : Launch) (Z : State) (a0 : Array Value) (hw : HW a0 Z) (p1 : Int32) (p2 : Int32) (p3 : Int32) (s : St) (r : Int32) (h : f_clamp p1 p2 p3 s = some r) : CS l Z CN lay y1 prog_1_method_2_code 4 (some FieldType.int) R1 0 [.ref 0, .int p1, .int p2, .int p3] (Hb 0 s) (P1 s r) := by
  refine CS.of_wp pn_cls (leb rfl) fun n0 => ?_
  show W1 l Z n0 (P1 s r) 0 0 0 [.val (.ref 0), .val (.int p1), .val (.int p2), .val (.int p3)] [] (Hb 0 s)
  unfold f_clamp at h
  refine WP.iloadN d1_0 rfl ?_
  refine WP.iloadN d1_1 rfl ?_
  rcases ite_e h with ⟨hc1, h⟩ | ⟨hc1, h⟩
  ·
    refine WP.icmpN d1_2 (XT.ii_ge_f hc1) ?_
    refine WP.iloadN d1_5 rfl ?_
    cases h
    exact WP.ireturn d1_6 rfl (leb rfl) (leb rfl) ⟨rfl, rfl⟩
  ·
    refine WP.icmpY (pc' := 7) d1_2 (XT.ii_ge_t hc1) (by decide) rfl ?_
    refine WP.iloadN d1_7 rfl ?_
    refine WP.iloadN d1_8 rfl ?_
    rcases ite_e h with ⟨hc2, h⟩ | ⟨hc2, h⟩
    ·
      refine WP.icmpN d1_9 (XT.ii_le_f hc2) ?_
      refine WP.iloadN d1_12 rfl ?_
      cases h
      exact WP.ireturn d1_13 rfl (leb rfl) (leb rfl) ⟨rfl, rfl⟩
    ·
      refine WP.icmpY (pc' := 14) d1_9 (XT.ii_le_t hc2) (by decide) rfl ?_
      refine WP.iloadN d1_14 rfl ?_
      cases h
      exact WP.ireturn d1_15 rfl (leb rfl) (leb rfl) ⟨rfl, rfl⟩
theorem d2_0 : dc prog_1_method_3_code 0 (.iconst 0) 1 := by decide +kernel
theorem d2_1 : dc prog_1_method_3_code 1 (.istore_n 1) 1 := by decide +kernel
theorem d2_2 : dc prog_1_method_3_code 2 (.iload_n 1) 1 := by decide +kernel
theorem d2_3 : dc prog_1_method_3_code 3 (.iconst 4) 1 := by decide +kernel
theorem d2_4 : dc prog_1_method_3_code 4 (.if_icmp .ge 24) 3 := by decide +kernel
theorem d2_7 : dc prog_1_method_3_code 7 (.aload_n 0) 1 := by decide +kernel
theorem d2_8 : dc prog_1_method_3_code 8 (.getfield 39) 3 := by decide +kernel
theorem d2_11 : dc prog_1_method_3_code 11 (.iload_n 1) 1 := by decide +kernel
theorem d2_12 : dc prog_1_method_3_code 12 (.bipush 100) 2 := by decide +kernel
theorem d2_14 : dc prog_1_method_3_code 14 (.iastore) 1 := by decide +kernel
theorem d2_15 : dc prog_1_method_3_code 15 (.aload_n 0) 1 := by decide +kernel
theorem d2_16 : dc prog_1_method_3_code 16 (.getfield 42) 3 := by decide +kernel
theorem d2_19 : dc prog_1_method_3_code 19 (.iload_n 1) 1 := by decide +kernel
theorem d2_20 : dc prog_1_method_3_code 20 (.lconst 0) 1 := by decide +kernel
theorem d2_21 : dc prog_1_method_3_code 21 (.lastore) 1 := by decide +kernel
theorem d2_22 : dc prog_1_method_3_code 22 (.iinc 1 1) 3 := by decide +kernel
theorem d2_25 : dc prog_1_method_3_code 25 (.goto (-23)) 3 := by decide +kernel
theorem d2_28 : dc prog_1_method_3_code 28 (.return_) 1 := by decide +kernel
abbrev y2 : MethodName := ⟨"GeneralLedger", "resetRates", "()V"⟩
theorem hy2 : y2.cls ≠ "java/lang/invoke/MethodHandle" ∧ y2.cls ≠ "java/lang/invoke/VarHandle" := by decide
theorem pd2 : parseMethodDescriptor y2.desc = some ⟨[], none⟩ := by decide +kernel
abbrev R2 : Room := { frames := 0, cells := 0, slots := 0, locals := 0 }
abbrev P2 (r : St) : Option Value → List OwnC → Prop := fun v H' => v = none ∧ H' = (Hb 0 r)
abbrev W2 (l : Launch) (Z : State) (n0 : Nat) (Q : Option Value → List OwnC → Prop) (k n pc : Nat) (L : List Slot) (S : List Value) (H : List OwnC) : Prop := WP l Z CN lay "GeneralLedger" "resetRates" prog_1_method_3_code 2 (none) R2 n0 0 Q k n pc L S H
def g_resetRates_2 (k2 : Int32 → St → Option (St)) (n : Nat) (v1 : Int32) (s : St) : Option (St) :=
  if v1 < (4 : Int32) then
    (wrA s 7 v1 (100 : Int32)).bind fun s2 =>
    (wrB s2 2 v1 (0 : Int64)).bind fun s3 =>
    lt (v1 + (1 : Int32)) fun x4 =>
    k2 x4 s3
  else
    some s
set_option maxRecDepth 65536 in
set_option maxHeartbeats 4000000 in
theorem okg2_2 (l : Launch) (Z : State) (a0 : Array Value) (hw : HW a0 Z) (n0 : Nat) (k2 : Int32 → St → Option (St)) (hk2 : ∀ (v1 : Int32) (s : St) (r : St), k2 v1 s = some r → W2 l Z n0 (P2 r) 0 0 2 [.val (.ref 0), .val (.int v1)] [] (Hb 0 s)) (n : Nat) (v1 : Int32) (s : St) (r : St) (h : g_resetRates_2 k2 n v1 s = some r) : W2 l Z n0 (P2 r) 0 0 2 [.val (.ref 0), .val (.int v1)] [] (Hb 0 s) := by
  unfold g_resetRates_2 at h
  refine WP.iloadN d2_2 rfl ?_
  refine WP.iconst (4 : Int32) d2_3 rfl ?_
  rcases ite_e h with ⟨hc1, h⟩ | ⟨hc1, h⟩
  ·
    refine WP.icmpN d2_4 (XT.ii_ge_f hc1) ?_
    refine WP.aloadN d2_7 rfl ?_
    refine WP.getfield (i := 0) (j := 11) d2_8 (hw _ m_32) rfl rfl rfl ?_
    refine WP.iloadN d2_11 rfl ?_
    refine WP.bipush (100 : Int32) d2_12 rfl ?_
    obtain ⟨s2, hs2, h⟩ := Option.bind_eq_some_iff.mp h
    obtain ⟨ys2, gs2, es2⟩ := wrA_e hs2
    refine WP.iastore (i := 10) (xs := gA s 7) (H' := (Hb 0 s2)) d2_14 rfl (leb rfl) gs2 (by subst es2; rfl) ?_
    refine WP.aloadN d2_15 rfl ?_
    refine WP.getfield (i := 0) (j := 12) d2_16 (hw _ m_34) rfl rfl rfl ?_
    refine WP.iloadN d2_19 rfl ?_
    refine WP.lconst (0 : Int64) d2_20 rfl ?_
    obtain ⟨s3, hs3, h⟩ := Option.bind_eq_some_iff.mp h
    obtain ⟨ys3, gs3, es3⟩ := wrB_e hs3
    refine WP.lastore (i := 11) (xs := gB s2 2) (H' := (Hb 0 s3)) d2_21 rfl (leb rfl) gs3 (by subst es3; rfl) ?_
    obtain ⟨x4, ex4, h⟩ := lt_e h
    refine WP.iinc (L' := [.val (.ref 0), .val (.int x4)]) (1 : Int32) d2_22 rfl rfl (by subst ex4; rfl) ?_
    refine WP.goto (pc' := 2) d2_25 (by decide) rfl ?_
    exact WP.weak (L' := [.val (.ref 0), .val (.int x4)]) ⟨rfl, rfl, trivial⟩ (hk2 x4 s3 _ h)
  ·
    refine WP.icmpY (pc' := 28) d2_4 (XT.ii_ge_t hc1) (by decide) rfl ?_
    cases h
    exact WP.vreturn d2_28 rfl (leb rfl) (leb rfl) ⟨rfl, rfl⟩
def f_resetRates_2 : Nat → Int32 → St → Option (St)
  | 0 => fun _ _ => none
  | n + 1 => g_resetRates_2 (f_resetRates_2 n) n
theorem ok2_2 (l : Launch) (Z : State) (a0 : Array Value) (hw : HW a0 Z) (n0 : Nat) : ∀ (n : Nat) (v1 : Int32) (s : St) (r : St), f_resetRates_2 n v1 s = some r → W2 l Z n0 (P2 r) 0 0 2 [.val (.ref 0), .val (.int v1)] [] (Hb 0 s)
  | 0, v1, s, r, h => nomatch (show none = some r from h)
  | n + 1, v1, s, r, h => okg2_2 l Z a0 hw n0 _ (ok2_2 l Z a0 hw n0 n) n v1 s r h
def f_resetRates (n : Nat) (s : St) : Option (St) :=
  f_resetRates_2 n (0 : Int32) s
set_option maxRecDepth 65536 in
set_option maxHeartbeats 4000000 in
theorem ok2 (l : Launch) (Z : State) (a0 : Array Value) (hw : HW a0 Z) (n : Nat) (s : St) (r : St) (h : f_resetRates n s = some r) : CS l Z CN lay y2 prog_1_method_3_code 2 (none) R2 0 [.ref 0] (Hb 0 s) (P2 r) := by
  refine CS.of_wp pn_cls (leb rfl) fun n0 => ?_
  show W2 l Z n0 (P2 r) 0 0 0 [.val (.ref 0), .unset] [] (Hb 0 s)
  unfold f_resetRates at h
  refine WP.iconst (0 : Int32) d2_0 rfl ?_
  refine WP.istoreN (L' := [.val (.ref 0), .val (.int (0 : Int32))]) d2_1 (leb rfl) rfl ?_
  exact WP.weak (L' := [.val (.ref 0), .val (.int (0 : Int32))]) ⟨rfl, rfl, trivial⟩ (ok2_2 l Z a0 hw n0 n (0 : Int32) s _ h)
theorem d3_0 : dc prog_1_method_4_code 0 (.iconst 0) 1 := by decide +kernel
theorem d3_1 : dc prog_1_method_4_code 1 (.istore_n 1) 1 := by decide +kernel
theorem d3_2 : dc prog_1_method_4_code 2 (.iload_n 1) 1 := by decide +kernel
theorem d3_3 : dc prog_1_method_4_code 3 (.bipush 32) 2 := by decide +kernel
theorem d3_5 : dc prog_1_method_4_code 5 (.if_icmp .ge 58) 3 := by decide +kernel
theorem d3_8 : dc prog_1_method_4_code 8 (.aload_n 0) 1 := by decide +kernel
theorem d3_9 : dc prog_1_method_4_code 9 (.getfield 7) 3 := by decide +kernel
theorem d3_12 : dc prog_1_method_4_code 12 (.iload_n 1) 1 := by decide +kernel
theorem d3_13 : dc prog_1_method_4_code 13 (.iconst 0) 1 := by decide +kernel
theorem d3_14 : dc prog_1_method_4_code 14 (.bastore) 1 := by decide +kernel
theorem d3_15 : dc prog_1_method_4_code 15 (.aload_n 0) 1 := by decide +kernel
theorem d3_16 : dc prog_1_method_4_code 16 (.getfield 13) 3 := by decide +kernel
theorem d3_19 : dc prog_1_method_4_code 19 (.iload_n 1) 1 := by decide +kernel
theorem d3_20 : dc prog_1_method_4_code 20 (.iconst (-1)) 1 := by decide +kernel
theorem d3_21 : dc prog_1_method_4_code 21 (.iastore) 1 := by decide +kernel
theorem d3_22 : dc prog_1_method_4_code 22 (.aload_n 0) 1 := by decide +kernel
theorem d3_23 : dc prog_1_method_4_code 23 (.getfield 17) 3 := by decide +kernel
theorem d3_26 : dc prog_1_method_4_code 26 (.iload_n 1) 1 := by decide +kernel
theorem d3_27 : dc prog_1_method_4_code 27 (.iconst 0) 1 := by decide +kernel
theorem d3_28 : dc prog_1_method_4_code 28 (.iastore) 1 := by decide +kernel
theorem d3_29 : dc prog_1_method_4_code 29 (.aload_n 0) 1 := by decide +kernel
theorem d3_30 : dc prog_1_method_4_code 30 (.getfield 20) 3 := by decide +kernel
theorem d3_33 : dc prog_1_method_4_code 33 (.iload_n 1) 1 := by decide +kernel
theorem d3_34 : dc prog_1_method_4_code 34 (.iconst 0) 1 := by decide +kernel
theorem d3_35 : dc prog_1_method_4_code 35 (.iastore) 1 := by decide +kernel
theorem d3_36 : dc prog_1_method_4_code 36 (.aload_n 0) 1 := by decide +kernel
theorem d3_37 : dc prog_1_method_4_code 37 (.getfield 23) 3 := by decide +kernel
theorem d3_40 : dc prog_1_method_4_code 40 (.iload_n 1) 1 := by decide +kernel
theorem d3_41 : dc prog_1_method_4_code 41 (.iconst 0) 1 := by decide +kernel
theorem d3_42 : dc prog_1_method_4_code 42 (.iastore) 1 := by decide +kernel
theorem d3_43 : dc prog_1_method_4_code 43 (.aload_n 0) 1 := by decide +kernel
theorem d3_44 : dc prog_1_method_4_code 44 (.getfield 26) 3 := by decide +kernel
theorem d3_47 : dc prog_1_method_4_code 47 (.iload_n 1) 1 := by decide +kernel
theorem d3_48 : dc prog_1_method_4_code 48 (.iconst 0) 1 := by decide +kernel
theorem d3_49 : dc prog_1_method_4_code 49 (.iastore) 1 := by decide +kernel
theorem d3_50 : dc prog_1_method_4_code 50 (.aload_n 0) 1 := by decide +kernel
theorem d3_51 : dc prog_1_method_4_code 51 (.getfield 29) 3 := by decide +kernel
theorem d3_54 : dc prog_1_method_4_code 54 (.iload_n 1) 1 := by decide +kernel
theorem d3_55 : dc prog_1_method_4_code 55 (.iconst 0) 1 := by decide +kernel
theorem d3_56 : dc prog_1_method_4_code 56 (.bastore) 1 := by decide +kernel
theorem d3_57 : dc prog_1_method_4_code 57 (.iinc 1 1) 3 := by decide +kernel
theorem d3_60 : dc prog_1_method_4_code 60 (.goto (-58)) 3 := by decide +kernel
theorem d3_63 : dc prog_1_method_4_code 63 (.iconst 0) 1 := by decide +kernel
theorem d3_64 : dc prog_1_method_4_code 64 (.istore_n 1) 1 := by decide +kernel
theorem d3_65 : dc prog_1_method_4_code 65 (.iload_n 1) 1 := by decide +kernel
theorem d3_66 : dc prog_1_method_4_code 66 (.sipush 384) 3 := by decide +kernel
theorem d3_69 : dc prog_1_method_4_code 69 (.if_icmp .ge 23) 3 := by decide +kernel
theorem d3_72 : dc prog_1_method_4_code 72 (.aload_n 0) 1 := by decide +kernel
theorem d3_73 : dc prog_1_method_4_code 73 (.getfield 32) 3 := by decide +kernel
theorem d3_76 : dc prog_1_method_4_code 76 (.iload_n 1) 1 := by decide +kernel
theorem d3_77 : dc prog_1_method_4_code 77 (.lconst 0) 1 := by decide +kernel
theorem d3_78 : dc prog_1_method_4_code 78 (.lastore) 1 := by decide +kernel
theorem d3_79 : dc prog_1_method_4_code 79 (.aload_n 0) 1 := by decide +kernel
theorem d3_80 : dc prog_1_method_4_code 80 (.getfield 36) 3 := by decide +kernel
theorem d3_83 : dc prog_1_method_4_code 83 (.iload_n 1) 1 := by decide +kernel
theorem d3_84 : dc prog_1_method_4_code 84 (.lconst 0) 1 := by decide +kernel
theorem d3_85 : dc prog_1_method_4_code 85 (.lastore) 1 := by decide +kernel
theorem d3_86 : dc prog_1_method_4_code 86 (.iinc 1 1) 3 := by decide +kernel
theorem d3_89 : dc prog_1_method_4_code 89 (.goto (-24)) 3 := by decide +kernel
theorem d3_92 : dc prog_1_method_4_code 92 (.return_) 1 := by decide +kernel
abbrev y3 : MethodName := ⟨"GeneralLedger", "resetAccounts", "()V"⟩
theorem hy3 : y3.cls ≠ "java/lang/invoke/MethodHandle" ∧ y3.cls ≠ "java/lang/invoke/VarHandle" := by decide
theorem pd3 : parseMethodDescriptor y3.desc = some ⟨[], none⟩ := by decide +kernel
abbrev R3 : Room := { frames := 0, cells := 0, slots := 0, locals := 0 }
abbrev P3 (r : St) : Option Value → List OwnC → Prop := fun v H' => v = none ∧ H' = (Hb 0 r)
abbrev W3 (l : Launch) (Z : State) (n0 : Nat) (Q : Option Value → List OwnC → Prop) (k n pc : Nat) (L : List Slot) (S : List Value) (H : List OwnC) : Prop := WP l Z CN lay "GeneralLedger" "resetAccounts" prog_1_method_4_code 2 (none) R3 n0 0 Q k n pc L S H
def g_resetAccounts_65 (k65 : Int32 → St → Option (St)) (n : Nat) (v1 : Int32) (s : St) : Option (St) :=
  if v1 < (384 : Int32) then
    (wrB s 0 v1 (0 : Int64)).bind fun s2 =>
    (wrB s2 1 v1 (0 : Int64)).bind fun s3 =>
    lt (v1 + (1 : Int32)) fun x4 =>
    k65 x4 s3
  else
    some s
set_option maxRecDepth 65536 in
set_option maxHeartbeats 4000000 in
theorem okg3_65 (l : Launch) (Z : State) (a0 : Array Value) (hw : HW a0 Z) (n0 : Nat) (k65 : Int32 → St → Option (St)) (hk65 : ∀ (v1 : Int32) (s : St) (r : St), k65 v1 s = some r → W3 l Z n0 (P3 r) 0 0 65 [.val (.ref 0), .val (.int v1)] [] (Hb 0 s)) (n : Nat) (v1 : Int32) (s : St) (r : St) (h : g_resetAccounts_65 k65 n v1 s = some r) : W3 l Z n0 (P3 r) 0 0 65 [.val (.ref 0), .val (.int v1)] [] (Hb 0 s) := by
  unfold g_resetAccounts_65 at h
  refine WP.iloadN d3_65 rfl ?_
  refine WP.sipush (384 : Int32) d3_66 rfl ?_
  rcases ite_e h with ⟨hc1, h⟩ | ⟨hc1, h⟩
  ·
    refine WP.icmpN d3_69 (XT.ii_ge_f hc1) ?_
    refine WP.aloadN d3_72 rfl ?_
    refine WP.getfield (i := 0) (j := 9) d3_73 (hw _ m_28) rfl rfl rfl ?_
    refine WP.iloadN d3_76 rfl ?_
    refine WP.lconst (0 : Int64) d3_77 rfl ?_
    obtain ⟨s2, hs2, h⟩ := Option.bind_eq_some_iff.mp h
    obtain ⟨ys2, gs2, es2⟩ := wrB_e hs2
    refine WP.lastore (i := 8) (xs := gB s 0) (H' := (Hb 0 s2)) d3_78 rfl (leb rfl) gs2 (by subst es2; rfl) ?_
    refine WP.aloadN d3_79 rfl ?_
    refine WP.getfield (i := 0) (j := 10) d3_80 (hw _ m_30) rfl rfl rfl ?_
    refine WP.iloadN d3_83 rfl ?_
    refine WP.lconst (0 : Int64) d3_84 rfl ?_
    obtain ⟨s3, hs3, h⟩ := Option.bind_eq_some_iff.mp h
    obtain ⟨ys3, gs3, es3⟩ := wrB_e hs3
    refine WP.lastore (i := 9) (xs := gB s2 1) (H' := (Hb 0 s3)) d3_85 rfl (leb rfl) gs3 (by subst es3; rfl) ?_
    obtain ⟨x4, ex4, h⟩ := lt_e h
    refine WP.iinc (L' := [.val (.ref 0), .val (.int x4)]) (1 : Int32) d3_86 rfl rfl (by subst ex4; rfl) ?_
    refine WP.goto (pc' := 65) d3_89 (by decide) rfl ?_
    exact WP.weak (L' := [.val (.ref 0), .val (.int x4)]) ⟨rfl, rfl, trivial⟩ (hk65 x4 s3 _ h)
  ·
    refine WP.icmpY (pc' := 92) d3_69 (XT.ii_ge_t hc1) (by decide) rfl ?_
    cases h
    exact WP.vreturn d3_92 rfl (leb rfl) (leb rfl) ⟨rfl, rfl⟩
def f_resetAccounts_65 : Nat → Int32 → St → Option (St)
  | 0 => fun _ _ => none
  | n + 1 => g_resetAccounts_65 (f_resetAccounts_65 n) n
theorem ok3_65 (l : Launch) (Z : State) (a0 : Array Value) (hw : HW a0 Z) (n0 : Nat) : ∀ (n : Nat) (v1 : Int32) (s : St) (r : St), f_resetAccounts_65 n v1 s = some r → W3 l Z n0 (P3 r) 0 0 65 [.val (.ref 0), .val (.int v1)] [] (Hb 0 s)
  | 0, v1, s, r, h => nomatch (show none = some r from h)
  | n + 1, v1, s, r, h => okg3_65 l Z a0 hw n0 _ (ok3_65 l Z a0 hw n0 n) n v1 s r h
def g_resetAccounts_2 (k2 : Int32 → St → Option (St)) (n : Nat) (v1 : Int32) (s : St) : Option (St) :=
  if v1 < (32 : Int32) then
    (wrA s 0 v1 (0 : Int32)).bind fun s2 =>
    (wrA s2 1 v1 (-1 : Int32)).bind fun s3 =>
    (wrA s3 2 v1 (0 : Int32)).bind fun s4 =>
    (wrA s4 3 v1 (0 : Int32)).bind fun s5 =>
    (wrA s5 4 v1 (0 : Int32)).bind fun s6 =>
    (wrA s6 5 v1 (0 : Int32)).bind fun s7 =>
    (wrA s7 6 v1 (0 : Int32)).bind fun s8 =>
    lt (v1 + (1 : Int32)) fun x9 =>
    k2 x9 s8
  else
    f_resetAccounts_65 n (0 : Int32) s
set_option maxRecDepth 65536 in
set_option maxHeartbeats 4000000 in
theorem okg3_2 (l : Launch) (Z : State) (a0 : Array Value) (hw : HW a0 Z) (n0 : Nat) (k2 : Int32 → St → Option (St)) (hk2 : ∀ (v1 : Int32) (s : St) (r : St), k2 v1 s = some r → W3 l Z n0 (P3 r) 0 0 2 [.val (.ref 0), .val (.int v1)] [] (Hb 0 s)) (n : Nat) (v1 : Int32) (s : St) (r : St) (h : g_resetAccounts_2 k2 n v1 s = some r) : W3 l Z n0 (P3 r) 0 0 2 [.val (.ref 0), .val (.int v1)] [] (Hb 0 s) := by
  unfold g_resetAccounts_2 at h
  refine WP.iloadN d3_2 rfl ?_
  refine WP.bipush (32 : Int32) d3_3 rfl ?_
  rcases ite_e h with ⟨hc1, h⟩ | ⟨hc1, h⟩
  ·
    refine WP.icmpN d3_5 (XT.ii_ge_f hc1) ?_
    refine WP.aloadN d3_8 rfl ?_
    refine WP.getfield (i := 0) (j := 2) d3_9 (hw _ m_12) rfl rfl rfl ?_
    refine WP.iloadN d3_12 rfl ?_
    refine WP.iconst (0 : Int32) d3_13 rfl ?_
    obtain ⟨s2, hs2, h⟩ := Option.bind_eq_some_iff.mp h
    obtain ⟨ys2, gs2, es2⟩ := wrA_e hs2
    refine WP.bastore (i := 1) (xs := gA s 0) (H' := (Hb 0 s2)) d3_14 rfl (leb rfl) gs2 (by subst es2; rfl) ?_
    refine WP.aloadN d3_15 rfl ?_
    refine WP.getfield (i := 0) (j := 3) d3_16 (hw _ m_15) rfl rfl rfl ?_
    refine WP.iloadN d3_19 rfl ?_
    refine WP.iconst (-1 : Int32) d3_20 rfl ?_
    obtain ⟨s3, hs3, h⟩ := Option.bind_eq_some_iff.mp h
    obtain ⟨ys3, gs3, es3⟩ := wrA_e hs3
    refine WP.iastore (i := 2) (xs := gA s2 1) (H' := (Hb 0 s3)) d3_21 rfl (leb rfl) gs3 (by subst es3; rfl) ?_
    refine WP.aloadN d3_22 rfl ?_
    refine WP.getfield (i := 0) (j := 4) d3_23 (hw _ m_17) rfl rfl rfl ?_
    refine WP.iloadN d3_26 rfl ?_
    refine WP.iconst (0 : Int32) d3_27 rfl ?_
    obtain ⟨s4, hs4, h⟩ := Option.bind_eq_some_iff.mp h
    obtain ⟨ys4, gs4, es4⟩ := wrA_e hs4
    refine WP.iastore (i := 3) (xs := gA s3 2) (H' := (Hb 0 s4)) d3_28 rfl (leb rfl) gs4 (by subst es4; rfl) ?_
    refine WP.aloadN d3_29 rfl ?_
    refine WP.getfield (i := 0) (j := 5) d3_30 (hw _ m_19) rfl rfl rfl ?_
    refine WP.iloadN d3_33 rfl ?_
    refine WP.iconst (0 : Int32) d3_34 rfl ?_
    obtain ⟨s5, hs5, h⟩ := Option.bind_eq_some_iff.mp h
    obtain ⟨ys5, gs5, es5⟩ := wrA_e hs5
    refine WP.iastore (i := 4) (xs := gA s4 3) (H' := (Hb 0 s5)) d3_35 rfl (leb rfl) gs5 (by subst es5; rfl) ?_
    refine WP.aloadN d3_36 rfl ?_
    refine WP.getfield (i := 0) (j := 6) d3_37 (hw _ m_21) rfl rfl rfl ?_
    refine WP.iloadN d3_40 rfl ?_
    refine WP.iconst (0 : Int32) d3_41 rfl ?_
    obtain ⟨s6, hs6, h⟩ := Option.bind_eq_some_iff.mp h
    obtain ⟨ys6, gs6, es6⟩ := wrA_e hs6
    refine WP.iastore (i := 5) (xs := gA s5 4) (H' := (Hb 0 s6)) d3_42 rfl (leb rfl) gs6 (by subst es6; rfl) ?_
    refine WP.aloadN d3_43 rfl ?_
    refine WP.getfield (i := 0) (j := 7) d3_44 (hw _ m_23) rfl rfl rfl ?_
    refine WP.iloadN d3_47 rfl ?_
    refine WP.iconst (0 : Int32) d3_48 rfl ?_
    obtain ⟨s7, hs7, h⟩ := Option.bind_eq_some_iff.mp h
    obtain ⟨ys7, gs7, es7⟩ := wrA_e hs7
    refine WP.iastore (i := 6) (xs := gA s6 5) (H' := (Hb 0 s7)) d3_49 rfl (leb rfl) gs7 (by subst es7; rfl) ?_
    refine WP.aloadN d3_50 rfl ?_
    refine WP.getfield (i := 0) (j := 8) d3_51 (hw _ m_25) rfl rfl rfl ?_
    refine WP.iloadN d3_54 rfl ?_
    refine WP.iconst (0 : Int32) d3_55 rfl ?_
    obtain ⟨s8, hs8, h⟩ := Option.bind_eq_some_iff.mp h
    obtain ⟨ys8, gs8, es8⟩ := wrA_e hs8
    refine WP.bastore (i := 7) (xs := gA s7 6) (H' := (Hb 0 s8)) d3_56 rfl (leb rfl) gs8 (by subst es8; rfl) ?_
    obtain ⟨x9, ex9, h⟩ := lt_e h
    refine WP.iinc (L' := [.val (.ref 0), .val (.int x9)]) (1 : Int32) d3_57 rfl rfl (by subst ex9; rfl) ?_
    refine WP.goto (pc' := 2) d3_60 (by decide) rfl ?_
    exact WP.weak (L' := [.val (.ref 0), .val (.int x9)]) ⟨rfl, rfl, trivial⟩ (hk2 x9 s8 _ h)
  ·
    refine WP.icmpY (pc' := 63) d3_5 (XT.ii_ge_t hc1) (by decide) rfl ?_
    refine WP.iconst (0 : Int32) d3_63 rfl ?_
    refine WP.istoreN (L' := [.val (.ref 0), .val (.int (0 : Int32))]) d3_64 (leb rfl) rfl ?_
    exact WP.weak (L' := [.val (.ref 0), .val (.int (0 : Int32))]) ⟨rfl, rfl, trivial⟩ (ok3_65 l Z a0 hw n0 n (0 : Int32) s _ h)
def f_resetAccounts_2 : Nat → Int32 → St → Option (St)
  | 0 => fun _ _ => none
  | n + 1 => g_resetAccounts_2 (f_resetAccounts_2 n) n
theorem ok3_2 (l : Launch) (Z : State) (a0 : Array Value) (hw : HW a0 Z) (n0 : Nat) : ∀ (n : Nat) (v1 : Int32) (s : St) (r : St), f_resetAccounts_2 n v1 s = some r → W3 l Z n0 (P3 r) 0 0 2 [.val (.ref 0), .val (.int v1)] [] (Hb 0 s)
  | 0, v1, s, r, h => nomatch (show none = some r from h)
  | n + 1, v1, s, r, h => okg3_2 l Z a0 hw n0 _ (ok3_2 l Z a0 hw n0 n) n v1 s r h
def f_resetAccounts (n : Nat) (s : St) : Option (St) :=
  f_resetAccounts_2 n (0 : Int32) s
set_option maxRecDepth 65536 in
set_option maxHeartbeats 4000000 in
theorem ok3 (l : Launch) (Z : State) (a0 : Array Value) (hw : HW a0 Z) (n : Nat) (s : St) (r : St) (h : f_resetAccounts n s = some r) : CS l Z CN lay y3 prog_1_method_4_code 2 (none) R3 0 [.ref 0] (Hb 0 s) (P3 r) := by
  refine CS.of_wp pn_cls (leb rfl) fun n0 => ?_
  show W3 l Z n0 (P3 r) 0 0 0 [.val (.ref 0), .unset] [] (Hb 0 s)
  unfold f_resetAccounts at h
  refine WP.iconst (0 : Int32) d3_0 rfl ?_
  refine WP.istoreN (L' := [.val (.ref 0), .val (.int (0 : Int32))]) d3_1 (leb rfl) rfl ?_
  exact WP.weak (L' := [.val (.ref 0), .val (.int (0 : Int32))]) ⟨rfl, rfl, trivial⟩ (ok3_2 l Z a0 hw n0 n (0 : Int32) s _ h)
theorem d5_0 : dc prog_1_method_17_code 0 (.aload_n 0) 1 := by decide +kernel
theorem d5_1 : dc prog_1_method_17_code 1 (.getfield 45) 3 := by decide +kernel
theorem d5_4 : dc prog_1_method_17_code 4 (.iload_n 1) 1 := by decide +kernel
theorem d5_5 : dc prog_1_method_17_code 5 (.iconst 0) 1 := by decide +kernel
theorem d5_6 : dc prog_1_method_17_code 6 (.bastore) 1 := by decide +kernel
theorem d5_7 : dc prog_1_method_17_code 7 (.aload_n 0) 1 := by decide +kernel
theorem d5_8 : dc prog_1_method_17_code 8 (.getfield 48) 3 := by decide +kernel
theorem d5_11 : dc prog_1_method_17_code 11 (.iload_n 1) 1 := by decide +kernel
theorem d5_12 : dc prog_1_method_17_code 12 (.iconst 0) 1 := by decide +kernel
theorem d5_13 : dc prog_1_method_17_code 13 (.iastore) 1 := by decide +kernel
theorem d5_14 : dc prog_1_method_17_code 14 (.aload_n 0) 1 := by decide +kernel
theorem d5_15 : dc prog_1_method_17_code 15 (.getfield 51) 3 := by decide +kernel
theorem d5_18 : dc prog_1_method_17_code 18 (.iload_n 1) 1 := by decide +kernel
theorem d5_19 : dc prog_1_method_17_code 19 (.iconst 0) 1 := by decide +kernel
theorem d5_20 : dc prog_1_method_17_code 20 (.bastore) 1 := by decide +kernel
theorem d5_21 : dc prog_1_method_17_code 21 (.aload_n 0) 1 := by decide +kernel
theorem d5_22 : dc prog_1_method_17_code 22 (.getfield 54) 3 := by decide +kernel
theorem d5_25 : dc prog_1_method_17_code 25 (.iload_n 1) 1 := by decide +kernel
theorem d5_26 : dc prog_1_method_17_code 26 (.iconst 0) 1 := by decide +kernel
theorem d5_27 : dc prog_1_method_17_code 27 (.iastore) 1 := by decide +kernel
theorem d5_28 : dc prog_1_method_17_code 28 (.return_) 1 := by decide +kernel
abbrev y5 : MethodName := ⟨"GeneralLedger", "freeSlot", "(I)V"⟩
theorem hy5 : y5.cls ≠ "java/lang/invoke/MethodHandle" ∧ y5.cls ≠ "java/lang/invoke/VarHandle" := by decide
theorem pd5 : parseMethodDescriptor y5.desc = some ⟨[.int], none⟩ := by decide +kernel
abbrev R5 : Room := { frames := 0, cells := 0, slots := 0, locals := 0 }
abbrev P5 (r : St) : Option Value → List OwnC → Prop := fun v H' => v = none ∧ H' = (Hb 0 r)
abbrev W5 (l : Launch) (Z : State) (n0 : Nat) (Q : Option Value → List OwnC → Prop) (k n pc : Nat) (L : List Slot) (S : List Value) (H : List OwnC) : Prop := WP l Z CN lay "GeneralLedger" "freeSlot" prog_1_method_17_code 2 (none) R5 n0 0 Q k n pc L S H
def f_freeSlot (p1 : Int32) (s : St) : Option (St) :=
  (wrA s 8 p1 (0 : Int32)).bind fun s1 =>
  (wrA s1 9 p1 (0 : Int32)).bind fun s2 =>
  (wrA s2 10 p1 (0 : Int32)).bind fun s3 =>
  (wrA s3 11 p1 (0 : Int32)).bind fun s4 =>
  some s4
set_option maxRecDepth 65536 in
set_option maxHeartbeats 4000000 in
theorem ok5 (l : Launch) (Z : State) (a0 : Array Value) (hw : HW a0 Z) (p1 : Int32) (s : St) (r : St) (h : f_freeSlot p1 s = some r) : CS l Z CN lay y5 prog_1_method_17_code 2 (none) R5 0 [.ref 0, .int p1] (Hb 0 s) (P5 r) := by
  refine CS.of_wp pn_cls (leb rfl) fun n0 => ?_
  show W5 l Z n0 (P5 r) 0 0 0 [.val (.ref 0), .val (.int p1)] [] (Hb 0 s)
  unfold f_freeSlot at h
  refine WP.aloadN d5_0 rfl ?_
  refine WP.getfield (i := 0) (j := 13) d5_1 (hw _ m_36) rfl rfl rfl ?_
  refine WP.iloadN d5_4 rfl ?_
  refine WP.iconst (0 : Int32) d5_5 rfl ?_
  obtain ⟨s1, hs1, h⟩ := Option.bind_eq_some_iff.mp h
  obtain ⟨ys1, gs1, es1⟩ := wrA_e hs1
  refine WP.bastore (i := 12) (xs := gA s 8) (H' := (Hb 0 s1)) d5_6 rfl (leb rfl) gs1 (by subst es1; rfl) ?_
  refine WP.aloadN d5_7 rfl ?_
  refine WP.getfield (i := 0) (j := 14) d5_8 (hw _ m_38) rfl rfl rfl ?_
  refine WP.iloadN d5_11 rfl ?_
  refine WP.iconst (0 : Int32) d5_12 rfl ?_
  obtain ⟨s2, hs2, h⟩ := Option.bind_eq_some_iff.mp h
  obtain ⟨ys2, gs2, es2⟩ := wrA_e hs2
  refine WP.iastore (i := 13) (xs := gA s1 9) (H' := (Hb 0 s2)) d5_13 rfl (leb rfl) gs2 (by subst es2; rfl) ?_
  refine WP.aloadN d5_14 rfl ?_
  refine WP.getfield (i := 0) (j := 15) d5_15 (hw _ m_40) rfl rfl rfl ?_
  refine WP.iloadN d5_18 rfl ?_
  refine WP.iconst (0 : Int32) d5_19 rfl ?_
  obtain ⟨s3, hs3, h⟩ := Option.bind_eq_some_iff.mp h
  obtain ⟨ys3, gs3, es3⟩ := wrA_e hs3
  refine WP.bastore (i := 14) (xs := gA s2 10) (H' := (Hb 0 s3)) d5_20 rfl (leb rfl) gs3 (by subst es3; rfl) ?_
  refine WP.aloadN d5_21 rfl ?_
  refine WP.getfield (i := 0) (j := 16) d5_22 (hw _ m_42) rfl rfl rfl ?_
  refine WP.iloadN d5_25 rfl ?_
  refine WP.iconst (0 : Int32) d5_26 rfl ?_
  obtain ⟨s4, hs4, h⟩ := Option.bind_eq_some_iff.mp h
  obtain ⟨ys4, gs4, es4⟩ := wrA_e hs4
  refine WP.iastore (i := 15) (xs := gA s3 11) (H' := (Hb 0 s4)) d5_27 rfl (leb rfl) gs4 (by subst es4; rfl) ?_
  cases h
  exact WP.vreturn d5_28 rfl (leb rfl) (leb rfl) ⟨rfl, rfl⟩
theorem d4_0 : dc prog_1_method_5_code 0 (.iconst 0) 1 := by decide +kernel
theorem d4_1 : dc prog_1_method_5_code 1 (.istore_n 1) 1 := by decide +kernel
theorem d4_2 : dc prog_1_method_5_code 2 (.iload_n 1) 1 := by decide +kernel
theorem d4_3 : dc prog_1_method_5_code 3 (.iconst 4) 1 := by decide +kernel
theorem d4_4 : dc prog_1_method_5_code 4 (.if_icmp .ge 14) 3 := by decide +kernel
theorem d4_7 : dc prog_1_method_5_code 7 (.aload_n 0) 1 := by decide +kernel
theorem d4_8 : dc prog_1_method_5_code 8 (.iload_n 1) 1 := by decide +kernel
theorem d4_9 : dc prog_1_method_5_code 9 (.invokevirtual 102) 3 := by decide +kernel
theorem d4_12 : dc prog_1_method_5_code 12 (.iinc 1 1) 3 := by decide +kernel
theorem d4_15 : dc prog_1_method_5_code 15 (.goto (-13)) 3 := by decide +kernel
theorem d4_18 : dc prog_1_method_5_code 18 (.iconst 0) 1 := by decide +kernel
theorem d4_19 : dc prog_1_method_5_code 19 (.istore_n 1) 1 := by decide +kernel
theorem d4_20 : dc prog_1_method_5_code 20 (.iload_n 1) 1 := by decide +kernel
theorem d4_21 : dc prog_1_method_5_code 21 (.bipush 64) 2 := by decide +kernel
theorem d4_23 : dc prog_1_method_5_code 23 (.if_icmp .ge 23) 3 := by decide +kernel
theorem d4_26 : dc prog_1_method_5_code 26 (.aload_n 0) 1 := by decide +kernel
theorem d4_27 : dc prog_1_method_5_code 27 (.getfield 57) 3 := by decide +kernel
theorem d4_30 : dc prog_1_method_5_code 30 (.iload_n 1) 1 := by decide +kernel
theorem d4_31 : dc prog_1_method_5_code 31 (.iconst 0) 1 := by decide +kernel
theorem d4_32 : dc prog_1_method_5_code 32 (.iastore) 1 := by decide +kernel
theorem d4_33 : dc prog_1_method_5_code 33 (.aload_n 0) 1 := by decide +kernel
theorem d4_34 : dc prog_1_method_5_code 34 (.getfield 60) 3 := by decide +kernel
theorem d4_37 : dc prog_1_method_5_code 37 (.iload_n 1) 1 := by decide +kernel
theorem d4_38 : dc prog_1_method_5_code 38 (.iconst 0) 1 := by decide +kernel
theorem d4_39 : dc prog_1_method_5_code 39 (.iastore) 1 := by decide +kernel
theorem d4_40 : dc prog_1_method_5_code 40 (.iinc 1 1) 3 := by decide +kernel
theorem d4_43 : dc prog_1_method_5_code 43 (.goto (-23)) 3 := by decide +kernel
theorem d4_46 : dc prog_1_method_5_code 46 (.return_) 1 := by decide +kernel
abbrev y4 : MethodName := ⟨"GeneralLedger", "resetSlots", "()V"⟩
theorem hy4 : y4.cls ≠ "java/lang/invoke/MethodHandle" ∧ y4.cls ≠ "java/lang/invoke/VarHandle" := by decide
theorem pd4 : parseMethodDescriptor y4.desc = some ⟨[], none⟩ := by decide +kernel
abbrev R4 : Room := { frames := 1, cells := 0, slots := 0, locals := 13 }
abbrev P4 (r : St) : Option Value → List OwnC → Prop := fun v H' => v = none ∧ H' = (Hb 0 r)
abbrev W4 (l : Launch) (Z : State) (n0 : Nat) (Q : Option Value → List OwnC → Prop) (k n pc : Nat) (L : List Slot) (S : List Value) (H : List OwnC) : Prop := WP l Z CN lay "GeneralLedger" "resetSlots" prog_1_method_5_code 2 (none) R4 n0 0 Q k n pc L S H
def g_resetSlots_20 (k20 : Int32 → St → Option (St)) (n : Nat) (v1 : Int32) (s : St) : Option (St) :=
  if v1 < (64 : Int32) then
    (wrA s 12 v1 (0 : Int32)).bind fun s2 =>
    (wrA s2 13 v1 (0 : Int32)).bind fun s3 =>
    lt (v1 + (1 : Int32)) fun x4 =>
    k20 x4 s3
  else
    some s
set_option maxRecDepth 65536 in
set_option maxHeartbeats 4000000 in
theorem okg4_20 (l : Launch) (Z : State) (a0 : Array Value) (hw : HW a0 Z) (n0 : Nat) (k20 : Int32 → St → Option (St)) (hk20 : ∀ (v1 : Int32) (s : St) (r : St), k20 v1 s = some r → W4 l Z n0 (P4 r) 0 0 20 [.val (.ref 0), .val (.int v1)] [] (Hb 0 s)) (n : Nat) (v1 : Int32) (s : St) (r : St) (h : g_resetSlots_20 k20 n v1 s = some r) : W4 l Z n0 (P4 r) 0 0 20 [.val (.ref 0), .val (.int v1)] [] (Hb 0 s) := by
  unfold g_resetSlots_20 at h
  refine WP.iloadN d4_20 rfl ?_
  refine WP.bipush (64 : Int32) d4_21 rfl ?_
  rcases ite_e h with ⟨hc1, h⟩ | ⟨hc1, h⟩
  ·
    refine WP.icmpN d4_23 (XT.ii_ge_f hc1) ?_
    refine WP.aloadN d4_26 rfl ?_
    refine WP.getfield (i := 0) (j := 17) d4_27 (hw _ m_44) rfl rfl rfl ?_
    refine WP.iloadN d4_30 rfl ?_
    refine WP.iconst (0 : Int32) d4_31 rfl ?_
    obtain ⟨s2, hs2, h⟩ := Option.bind_eq_some_iff.mp h
    obtain ⟨ys2, gs2, es2⟩ := wrA_e hs2
    refine WP.iastore (i := 16) (xs := gA s 12) (H' := (Hb 0 s2)) d4_32 rfl (leb rfl) gs2 (by subst es2; rfl) ?_
    refine WP.aloadN d4_33 rfl ?_
    refine WP.getfield (i := 0) (j := 18) d4_34 (hw _ m_46) rfl rfl rfl ?_
    refine WP.iloadN d4_37 rfl ?_
    refine WP.iconst (0 : Int32) d4_38 rfl ?_
    obtain ⟨s3, hs3, h⟩ := Option.bind_eq_some_iff.mp h
    obtain ⟨ys3, gs3, es3⟩ := wrA_e hs3
    refine WP.iastore (i := 17) (xs := gA s2 13) (H' := (Hb 0 s3)) d4_39 rfl (leb rfl) gs3 (by subst es3; rfl) ?_
    obtain ⟨x4, ex4, h⟩ := lt_e h
    refine WP.iinc (L' := [.val (.ref 0), .val (.int x4)]) (1 : Int32) d4_40 rfl rfl (by subst ex4; rfl) ?_
    refine WP.goto (pc' := 20) d4_43 (by decide) rfl ?_
    exact WP.weak (L' := [.val (.ref 0), .val (.int x4)]) ⟨rfl, rfl, trivial⟩ (hk20 x4 s3 _ h)
  ·
    refine WP.icmpY (pc' := 46) d4_23 (XT.ii_ge_t hc1) (by decide) rfl ?_
    cases h
    exact WP.vreturn d4_46 rfl (leb rfl) (leb rfl) ⟨rfl, rfl⟩
def f_resetSlots_20 : Nat → Int32 → St → Option (St)
  | 0 => fun _ _ => none
  | n + 1 => g_resetSlots_20 (f_resetSlots_20 n) n
theorem ok4_20 (l : Launch) (Z : State) (a0 : Array Value) (hw : HW a0 Z) (n0 : Nat) : ∀ (n : Nat) (v1 : Int32) (s : St) (r : St), f_resetSlots_20 n v1 s = some r → W4 l Z n0 (P4 r) 0 0 20 [.val (.ref 0), .val (.int v1)] [] (Hb 0 s)
  | 0, v1, s, r, h => nomatch (show none = some r from h)
  | n + 1, v1, s, r, h => okg4_20 l Z a0 hw n0 _ (ok4_20 l Z a0 hw n0 n) n v1 s r h
def g_resetSlots_2 (k2 : Int32 → St → Option (St)) (n : Nat) (v1 : Int32) (s : St) : Option (St) :=
  if v1 < (4 : Int32) then
    (f_freeSlot v1 s).bind fun c2 =>
    lt (v1 + (1 : Int32)) fun x3 =>
    k2 x3 c2
  else
    f_resetSlots_20 n (0 : Int32) s
set_option maxRecDepth 65536 in
set_option maxHeartbeats 4000000 in
theorem okg4_2 (l : Launch) (Z : State) (a0 : Array Value) (hw : HW a0 Z) (n0 : Nat) (k2 : Int32 → St → Option (St)) (hk2 : ∀ (v1 : Int32) (s : St) (r : St), k2 v1 s = some r → W4 l Z n0 (P4 r) 0 0 2 [.val (.ref 0), .val (.int v1)] [] (Hb 0 s)) (n : Nat) (v1 : Int32) (s : St) (r : St) (h : g_resetSlots_2 k2 n v1 s = some r) : W4 l Z n0 (P4 r) 0 0 2 [.val (.ref 0), .val (.int v1)] [] (Hb 0 s) := by
  unfold g_resetSlots_2 at h
  refine WP.iloadN d4_2 rfl ?_
  refine WP.iconst (4 : Int32) d4_3 rfl ?_
  rcases ite_e h with ⟨hc1, h⟩ | ⟨hc1, h⟩
  ·
    refine WP.icmpN d4_4 (XT.ii_ge_f hc1) ?_
    refine WP.aloadN d4_7 rfl ?_
    refine WP.iloadN d4_8 rfl ?_
    obtain ⟨c2, hc2, h⟩ := Option.bind_eq_some_iff.mp h
    refine WP.callP (i := 0) (y := y5) (as := [.int v1]) (S := []) d4_9 (hw _ m_68) (hw _ m_70) (hw _ m_3) (hw _ m_69) (hw _ m_71) (hw _ m_4) hy5 rfl (ok5 l Z a0 hw v1 s _ hc2) rfl (lenOf pd5 rfl) (leb rfl) (leb rfl) (leb rfl) (leb rfl) ?_
    rintro _ _ ⟨rfl, rfl⟩
    show W4 l Z n0 (P4 r) 0 0 12 [.val (.ref 0), .val (.int v1)] [] (Hb 0 c2)
    obtain ⟨x3, ex3, h⟩ := lt_e h
    refine WP.iinc (L' := [.val (.ref 0), .val (.int x3)]) (1 : Int32) d4_12 rfl rfl (by subst ex3; rfl) ?_
    refine WP.goto (pc' := 2) d4_15 (by decide) rfl ?_
    exact WP.weak (L' := [.val (.ref 0), .val (.int x3)]) ⟨rfl, rfl, trivial⟩ (hk2 x3 c2 _ h)
  ·
    refine WP.icmpY (pc' := 18) d4_4 (XT.ii_ge_t hc1) (by decide) rfl ?_
    refine WP.iconst (0 : Int32) d4_18 rfl ?_
    refine WP.istoreN (L' := [.val (.ref 0), .val (.int (0 : Int32))]) d4_19 (leb rfl) rfl ?_
    exact WP.weak (L' := [.val (.ref 0), .val (.int (0 : Int32))]) ⟨rfl, rfl, trivial⟩ (ok4_20 l Z a0 hw n0 n (0 : Int32) s _ h)
def f_resetSlots_2 : Nat → Int32 → St → Option (St)
  | 0 => fun _ _ => none
  | n + 1 => g_resetSlots_2 (f_resetSlots_2 n) n
theorem ok4_2 (l : Launch) (Z : State) (a0 : Array Value) (hw : HW a0 Z) (n0 : Nat) : ∀ (n : Nat) (v1 : Int32) (s : St) (r : St), f_resetSlots_2 n v1 s = some r → W4 l Z n0 (P4 r) 0 0 2 [.val (.ref 0), .val (.int v1)] [] (Hb 0 s)
  | 0, v1, s, r, h => nomatch (show none = some r from h)
  | n + 1, v1, s, r, h => okg4_2 l Z a0 hw n0 _ (ok4_2 l Z a0 hw n0 n) n v1 s r h
def f_resetSlots (n : Nat) (s : St) : Option (St) :=
  f_resetSlots_2 n (0 : Int32) s
set_option maxRecDepth 65536 in
set_option maxHeartbeats 4000000 in
theorem ok4 (l : Launch) (Z : State) (a0 : Array Value) (hw : HW a0 Z) (n : Nat) (s : St) (r : St) (h : f_resetSlots n s = some r) : CS l Z CN lay y4 prog_1_method_5_code 2 (none) R4 0 [.ref 0] (Hb 0 s) (P4 r) := by
  refine CS.of_wp pn_cls (leb rfl) fun n0 => ?_
  show W4 l Z n0 (P4 r) 0 0 0 [.val (.ref 0), .unset] [] (Hb 0 s)
  unfold f_resetSlots at h
  refine WP.iconst (0 : Int32) d4_0 rfl ?_
  refine WP.istoreN (L' := [.val (.ref 0), .val (.int (0 : Int32))]) d4_1 (leb rfl) rfl ?_
  exact WP.weak (L' := [.val (.ref 0), .val (.int (0 : Int32))]) ⟨rfl, rfl, trivial⟩ (ok4_2 l Z a0 hw n0 n (0 : Int32) s _ h)
theorem d0_0 : dc prog_1_method_1_code 0 (.aload_n 0) 1 := by decide +kernel
theorem d0_1 : dc prog_1_method_1_code 1 (.invokespecial 1) 3 := by decide +kernel
theorem d0_4 : dc prog_1_method_1_code 4 (.aload_n 0) 1 := by decide +kernel
theorem d0_5 : dc prog_1_method_1_code 5 (.bipush 32) 2 := by decide +kernel
theorem d0_7 : dc prog_1_method_1_code 7 (.newarray .boolean) 2 := by decide +kernel
theorem d0_9 : dc prog_1_method_1_code 9 (.putfield 7) 3 := by decide +kernel
theorem d0_12 : dc prog_1_method_1_code 12 (.aload_n 0) 1 := by decide +kernel
theorem d0_13 : dc prog_1_method_1_code 13 (.bipush 32) 2 := by decide +kernel
theorem d0_15 : dc prog_1_method_1_code 15 (.newarray .int) 2 := by decide +kernel
theorem d0_17 : dc prog_1_method_1_code 17 (.putfield 13) 3 := by decide +kernel
theorem d0_20 : dc prog_1_method_1_code 20 (.aload_n 0) 1 := by decide +kernel
theorem d0_21 : dc prog_1_method_1_code 21 (.bipush 32) 2 := by decide +kernel
theorem d0_23 : dc prog_1_method_1_code 23 (.newarray .int) 2 := by decide +kernel
theorem d0_25 : dc prog_1_method_1_code 25 (.putfield 17) 3 := by decide +kernel
theorem d0_28 : dc prog_1_method_1_code 28 (.aload_n 0) 1 := by decide +kernel
theorem d0_29 : dc prog_1_method_1_code 29 (.bipush 32) 2 := by decide +kernel
theorem d0_31 : dc prog_1_method_1_code 31 (.newarray .int) 2 := by decide +kernel
theorem d0_33 : dc prog_1_method_1_code 33 (.putfield 20) 3 := by decide +kernel
theorem d0_36 : dc prog_1_method_1_code 36 (.aload_n 0) 1 := by decide +kernel
theorem d0_37 : dc prog_1_method_1_code 37 (.bipush 32) 2 := by decide +kernel
theorem d0_39 : dc prog_1_method_1_code 39 (.newarray .int) 2 := by decide +kernel
theorem d0_41 : dc prog_1_method_1_code 41 (.putfield 23) 3 := by decide +kernel
theorem d0_44 : dc prog_1_method_1_code 44 (.aload_n 0) 1 := by decide +kernel
theorem d0_45 : dc prog_1_method_1_code 45 (.bipush 32) 2 := by decide +kernel
theorem d0_47 : dc prog_1_method_1_code 47 (.newarray .int) 2 := by decide +kernel
theorem d0_49 : dc prog_1_method_1_code 49 (.putfield 26) 3 := by decide +kernel
theorem d0_52 : dc prog_1_method_1_code 52 (.aload_n 0) 1 := by decide +kernel
theorem d0_53 : dc prog_1_method_1_code 53 (.bipush 32) 2 := by decide +kernel
theorem d0_55 : dc prog_1_method_1_code 55 (.newarray .boolean) 2 := by decide +kernel
theorem d0_57 : dc prog_1_method_1_code 57 (.putfield 29) 3 := by decide +kernel
theorem d0_60 : dc prog_1_method_1_code 60 (.aload_n 0) 1 := by decide +kernel
theorem d0_61 : dc prog_1_method_1_code 61 (.sipush 384) 3 := by decide +kernel
theorem d0_64 : dc prog_1_method_1_code 64 (.newarray .long) 2 := by decide +kernel
theorem d0_66 : dc prog_1_method_1_code 66 (.putfield 32) 3 := by decide +kernel
theorem d0_69 : dc prog_1_method_1_code 69 (.aload_n 0) 1 := by decide +kernel
theorem d0_70 : dc prog_1_method_1_code 70 (.sipush 384) 3 := by decide +kernel
theorem d0_73 : dc prog_1_method_1_code 73 (.newarray .long) 2 := by decide +kernel
theorem d0_75 : dc prog_1_method_1_code 75 (.putfield 36) 3 := by decide +kernel
theorem d0_78 : dc prog_1_method_1_code 78 (.aload_n 0) 1 := by decide +kernel
theorem d0_79 : dc prog_1_method_1_code 79 (.iconst 4) 1 := by decide +kernel
theorem d0_80 : dc prog_1_method_1_code 80 (.newarray .int) 2 := by decide +kernel
theorem d0_82 : dc prog_1_method_1_code 82 (.putfield 39) 3 := by decide +kernel
theorem d0_85 : dc prog_1_method_1_code 85 (.aload_n 0) 1 := by decide +kernel
theorem d0_86 : dc prog_1_method_1_code 86 (.iconst 4) 1 := by decide +kernel
theorem d0_87 : dc prog_1_method_1_code 87 (.newarray .long) 2 := by decide +kernel
theorem d0_89 : dc prog_1_method_1_code 89 (.putfield 42) 3 := by decide +kernel
theorem d0_92 : dc prog_1_method_1_code 92 (.aload_n 0) 1 := by decide +kernel
theorem d0_93 : dc prog_1_method_1_code 93 (.iconst 4) 1 := by decide +kernel
theorem d0_94 : dc prog_1_method_1_code 94 (.newarray .boolean) 2 := by decide +kernel
theorem d0_96 : dc prog_1_method_1_code 96 (.putfield 45) 3 := by decide +kernel
theorem d0_99 : dc prog_1_method_1_code 99 (.aload_n 0) 1 := by decide +kernel
theorem d0_100 : dc prog_1_method_1_code 100 (.iconst 4) 1 := by decide +kernel
theorem d0_101 : dc prog_1_method_1_code 101 (.newarray .int) 2 := by decide +kernel
theorem d0_103 : dc prog_1_method_1_code 103 (.putfield 48) 3 := by decide +kernel
theorem d0_106 : dc prog_1_method_1_code 106 (.aload_n 0) 1 := by decide +kernel
theorem d0_107 : dc prog_1_method_1_code 107 (.iconst 4) 1 := by decide +kernel
theorem d0_108 : dc prog_1_method_1_code 108 (.newarray .boolean) 2 := by decide +kernel
theorem d0_110 : dc prog_1_method_1_code 110 (.putfield 51) 3 := by decide +kernel
theorem d0_113 : dc prog_1_method_1_code 113 (.aload_n 0) 1 := by decide +kernel
theorem d0_114 : dc prog_1_method_1_code 114 (.iconst 4) 1 := by decide +kernel
theorem d0_115 : dc prog_1_method_1_code 115 (.newarray .int) 2 := by decide +kernel
theorem d0_117 : dc prog_1_method_1_code 117 (.putfield 54) 3 := by decide +kernel
theorem d0_120 : dc prog_1_method_1_code 120 (.aload_n 0) 1 := by decide +kernel
theorem d0_121 : dc prog_1_method_1_code 121 (.bipush 64) 2 := by decide +kernel
theorem d0_123 : dc prog_1_method_1_code 123 (.newarray .int) 2 := by decide +kernel
theorem d0_125 : dc prog_1_method_1_code 125 (.putfield 57) 3 := by decide +kernel
theorem d0_128 : dc prog_1_method_1_code 128 (.aload_n 0) 1 := by decide +kernel
theorem d0_129 : dc prog_1_method_1_code 129 (.bipush 64) 2 := by decide +kernel
theorem d0_131 : dc prog_1_method_1_code 131 (.newarray .int) 2 := by decide +kernel
theorem d0_133 : dc prog_1_method_1_code 133 (.putfield 60) 3 := by decide +kernel
theorem d0_136 : dc prog_1_method_1_code 136 (.aload_n 0) 1 := by decide +kernel
theorem d0_137 : dc prog_1_method_1_code 137 (.aload_n 0) 1 := by decide +kernel
theorem d0_138 : dc prog_1_method_1_code 138 (.iload_n 1) 1 := by decide +kernel
theorem d0_139 : dc prog_1_method_1_code 139 (.iconst 1) 1 := by decide +kernel
theorem d0_140 : dc prog_1_method_1_code 140 (.iconst 4) 1 := by decide +kernel
theorem d0_141 : dc prog_1_method_1_code 141 (.invokevirtual 63) 3 := by decide +kernel
theorem d0_144 : dc prog_1_method_1_code 144 (.putfield 67) 3 := by decide +kernel
theorem d0_147 : dc prog_1_method_1_code 147 (.aload_n 0) 1 := by decide +kernel
theorem d0_148 : dc prog_1_method_1_code 148 (.aload_n 0) 1 := by decide +kernel
theorem d0_149 : dc prog_1_method_1_code 149 (.iload_n 2) 1 := by decide +kernel
theorem d0_150 : dc prog_1_method_1_code 150 (.iconst 4) 1 := by decide +kernel
theorem d0_151 : dc prog_1_method_1_code 151 (.bipush 16) 2 := by decide +kernel
theorem d0_153 : dc prog_1_method_1_code 153 (.invokevirtual 63) 3 := by decide +kernel
theorem d0_156 : dc prog_1_method_1_code 156 (.putfield 71) 3 := by decide +kernel
theorem d0_159 : dc prog_1_method_1_code 159 (.aload_n 0) 1 := by decide +kernel
theorem d0_160 : dc prog_1_method_1_code 160 (.invokevirtual 74) 3 := by decide +kernel
theorem d0_163 : dc prog_1_method_1_code 163 (.aload_n 0) 1 := by decide +kernel
theorem d0_164 : dc prog_1_method_1_code 164 (.invokevirtual 77) 3 := by decide +kernel
theorem d0_167 : dc prog_1_method_1_code 167 (.aload_n 0) 1 := by decide +kernel
theorem d0_168 : dc prog_1_method_1_code 168 (.invokevirtual 80) 3 := by decide +kernel
theorem d0_171 : dc prog_1_method_1_code 171 (.aload_n 0) 1 := by decide +kernel
theorem d0_172 : dc prog_1_method_1_code 172 (.iconst (-1)) 1 := by decide +kernel
theorem d0_173 : dc prog_1_method_1_code 173 (.putfield 83) 3 := by decide +kernel
theorem d0_176 : dc prog_1_method_1_code 176 (.aload_n 0) 1 := by decide +kernel
theorem d0_177 : dc prog_1_method_1_code 177 (.iconst (-1)) 1 := by decide +kernel
theorem d0_178 : dc prog_1_method_1_code 178 (.putfield 86) 3 := by decide +kernel
theorem d0_181 : dc prog_1_method_1_code 181 (.aload_n 0) 1 := by decide +kernel
theorem d0_182 : dc prog_1_method_1_code 182 (.iconst 0) 1 := by decide +kernel
theorem d0_183 : dc prog_1_method_1_code 183 (.putfield 89) 3 := by decide +kernel
theorem d0_186 : dc prog_1_method_1_code 186 (.aload_n 0) 1 := by decide +kernel
theorem d0_187 : dc prog_1_method_1_code 187 (.lconst 0) 1 := by decide +kernel
theorem d0_188 : dc prog_1_method_1_code 188 (.putfield 92) 3 := by decide +kernel
theorem d0_191 : dc prog_1_method_1_code 191 (.aload_n 0) 1 := by decide +kernel
theorem d0_192 : dc prog_1_method_1_code 192 (.lconst 0) 1 := by decide +kernel
theorem d0_193 : dc prog_1_method_1_code 193 (.putfield 96) 3 := by decide +kernel
theorem d0_196 : dc prog_1_method_1_code 196 (.aload_n 0) 1 := by decide +kernel
theorem d0_197 : dc prog_1_method_1_code 197 (.lconst 0) 1 := by decide +kernel
theorem d0_198 : dc prog_1_method_1_code 198 (.putfield 99) 3 := by decide +kernel
theorem d0_201 : dc prog_1_method_1_code 201 (.return_) 1 := by decide +kernel
abbrev y0 : MethodName := ⟨"GeneralLedger", "<init>", "(II)V"⟩
theorem hy0 : y0.cls ≠ "java/lang/invoke/MethodHandle" ∧ y0.cls ≠ "java/lang/invoke/VarHandle" := by decide
theorem pd0 : parseMethodDescriptor y0.desc = some ⟨[.int, .int], none⟩ := by decide +kernel
abbrev R0 : Room := { frames := 2, cells := 17, slots := 1144, locals := 26 }
abbrev P0 (r : St) : Option Value → List OwnC → Prop := fun v H' => v = none ∧ H' = (Hb 0 r)
abbrev W0 (l : Launch) (Z : State) (n0 : Nat) (Q : Option Value → List OwnC → Prop) (k n pc : Nat) (L : List Slot) (S : List Value) (H : List OwnC) : Prop := WP l Z CN lay "GeneralLedger" "<init>" prog_1_method_1_code 3 (none) R0 n0 0 Q k n pc L S H
def f_init (n : Nat) (p1 : Int32) (p2 : Int32) : Option (St) :=
  lt (st0) fun s1 =>
  (f_clamp p1 (1 : Int32) (4 : Int32) s1).bind fun c2 =>
  lt (sI s1 0 c2) fun s3 =>
  (f_clamp p2 (4 : Int32) (16 : Int32) s3).bind fun c4 =>
  lt (sI s3 1 c4) fun s5 =>
  (f_resetRates n s5).bind fun c6 =>
  (f_resetAccounts n c6).bind fun c7 =>
  (f_resetSlots n c7).bind fun c8 =>
  lt (sI c8 3 (-1 : Int32)) fun s9 =>
  lt (sI s9 4 (-1 : Int32)) fun s10 =>
  lt (sI s10 2 (0 : Int32)) fun s11 =>
  lt (sJ s11 0 (0 : Int64)) fun s12 =>
  lt (sJ s12 1 (0 : Int64)) fun s13 =>
  lt (sJ s13 2 (0 : Int64)) fun s14 =>
  some s14
set_option maxRecDepth 65536 in
set_option maxHeartbeats 4000000 in
theorem ok0 (l : Launch) (Z : State) (a0 : Array Value) (hw : HW a0 Z) (n : Nat) (p1 : Int32) (p2 : Int32) (r : St) (h : f_init n p1 p2 = some r) : CS l Z CN lay y0 prog_1_method_1_code 3 (none) R0 0 [.ref 0, .int p1, .int p2] [cO vs0] (P0 r) := by
  refine CS.of_wp pn_cls (leb rfl) fun n0 => ?_
  show W0 l Z n0 (P0 r) 0 0 0 [.val (.ref 0), .val (.int p1), .val (.int p2)] [] [cO vs0]
  unfold f_init at h
  refine WP.aloadN d0_0 rfl ?_
  refine WP.initO d0_1 (hw _ m_8) (hw _ m_9) (hw _ m_10) (leb rfl) (leb rfl) ?_
  refine WP.aloadN d0_4 rfl ?_
  refine WP.bipush (32 : Int32) d0_5 rfl ?_
  refine WP.newarray d0_7 (hw _ m_11) (by decide) (leb rfl) (leb rfl) (leb rfl) (Or.inr (Or.inr ⟨rfl, rfl⟩)) ?_
  show W0 l Z n0 (P0 r) 1 32 9 [.val (.ref 0), .val (.int p1), .val (.int p2)] [.ref 1, .ref 0] ([cO [.int (0 : Int32), .int (0 : Int32), .null, .null, .null, .null, .null, .null, .null, .null, .null, .null, .null, .null, .null, .null, .null, .null, .null, .int (0 : Int32), .long (0 : Int64), .long (0 : Int64), .long (0 : Int64), .int (0 : Int32), .int (0 : Int32)], cZ (List.replicate 32 0)] : List OwnC)
  refine WP.putR (ty := .array .boolean) (i := 0) (j := 2) (H' := ([cO [.int (0 : Int32), .int (0 : Int32), .ref 1, .null, .null, .null, .null, .null, .null, .null, .null, .null, .null, .null, .null, .null, .null, .null, .null, .int (0 : Int32), .long (0 : Int64), .long (0 : Int64), .long (0 : Int64), .int (0 : Int32), .int (0 : Int32)], cZ (List.replicate 32 0)] : List OwnC)) d0_9 (hw _ m_12) (Or.inl (hw _ m_13)) (hw _ m_3) (hlay hw) (by decide) (fun _ => rfl) (fun _ => rfl) rfl rfl rfl (leb rfl) rfl ?_
  refine WP.aloadN d0_12 rfl ?_
  refine WP.bipush (32 : Int32) d0_13 rfl ?_
  refine WP.newarray d0_15 (hw _ m_14) (by decide) (leb rfl) (leb rfl) (leb rfl) (Or.inl ⟨rfl, rfl⟩) ?_
  show W0 l Z n0 (P0 r) 2 64 17 [.val (.ref 0), .val (.int p1), .val (.int p2)] [.ref 2, .ref 0] ([cO [.int (0 : Int32), .int (0 : Int32), .ref 1, .null, .null, .null, .null, .null, .null, .null, .null, .null, .null, .null, .null, .null, .null, .null, .null, .int (0 : Int32), .long (0 : Int64), .long (0 : Int64), .long (0 : Int64), .int (0 : Int32), .int (0 : Int32)], cZ (List.replicate 32 0), cI (List.replicate 32 0)] : List OwnC)
  refine WP.putR (ty := .array .int) (i := 0) (j := 3) (H' := ([cO [.int (0 : Int32), .int (0 : Int32), .ref 1, .ref 2, .null, .null, .null, .null, .null, .null, .null, .null, .null, .null, .null, .null, .null, .null, .null, .int (0 : Int32), .long (0 : Int64), .long (0 : Int64), .long (0 : Int64), .int (0 : Int32), .int (0 : Int32)], cZ (List.replicate 32 0), cI (List.replicate 32 0)] : List OwnC)) d0_17 (hw _ m_15) (Or.inl (hw _ m_16)) (hw _ m_3) (hlay hw) (by decide) (fun _ => rfl) (fun _ => rfl) rfl rfl rfl (leb rfl) rfl ?_
  refine WP.aloadN d0_20 rfl ?_
  refine WP.bipush (32 : Int32) d0_21 rfl ?_
  refine WP.newarray d0_23 (hw _ m_14) (by decide) (leb rfl) (leb rfl) (leb rfl) (Or.inl ⟨rfl, rfl⟩) ?_
  show W0 l Z n0 (P0 r) 3 96 25 [.val (.ref 0), .val (.int p1), .val (.int p2)] [.ref 3, .ref 0] ([cO [.int (0 : Int32), .int (0 : Int32), .ref 1, .ref 2, .null, .null, .null, .null, .null, .null, .null, .null, .null, .null, .null, .null, .null, .null, .null, .int (0 : Int32), .long (0 : Int64), .long (0 : Int64), .long (0 : Int64), .int (0 : Int32), .int (0 : Int32)], cZ (List.replicate 32 0), cI (List.replicate 32 0), cI (List.replicate 32 0)] : List OwnC)
  refine WP.putR (ty := .array .int) (i := 0) (j := 4) (H' := ([cO [.int (0 : Int32), .int (0 : Int32), .ref 1, .ref 2, .ref 3, .null, .null, .null, .null, .null, .null, .null, .null, .null, .null, .null, .null, .null, .null, .int (0 : Int32), .long (0 : Int64), .long (0 : Int64), .long (0 : Int64), .int (0 : Int32), .int (0 : Int32)], cZ (List.replicate 32 0), cI (List.replicate 32 0), cI (List.replicate 32 0)] : List OwnC)) d0_25 (hw _ m_17) (Or.inl (hw _ m_18)) (hw _ m_3) (hlay hw) (by decide) (fun _ => rfl) (fun _ => rfl) rfl rfl rfl (leb rfl) rfl ?_
  refine WP.aloadN d0_28 rfl ?_
  refine WP.bipush (32 : Int32) d0_29 rfl ?_
  refine WP.newarray d0_31 (hw _ m_14) (by decide) (leb rfl) (leb rfl) (leb rfl) (Or.inl ⟨rfl, rfl⟩) ?_
  show W0 l Z n0 (P0 r) 4 128 33 [.val (.ref 0), .val (.int p1), .val (.int p2)] [.ref 4, .ref 0] ([cO [.int (0 : Int32), .int (0 : Int32), .ref 1, .ref 2, .ref 3, .null, .null, .null, .null, .null, .null, .null, .null, .null, .null, .null, .null, .null, .null, .int (0 : Int32), .long (0 : Int64), .long (0 : Int64), .long (0 : Int64), .int (0 : Int32), .int (0 : Int32)], cZ (List.replicate 32 0), cI (List.replicate 32 0), cI (List.replicate 32 0), cI (List.replicate 32 0)] : List OwnC)
  refine WP.putR (ty := .array .int) (i := 0) (j := 5) (H' := ([cO [.int (0 : Int32), .int (0 : Int32), .ref 1, .ref 2, .ref 3, .ref 4, .null, .null, .null, .null, .null, .null, .null, .null, .null, .null, .null, .null, .null, .int (0 : Int32), .long (0 : Int64), .long (0 : Int64), .long (0 : Int64), .int (0 : Int32), .int (0 : Int32)], cZ (List.replicate 32 0), cI (List.replicate 32 0), cI (List.replicate 32 0), cI (List.replicate 32 0)] : List OwnC)) d0_33 (hw _ m_19) (Or.inl (hw _ m_20)) (hw _ m_3) (hlay hw) (by decide) (fun _ => rfl) (fun _ => rfl) rfl rfl rfl (leb rfl) rfl ?_
  refine WP.aloadN d0_36 rfl ?_
  refine WP.bipush (32 : Int32) d0_37 rfl ?_
  refine WP.newarray d0_39 (hw _ m_14) (by decide) (leb rfl) (leb rfl) (leb rfl) (Or.inl ⟨rfl, rfl⟩) ?_
  show W0 l Z n0 (P0 r) 5 160 41 [.val (.ref 0), .val (.int p1), .val (.int p2)] [.ref 5, .ref 0] ([cO [.int (0 : Int32), .int (0 : Int32), .ref 1, .ref 2, .ref 3, .ref 4, .null, .null, .null, .null, .null, .null, .null, .null, .null, .null, .null, .null, .null, .int (0 : Int32), .long (0 : Int64), .long (0 : Int64), .long (0 : Int64), .int (0 : Int32), .int (0 : Int32)], cZ (List.replicate 32 0), cI (List.replicate 32 0), cI (List.replicate 32 0), cI (List.replicate 32 0), cI (List.replicate 32 0)] : List OwnC)
  refine WP.putR (ty := .array .int) (i := 0) (j := 6) (H' := ([cO [.int (0 : Int32), .int (0 : Int32), .ref 1, .ref 2, .ref 3, .ref 4, .ref 5, .null, .null, .null, .null, .null, .null, .null, .null, .null, .null, .null, .null, .int (0 : Int32), .long (0 : Int64), .long (0 : Int64), .long (0 : Int64), .int (0 : Int32), .int (0 : Int32)], cZ (List.replicate 32 0), cI (List.replicate 32 0), cI (List.replicate 32 0), cI (List.replicate 32 0), cI (List.replicate 32 0)] : List OwnC)) d0_41 (hw _ m_21) (Or.inl (hw _ m_22)) (hw _ m_3) (hlay hw) (by decide) (fun _ => rfl) (fun _ => rfl) rfl rfl rfl (leb rfl) rfl ?_
  refine WP.aloadN d0_44 rfl ?_
  refine WP.bipush (32 : Int32) d0_45 rfl ?_
  refine WP.newarray d0_47 (hw _ m_14) (by decide) (leb rfl) (leb rfl) (leb rfl) (Or.inl ⟨rfl, rfl⟩) ?_
  show W0 l Z n0 (P0 r) 6 192 49 [.val (.ref 0), .val (.int p1), .val (.int p2)] [.ref 6, .ref 0] ([cO [.int (0 : Int32), .int (0 : Int32), .ref 1, .ref 2, .ref 3, .ref 4, .ref 5, .null, .null, .null, .null, .null, .null, .null, .null, .null, .null, .null, .null, .int (0 : Int32), .long (0 : Int64), .long (0 : Int64), .long (0 : Int64), .int (0 : Int32), .int (0 : Int32)], cZ (List.replicate 32 0), cI (List.replicate 32 0), cI (List.replicate 32 0), cI (List.replicate 32 0), cI (List.replicate 32 0), cI (List.replicate 32 0)] : List OwnC)
  refine WP.putR (ty := .array .int) (i := 0) (j := 7) (H' := ([cO [.int (0 : Int32), .int (0 : Int32), .ref 1, .ref 2, .ref 3, .ref 4, .ref 5, .ref 6, .null, .null, .null, .null, .null, .null, .null, .null, .null, .null, .null, .int (0 : Int32), .long (0 : Int64), .long (0 : Int64), .long (0 : Int64), .int (0 : Int32), .int (0 : Int32)], cZ (List.replicate 32 0), cI (List.replicate 32 0), cI (List.replicate 32 0), cI (List.replicate 32 0), cI (List.replicate 32 0), cI (List.replicate 32 0)] : List OwnC)) d0_49 (hw _ m_23) (Or.inl (hw _ m_24)) (hw _ m_3) (hlay hw) (by decide) (fun _ => rfl) (fun _ => rfl) rfl rfl rfl (leb rfl) rfl ?_
  refine WP.aloadN d0_52 rfl ?_
  refine WP.bipush (32 : Int32) d0_53 rfl ?_
  refine WP.newarray d0_55 (hw _ m_11) (by decide) (leb rfl) (leb rfl) (leb rfl) (Or.inr (Or.inr ⟨rfl, rfl⟩)) ?_
  show W0 l Z n0 (P0 r) 7 224 57 [.val (.ref 0), .val (.int p1), .val (.int p2)] [.ref 7, .ref 0] ([cO [.int (0 : Int32), .int (0 : Int32), .ref 1, .ref 2, .ref 3, .ref 4, .ref 5, .ref 6, .null, .null, .null, .null, .null, .null, .null, .null, .null, .null, .null, .int (0 : Int32), .long (0 : Int64), .long (0 : Int64), .long (0 : Int64), .int (0 : Int32), .int (0 : Int32)], cZ (List.replicate 32 0), cI (List.replicate 32 0), cI (List.replicate 32 0), cI (List.replicate 32 0), cI (List.replicate 32 0), cI (List.replicate 32 0), cZ (List.replicate 32 0)] : List OwnC)
  refine WP.putR (ty := .array .boolean) (i := 0) (j := 8) (H' := ([cO [.int (0 : Int32), .int (0 : Int32), .ref 1, .ref 2, .ref 3, .ref 4, .ref 5, .ref 6, .ref 7, .null, .null, .null, .null, .null, .null, .null, .null, .null, .null, .int (0 : Int32), .long (0 : Int64), .long (0 : Int64), .long (0 : Int64), .int (0 : Int32), .int (0 : Int32)], cZ (List.replicate 32 0), cI (List.replicate 32 0), cI (List.replicate 32 0), cI (List.replicate 32 0), cI (List.replicate 32 0), cI (List.replicate 32 0), cZ (List.replicate 32 0)] : List OwnC)) d0_57 (hw _ m_25) (Or.inl (hw _ m_26)) (hw _ m_3) (hlay hw) (by decide) (fun _ => rfl) (fun _ => rfl) rfl rfl rfl (leb rfl) rfl ?_
  refine WP.aloadN d0_60 rfl ?_
  refine WP.sipush (384 : Int32) d0_61 rfl ?_
  refine WP.newarray d0_64 (hw _ m_27) (by decide) (leb rfl) (leb rfl) (leb rfl) (Or.inr (Or.inl ⟨rfl, rfl⟩)) ?_
  show W0 l Z n0 (P0 r) 8 608 66 [.val (.ref 0), .val (.int p1), .val (.int p2)] [.ref 8, .ref 0] ([cO [.int (0 : Int32), .int (0 : Int32), .ref 1, .ref 2, .ref 3, .ref 4, .ref 5, .ref 6, .ref 7, .null, .null, .null, .null, .null, .null, .null, .null, .null, .null, .int (0 : Int32), .long (0 : Int64), .long (0 : Int64), .long (0 : Int64), .int (0 : Int32), .int (0 : Int32)], cZ (List.replicate 32 0), cI (List.replicate 32 0), cI (List.replicate 32 0), cI (List.replicate 32 0), cI (List.replicate 32 0), cI (List.replicate 32 0), cZ (List.replicate 32 0), cJ (List.replicate 384 0)] : List OwnC)
  refine WP.putR (ty := .array .long) (i := 0) (j := 9) (H' := ([cO [.int (0 : Int32), .int (0 : Int32), .ref 1, .ref 2, .ref 3, .ref 4, .ref 5, .ref 6, .ref 7, .ref 8, .null, .null, .null, .null, .null, .null, .null, .null, .null, .int (0 : Int32), .long (0 : Int64), .long (0 : Int64), .long (0 : Int64), .int (0 : Int32), .int (0 : Int32)], cZ (List.replicate 32 0), cI (List.replicate 32 0), cI (List.replicate 32 0), cI (List.replicate 32 0), cI (List.replicate 32 0), cI (List.replicate 32 0), cZ (List.replicate 32 0), cJ (List.replicate 384 0)] : List OwnC)) d0_66 (hw _ m_28) (Or.inl (hw _ m_29)) (hw _ m_3) (hlay hw) (by decide) (fun _ => rfl) (fun _ => rfl) rfl rfl rfl (leb rfl) rfl ?_
  refine WP.aloadN d0_69 rfl ?_
  refine WP.sipush (384 : Int32) d0_70 rfl ?_
  refine WP.newarray d0_73 (hw _ m_27) (by decide) (leb rfl) (leb rfl) (leb rfl) (Or.inr (Or.inl ⟨rfl, rfl⟩)) ?_
  show W0 l Z n0 (P0 r) 9 992 75 [.val (.ref 0), .val (.int p1), .val (.int p2)] [.ref 9, .ref 0] ([cO [.int (0 : Int32), .int (0 : Int32), .ref 1, .ref 2, .ref 3, .ref 4, .ref 5, .ref 6, .ref 7, .ref 8, .null, .null, .null, .null, .null, .null, .null, .null, .null, .int (0 : Int32), .long (0 : Int64), .long (0 : Int64), .long (0 : Int64), .int (0 : Int32), .int (0 : Int32)], cZ (List.replicate 32 0), cI (List.replicate 32 0), cI (List.replicate 32 0), cI (List.replicate 32 0), cI (List.replicate 32 0), cI (List.replicate 32 0), cZ (List.replicate 32 0), cJ (List.replicate 384 0), cJ (List.replicate 384 0)] : List OwnC)
  refine WP.putR (ty := .array .long) (i := 0) (j := 10) (H' := ([cO [.int (0 : Int32), .int (0 : Int32), .ref 1, .ref 2, .ref 3, .ref 4, .ref 5, .ref 6, .ref 7, .ref 8, .ref 9, .null, .null, .null, .null, .null, .null, .null, .null, .int (0 : Int32), .long (0 : Int64), .long (0 : Int64), .long (0 : Int64), .int (0 : Int32), .int (0 : Int32)], cZ (List.replicate 32 0), cI (List.replicate 32 0), cI (List.replicate 32 0), cI (List.replicate 32 0), cI (List.replicate 32 0), cI (List.replicate 32 0), cZ (List.replicate 32 0), cJ (List.replicate 384 0), cJ (List.replicate 384 0)] : List OwnC)) d0_75 (hw _ m_30) (Or.inl (hw _ m_31)) (hw _ m_3) (hlay hw) (by decide) (fun _ => rfl) (fun _ => rfl) rfl rfl rfl (leb rfl) rfl ?_
  refine WP.aloadN d0_78 rfl ?_
  refine WP.iconst (4 : Int32) d0_79 rfl ?_
  refine WP.newarray d0_80 (hw _ m_14) (by decide) (leb rfl) (leb rfl) (leb rfl) (Or.inl ⟨rfl, rfl⟩) ?_
  show W0 l Z n0 (P0 r) 10 996 82 [.val (.ref 0), .val (.int p1), .val (.int p2)] [.ref 10, .ref 0] ([cO [.int (0 : Int32), .int (0 : Int32), .ref 1, .ref 2, .ref 3, .ref 4, .ref 5, .ref 6, .ref 7, .ref 8, .ref 9, .null, .null, .null, .null, .null, .null, .null, .null, .int (0 : Int32), .long (0 : Int64), .long (0 : Int64), .long (0 : Int64), .int (0 : Int32), .int (0 : Int32)], cZ (List.replicate 32 0), cI (List.replicate 32 0), cI (List.replicate 32 0), cI (List.replicate 32 0), cI (List.replicate 32 0), cI (List.replicate 32 0), cZ (List.replicate 32 0), cJ (List.replicate 384 0), cJ (List.replicate 384 0), cI (List.replicate 4 0)] : List OwnC)
  refine WP.putR (ty := .array .int) (i := 0) (j := 11) (H' := ([cO [.int (0 : Int32), .int (0 : Int32), .ref 1, .ref 2, .ref 3, .ref 4, .ref 5, .ref 6, .ref 7, .ref 8, .ref 9, .ref 10, .null, .null, .null, .null, .null, .null, .null, .int (0 : Int32), .long (0 : Int64), .long (0 : Int64), .long (0 : Int64), .int (0 : Int32), .int (0 : Int32)], cZ (List.replicate 32 0), cI (List.replicate 32 0), cI (List.replicate 32 0), cI (List.replicate 32 0), cI (List.replicate 32 0), cI (List.replicate 32 0), cZ (List.replicate 32 0), cJ (List.replicate 384 0), cJ (List.replicate 384 0), cI (List.replicate 4 0)] : List OwnC)) d0_82 (hw _ m_32) (Or.inl (hw _ m_33)) (hw _ m_3) (hlay hw) (by decide) (fun _ => rfl) (fun _ => rfl) rfl rfl rfl (leb rfl) rfl ?_
  refine WP.aloadN d0_85 rfl ?_
  refine WP.iconst (4 : Int32) d0_86 rfl ?_
  refine WP.newarray d0_87 (hw _ m_27) (by decide) (leb rfl) (leb rfl) (leb rfl) (Or.inr (Or.inl ⟨rfl, rfl⟩)) ?_
  show W0 l Z n0 (P0 r) 11 1000 89 [.val (.ref 0), .val (.int p1), .val (.int p2)] [.ref 11, .ref 0] ([cO [.int (0 : Int32), .int (0 : Int32), .ref 1, .ref 2, .ref 3, .ref 4, .ref 5, .ref 6, .ref 7, .ref 8, .ref 9, .ref 10, .null, .null, .null, .null, .null, .null, .null, .int (0 : Int32), .long (0 : Int64), .long (0 : Int64), .long (0 : Int64), .int (0 : Int32), .int (0 : Int32)], cZ (List.replicate 32 0), cI (List.replicate 32 0), cI (List.replicate 32 0), cI (List.replicate 32 0), cI (List.replicate 32 0), cI (List.replicate 32 0), cZ (List.replicate 32 0), cJ (List.replicate 384 0), cJ (List.replicate 384 0), cI (List.replicate 4 0), cJ (List.replicate 4 0)] : List OwnC)
  refine WP.putR (ty := .array .long) (i := 0) (j := 12) (H' := ([cO [.int (0 : Int32), .int (0 : Int32), .ref 1, .ref 2, .ref 3, .ref 4, .ref 5, .ref 6, .ref 7, .ref 8, .ref 9, .ref 10, .ref 11, .null, .null, .null, .null, .null, .null, .int (0 : Int32), .long (0 : Int64), .long (0 : Int64), .long (0 : Int64), .int (0 : Int32), .int (0 : Int32)], cZ (List.replicate 32 0), cI (List.replicate 32 0), cI (List.replicate 32 0), cI (List.replicate 32 0), cI (List.replicate 32 0), cI (List.replicate 32 0), cZ (List.replicate 32 0), cJ (List.replicate 384 0), cJ (List.replicate 384 0), cI (List.replicate 4 0), cJ (List.replicate 4 0)] : List OwnC)) d0_89 (hw _ m_34) (Or.inl (hw _ m_35)) (hw _ m_3) (hlay hw) (by decide) (fun _ => rfl) (fun _ => rfl) rfl rfl rfl (leb rfl) rfl ?_
  refine WP.aloadN d0_92 rfl ?_
  refine WP.iconst (4 : Int32) d0_93 rfl ?_
  refine WP.newarray d0_94 (hw _ m_11) (by decide) (leb rfl) (leb rfl) (leb rfl) (Or.inr (Or.inr ⟨rfl, rfl⟩)) ?_
  show W0 l Z n0 (P0 r) 12 1004 96 [.val (.ref 0), .val (.int p1), .val (.int p2)] [.ref 12, .ref 0] ([cO [.int (0 : Int32), .int (0 : Int32), .ref 1, .ref 2, .ref 3, .ref 4, .ref 5, .ref 6, .ref 7, .ref 8, .ref 9, .ref 10, .ref 11, .null, .null, .null, .null, .null, .null, .int (0 : Int32), .long (0 : Int64), .long (0 : Int64), .long (0 : Int64), .int (0 : Int32), .int (0 : Int32)], cZ (List.replicate 32 0), cI (List.replicate 32 0), cI (List.replicate 32 0), cI (List.replicate 32 0), cI (List.replicate 32 0), cI (List.replicate 32 0), cZ (List.replicate 32 0), cJ (List.replicate 384 0), cJ (List.replicate 384 0), cI (List.replicate 4 0), cJ (List.replicate 4 0), cZ (List.replicate 4 0)] : List OwnC)
  refine WP.putR (ty := .array .boolean) (i := 0) (j := 13) (H' := ([cO [.int (0 : Int32), .int (0 : Int32), .ref 1, .ref 2, .ref 3, .ref 4, .ref 5, .ref 6, .ref 7, .ref 8, .ref 9, .ref 10, .ref 11, .ref 12, .null, .null, .null, .null, .null, .int (0 : Int32), .long (0 : Int64), .long (0 : Int64), .long (0 : Int64), .int (0 : Int32), .int (0 : Int32)], cZ (List.replicate 32 0), cI (List.replicate 32 0), cI (List.replicate 32 0), cI (List.replicate 32 0), cI (List.replicate 32 0), cI (List.replicate 32 0), cZ (List.replicate 32 0), cJ (List.replicate 384 0), cJ (List.replicate 384 0), cI (List.replicate 4 0), cJ (List.replicate 4 0), cZ (List.replicate 4 0)] : List OwnC)) d0_96 (hw _ m_36) (Or.inl (hw _ m_37)) (hw _ m_3) (hlay hw) (by decide) (fun _ => rfl) (fun _ => rfl) rfl rfl rfl (leb rfl) rfl ?_
  refine WP.aloadN d0_99 rfl ?_
  refine WP.iconst (4 : Int32) d0_100 rfl ?_
  refine WP.newarray d0_101 (hw _ m_14) (by decide) (leb rfl) (leb rfl) (leb rfl) (Or.inl ⟨rfl, rfl⟩) ?_
  show W0 l Z n0 (P0 r) 13 1008 103 [.val (.ref 0), .val (.int p1), .val (.int p2)] [.ref 13, .ref 0] ([cO [.int (0 : Int32), .int (0 : Int32), .ref 1, .ref 2, .ref 3, .ref 4, .ref 5, .ref 6, .ref 7, .ref 8, .ref 9, .ref 10, .ref 11, .ref 12, .null, .null, .null, .null, .null, .int (0 : Int32), .long (0 : Int64), .long (0 : Int64), .long (0 : Int64), .int (0 : Int32), .int (0 : Int32)], cZ (List.replicate 32 0), cI (List.replicate 32 0), cI (List.replicate 32 0), cI (List.replicate 32 0), cI (List.replicate 32 0), cI (List.replicate 32 0), cZ (List.replicate 32 0), cJ (List.replicate 384 0), cJ (List.replicate 384 0), cI (List.replicate 4 0), cJ (List.replicate 4 0), cZ (List.replicate 4 0), cI (List.replicate 4 0)] : List OwnC)
  refine WP.putR (ty := .array .int) (i := 0) (j := 14) (H' := ([cO [.int (0 : Int32), .int (0 : Int32), .ref 1, .ref 2, .ref 3, .ref 4, .ref 5, .ref 6, .ref 7, .ref 8, .ref 9, .ref 10, .ref 11, .ref 12, .ref 13, .null, .null, .null, .null, .int (0 : Int32), .long (0 : Int64), .long (0 : Int64), .long (0 : Int64), .int (0 : Int32), .int (0 : Int32)], cZ (List.replicate 32 0), cI (List.replicate 32 0), cI (List.replicate 32 0), cI (List.replicate 32 0), cI (List.replicate 32 0), cI (List.replicate 32 0), cZ (List.replicate 32 0), cJ (List.replicate 384 0), cJ (List.replicate 384 0), cI (List.replicate 4 0), cJ (List.replicate 4 0), cZ (List.replicate 4 0), cI (List.replicate 4 0)] : List OwnC)) d0_103 (hw _ m_38) (Or.inl (hw _ m_39)) (hw _ m_3) (hlay hw) (by decide) (fun _ => rfl) (fun _ => rfl) rfl rfl rfl (leb rfl) rfl ?_
  refine WP.aloadN d0_106 rfl ?_
  refine WP.iconst (4 : Int32) d0_107 rfl ?_
  refine WP.newarray d0_108 (hw _ m_11) (by decide) (leb rfl) (leb rfl) (leb rfl) (Or.inr (Or.inr ⟨rfl, rfl⟩)) ?_
  show W0 l Z n0 (P0 r) 14 1012 110 [.val (.ref 0), .val (.int p1), .val (.int p2)] [.ref 14, .ref 0] ([cO [.int (0 : Int32), .int (0 : Int32), .ref 1, .ref 2, .ref 3, .ref 4, .ref 5, .ref 6, .ref 7, .ref 8, .ref 9, .ref 10, .ref 11, .ref 12, .ref 13, .null, .null, .null, .null, .int (0 : Int32), .long (0 : Int64), .long (0 : Int64), .long (0 : Int64), .int (0 : Int32), .int (0 : Int32)], cZ (List.replicate 32 0), cI (List.replicate 32 0), cI (List.replicate 32 0), cI (List.replicate 32 0), cI (List.replicate 32 0), cI (List.replicate 32 0), cZ (List.replicate 32 0), cJ (List.replicate 384 0), cJ (List.replicate 384 0), cI (List.replicate 4 0), cJ (List.replicate 4 0), cZ (List.replicate 4 0), cI (List.replicate 4 0), cZ (List.replicate 4 0)] : List OwnC)
  refine WP.putR (ty := .array .boolean) (i := 0) (j := 15) (H' := ([cO [.int (0 : Int32), .int (0 : Int32), .ref 1, .ref 2, .ref 3, .ref 4, .ref 5, .ref 6, .ref 7, .ref 8, .ref 9, .ref 10, .ref 11, .ref 12, .ref 13, .ref 14, .null, .null, .null, .int (0 : Int32), .long (0 : Int64), .long (0 : Int64), .long (0 : Int64), .int (0 : Int32), .int (0 : Int32)], cZ (List.replicate 32 0), cI (List.replicate 32 0), cI (List.replicate 32 0), cI (List.replicate 32 0), cI (List.replicate 32 0), cI (List.replicate 32 0), cZ (List.replicate 32 0), cJ (List.replicate 384 0), cJ (List.replicate 384 0), cI (List.replicate 4 0), cJ (List.replicate 4 0), cZ (List.replicate 4 0), cI (List.replicate 4 0), cZ (List.replicate 4 0)] : List OwnC)) d0_110 (hw _ m_40) (Or.inl (hw _ m_41)) (hw _ m_3) (hlay hw) (by decide) (fun _ => rfl) (fun _ => rfl) rfl rfl rfl (leb rfl) rfl ?_
  refine WP.aloadN d0_113 rfl ?_
  refine WP.iconst (4 : Int32) d0_114 rfl ?_
  refine WP.newarray d0_115 (hw _ m_14) (by decide) (leb rfl) (leb rfl) (leb rfl) (Or.inl ⟨rfl, rfl⟩) ?_
  show W0 l Z n0 (P0 r) 15 1016 117 [.val (.ref 0), .val (.int p1), .val (.int p2)] [.ref 15, .ref 0] ([cO [.int (0 : Int32), .int (0 : Int32), .ref 1, .ref 2, .ref 3, .ref 4, .ref 5, .ref 6, .ref 7, .ref 8, .ref 9, .ref 10, .ref 11, .ref 12, .ref 13, .ref 14, .null, .null, .null, .int (0 : Int32), .long (0 : Int64), .long (0 : Int64), .long (0 : Int64), .int (0 : Int32), .int (0 : Int32)], cZ (List.replicate 32 0), cI (List.replicate 32 0), cI (List.replicate 32 0), cI (List.replicate 32 0), cI (List.replicate 32 0), cI (List.replicate 32 0), cZ (List.replicate 32 0), cJ (List.replicate 384 0), cJ (List.replicate 384 0), cI (List.replicate 4 0), cJ (List.replicate 4 0), cZ (List.replicate 4 0), cI (List.replicate 4 0), cZ (List.replicate 4 0), cI (List.replicate 4 0)] : List OwnC)
  refine WP.putR (ty := .array .int) (i := 0) (j := 16) (H' := ([cO [.int (0 : Int32), .int (0 : Int32), .ref 1, .ref 2, .ref 3, .ref 4, .ref 5, .ref 6, .ref 7, .ref 8, .ref 9, .ref 10, .ref 11, .ref 12, .ref 13, .ref 14, .ref 15, .null, .null, .int (0 : Int32), .long (0 : Int64), .long (0 : Int64), .long (0 : Int64), .int (0 : Int32), .int (0 : Int32)], cZ (List.replicate 32 0), cI (List.replicate 32 0), cI (List.replicate 32 0), cI (List.replicate 32 0), cI (List.replicate 32 0), cI (List.replicate 32 0), cZ (List.replicate 32 0), cJ (List.replicate 384 0), cJ (List.replicate 384 0), cI (List.replicate 4 0), cJ (List.replicate 4 0), cZ (List.replicate 4 0), cI (List.replicate 4 0), cZ (List.replicate 4 0), cI (List.replicate 4 0)] : List OwnC)) d0_117 (hw _ m_42) (Or.inl (hw _ m_43)) (hw _ m_3) (hlay hw) (by decide) (fun _ => rfl) (fun _ => rfl) rfl rfl rfl (leb rfl) rfl ?_
  refine WP.aloadN d0_120 rfl ?_
  refine WP.bipush (64 : Int32) d0_121 rfl ?_
  refine WP.newarray d0_123 (hw _ m_14) (by decide) (leb rfl) (leb rfl) (leb rfl) (Or.inl ⟨rfl, rfl⟩) ?_
  show W0 l Z n0 (P0 r) 16 1080 125 [.val (.ref 0), .val (.int p1), .val (.int p2)] [.ref 16, .ref 0] ([cO [.int (0 : Int32), .int (0 : Int32), .ref 1, .ref 2, .ref 3, .ref 4, .ref 5, .ref 6, .ref 7, .ref 8, .ref 9, .ref 10, .ref 11, .ref 12, .ref 13, .ref 14, .ref 15, .null, .null, .int (0 : Int32), .long (0 : Int64), .long (0 : Int64), .long (0 : Int64), .int (0 : Int32), .int (0 : Int32)], cZ (List.replicate 32 0), cI (List.replicate 32 0), cI (List.replicate 32 0), cI (List.replicate 32 0), cI (List.replicate 32 0), cI (List.replicate 32 0), cZ (List.replicate 32 0), cJ (List.replicate 384 0), cJ (List.replicate 384 0), cI (List.replicate 4 0), cJ (List.replicate 4 0), cZ (List.replicate 4 0), cI (List.replicate 4 0), cZ (List.replicate 4 0), cI (List.replicate 4 0), cI (List.replicate 64 0)] : List OwnC)
  refine WP.putR (ty := .array .int) (i := 0) (j := 17) (H' := ([cO [.int (0 : Int32), .int (0 : Int32), .ref 1, .ref 2, .ref 3, .ref 4, .ref 5, .ref 6, .ref 7, .ref 8, .ref 9, .ref 10, .ref 11, .ref 12, .ref 13, .ref 14, .ref 15, .ref 16, .null, .int (0 : Int32), .long (0 : Int64), .long (0 : Int64), .long (0 : Int64), .int (0 : Int32), .int (0 : Int32)], cZ (List.replicate 32 0), cI (List.replicate 32 0), cI (List.replicate 32 0), cI (List.replicate 32 0), cI (List.replicate 32 0), cI (List.replicate 32 0), cZ (List.replicate 32 0), cJ (List.replicate 384 0), cJ (List.replicate 384 0), cI (List.replicate 4 0), cJ (List.replicate 4 0), cZ (List.replicate 4 0), cI (List.replicate 4 0), cZ (List.replicate 4 0), cI (List.replicate 4 0), cI (List.replicate 64 0)] : List OwnC)) d0_125 (hw _ m_44) (Or.inl (hw _ m_45)) (hw _ m_3) (hlay hw) (by decide) (fun _ => rfl) (fun _ => rfl) rfl rfl rfl (leb rfl) rfl ?_
  refine WP.aloadN d0_128 rfl ?_
  refine WP.bipush (64 : Int32) d0_129 rfl ?_
  refine WP.newarray d0_131 (hw _ m_14) (by decide) (leb rfl) (leb rfl) (leb rfl) (Or.inl ⟨rfl, rfl⟩) ?_
  show W0 l Z n0 (P0 r) 17 1144 133 [.val (.ref 0), .val (.int p1), .val (.int p2)] [.ref 17, .ref 0] ([cO [.int (0 : Int32), .int (0 : Int32), .ref 1, .ref 2, .ref 3, .ref 4, .ref 5, .ref 6, .ref 7, .ref 8, .ref 9, .ref 10, .ref 11, .ref 12, .ref 13, .ref 14, .ref 15, .ref 16, .null, .int (0 : Int32), .long (0 : Int64), .long (0 : Int64), .long (0 : Int64), .int (0 : Int32), .int (0 : Int32)], cZ (List.replicate 32 0), cI (List.replicate 32 0), cI (List.replicate 32 0), cI (List.replicate 32 0), cI (List.replicate 32 0), cI (List.replicate 32 0), cZ (List.replicate 32 0), cJ (List.replicate 384 0), cJ (List.replicate 384 0), cI (List.replicate 4 0), cJ (List.replicate 4 0), cZ (List.replicate 4 0), cI (List.replicate 4 0), cZ (List.replicate 4 0), cI (List.replicate 4 0), cI (List.replicate 64 0), cI (List.replicate 64 0)] : List OwnC)
  obtain ⟨s1, es1, h⟩ := lt_e h
  refine WP.putR (ty := .array .int) (i := 0) (j := 18) (H' := (Hb 0 s1)) d0_133 (hw _ m_46) (Or.inl (hw _ m_47)) (hw _ m_3) (hlay hw) (by decide) (fun _ => rfl) (fun _ => rfl) rfl rfl rfl (leb rfl) (by subst es1; rfl) ?_
  refine WP.aloadN d0_136 rfl ?_
  refine WP.aloadN d0_137 rfl ?_
  refine WP.iloadN d0_138 rfl ?_
  refine WP.iconst (1 : Int32) d0_139 rfl ?_
  refine WP.iconst (4 : Int32) d0_140 rfl ?_
  obtain ⟨c2, hc2, h⟩ := Option.bind_eq_some_iff.mp h
  refine WP.callP (i := 0) (y := y1) (as := [.int p1, .int (1 : Int32), .int (4 : Int32)]) (S := [.ref 0]) d0_141 (hw _ m_48) (hw _ m_50) (hw _ m_3) (hw _ m_49) (hw _ m_51) (hw _ m_4) hy1 rfl (ok1 l Z a0 hw p1 (1 : Int32) (4 : Int32) s1 _ hc2) rfl (lenOf pd1 rfl) (leb rfl) (leb rfl) (leb rfl) (leb rfl) ?_
  rintro _ _ ⟨rfl, rfl⟩
  show W0 l Z n0 (P0 r) 17 1144 144 [.val (.ref 0), .val (.int p1), .val (.int p2)] [.int c2, .ref 0] (Hb 0 s1)
  obtain ⟨s3, es3, h⟩ := lt_e h
  refine WP.putI (i := 0) (j := 0) (H' := (Hb 0 s3)) d0_144 (hw _ m_52) (Or.inl (hw _ m_53)) (hw _ m_3) (hlay hw) rfl rfl rfl (leb rfl) (by subst es3; rfl) ?_
  refine WP.aloadN d0_147 rfl ?_
  refine WP.aloadN d0_148 rfl ?_
  refine WP.iloadN d0_149 rfl ?_
  refine WP.iconst (4 : Int32) d0_150 rfl ?_
  refine WP.bipush (16 : Int32) d0_151 rfl ?_
  obtain ⟨c4, hc4, h⟩ := Option.bind_eq_some_iff.mp h
  refine WP.callP (i := 0) (y := y1) (as := [.int p2, .int (4 : Int32), .int (16 : Int32)]) (S := [.ref 0]) d0_153 (hw _ m_48) (hw _ m_50) (hw _ m_3) (hw _ m_49) (hw _ m_51) (hw _ m_4) hy1 rfl (ok1 l Z a0 hw p2 (4 : Int32) (16 : Int32) s3 _ hc4) rfl (lenOf pd1 rfl) (leb rfl) (leb rfl) (leb rfl) (leb rfl) ?_
  rintro _ _ ⟨rfl, rfl⟩
  show W0 l Z n0 (P0 r) 17 1144 156 [.val (.ref 0), .val (.int p1), .val (.int p2)] [.int c4, .ref 0] (Hb 0 s3)
  obtain ⟨s5, es5, h⟩ := lt_e h
  refine WP.putI (i := 0) (j := 1) (H' := (Hb 0 s5)) d0_156 (hw _ m_54) (Or.inl (hw _ m_55)) (hw _ m_3) (hlay hw) rfl rfl rfl (leb rfl) (by subst es5; rfl) ?_
  refine WP.aloadN d0_159 rfl ?_
  obtain ⟨c6, hc6, h⟩ := Option.bind_eq_some_iff.mp h
  refine WP.callP (i := 0) (y := y2) (as := []) (S := []) d0_160 (hw _ m_56) (hw _ m_58) (hw _ m_3) (hw _ m_57) (hw _ m_59) (hw _ m_4) hy2 rfl (ok2 l Z a0 hw n s5 _ hc6) rfl (lenOf pd2 rfl) (leb rfl) (leb rfl) (leb rfl) (leb rfl) ?_
  rintro _ _ ⟨rfl, rfl⟩
  show W0 l Z n0 (P0 r) 17 1144 163 [.val (.ref 0), .val (.int p1), .val (.int p2)] [] (Hb 0 c6)
  refine WP.aloadN d0_163 rfl ?_
  obtain ⟨c7, hc7, h⟩ := Option.bind_eq_some_iff.mp h
  refine WP.callP (i := 0) (y := y3) (as := []) (S := []) d0_164 (hw _ m_60) (hw _ m_62) (hw _ m_3) (hw _ m_61) (hw _ m_63) (hw _ m_4) hy3 rfl (ok3 l Z a0 hw n c6 _ hc7) rfl (lenOf pd3 rfl) (leb rfl) (leb rfl) (leb rfl) (leb rfl) ?_
  rintro _ _ ⟨rfl, rfl⟩
  show W0 l Z n0 (P0 r) 17 1144 167 [.val (.ref 0), .val (.int p1), .val (.int p2)] [] (Hb 0 c7)
  refine WP.aloadN d0_167 rfl ?_
  obtain ⟨c8, hc8, h⟩ := Option.bind_eq_some_iff.mp h
  refine WP.callP (i := 0) (y := y4) (as := []) (S := []) d0_168 (hw _ m_64) (hw _ m_66) (hw _ m_3) (hw _ m_65) (hw _ m_67) (hw _ m_4) hy4 rfl (ok4 l Z a0 hw n c7 _ hc8) rfl (lenOf pd4 rfl) (leb rfl) (leb rfl) (leb rfl) (leb rfl) ?_
  rintro _ _ ⟨rfl, rfl⟩
  show W0 l Z n0 (P0 r) 17 1144 171 [.val (.ref 0), .val (.int p1), .val (.int p2)] [] (Hb 0 c8)
  refine WP.aloadN d0_171 rfl ?_
  refine WP.iconst (-1 : Int32) d0_172 rfl ?_
  obtain ⟨s9, es9, h⟩ := lt_e h
  refine WP.putI (i := 0) (j := 23) (H' := (Hb 0 s9)) d0_173 (hw _ m_72) (Or.inl (hw _ m_73)) (hw _ m_3) (hlay hw) rfl rfl rfl (leb rfl) (by subst es9; rfl) ?_
  refine WP.aloadN d0_176 rfl ?_
  refine WP.iconst (-1 : Int32) d0_177 rfl ?_
  obtain ⟨s10, es10, h⟩ := lt_e h
  refine WP.putI (i := 0) (j := 24) (H' := (Hb 0 s10)) d0_178 (hw _ m_74) (Or.inl (hw _ m_75)) (hw _ m_3) (hlay hw) rfl rfl rfl (leb rfl) (by subst es10; rfl) ?_
  refine WP.aloadN d0_181 rfl ?_
  refine WP.iconst (0 : Int32) d0_182 rfl ?_
  obtain ⟨s11, es11, h⟩ := lt_e h
  refine WP.putI (i := 0) (j := 19) (H' := (Hb 0 s11)) d0_183 (hw _ m_76) (Or.inl (hw _ m_77)) (hw _ m_3) (hlay hw) rfl rfl rfl (leb rfl) (by subst es11; rfl) ?_
  refine WP.aloadN d0_186 rfl ?_
  refine WP.lconst (0 : Int64) d0_187 rfl ?_
  obtain ⟨s12, es12, h⟩ := lt_e h
  refine WP.putJ (i := 0) (j := 20) (H' := (Hb 0 s12)) d0_188 (hw _ m_78) (Or.inl (hw _ m_79)) (hw _ m_3) (hlay hw) rfl rfl rfl (leb rfl) (by subst es12; rfl) ?_
  refine WP.aloadN d0_191 rfl ?_
  refine WP.lconst (0 : Int64) d0_192 rfl ?_
  obtain ⟨s13, es13, h⟩ := lt_e h
  refine WP.putJ (i := 0) (j := 21) (H' := (Hb 0 s13)) d0_193 (hw _ m_80) (Or.inl (hw _ m_81)) (hw _ m_3) (hlay hw) rfl rfl rfl (leb rfl) (by subst es13; rfl) ?_
  refine WP.aloadN d0_196 rfl ?_
  refine WP.lconst (0 : Int64) d0_197 rfl ?_
  obtain ⟨s14, es14, h⟩ := lt_e h
  refine WP.putJ (i := 0) (j := 22) (H' := (Hb 0 s14)) d0_198 (hw _ m_82) (Or.inl (hw _ m_83)) (hw _ m_3) (hlay hw) rfl rfl rfl (leb rfl) (by subst es14; rfl) ?_
  cases h
  exact WP.vreturn d0_201 rfl (leb rfl) (leb rfl) ⟨rfl, rfl⟩
theorem d7_0 : dc prog_1_method_56_code 0 (.iload_n 1) 1 := by decide +kernel
theorem d7_1 : dc prog_1_method_56_code 1 (.ifCond .lt 13) 3 := by decide +kernel
theorem d7_4 : dc prog_1_method_56_code 4 (.iload_n 1) 1 := by decide +kernel
theorem d7_5 : dc prog_1_method_56_code 5 (.bipush 32) 2 := by decide +kernel
theorem d7_7 : dc prog_1_method_56_code 7 (.if_icmp .ge 7) 3 := by decide +kernel
theorem d7_10 : dc prog_1_method_56_code 10 (.iconst 1) 1 := by decide +kernel
theorem d7_11 : dc prog_1_method_56_code 11 (.goto 4) 3 := by decide +kernel
theorem d7_14 : dc prog_1_method_56_code 14 (.iconst 0) 1 := by decide +kernel
theorem d7_15 : dc prog_1_method_56_code 15 (.ireturn) 1 := by decide +kernel
abbrev y7 : MethodName := ⟨"GeneralLedger", "isAccountId", "(I)Z"⟩
theorem hy7 : y7.cls ≠ "java/lang/invoke/MethodHandle" ∧ y7.cls ≠ "java/lang/invoke/VarHandle" := by decide
theorem pd7 : parseMethodDescriptor y7.desc = some ⟨[.int], some .boolean⟩ := by decide +kernel
abbrev R7 : Room := { frames := 0, cells := 0, slots := 0, locals := 0 }
abbrev P7 (s : St) (r : Int32) : Option Value → List OwnC → Prop := fun v H' => v = some (.int r) ∧ H' = (Hb 0 s)
abbrev W7 (l : Launch) (Z : State) (n0 : Nat) (Q : Option Value → List OwnC → Prop) (k n pc : Nat) (L : List Slot) (S : List Value) (H : List OwnC) : Prop := WP l Z CN lay "GeneralLedger" "isAccountId" prog_1_method_56_code 2 (some FieldType.boolean) R7 n0 0 Q k n pc L S H
def f_isAccountId_15 (t0 : Int32) (s : St) : Option (Int32) :=
  some (t0 &&& 1)
set_option maxRecDepth 65536 in
set_option maxHeartbeats 4000000 in
theorem ok7_15 (l : Launch) (Z : State) (a0 : Array Value) (hw : HW a0 Z) (n0 : Nat) (t0 : Int32) (s : St) (r : Int32) (h : f_isAccountId_15 t0 s = some r) : W7 l Z n0 (P7 s r) 0 0 15 [.unset, .unset] [.int t0] (Hb 0 s) := by
  unfold f_isAccountId_15 at h
  cases h
  exact WP.zreturn d7_15 rfl (leb rfl) (leb rfl) ⟨rfl, rfl⟩
def f_isAccountId_14 (s : St) : Option (Int32) :=
  f_isAccountId_15 (0 : Int32) s
set_option maxRecDepth 65536 in
set_option maxHeartbeats 4000000 in
theorem ok7_14 (l : Launch) (Z : State) (a0 : Array Value) (hw : HW a0 Z) (n0 : Nat) (s : St) (r : Int32) (h : f_isAccountId_14 s = some r) : W7 l Z n0 (P7 s r) 0 0 14 [.unset, .unset] [] (Hb 0 s) := by
  unfold f_isAccountId_14 at h
  refine WP.iconst (0 : Int32) d7_14 rfl ?_
  exact WP.weak (L' := [.unset, .unset]) trivial (ok7_15 l Z a0 hw n0 (0 : Int32) s _ h)
def f_isAccountId (p1 : Int32) (s : St) : Option (Int32) :=
  if p1 < 0 then
    f_isAccountId_14 s
  else
    if p1 < (32 : Int32) then
      f_isAccountId_15 (1 : Int32) s
    else
      f_isAccountId_14 s
set_option maxRecDepth 65536 in
set_option maxHeartbeats 4000000 in
theorem ok7 (l : Launch) (Z : State) (a0 : Array Value) (hw : HW a0 Z) (p1 : Int32) (s : St) (r : Int32) (h : f_isAccountId p1 s = some r) : CS l Z CN lay y7 prog_1_method_56_code 2 (some FieldType.boolean) R7 0 [.ref 0, .int p1] (Hb 0 s) (P7 s r) := by
  refine CS.of_wp pn_cls (leb rfl) fun n0 => ?_
  show W7 l Z n0 (P7 s r) 0 0 0 [.val (.ref 0), .val (.int p1)] [] (Hb 0 s)
  unfold f_isAccountId at h
  refine WP.iloadN d7_0 rfl ?_
  rcases ite_e h with ⟨hc1, h⟩ | ⟨hc1, h⟩
  ·
    refine WP.ifY (pc' := 14) d7_1 (XT.i0_lt_t hc1) (by decide) rfl ?_
    exact WP.weak (L' := [.unset, .unset]) trivial (ok7_14 l Z a0 hw n0 s _ h)
  ·
    refine WP.ifN d7_1 (XT.i0_lt_f hc1) ?_
    refine WP.iloadN d7_4 rfl ?_
    refine WP.bipush (32 : Int32) d7_5 rfl ?_
    rcases ite_e h with ⟨hc2, h⟩ | ⟨hc2, h⟩
    ·
      refine WP.icmpN d7_7 (XT.ii_ge_f hc2) ?_
      refine WP.iconst (1 : Int32) d7_10 rfl ?_
      refine WP.goto (pc' := 15) d7_11 (by decide) rfl ?_
      exact WP.weak (L' := [.unset, .unset]) trivial (ok7_15 l Z a0 hw n0 (1 : Int32) s _ h)
    ·
      refine WP.icmpY (pc' := 14) d7_7 (XT.ii_ge_t hc2) (by decide) rfl ?_
      exact WP.weak (L' := [.unset, .unset]) trivial (ok7_14 l Z a0 hw n0 s _ h)
theorem d15_0 : dc prog_1_method_57_code 0 (.aload_n 0) 1 := by decide +kernel
theorem d15_1 : dc prog_1_method_57_code 1 (.iload_n 1) 1 := by decide +kernel
theorem d15_2 : dc prog_1_method_57_code 2 (.invokevirtual 106) 3 := by decide +kernel
theorem d15_5 : dc prog_1_method_57_code 5 (.ifCond .eq 16) 3 := by decide +kernel
theorem d15_8 : dc prog_1_method_57_code 8 (.aload_n 0) 1 := by decide +kernel
theorem d15_9 : dc prog_1_method_57_code 9 (.getfield 7) 3 := by decide +kernel
theorem d15_12 : dc prog_1_method_57_code 12 (.iload_n 1) 1 := by decide +kernel
theorem d15_13 : dc prog_1_method_57_code 13 (.baload) 1 := by decide +kernel
theorem d15_14 : dc prog_1_method_57_code 14 (.ifCond .eq 7) 3 := by decide +kernel
theorem d15_17 : dc prog_1_method_57_code 17 (.iconst 1) 1 := by decide +kernel
theorem d15_18 : dc prog_1_method_57_code 18 (.goto 4) 3 := by decide +kernel
theorem d15_21 : dc prog_1_method_57_code 21 (.iconst 0) 1 := by decide +kernel
theorem d15_22 : dc prog_1_method_57_code 22 (.ireturn) 1 := by decide +kernel
abbrev y15 : MethodName := ⟨"GeneralLedger", "isOpenAccount", "(I)Z"⟩
theorem hy15 : y15.cls ≠ "java/lang/invoke/MethodHandle" ∧ y15.cls ≠ "java/lang/invoke/VarHandle" := by decide
theorem pd15 : parseMethodDescriptor y15.desc = some ⟨[.int], some .boolean⟩ := by decide +kernel
abbrev R15 : Room := { frames := 1, cells := 0, slots := 0, locals := 13 }
abbrev P15 (s : St) (r : Int32) : Option Value → List OwnC → Prop := fun v H' => v = some (.int r) ∧ H' = (Hb 0 s)
abbrev W15 (l : Launch) (Z : State) (n0 : Nat) (Q : Option Value → List OwnC → Prop) (k n pc : Nat) (L : List Slot) (S : List Value) (H : List OwnC) : Prop := WP l Z CN lay "GeneralLedger" "isOpenAccount" prog_1_method_57_code 2 (some FieldType.boolean) R15 n0 0 Q k n pc L S H
def f_isOpenAccount_22 (t0 : Int32) (s : St) : Option (Int32) :=
  some (t0 &&& 1)
set_option maxRecDepth 65536 in
set_option maxHeartbeats 4000000 in
theorem ok15_22 (l : Launch) (Z : State) (a0 : Array Value) (hw : HW a0 Z) (n0 : Nat) (t0 : Int32) (s : St) (r : Int32) (h : f_isOpenAccount_22 t0 s = some r) : W15 l Z n0 (P15 s r) 0 0 22 [.unset, .unset] [.int t0] (Hb 0 s) := by
  unfold f_isOpenAccount_22 at h
  cases h
  exact WP.zreturn d15_22 rfl (leb rfl) (leb rfl) ⟨rfl, rfl⟩
def f_isOpenAccount_21 (s : St) : Option (Int32) :=
  f_isOpenAccount_22 (0 : Int32) s
set_option maxRecDepth 65536 in
set_option maxHeartbeats 4000000 in
theorem ok15_21 (l : Launch) (Z : State) (a0 : Array Value) (hw : HW a0 Z) (n0 : Nat) (s : St) (r : Int32) (h : f_isOpenAccount_21 s = some r) : W15 l Z n0 (P15 s r) 0 0 21 [.unset, .unset] [] (Hb 0 s) := by
  unfold f_isOpenAccount_21 at h
  refine WP.iconst (0 : Int32) d15_21 rfl ?_
  exact WP.weak (L' := [.unset, .unset]) trivial (ok15_22 l Z a0 hw n0 (0 : Int32) s _ h)
def f_isOpenAccount (p1 : Int32) (s : St) : Option (Int32) :=
  (f_isAccountId p1 s).bind fun c1 =>
  if c1 = 0 then
    f_isOpenAccount_21 s
  else
    (rd (gA s 0) p1).bind fun x3 =>
    if x3 = 0 then
      f_isOpenAccount_21 s
    else
      f_isOpenAccount_22 (1 : Int32) s
set_option maxRecDepth 65536 in
set_option maxHeartbeats 4000000 in
theorem ok15 (l : Launch) (Z : State) (a0 : Array Value) (hw : HW a0 Z) (p1 : Int32) (s : St) (r : Int32) (h : f_isOpenAccount p1 s = some r) : CS l Z CN lay y15 prog_1_method_57_code 2 (some FieldType.boolean) R15 0 [.ref 0, .int p1] (Hb 0 s) (P15 s r) := by
  refine CS.of_wp pn_cls (leb rfl) fun n0 => ?_
  show W15 l Z n0 (P15 s r) 0 0 0 [.val (.ref 0), .val (.int p1)] [] (Hb 0 s)
  unfold f_isOpenAccount at h
  refine WP.aloadN d15_0 rfl ?_
  refine WP.iloadN d15_1 rfl ?_
  obtain ⟨c1, hc1, h⟩ := Option.bind_eq_some_iff.mp h
  refine WP.callP (i := 0) (y := y7) (as := [.int p1]) (S := []) d15_2 (hw _ m_89) (hw _ m_91) (hw _ m_3) (hw _ m_90) (hw _ m_92) (hw _ m_4) hy7 rfl (ok7 l Z a0 hw p1 s _ hc1) rfl (lenOf pd7 rfl) (leb rfl) (leb rfl) (leb rfl) (leb rfl) ?_
  rintro _ _ ⟨rfl, rfl⟩
  show W15 l Z n0 (P15 s r) 0 0 5 [.val (.ref 0), .val (.int p1)] [.int c1] (Hb 0 s)
  rcases ite_e h with ⟨hc2, h⟩ | ⟨hc2, h⟩
  ·
    refine WP.ifY (pc' := 21) d15_5 (XT.i0_eq_t hc2) (by decide) rfl ?_
    exact WP.weak (L' := [.unset, .unset]) trivial (ok15_21 l Z a0 hw n0 s _ h)
  ·
    refine WP.ifN d15_5 (XT.i0_eq_f hc2) ?_
    refine WP.aloadN d15_8 rfl ?_
    refine WP.getfield (i := 0) (j := 2) d15_9 (hw _ m_12) rfl rfl rfl ?_
    refine WP.iloadN d15_12 rfl ?_
    obtain ⟨x3, hx3, h⟩ := Option.bind_eq_some_iff.mp h
    refine WP.baload (i := 1) d15_13 rfl hx3 ?_
    rcases ite_e h with ⟨hc4, h⟩ | ⟨hc4, h⟩
    ·
      refine WP.ifY (pc' := 21) d15_14 (XT.i0_eq_t hc4) (by decide) rfl ?_
      exact WP.weak (L' := [.unset, .unset]) trivial (ok15_21 l Z a0 hw n0 s _ h)
    ·
      refine WP.ifN d15_14 (XT.i0_eq_f hc4) ?_
      refine WP.iconst (1 : Int32) d15_17 rfl ?_
      refine WP.goto (pc' := 22) d15_18 (by decide) rfl ?_
      exact WP.weak (L' := [.unset, .unset]) trivial (ok15_22 l Z a0 hw n0 (1 : Int32) s _ h)
theorem d8_0 : dc prog_1_method_65_code 0 (.iload_n 1) 1 := by decide +kernel
theorem d8_1 : dc prog_1_method_65_code 1 (.ifCond .lt 12) 3 := by decide +kernel
theorem d8_4 : dc prog_1_method_65_code 4 (.iload_n 1) 1 := by decide +kernel
theorem d8_5 : dc prog_1_method_65_code 5 (.iconst 4) 1 := by decide +kernel
theorem d8_6 : dc prog_1_method_65_code 6 (.if_icmp .gt 7) 3 := by decide +kernel
theorem d8_9 : dc prog_1_method_65_code 9 (.iconst 1) 1 := by decide +kernel
theorem d8_10 : dc prog_1_method_65_code 10 (.goto 4) 3 := by decide +kernel
theorem d8_13 : dc prog_1_method_65_code 13 (.iconst 0) 1 := by decide +kernel
theorem d8_14 : dc prog_1_method_65_code 14 (.ireturn) 1 := by decide +kernel
abbrev y8 : MethodName := ⟨"GeneralLedger", "isValidType", "(I)Z"⟩
theorem hy8 : y8.cls ≠ "java/lang/invoke/MethodHandle" ∧ y8.cls ≠ "java/lang/invoke/VarHandle" := by decide
theorem pd8 : parseMethodDescriptor y8.desc = some ⟨[.int], some .boolean⟩ := by decide +kernel
abbrev R8 : Room := { frames := 0, cells := 0, slots := 0, locals := 0 }
abbrev P8 (s : St) (r : Int32) : Option Value → List OwnC → Prop := fun v H' => v = some (.int r) ∧ H' = (Hb 0 s)
abbrev W8 (l : Launch) (Z : State) (n0 : Nat) (Q : Option Value → List OwnC → Prop) (k n pc : Nat) (L : List Slot) (S : List Value) (H : List OwnC) : Prop := WP l Z CN lay "GeneralLedger" "isValidType" prog_1_method_65_code 2 (some FieldType.boolean) R8 n0 0 Q k n pc L S H
def f_isValidType_14 (t0 : Int32) (s : St) : Option (Int32) :=
  some (t0 &&& 1)
set_option maxRecDepth 65536 in
set_option maxHeartbeats 4000000 in
theorem ok8_14 (l : Launch) (Z : State) (a0 : Array Value) (hw : HW a0 Z) (n0 : Nat) (t0 : Int32) (s : St) (r : Int32) (h : f_isValidType_14 t0 s = some r) : W8 l Z n0 (P8 s r) 0 0 14 [.unset, .unset] [.int t0] (Hb 0 s) := by
  unfold f_isValidType_14 at h
  cases h
  exact WP.zreturn d8_14 rfl (leb rfl) (leb rfl) ⟨rfl, rfl⟩
def f_isValidType_13 (s : St) : Option (Int32) :=
  f_isValidType_14 (0 : Int32) s
set_option maxRecDepth 65536 in
set_option maxHeartbeats 4000000 in
theorem ok8_13 (l : Launch) (Z : State) (a0 : Array Value) (hw : HW a0 Z) (n0 : Nat) (s : St) (r : Int32) (h : f_isValidType_13 s = some r) : W8 l Z n0 (P8 s r) 0 0 13 [.unset, .unset] [] (Hb 0 s) := by
  unfold f_isValidType_13 at h
  refine WP.iconst (0 : Int32) d8_13 rfl ?_
  exact WP.weak (L' := [.unset, .unset]) trivial (ok8_14 l Z a0 hw n0 (0 : Int32) s _ h)
def f_isValidType (p1 : Int32) (s : St) : Option (Int32) :=
  if p1 < 0 then
    f_isValidType_13 s
  else
    if (4 : Int32) < p1 then
      f_isValidType_13 s
    else
      f_isValidType_14 (1 : Int32) s
set_option maxRecDepth 65536 in
set_option maxHeartbeats 4000000 in
theorem ok8 (l : Launch) (Z : State) (a0 : Array Value) (hw : HW a0 Z) (p1 : Int32) (s : St) (r : Int32) (h : f_isValidType p1 s = some r) : CS l Z CN lay y8 prog_1_method_65_code 2 (some FieldType.boolean) R8 0 [.ref 0, .int p1] (Hb 0 s) (P8 s r) := by
  refine CS.of_wp pn_cls (leb rfl) fun n0 => ?_
  show W8 l Z n0 (P8 s r) 0 0 0 [.val (.ref 0), .val (.int p1)] [] (Hb 0 s)
  unfold f_isValidType at h
  refine WP.iloadN d8_0 rfl ?_
  rcases ite_e h with ⟨hc1, h⟩ | ⟨hc1, h⟩
  ·
    refine WP.ifY (pc' := 13) d8_1 (XT.i0_lt_t hc1) (by decide) rfl ?_
    exact WP.weak (L' := [.unset, .unset]) trivial (ok8_13 l Z a0 hw n0 s _ h)
  ·
    refine WP.ifN d8_1 (XT.i0_lt_f hc1) ?_
    refine WP.iloadN d8_4 rfl ?_
    refine WP.iconst (4 : Int32) d8_5 rfl ?_
    rcases ite_e h with ⟨hc2, h⟩ | ⟨hc2, h⟩
    ·
      refine WP.icmpY (pc' := 13) d8_6 (XT.ii_gt_t hc2) (by decide) rfl ?_
      exact WP.weak (L' := [.unset, .unset]) trivial (ok8_13 l Z a0 hw n0 s _ h)
    ·
      refine WP.icmpN d8_6 (XT.ii_gt_f hc2) ?_
      refine WP.iconst (1 : Int32) d8_9 rfl ?_
      refine WP.goto (pc' := 14) d8_10 (by decide) rfl ?_
      exact WP.weak (L' := [.unset, .unset]) trivial (ok8_14 l Z a0 hw n0 (1 : Int32) s _ h)
theorem d9_0 : dc prog_1_method_61_code 0 (.iload_n 1) 1 := by decide +kernel
theorem d9_1 : dc prog_1_method_61_code 1 (.ifCond .lt 15) 3 := by decide +kernel
theorem d9_4 : dc prog_1_method_61_code 4 (.iload_n 1) 1 := by decide +kernel
theorem d9_5 : dc prog_1_method_61_code 5 (.aload_n 0) 1 := by decide +kernel
theorem d9_6 : dc prog_1_method_61_code 6 (.getfield 67) 3 := by decide +kernel
theorem d9_9 : dc prog_1_method_61_code 9 (.if_icmp .ge 7) 3 := by decide +kernel
theorem d9_12 : dc prog_1_method_61_code 12 (.iconst 1) 1 := by decide +kernel
theorem d9_13 : dc prog_1_method_61_code 13 (.goto 4) 3 := by decide +kernel
theorem d9_16 : dc prog_1_method_61_code 16 (.iconst 0) 1 := by decide +kernel
theorem d9_17 : dc prog_1_method_61_code 17 (.ireturn) 1 := by decide +kernel
abbrev y9 : MethodName := ⟨"GeneralLedger", "isCurrency", "(I)Z"⟩
theorem hy9 : y9.cls ≠ "java/lang/invoke/MethodHandle" ∧ y9.cls ≠ "java/lang/invoke/VarHandle" := by decide
theorem pd9 : parseMethodDescriptor y9.desc = some ⟨[.int], some .boolean⟩ := by decide +kernel
abbrev R9 : Room := { frames := 0, cells := 0, slots := 0, locals := 0 }
abbrev P9 (s : St) (r : Int32) : Option Value → List OwnC → Prop := fun v H' => v = some (.int r) ∧ H' = (Hb 0 s)
abbrev W9 (l : Launch) (Z : State) (n0 : Nat) (Q : Option Value → List OwnC → Prop) (k n pc : Nat) (L : List Slot) (S : List Value) (H : List OwnC) : Prop := WP l Z CN lay "GeneralLedger" "isCurrency" prog_1_method_61_code 2 (some FieldType.boolean) R9 n0 0 Q k n pc L S H
def f_isCurrency_17 (t0 : Int32) (s : St) : Option (Int32) :=
  some (t0 &&& 1)
set_option maxRecDepth 65536 in
set_option maxHeartbeats 4000000 in
theorem ok9_17 (l : Launch) (Z : State) (a0 : Array Value) (hw : HW a0 Z) (n0 : Nat) (t0 : Int32) (s : St) (r : Int32) (h : f_isCurrency_17 t0 s = some r) : W9 l Z n0 (P9 s r) 0 0 17 [.unset, .unset] [.int t0] (Hb 0 s) := by
  unfold f_isCurrency_17 at h
  cases h
  exact WP.zreturn d9_17 rfl (leb rfl) (leb rfl) ⟨rfl, rfl⟩
def f_isCurrency_16 (s : St) : Option (Int32) :=
  f_isCurrency_17 (0 : Int32) s
set_option maxRecDepth 65536 in
set_option maxHeartbeats 4000000 in
theorem ok9_16 (l : Launch) (Z : State) (a0 : Array Value) (hw : HW a0 Z) (n0 : Nat) (s : St) (r : Int32) (h : f_isCurrency_16 s = some r) : W9 l Z n0 (P9 s r) 0 0 16 [.unset, .unset] [] (Hb 0 s) := by
  unfold f_isCurrency_16 at h
  refine WP.iconst (0 : Int32) d9_16 rfl ?_
  exact WP.weak (L' := [.unset, .unset]) trivial (ok9_17 l Z a0 hw n0 (0 : Int32) s _ h)
def f_isCurrency (p1 : Int32) (s : St) : Option (Int32) :=
  if p1 < 0 then
    f_isCurrency_16 s
  else
    if p1 < (gI s 0) then
      f_isCurrency_17 (1 : Int32) s
    else
      f_isCurrency_16 s
set_option maxRecDepth 65536 in
set_option maxHeartbeats 4000000 in
theorem ok9 (l : Launch) (Z : State) (a0 : Array Value) (hw : HW a0 Z) (p1 : Int32) (s : St) (r : Int32) (h : f_isCurrency p1 s = some r) : CS l Z CN lay y9 prog_1_method_61_code 2 (some FieldType.boolean) R9 0 [.ref 0, .int p1] (Hb 0 s) (P9 s r) := by
  refine CS.of_wp pn_cls (leb rfl) fun n0 => ?_
  show W9 l Z n0 (P9 s r) 0 0 0 [.val (.ref 0), .val (.int p1)] [] (Hb 0 s)
  unfold f_isCurrency at h
  refine WP.iloadN d9_0 rfl ?_
  rcases ite_e h with ⟨hc1, h⟩ | ⟨hc1, h⟩
  ·
    refine WP.ifY (pc' := 16) d9_1 (XT.i0_lt_t hc1) (by decide) rfl ?_
    exact WP.weak (L' := [.unset, .unset]) trivial (ok9_16 l Z a0 hw n0 s _ h)
  ·
    refine WP.ifN d9_1 (XT.i0_lt_f hc1) ?_
    refine WP.iloadN d9_4 rfl ?_
    refine WP.aloadN d9_5 rfl ?_
    refine WP.getfield (i := 0) (j := 0) d9_6 (hw _ m_52) rfl rfl rfl ?_
    rcases ite_e h with ⟨hc2, h⟩ | ⟨hc2, h⟩
    ·
      refine WP.icmpN d9_9 (XT.ii_ge_f hc2) ?_
      refine WP.iconst (1 : Int32) d9_12 rfl ?_
      refine WP.goto (pc' := 17) d9_13 (by decide) rfl ?_
      exact WP.weak (L' := [.unset, .unset]) trivial (ok9_17 l Z a0 hw n0 (1 : Int32) s _ h)
    ·
      refine WP.icmpY (pc' := 16) d9_9 (XT.ii_ge_t hc2) (by decide) rfl ?_
      exact WP.weak (L' := [.unset, .unset]) trivial (ok9_16 l Z a0 hw n0 s _ h)
theorem d13_0 : dc prog_1_method_66_code 0 (.iload_n 1) 1 := by decide +kernel
theorem d13_1 : dc prog_1_method_66_code 1 (.ifCond .eq 8) 3 := by decide +kernel
theorem d13_4 : dc prog_1_method_66_code 4 (.iload_n 1) 1 := by decide +kernel
theorem d13_5 : dc prog_1_method_66_code 5 (.iconst 1) 1 := by decide +kernel
theorem d13_6 : dc prog_1_method_66_code 6 (.if_icmp .ne 7) 3 := by decide +kernel
theorem d13_9 : dc prog_1_method_66_code 9 (.iconst 1) 1 := by decide +kernel
theorem d13_10 : dc prog_1_method_66_code 10 (.goto 4) 3 := by decide +kernel
theorem d13_13 : dc prog_1_method_66_code 13 (.iconst 0) 1 := by decide +kernel
theorem d13_14 : dc prog_1_method_66_code 14 (.ireturn) 1 := by decide +kernel
abbrev y13 : MethodName := ⟨"GeneralLedger", "allowsForeign", "(I)Z"⟩
theorem hy13 : y13.cls ≠ "java/lang/invoke/MethodHandle" ∧ y13.cls ≠ "java/lang/invoke/VarHandle" := by decide
theorem pd13 : parseMethodDescriptor y13.desc = some ⟨[.int], some .boolean⟩ := by decide +kernel
abbrev R13 : Room := { frames := 0, cells := 0, slots := 0, locals := 0 }
abbrev P13 (s : St) (r : Int32) : Option Value → List OwnC → Prop := fun v H' => v = some (.int r) ∧ H' = (Hb 0 s)
abbrev W13 (l : Launch) (Z : State) (n0 : Nat) (Q : Option Value → List OwnC → Prop) (k n pc : Nat) (L : List Slot) (S : List Value) (H : List OwnC) : Prop := WP l Z CN lay "GeneralLedger" "allowsForeign" prog_1_method_66_code 2 (some FieldType.boolean) R13 n0 0 Q k n pc L S H
def f_allowsForeign_14 (t0 : Int32) (s : St) : Option (Int32) :=
  some (t0 &&& 1)
set_option maxRecDepth 65536 in
set_option maxHeartbeats 4000000 in
theorem ok13_14 (l : Launch) (Z : State) (a0 : Array Value) (hw : HW a0 Z) (n0 : Nat) (t0 : Int32) (s : St) (r : Int32) (h : f_allowsForeign_14 t0 s = some r) : W13 l Z n0 (P13 s r) 0 0 14 [.unset, .unset] [.int t0] (Hb 0 s) := by
  unfold f_allowsForeign_14 at h
  cases h
  exact WP.zreturn d13_14 rfl (leb rfl) (leb rfl) ⟨rfl, rfl⟩
def f_allowsForeign_9 (s : St) : Option (Int32) :=
  f_allowsForeign_14 (1 : Int32) s
set_option maxRecDepth 65536 in
set_option maxHeartbeats 4000000 in
theorem ok13_9 (l : Launch) (Z : State) (a0 : Array Value) (hw : HW a0 Z) (n0 : Nat) (s : St) (r : Int32) (h : f_allowsForeign_9 s = some r) : W13 l Z n0 (P13 s r) 0 0 9 [.unset, .unset] [] (Hb 0 s) := by
  unfold f_allowsForeign_9 at h
  refine WP.iconst (1 : Int32) d13_9 rfl ?_
  refine WP.goto (pc' := 14) d13_10 (by decide) rfl ?_
  exact WP.weak (L' := [.unset, .unset]) trivial (ok13_14 l Z a0 hw n0 (1 : Int32) s _ h)
def f_allowsForeign (p1 : Int32) (s : St) : Option (Int32) :=
  if p1 = 0 then
    f_allowsForeign_9 s
  else
    if p1 = (1 : Int32) then
      f_allowsForeign_9 s
    else
      f_allowsForeign_14 (0 : Int32) s
set_option maxRecDepth 65536 in
set_option maxHeartbeats 4000000 in
theorem ok13 (l : Launch) (Z : State) (a0 : Array Value) (hw : HW a0 Z) (p1 : Int32) (s : St) (r : Int32) (h : f_allowsForeign p1 s = some r) : CS l Z CN lay y13 prog_1_method_66_code 2 (some FieldType.boolean) R13 0 [.ref 0, .int p1] (Hb 0 s) (P13 s r) := by
  refine CS.of_wp pn_cls (leb rfl) fun n0 => ?_
  show W13 l Z n0 (P13 s r) 0 0 0 [.val (.ref 0), .val (.int p1)] [] (Hb 0 s)
  unfold f_allowsForeign at h
  refine WP.iloadN d13_0 rfl ?_
  rcases ite_e h with ⟨hc1, h⟩ | ⟨hc1, h⟩
  ·
    refine WP.ifY (pc' := 9) d13_1 (XT.i0_eq_t hc1) (by decide) rfl ?_
    exact WP.weak (L' := [.unset, .unset]) trivial (ok13_9 l Z a0 hw n0 s _ h)
  ·
    refine WP.ifN d13_1 (XT.i0_eq_f hc1) ?_
    refine WP.iloadN d13_4 rfl ?_
    refine WP.iconst (1 : Int32) d13_5 rfl ?_
    rcases ite_e h with ⟨hc2, h⟩ | ⟨hc2, h⟩
    ·
      refine WP.icmpN d13_6 (XT.ii_ne_f hc2) ?_
      exact WP.weak (L' := [.unset, .unset]) trivial (ok13_9 l Z a0 hw n0 s _ h)
    ·
      refine WP.icmpY (pc' := 13) d13_6 (XT.ii_ne_t hc2) (by decide) rfl ?_
      refine WP.iconst (0 : Int32) d13_13 rfl ?_
      exact WP.weak (L' := [.unset, .unset]) trivial (ok13_14 l Z a0 hw n0 (0 : Int32) s _ h)
theorem d12_0 : dc prog_1_method_53_code 0 (.iload_n 1) 1 := by decide +kernel
theorem d12_1 : dc prog_1_method_53_code 1 (.bipush 12) 2 := by decide +kernel
theorem d12_3 : dc prog_1_method_53_code 3 (.imul) 1 := by decide +kernel
theorem d12_4 : dc prog_1_method_53_code 4 (.iload_n 2) 1 := by decide +kernel
theorem d12_5 : dc prog_1_method_53_code 5 (.iadd) 1 := by decide +kernel
theorem d12_6 : dc prog_1_method_53_code 6 (.ireturn) 1 := by decide +kernel
abbrev y12 : MethodName := ⟨"GeneralLedger", "cell", "(II)I"⟩
theorem hy12 : y12.cls ≠ "java/lang/invoke/MethodHandle" ∧ y12.cls ≠ "java/lang/invoke/VarHandle" := by decide
theorem pd12 : parseMethodDescriptor y12.desc = some ⟨[.int, .int], some .int⟩ := by decide +kernel
abbrev R12 : Room := { frames := 0, cells := 0, slots := 0, locals := 0 }
abbrev P12 (s : St) (r : Int32) : Option Value → List OwnC → Prop := fun v H' => v = some (.int r) ∧ H' = (Hb 0 s)
abbrev W12 (l : Launch) (Z : State) (n0 : Nat) (Q : Option Value → List OwnC → Prop) (k n pc : Nat) (L : List Slot) (S : List Value) (H : List OwnC) : Prop := WP l Z CN lay "GeneralLedger" "cell" prog_1_method_53_code 3 (some FieldType.int) R12 n0 0 Q k n pc L S H
def f_cell (p1 : Int32) (p2 : Int32) (s : St) : Option (Int32) :=
  some ((p1 * (12 : Int32)) + p2)
set_option maxRecDepth 65536 in
set_option maxHeartbeats 4000000 in
theorem ok12 (l : Launch) (Z : State) (a0 : Array Value) (hw : HW a0 Z) (p1 : Int32) (p2 : Int32) (s : St) (r : Int32) (h : f_cell p1 p2 s = some r) : CS l Z CN lay y12 prog_1_method_53_code 3 (some FieldType.int) R12 0 [.ref 0, .int p1, .int p2] (Hb 0 s) (P12 s r) := by
  refine CS.of_wp pn_cls (leb rfl) fun n0 => ?_
  show W12 l Z n0 (P12 s r) 0 0 0 [.val (.ref 0), .val (.int p1), .val (.int p2)] [] (Hb 0 s)
  unfold f_cell at h
  refine WP.iloadN d12_0 rfl ?_
  refine WP.bipush (12 : Int32) d12_1 rfl ?_
  refine WP.imul d12_3 ?_
  refine WP.iloadN d12_4 rfl ?_
  refine WP.iadd d12_5 ?_
  cases h
  exact WP.ireturn d12_6 rfl (leb rfl) (leb rfl) ⟨rfl, rfl⟩
theorem d11_0 : dc prog_1_method_9_code 0 (.iconst 0) 1 := by decide +kernel
theorem d11_1 : dc prog_1_method_9_code 1 (.istore_n 2) 1 := by decide +kernel
theorem d11_2 : dc prog_1_method_9_code 2 (.iload_n 2) 1 := by decide +kernel
theorem d11_3 : dc prog_1_method_9_code 3 (.bipush 12) 2 := by decide +kernel
theorem d11_5 : dc prog_1_method_9_code 5 (.if_icmp .ge 30) 3 := by decide +kernel
theorem d11_8 : dc prog_1_method_9_code 8 (.aload_n 0) 1 := by decide +kernel
theorem d11_9 : dc prog_1_method_9_code 9 (.iload_n 1) 1 := by decide +kernel
theorem d11_10 : dc prog_1_method_9_code 10 (.iload_n 2) 1 := by decide +kernel
theorem d11_11 : dc prog_1_method_9_code 11 (.invokevirtual 132) 3 := by decide +kernel
theorem d11_14 : dc prog_1_method_9_code 14 (.istore_n 3) 1 := by decide +kernel
theorem d11_15 : dc prog_1_method_9_code 15 (.aload_n 0) 1 := by decide +kernel
theorem d11_16 : dc prog_1_method_9_code 16 (.getfield 32) 3 := by decide +kernel
theorem d11_19 : dc prog_1_method_9_code 19 (.iload_n 3) 1 := by decide +kernel
theorem d11_20 : dc prog_1_method_9_code 20 (.lconst 0) 1 := by decide +kernel
theorem d11_21 : dc prog_1_method_9_code 21 (.lastore) 1 := by decide +kernel
theorem d11_22 : dc prog_1_method_9_code 22 (.aload_n 0) 1 := by decide +kernel
theorem d11_23 : dc prog_1_method_9_code 23 (.getfield 36) 3 := by decide +kernel
theorem d11_26 : dc prog_1_method_9_code 26 (.iload_n 3) 1 := by decide +kernel
theorem d11_27 : dc prog_1_method_9_code 27 (.lconst 0) 1 := by decide +kernel
theorem d11_28 : dc prog_1_method_9_code 28 (.lastore) 1 := by decide +kernel
theorem d11_29 : dc prog_1_method_9_code 29 (.iinc 2 1) 3 := by decide +kernel
theorem d11_32 : dc prog_1_method_9_code 32 (.goto (-30)) 3 := by decide +kernel
theorem d11_35 : dc prog_1_method_9_code 35 (.return_) 1 := by decide +kernel
abbrev y11 : MethodName := ⟨"GeneralLedger", "clearMovements", "(I)V"⟩
theorem hy11 : y11.cls ≠ "java/lang/invoke/MethodHandle" ∧ y11.cls ≠ "java/lang/invoke/VarHandle" := by decide
theorem pd11 : parseMethodDescriptor y11.desc = some ⟨[.int], none⟩ := by decide +kernel
abbrev R11 : Room := { frames := 1, cells := 0, slots := 0, locals := 14 }
abbrev P11 (r : St) : Option Value → List OwnC → Prop := fun v H' => v = none ∧ H' = (Hb 0 r)
abbrev W11 (l : Launch) (Z : State) (n0 : Nat) (Q : Option Value → List OwnC → Prop) (k n pc : Nat) (L : List Slot) (S : List Value) (H : List OwnC) : Prop := WP l Z CN lay "GeneralLedger" "clearMovements" prog_1_method_9_code 4 (none) R11 n0 0 Q k n pc L S H
def g_clearMovements_2 (k2 : Int32 → Int32 → St → Option (St)) (n : Nat) (v1 : Int32) (v2 : Int32) (s : St) : Option (St) :=
  if v2 < (12 : Int32) then
    (f_cell v1 v2 s).bind fun c2 =>
    (wrB s 0 c2 (0 : Int64)).bind fun s3 =>
    (wrB s3 1 c2 (0 : Int64)).bind fun s4 =>
    lt (v2 + (1 : Int32)) fun x5 =>
    k2 v1 x5 s4
  else
    some s
set_option maxRecDepth 65536 in
set_option maxHeartbeats 4000000 in
theorem okg11_2 (l : Launch) (Z : State) (a0 : Array Value) (hw : HW a0 Z) (n0 : Nat) (k2 : Int32 → Int32 → St → Option (St)) (hk2 : ∀ (v1 : Int32) (v2 : Int32) (s : St) (r : St), k2 v1 v2 s = some r → W11 l Z n0 (P11 r) 0 0 2 [.val (.ref 0), .val (.int v1), .val (.int v2), .unset] [] (Hb 0 s)) (n : Nat) (v1 : Int32) (v2 : Int32) (s : St) (r : St) (h : g_clearMovements_2 k2 n v1 v2 s = some r) : W11 l Z n0 (P11 r) 0 0 2 [.val (.ref 0), .val (.int v1), .val (.int v2), .unset] [] (Hb 0 s) := by
  unfold g_clearMovements_2 at h
  refine WP.iloadN d11_2 rfl ?_
  refine WP.bipush (12 : Int32) d11_3 rfl ?_
  rcases ite_e h with ⟨hc1, h⟩ | ⟨hc1, h⟩
  ·
    refine WP.icmpN d11_5 (XT.ii_ge_f hc1) ?_
    refine WP.aloadN d11_8 rfl ?_
    refine WP.iloadN d11_9 rfl ?_
    refine WP.iloadN d11_10 rfl ?_
    obtain ⟨c2, hc2, h⟩ := Option.bind_eq_some_iff.mp h
    refine WP.callP (i := 0) (y := y12) (as := [.int v1, .int v2]) (S := []) d11_11 (hw _ m_109) (hw _ m_111) (hw _ m_3) (hw _ m_110) (hw _ m_112) (hw _ m_4) hy12 rfl (ok12 l Z a0 hw v1 v2 s _ hc2) rfl (lenOf pd12 rfl) (leb rfl) (leb rfl) (leb rfl) (leb rfl) ?_
    rintro _ _ ⟨rfl, rfl⟩
    show W11 l Z n0 (P11 r) 0 0 14 [.val (.ref 0), .val (.int v1), .val (.int v2), .unset] [.int c2] (Hb 0 s)
    refine WP.istoreN (L' := [.val (.ref 0), .val (.int v1), .val (.int v2), .val (.int c2)]) d11_14 (leb rfl) rfl ?_
    refine WP.aloadN d11_15 rfl ?_
    refine WP.getfield (i := 0) (j := 9) d11_16 (hw _ m_28) rfl rfl rfl ?_
    refine WP.iloadN d11_19 rfl ?_
    refine WP.lconst (0 : Int64) d11_20 rfl ?_
    obtain ⟨s3, hs3, h⟩ := Option.bind_eq_some_iff.mp h
    obtain ⟨ys3, gs3, es3⟩ := wrB_e hs3
    refine WP.lastore (i := 8) (xs := gB s 0) (H' := (Hb 0 s3)) d11_21 rfl (leb rfl) gs3 (by subst es3; rfl) ?_
    refine WP.aloadN d11_22 rfl ?_
    refine WP.getfield (i := 0) (j := 10) d11_23 (hw _ m_30) rfl rfl rfl ?_
    refine WP.iloadN d11_26 rfl ?_
    refine WP.lconst (0 : Int64) d11_27 rfl ?_
    obtain ⟨s4, hs4, h⟩ := Option.bind_eq_some_iff.mp h
    obtain ⟨ys4, gs4, es4⟩ := wrB_e hs4
    refine WP.lastore (i := 9) (xs := gB s3 1) (H' := (Hb 0 s4)) d11_28 rfl (leb rfl) gs4 (by subst es4; rfl) ?_
    obtain ⟨x5, ex5, h⟩ := lt_e h
    refine WP.iinc (L' := [.val (.ref 0), .val (.int v1), .val (.int x5), .val (.int c2)]) (1 : Int32) d11_29 rfl rfl (by subst ex5; rfl) ?_
    refine WP.goto (pc' := 2) d11_32 (by decide) rfl ?_
    exact WP.weak (L' := [.val (.ref 0), .val (.int v1), .val (.int x5), .unset]) ⟨rfl, rfl, rfl, trivial⟩ (hk2 v1 x5 s4 _ h)
  ·
    refine WP.icmpY (pc' := 35) d11_5 (XT.ii_ge_t hc1) (by decide) rfl ?_
    cases h
    exact WP.vreturn d11_35 rfl (leb rfl) (leb rfl) ⟨rfl, rfl⟩
def f_clearMovements_2 : Nat → Int32 → Int32 → St → Option (St)
  | 0 => fun _ _ _ => none
  | n + 1 => g_clearMovements_2 (f_clearMovements_2 n) n
theorem ok11_2 (l : Launch) (Z : State) (a0 : Array Value) (hw : HW a0 Z) (n0 : Nat) : ∀ (n : Nat) (v1 : Int32) (v2 : Int32) (s : St) (r : St), f_clearMovements_2 n v1 v2 s = some r → W11 l Z n0 (P11 r) 0 0 2 [.val (.ref 0), .val (.int v1), .val (.int v2), .unset] [] (Hb 0 s)
  | 0, v1, v2, s, r, h => nomatch (show none = some r from h)
  | n + 1, v1, v2, s, r, h => okg11_2 l Z a0 hw n0 _ (ok11_2 l Z a0 hw n0 n) n v1 v2 s r h
def f_clearMovements (n : Nat) (p1 : Int32) (s : St) : Option (St) :=
  f_clearMovements_2 n p1 (0 : Int32) s
set_option maxRecDepth 65536 in
set_option maxHeartbeats 4000000 in
theorem ok11 (l : Launch) (Z : State) (a0 : Array Value) (hw : HW a0 Z) (n : Nat) (p1 : Int32) (s : St) (r : St) (h : f_clearMovements n p1 s = some r) : CS l Z CN lay y11 prog_1_method_9_code 4 (none) R11 0 [.ref 0, .int p1] (Hb 0 s) (P11 r) := by
  refine CS.of_wp pn_cls (leb rfl) fun n0 => ?_
  show W11 l Z n0 (P11 r) 0 0 0 [.val (.ref 0), .val (.int p1), .unset, .unset] [] (Hb 0 s)
  unfold f_clearMovements at h
  refine WP.iconst (0 : Int32) d11_0 rfl ?_
  refine WP.istoreN (L' := [.val (.ref 0), .val (.int p1), .val (.int (0 : Int32)), .unset]) d11_1 (leb rfl) rfl ?_
  exact WP.weak (L' := [.val (.ref 0), .val (.int p1), .val (.int (0 : Int32)), .unset]) ⟨rfl, rfl, rfl, trivial⟩ (ok11_2 l Z a0 hw n0 n p1 (0 : Int32) s _ h)
theorem d10_0 : dc prog_1_method_8_code 0 (.aload_n 0) 1 := by decide +kernel
theorem d10_1 : dc prog_1_method_8_code 1 (.getfield 7) 3 := by decide +kernel
theorem d10_4 : dc prog_1_method_8_code 4 (.iload_n 1) 1 := by decide +kernel
theorem d10_5 : dc prog_1_method_8_code 5 (.iconst 1) 1 := by decide +kernel
theorem d10_6 : dc prog_1_method_8_code 6 (.bastore) 1 := by decide +kernel
theorem d10_7 : dc prog_1_method_8_code 7 (.aload_n 0) 1 := by decide +kernel
theorem d10_8 : dc prog_1_method_8_code 8 (.getfield 13) 3 := by decide +kernel
theorem d10_11 : dc prog_1_method_8_code 11 (.iload_n 1) 1 := by decide +kernel
theorem d10_12 : dc prog_1_method_8_code 12 (.iload_n 2) 1 := by decide +kernel
theorem d10_13 : dc prog_1_method_8_code 13 (.iastore) 1 := by decide +kernel
theorem d10_14 : dc prog_1_method_8_code 14 (.aload_n 0) 1 := by decide +kernel
theorem d10_15 : dc prog_1_method_8_code 15 (.getfield 17) 3 := by decide +kernel
theorem d10_18 : dc prog_1_method_8_code 18 (.iload_n 1) 1 := by decide +kernel
theorem d10_19 : dc prog_1_method_8_code 19 (.iload_n 3) 1 := by decide +kernel
theorem d10_20 : dc prog_1_method_8_code 20 (.iastore) 1 := by decide +kernel
theorem d10_21 : dc prog_1_method_8_code 21 (.aload_n 0) 1 := by decide +kernel
theorem d10_22 : dc prog_1_method_8_code 22 (.getfield 20) 3 := by decide +kernel
theorem d10_25 : dc prog_1_method_8_code 25 (.iload_n 1) 1 := by decide +kernel
theorem d10_26 : dc prog_1_method_8_code 26 (.iload 4) 2 := by decide +kernel
theorem d10_28 : dc prog_1_method_8_code 28 (.iastore) 1 := by decide +kernel
theorem d10_29 : dc prog_1_method_8_code 29 (.aload_n 0) 1 := by decide +kernel
theorem d10_30 : dc prog_1_method_8_code 30 (.getfield 23) 3 := by decide +kernel
theorem d10_33 : dc prog_1_method_8_code 33 (.iload_n 1) 1 := by decide +kernel
theorem d10_34 : dc prog_1_method_8_code 34 (.iconst 0) 1 := by decide +kernel
theorem d10_35 : dc prog_1_method_8_code 35 (.iastore) 1 := by decide +kernel
theorem d10_36 : dc prog_1_method_8_code 36 (.aload_n 0) 1 := by decide +kernel
theorem d10_37 : dc prog_1_method_8_code 37 (.getfield 29) 3 := by decide +kernel
theorem d10_40 : dc prog_1_method_8_code 40 (.iload_n 1) 1 := by decide +kernel
theorem d10_41 : dc prog_1_method_8_code 41 (.iconst 0) 1 := by decide +kernel
theorem d10_42 : dc prog_1_method_8_code 42 (.bastore) 1 := by decide +kernel
theorem d10_43 : dc prog_1_method_8_code 43 (.aload_n 0) 1 := by decide +kernel
theorem d10_44 : dc prog_1_method_8_code 44 (.getfield 26) 3 := by decide +kernel
theorem d10_47 : dc prog_1_method_8_code 47 (.iload_n 1) 1 := by decide +kernel
theorem d10_48 : dc prog_1_method_8_code 48 (.iconst 0) 1 := by decide +kernel
theorem d10_49 : dc prog_1_method_8_code 49 (.iastore) 1 := by decide +kernel
theorem d10_50 : dc prog_1_method_8_code 50 (.iload_n 2) 1 := by decide +kernel
theorem d10_51 : dc prog_1_method_8_code 51 (.ifCond .lt 37) 3 := by decide +kernel
theorem d10_54 : dc prog_1_method_8_code 54 (.iload_n 2) 1 := by decide +kernel
theorem d10_55 : dc prog_1_method_8_code 55 (.bipush 32) 2 := by decide +kernel
theorem d10_57 : dc prog_1_method_8_code 57 (.if_icmp .ge 31) 3 := by decide +kernel
theorem d10_60 : dc prog_1_method_8_code 60 (.aload_n 0) 1 := by decide +kernel
theorem d10_61 : dc prog_1_method_8_code 61 (.getfield 26) 3 := by decide +kernel
theorem d10_64 : dc prog_1_method_8_code 64 (.iload_n 1) 1 := by decide +kernel
theorem d10_65 : dc prog_1_method_8_code 65 (.aload_n 0) 1 := by decide +kernel
theorem d10_66 : dc prog_1_method_8_code 66 (.getfield 26) 3 := by decide +kernel
theorem d10_69 : dc prog_1_method_8_code 69 (.iload_n 2) 1 := by decide +kernel
theorem d10_70 : dc prog_1_method_8_code 70 (.iaload) 1 := by decide +kernel
theorem d10_71 : dc prog_1_method_8_code 71 (.iconst 1) 1 := by decide +kernel
theorem d10_72 : dc prog_1_method_8_code 72 (.iadd) 1 := by decide +kernel
theorem d10_73 : dc prog_1_method_8_code 73 (.iastore) 1 := by decide +kernel
theorem d10_74 : dc prog_1_method_8_code 74 (.aload_n 0) 1 := by decide +kernel
theorem d10_75 : dc prog_1_method_8_code 75 (.getfield 23) 3 := by decide +kernel
theorem d10_78 : dc prog_1_method_8_code 78 (.iload_n 2) 1 := by decide +kernel
theorem d10_79 : dc prog_1_method_8_code 79 (.aload_n 0) 1 := by decide +kernel
theorem d10_80 : dc prog_1_method_8_code 80 (.getfield 23) 3 := by decide +kernel
theorem d10_83 : dc prog_1_method_8_code 83 (.iload_n 2) 1 := by decide +kernel
theorem d10_84 : dc prog_1_method_8_code 84 (.iaload) 1 := by decide +kernel
theorem d10_85 : dc prog_1_method_8_code 85 (.iconst 1) 1 := by decide +kernel
theorem d10_86 : dc prog_1_method_8_code 86 (.iadd) 1 := by decide +kernel
theorem d10_87 : dc prog_1_method_8_code 87 (.iastore) 1 := by decide +kernel
theorem d10_88 : dc prog_1_method_8_code 88 (.aload_n 0) 1 := by decide +kernel
theorem d10_89 : dc prog_1_method_8_code 89 (.iload_n 1) 1 := by decide +kernel
theorem d10_90 : dc prog_1_method_8_code 90 (.invokevirtual 129) 3 := by decide +kernel
theorem d10_93 : dc prog_1_method_8_code 93 (.return_) 1 := by decide +kernel
abbrev y10 : MethodName := ⟨"GeneralLedger", "createAccount", "(IIII)V"⟩
theorem hy10 : y10.cls ≠ "java/lang/invoke/MethodHandle" ∧ y10.cls ≠ "java/lang/invoke/VarHandle" := by decide
theorem pd10 : parseMethodDescriptor y10.desc = some ⟨[.int, .int, .int, .int], none⟩ := by decide +kernel
abbrev R10 : Room := { frames := 2, cells := 0, slots := 0, locals := 29 }
abbrev P10 (r : St) : Option Value → List OwnC → Prop := fun v H' => v = none ∧ H' = (Hb 0 r)
abbrev W10 (l : Launch) (Z : State) (n0 : Nat) (Q : Option Value → List OwnC → Prop) (k n pc : Nat) (L : List Slot) (S : List Value) (H : List OwnC) : Prop := WP l Z CN lay "GeneralLedger" "createAccount" prog_1_method_8_code 5 (none) R10 n0 0 Q k n pc L S H
def f_createAccount_88 (n : Nat) (v1 : Int32) (s : St) : Option (St) :=
  (f_clearMovements n v1 s).bind fun c1 =>
  some c1
set_option maxRecDepth 65536 in
set_option maxHeartbeats 4000000 in
theorem ok10_88 (l : Launch) (Z : State) (a0 : Array Value) (hw : HW a0 Z) (n0 : Nat) (n : Nat) (v1 : Int32) (s : St) (r : St) (h : f_createAccount_88 n v1 s = some r) : W10 l Z n0 (P10 r) 0 0 88 [.val (.ref 0), .val (.int v1), .unset, .unset, .unset] [] (Hb 0 s) := by
  unfold f_createAccount_88 at h
  refine WP.aloadN d10_88 rfl ?_
  refine WP.iloadN d10_89 rfl ?_
  obtain ⟨c1, hc1, h⟩ := Option.bind_eq_some_iff.mp h
  refine WP.callP (i := 0) (y := y11) (as := [.int v1]) (S := []) d10_90 (hw _ m_105) (hw _ m_107) (hw _ m_3) (hw _ m_106) (hw _ m_108) (hw _ m_4) hy11 rfl (ok11 l Z a0 hw n v1 s _ hc1) rfl (lenOf pd11 rfl) (leb rfl) (leb rfl) (leb rfl) (leb rfl) ?_
  rintro _ _ ⟨rfl, rfl⟩
  show W10 l Z n0 (P10 r) 0 0 93 [.val (.ref 0), .val (.int v1), .unset, .unset, .unset] [] (Hb 0 c1)
  cases h
  exact WP.vreturn d10_93 rfl (leb rfl) (leb rfl) ⟨rfl, rfl⟩
def f_createAccount (n : Nat) (p1 : Int32) (p2 : Int32) (p3 : Int32) (p4 : Int32) (s : St) : Option (St) :=
  (wrA s 0 p1 (1 : Int32)).bind fun s1 =>
  (wrA s1 1 p1 p2).bind fun s2 =>
  (wrA s2 2 p1 p3).bind fun s3 =>
  (wrA s3 3 p1 p4).bind fun s4 =>
  (wrA s4 4 p1 (0 : Int32)).bind fun s5 =>
  (wrA s5 6 p1 (0 : Int32)).bind fun s6 =>
  (wrA s6 5 p1 (0 : Int32)).bind fun s7 =>
  if p2 < 0 then
    f_createAccount_88 n p1 s7
  else
    if p2 < (32 : Int32) then
      (rd (gA s7 5) p2).bind fun x10 =>
      (wrA s7 5 p1 (x10 + (1 : Int32))).bind fun s11 =>
      (rd (gA s11 4) p2).bind fun x12 =>
      (wrA s11 4 p2 (x12 + (1 : Int32))).bind fun s13 =>
      f_createAccount_88 n p1 s13
    else
      f_createAccount_88 n p1 s7
set_option maxRecDepth 65536 in
set_option maxHeartbeats 4000000 in
theorem ok10 (l : Launch) (Z : State) (a0 : Array Value) (hw : HW a0 Z) (n : Nat) (p1 : Int32) (p2 : Int32) (p3 : Int32) (p4 : Int32) (s : St) (r : St) (h : f_createAccount n p1 p2 p3 p4 s = some r) : CS l Z CN lay y10 prog_1_method_8_code 5 (none) R10 0 [.ref 0, .int p1, .int p2, .int p3, .int p4] (Hb 0 s) (P10 r) := by
  refine CS.of_wp pn_cls (leb rfl) fun n0 => ?_
  show W10 l Z n0 (P10 r) 0 0 0 [.val (.ref 0), .val (.int p1), .val (.int p2), .val (.int p3), .val (.int p4)] [] (Hb 0 s)
  unfold f_createAccount at h
  refine WP.aloadN d10_0 rfl ?_
  refine WP.getfield (i := 0) (j := 2) d10_1 (hw _ m_12) rfl rfl rfl ?_
  refine WP.iloadN d10_4 rfl ?_
  refine WP.iconst (1 : Int32) d10_5 rfl ?_
  obtain ⟨s1, hs1, h⟩ := Option.bind_eq_some_iff.mp h
  obtain ⟨ys1, gs1, es1⟩ := wrA_e hs1
  refine WP.bastore (i := 1) (xs := gA s 0) (H' := (Hb 0 s1)) d10_6 rfl (leb rfl) gs1 (by subst es1; rfl) ?_
  refine WP.aloadN d10_7 rfl ?_
  refine WP.getfield (i := 0) (j := 3) d10_8 (hw _ m_15) rfl rfl rfl ?_
  refine WP.iloadN d10_11 rfl ?_
  refine WP.iloadN d10_12 rfl ?_
  obtain ⟨s2, hs2, h⟩ := Option.bind_eq_some_iff.mp h
  obtain ⟨ys2, gs2, es2⟩ := wrA_e hs2
  refine WP.iastore (i := 2) (xs := gA s1 1) (H' := (Hb 0 s2)) d10_13 rfl (leb rfl) gs2 (by subst es2; rfl) ?_
  refine WP.aloadN d10_14 rfl ?_
  refine WP.getfield (i := 0) (j := 4) d10_15 (hw _ m_17) rfl rfl rfl ?_
  refine WP.iloadN d10_18 rfl ?_
  refine WP.iloadN d10_19 rfl ?_
  obtain ⟨s3, hs3, h⟩ := Option.bind_eq_some_iff.mp h
  obtain ⟨ys3, gs3, es3⟩ := wrA_e hs3
  refine WP.iastore (i := 3) (xs := gA s2 2) (H' := (Hb 0 s3)) d10_20 rfl (leb rfl) gs3 (by subst es3; rfl) ?_
  refine WP.aloadN d10_21 rfl ?_
  refine WP.getfield (i := 0) (j := 5) d10_22 (hw _ m_19) rfl rfl rfl ?_
  refine WP.iloadN d10_25 rfl ?_
  refine WP.iload d10_26 rfl ?_
  obtain ⟨s4, hs4, h⟩ := Option.bind_eq_some_iff.mp h
  obtain ⟨ys4, gs4, es4⟩ := wrA_e hs4
  refine WP.iastore (i := 4) (xs := gA s3 3) (H' := (Hb 0 s4)) d10_28 rfl (leb rfl) gs4 (by subst es4; rfl) ?_
  refine WP.aloadN d10_29 rfl ?_
  refine WP.getfield (i := 0) (j := 6) d10_30 (hw _ m_21) rfl rfl rfl ?_
  refine WP.iloadN d10_33 rfl ?_
  refine WP.iconst (0 : Int32) d10_34 rfl ?_
  obtain ⟨s5, hs5, h⟩ := Option.bind_eq_some_iff.mp h
  obtain ⟨ys5, gs5, es5⟩ := wrA_e hs5
  refine WP.iastore (i := 5) (xs := gA s4 4) (H' := (Hb 0 s5)) d10_35 rfl (leb rfl) gs5 (by subst es5; rfl) ?_
  refine WP.aloadN d10_36 rfl ?_
  refine WP.getfield (i := 0) (j := 8) d10_37 (hw _ m_25) rfl rfl rfl ?_
  refine WP.iloadN d10_40 rfl ?_
  refine WP.iconst (0 : Int32) d10_41 rfl ?_
  obtain ⟨s6, hs6, h⟩ := Option.bind_eq_some_iff.mp h
  obtain ⟨ys6, gs6, es6⟩ := wrA_e hs6
  refine WP.bastore (i := 7) (xs := gA s5 6) (H' := (Hb 0 s6)) d10_42 rfl (leb rfl) gs6 (by subst es6; rfl) ?_
  refine WP.aloadN d10_43 rfl ?_
  refine WP.getfield (i := 0) (j := 7) d10_44 (hw _ m_23) rfl rfl rfl ?_
  refine WP.iloadN d10_47 rfl ?_
  refine WP.iconst (0 : Int32) d10_48 rfl ?_
  obtain ⟨s7, hs7, h⟩ := Option.bind_eq_some_iff.mp h
  obtain ⟨ys7, gs7, es7⟩ := wrA_e hs7
  refine WP.iastore (i := 6) (xs := gA s6 5) (H' := (Hb 0 s7)) d10_49 rfl (leb rfl) gs7 (by subst es7; rfl) ?_
  refine WP.iloadN d10_50 rfl ?_
  rcases ite_e h with ⟨hc8, h⟩ | ⟨hc8, h⟩
  ·
    refine WP.ifY (pc' := 88) d10_51 (XT.i0_lt_t hc8) (by decide) rfl ?_
    exact WP.weak (L' := [.val (.ref 0), .val (.int p1), .unset, .unset, .unset]) ⟨rfl, rfl, trivial⟩ (ok10_88 l Z a0 hw n0 n p1 s7 _ h)
  ·
    refine WP.ifN d10_51 (XT.i0_lt_f hc8) ?_
    refine WP.iloadN d10_54 rfl ?_
    refine WP.bipush (32 : Int32) d10_55 rfl ?_
    rcases ite_e h with ⟨hc9, h⟩ | ⟨hc9, h⟩
    ·
      refine WP.icmpN d10_57 (XT.ii_ge_f hc9) ?_
      refine WP.aloadN d10_60 rfl ?_
      refine WP.getfield (i := 0) (j := 7) d10_61 (hw _ m_23) rfl rfl rfl ?_
      refine WP.iloadN d10_64 rfl ?_
      refine WP.aloadN d10_65 rfl ?_
      refine WP.getfield (i := 0) (j := 7) d10_66 (hw _ m_23) rfl rfl rfl ?_
      refine WP.iloadN d10_69 rfl ?_
      obtain ⟨x10, hx10, h⟩ := Option.bind_eq_some_iff.mp h
      refine WP.iaload (i := 6) d10_70 rfl hx10 ?_
      refine WP.iconst (1 : Int32) d10_71 rfl ?_
      refine WP.iadd d10_72 ?_
      obtain ⟨s11, hs11, h⟩ := Option.bind_eq_some_iff.mp h
      obtain ⟨ys11, gs11, es11⟩ := wrA_e hs11
      refine WP.iastore (i := 6) (xs := gA s7 5) (H' := (Hb 0 s11)) d10_73 rfl (leb rfl) gs11 (by subst es11; rfl) ?_
      refine WP.aloadN d10_74 rfl ?_
      refine WP.getfield (i := 0) (j := 6) d10_75 (hw _ m_21) rfl rfl rfl ?_
      refine WP.iloadN d10_78 rfl ?_
      refine WP.aloadN d10_79 rfl ?_
      refine WP.getfield (i := 0) (j := 6) d10_80 (hw _ m_21) rfl rfl rfl ?_
      refine WP.iloadN d10_83 rfl ?_
      obtain ⟨x12, hx12, h⟩ := Option.bind_eq_some_iff.mp h
      refine WP.iaload (i := 5) d10_84 rfl hx12 ?_
      refine WP.iconst (1 : Int32) d10_85 rfl ?_
      refine WP.iadd d10_86 ?_
      obtain ⟨s13, hs13, h⟩ := Option.bind_eq_some_iff.mp h
      obtain ⟨ys13, gs13, es13⟩ := wrA_e hs13
      refine WP.iastore (i := 5) (xs := gA s11 4) (H' := (Hb 0 s13)) d10_87 rfl (leb rfl) gs13 (by subst es13; rfl) ?_
      exact WP.weak (L' := [.val (.ref 0), .val (.int p1), .unset, .unset, .unset]) ⟨rfl, rfl, trivial⟩ (ok10_88 l Z a0 hw n0 n p1 s13 _ h)
    ·
      refine WP.icmpY (pc' := 88) d10_57 (XT.ii_ge_t hc9) (by decide) rfl ?_
      exact WP.weak (L' := [.val (.ref 0), .val (.int p1), .unset, .unset, .unset]) ⟨rfl, rfl, trivial⟩ (ok10_88 l Z a0 hw n0 n p1 s7 _ h)
theorem d6_0 : dc prog_1_method_6_code 0 (.aload_n 0) 1 := by decide +kernel
theorem d6_1 : dc prog_1_method_6_code 1 (.iload_n 1) 1 := by decide +kernel
theorem d6_2 : dc prog_1_method_6_code 2 (.invokevirtual 106) 3 := by decide +kernel
theorem d6_5 : dc prog_1_method_6_code 5 (.ifCond .eq 12) 3 := by decide +kernel
theorem d6_8 : dc prog_1_method_6_code 8 (.aload_n 0) 1 := by decide +kernel
theorem d6_9 : dc prog_1_method_6_code 9 (.getfield 7) 3 := by decide +kernel
theorem d6_12 : dc prog_1_method_6_code 12 (.iload_n 1) 1 := by decide +kernel
theorem d6_13 : dc prog_1_method_6_code 13 (.baload) 1 := by decide +kernel
theorem d6_14 : dc prog_1_method_6_code 14 (.ifCond .eq 5) 3 := by decide +kernel
theorem d6_17 : dc prog_1_method_6_code 17 (.iconst 1) 1 := by decide +kernel
theorem d6_18 : dc prog_1_method_6_code 18 (.ireturn) 1 := by decide +kernel
theorem d6_19 : dc prog_1_method_6_code 19 (.iload_n 2) 1 := by decide +kernel
theorem d6_20 : dc prog_1_method_6_code 20 (.iconst (-1)) 1 := by decide +kernel
theorem d6_21 : dc prog_1_method_6_code 21 (.if_icmp .eq 13) 3 := by decide +kernel
theorem d6_24 : dc prog_1_method_6_code 24 (.aload_n 0) 1 := by decide +kernel
theorem d6_25 : dc prog_1_method_6_code 25 (.iload_n 2) 1 := by decide +kernel
theorem d6_26 : dc prog_1_method_6_code 26 (.invokevirtual 110) 3 := by decide +kernel
theorem d6_29 : dc prog_1_method_6_code 29 (.ifCond .ne 5) 3 := by decide +kernel
theorem d6_32 : dc prog_1_method_6_code 32 (.iconst 2) 1 := by decide +kernel
theorem d6_33 : dc prog_1_method_6_code 33 (.ireturn) 1 := by decide +kernel
theorem d6_34 : dc prog_1_method_6_code 34 (.iload_n 2) 1 := by decide +kernel
theorem d6_35 : dc prog_1_method_6_code 35 (.iconst (-1)) 1 := by decide +kernel
theorem d6_36 : dc prog_1_method_6_code 36 (.if_icmp .eq 13) 3 := by decide +kernel
theorem d6_39 : dc prog_1_method_6_code 39 (.aload_n 0) 1 := by decide +kernel
theorem d6_40 : dc prog_1_method_6_code 40 (.iload_n 2) 1 := by decide +kernel
theorem d6_41 : dc prog_1_method_6_code 41 (.invokevirtual 113) 3 := by decide +kernel
theorem d6_49 : dc prog_1_method_6_code 49 (.aload_n 0) 1 := by decide +kernel
theorem d6_50 : dc prog_1_method_6_code 50 (.iload_n 3) 1 := by decide +kernel
theorem d6_51 : dc prog_1_method_6_code 51 (.invokevirtual 116) 3 := by decide +kernel
theorem d6_54 : dc prog_1_method_6_code 54 (.ifCond .ne 5) 3 := by decide +kernel
theorem d6_57 : dc prog_1_method_6_code 57 (.iconst 3) 1 := by decide +kernel
theorem d6_58 : dc prog_1_method_6_code 58 (.ireturn) 1 := by decide +kernel
theorem d6_59 : dc prog_1_method_6_code 59 (.aload_n 0) 1 := by decide +kernel
theorem d6_60 : dc prog_1_method_6_code 60 (.iload 4) 2 := by decide +kernel
theorem d6_62 : dc prog_1_method_6_code 62 (.invokevirtual 119) 3 := by decide +kernel
theorem d6_65 : dc prog_1_method_6_code 65 (.ifCond .ne 5) 3 := by decide +kernel
theorem d6_68 : dc prog_1_method_6_code 68 (.iconst 4) 1 := by decide +kernel
theorem d6_69 : dc prog_1_method_6_code 69 (.ireturn) 1 := by decide +kernel
theorem d6_70 : dc prog_1_method_6_code 70 (.iload 4) 2 := by decide +kernel
theorem d6_72 : dc prog_1_method_6_code 72 (.ifCond .eq 13) 3 := by decide +kernel
theorem d6_75 : dc prog_1_method_6_code 75 (.aload_n 0) 1 := by decide +kernel
theorem d6_76 : dc prog_1_method_6_code 76 (.iload_n 3) 1 := by decide +kernel
theorem d6_77 : dc prog_1_method_6_code 77 (.invokevirtual 122) 3 := by decide +kernel
theorem d6_80 : dc prog_1_method_6_code 80 (.ifCond .ne 5) 3 := by decide +kernel
theorem d6_83 : dc prog_1_method_6_code 83 (.iconst 4) 1 := by decide +kernel
theorem d6_84 : dc prog_1_method_6_code 84 (.ireturn) 1 := by decide +kernel
theorem d6_85 : dc prog_1_method_6_code 85 (.aload_n 0) 1 := by decide +kernel
theorem d6_86 : dc prog_1_method_6_code 86 (.iload_n 1) 1 := by decide +kernel
theorem d6_87 : dc prog_1_method_6_code 87 (.iload_n 2) 1 := by decide +kernel
theorem d6_88 : dc prog_1_method_6_code 88 (.iload_n 3) 1 := by decide +kernel
theorem d6_89 : dc prog_1_method_6_code 89 (.iload 4) 2 := by decide +kernel
theorem d6_91 : dc prog_1_method_6_code 91 (.invokevirtual 125) 3 := by decide +kernel
theorem d6_94 : dc prog_1_method_6_code 94 (.iconst 0) 1 := by decide +kernel
theorem d6_95 : dc prog_1_method_6_code 95 (.ireturn) 1 := by decide +kernel
abbrev y6 : MethodName := ⟨"GeneralLedger", "openAccount", "(IIII)I"⟩
theorem hy6 : y6.cls ≠ "java/lang/invoke/MethodHandle" ∧ y6.cls ≠ "java/lang/invoke/VarHandle" := by decide
theorem pd6 : parseMethodDescriptor y6.desc = some ⟨[.int, .int, .int, .int], some .int⟩ := by decide +kernel
abbrev R6 : Room := { frames := 3, cells := 0, slots := 0, locals := 45 }
abbrev P6 (r : Int32 × St) : Option Value → List OwnC → Prop := fun v H' => v = some (.int r.1) ∧ H' = (Hb 0 r.2)
abbrev W6 (l : Launch) (Z : State) (n0 : Nat) (Q : Option Value → List OwnC → Prop) (k n pc : Nat) (L : List Slot) (S : List Value) (H : List OwnC) : Prop := WP l Z CN lay "GeneralLedger" "openAccount" prog_1_method_6_code 5 (some FieldType.int) R6 n0 0 Q k n pc L S H
def f_openAccount_17 (n : Nat) (s : St) : Option (Int32 × St) :=
  some ((1 : Int32), s)
set_option maxRecDepth 65536 in
set_option maxHeartbeats 4000000 in
theorem ok6_17 (l : Launch) (Z : State) (a0 : Array Value) (hw : HW a0 Z) (n0 : Nat) (n : Nat) (s : St) (r : Int32 × St) (h : f_openAccount_17 n s = some r) : W6 l Z n0 (P6 r) 0 0 17 [.unset, .unset, .unset, .unset, .unset] [] (Hb 0 s) := by
  unfold f_openAccount_17 at h
  refine WP.iconst (1 : Int32) d6_17 rfl ?_
  cases h
  exact WP.ireturn d6_18 rfl (leb rfl) (leb rfl) ⟨rfl, rfl⟩
def f_openAccount_85 (n : Nat) (v1 : Int32) (v2 : Int32) (v3 : Int32) (v4 : Int32) (s : St) : Option (Int32 × St) :=
  (f_createAccount n v1 v2 v3 v4 s).bind fun c1 =>
  some ((0 : Int32), c1)
set_option maxRecDepth 65536 in
set_option maxHeartbeats 4000000 in
theorem ok6_85 (l : Launch) (Z : State) (a0 : Array Value) (hw : HW a0 Z) (n0 : Nat) (n : Nat) (v1 : Int32) (v2 : Int32) (v3 : Int32) (v4 : Int32) (s : St) (r : Int32 × St) (h : f_openAccount_85 n v1 v2 v3 v4 s = some r) : W6 l Z n0 (P6 r) 0 0 85 [.val (.ref 0), .val (.int v1), .val (.int v2), .val (.int v3), .val (.int v4)] [] (Hb 0 s) := by
  unfold f_openAccount_85 at h
  refine WP.aloadN d6_85 rfl ?_
  refine WP.iloadN d6_86 rfl ?_
  refine WP.iloadN d6_87 rfl ?_
  refine WP.iloadN d6_88 rfl ?_
  refine WP.iload d6_89 rfl ?_
  obtain ⟨c1, hc1, h⟩ := Option.bind_eq_some_iff.mp h
  refine WP.callP (i := 0) (y := y10) (as := [.int v1, .int v2, .int v3, .int v4]) (S := []) d6_91 (hw _ m_101) (hw _ m_103) (hw _ m_3) (hw _ m_102) (hw _ m_104) (hw _ m_4) hy10 rfl (ok10 l Z a0 hw n v1 v2 v3 v4 s _ hc1) rfl (lenOf pd10 rfl) (leb rfl) (leb rfl) (leb rfl) (leb rfl) ?_
  rintro _ _ ⟨rfl, rfl⟩
  show W6 l Z n0 (P6 r) 0 0 94 [.val (.ref 0), .val (.int v1), .val (.int v2), .val (.int v3), .val (.int v4)] [] (Hb 0 c1)
  refine WP.iconst (0 : Int32) d6_94 rfl ?_
  cases h
  exact WP.ireturn d6_95 rfl (leb rfl) (leb rfl) ⟨rfl, rfl⟩
def f_openAccount_34 (n : Nat) (v1 : Int32) (v2 : Int32) (v3 : Int32) (v4 : Int32) (s : St) : Option (Int32 × St) :=
  if v2 = (-1 : Int32) then
    (f_isValidType v3 s).bind fun c2 =>
    if c2 = 0 then
      some ((3 : Int32), s)
    else
      (f_isCurrency v4 s).bind fun c4 =>
      if c4 = 0 then
        some ((4 : Int32), s)
      else
        if v4 = 0 then
          f_openAccount_85 n v1 v2 v3 v4 s
        else
          (f_allowsForeign v3 s).bind fun c7 =>
          if c7 = 0 then
            some ((4 : Int32), s)
          else
            f_openAccount_85 n v1 v2 v3 v4 s
  else
    none
set_option maxRecDepth 65536 in
set_option maxHeartbeats 4000000 in
theorem ok6_34 (l : Launch) (Z : State) (a0 : Array Value) (hw : HW a0 Z) (n0 : Nat) (n : Nat) (v1 : Int32) (v2 : Int32) (v3 : Int32) (v4 : Int32) (s : St) (r : Int32 × St) (h : f_openAccount_34 n v1 v2 v3 v4 s = some r) : W6 l Z n0 (P6 r) 0 0 34 [.val (.ref 0), .val (.int v1), .val (.int v2), .val (.int v3), .val (.int v4)] [] (Hb 0 s) := by
  unfold f_openAccount_34 at h
  refine WP.iloadN d6_34 rfl ?_
  refine WP.iconst (-1 : Int32) d6_35 rfl ?_
  rcases ite_e h with ⟨hc1, h⟩ | ⟨hc1, h⟩
  ·
    refine WP.icmpY (pc' := 49) d6_36 (XT.ii_eq_t hc1) (by decide) rfl ?_
    refine WP.aloadN d6_49 rfl ?_
    refine WP.iloadN d6_50 rfl ?_
    obtain ⟨c2, hc2, h⟩ := Option.bind_eq_some_iff.mp h
    refine WP.callP (i := 0) (y := y8) (as := [.int v3]) (S := []) d6_51 (hw _ m_93) (hw _ m_95) (hw _ m_3) (hw _ m_94) (hw _ m_96) (hw _ m_4) hy8 rfl (ok8 l Z a0 hw v3 s _ hc2) rfl (lenOf pd8 rfl) (leb rfl) (leb rfl) (leb rfl) (leb rfl) ?_
    rintro _ _ ⟨rfl, rfl⟩
    show W6 l Z n0 (P6 r) 0 0 54 [.val (.ref 0), .val (.int v1), .val (.int v2), .val (.int v3), .val (.int v4)] [.int c2] (Hb 0 s)
    rcases ite_e h with ⟨hc3, h⟩ | ⟨hc3, h⟩
    ·
      refine WP.ifN d6_54 (XT.i0_ne_f hc3) ?_
      refine WP.iconst (3 : Int32) d6_57 rfl ?_
      cases h
      exact WP.ireturn d6_58 rfl (leb rfl) (leb rfl) ⟨rfl, rfl⟩
    ·
      refine WP.ifY (pc' := 59) d6_54 (XT.i0_ne_t hc3) (by decide) rfl ?_
      refine WP.aloadN d6_59 rfl ?_
      refine WP.iload d6_60 rfl ?_
      obtain ⟨c4, hc4, h⟩ := Option.bind_eq_some_iff.mp h
      refine WP.callP (i := 0) (y := y9) (as := [.int v4]) (S := []) d6_62 (hw _ m_97) (hw _ m_99) (hw _ m_3) (hw _ m_98) (hw _ m_100) (hw _ m_4) hy9 rfl (ok9 l Z a0 hw v4 s _ hc4) rfl (lenOf pd9 rfl) (leb rfl) (leb rfl) (leb rfl) (leb rfl) ?_
      rintro _ _ ⟨rfl, rfl⟩
      show W6 l Z n0 (P6 r) 0 0 65 [.val (.ref 0), .val (.int v1), .val (.int v2), .val (.int v3), .val (.int v4)] [.int c4] (Hb 0 s)
      rcases ite_e h with ⟨hc5, h⟩ | ⟨hc5, h⟩
      ·
        refine WP.ifN d6_65 (XT.i0_ne_f hc5) ?_
        refine WP.iconst (4 : Int32) d6_68 rfl ?_
        cases h
        exact WP.ireturn d6_69 rfl (leb rfl) (leb rfl) ⟨rfl, rfl⟩
      ·
        refine WP.ifY (pc' := 70) d6_65 (XT.i0_ne_t hc5) (by decide) rfl ?_
        refine WP.iload d6_70 rfl ?_
        rcases ite_e h with ⟨hc6, h⟩ | ⟨hc6, h⟩
        ·
          refine WP.ifY (pc' := 85) d6_72 (XT.i0_eq_t hc6) (by decide) rfl ?_
          exact WP.weak (L' := [.val (.ref 0), .val (.int v1), .val (.int v2), .val (.int v3), .val (.int v4)]) ⟨rfl, rfl, rfl, rfl, rfl, trivial⟩ (ok6_85 l Z a0 hw n0 n v1 v2 v3 v4 s _ h)
        ·
          refine WP.ifN d6_72 (XT.i0_eq_f hc6) ?_
          refine WP.aloadN d6_75 rfl ?_
          refine WP.iloadN d6_76 rfl ?_
          obtain ⟨c7, hc7, h⟩ := Option.bind_eq_some_iff.mp h
          refine WP.callP (i := 0) (y := y13) (as := [.int v3]) (S := []) d6_77 (hw _ m_113) (hw _ m_115) (hw _ m_3) (hw _ m_114) (hw _ m_116) (hw _ m_4) hy13 rfl (ok13 l Z a0 hw v3 s _ hc7) rfl (lenOf pd13 rfl) (leb rfl) (leb rfl) (leb rfl) (leb rfl) ?_
          rintro _ _ ⟨rfl, rfl⟩
          show W6 l Z n0 (P6 r) 0 0 80 [.val (.ref 0), .val (.int v1), .val (.int v2), .val (.int v3), .val (.int v4)] [.int c7] (Hb 0 s)
          rcases ite_e h with ⟨hc8, h⟩ | ⟨hc8, h⟩
          ·
            refine WP.ifN d6_80 (XT.i0_ne_f hc8) ?_
            refine WP.iconst (4 : Int32) d6_83 rfl ?_
            cases h
            exact WP.ireturn d6_84 rfl (leb rfl) (leb rfl) ⟨rfl, rfl⟩
          ·
            refine WP.ifY (pc' := 85) d6_80 (XT.i0_ne_t hc8) (by decide) rfl ?_
            exact WP.weak (L' := [.val (.ref 0), .val (.int v1), .val (.int v2), .val (.int v3), .val (.int v4)]) ⟨rfl, rfl, rfl, rfl, rfl, trivial⟩ (ok6_85 l Z a0 hw n0 n v1 v2 v3 v4 s _ h)
  ·
    refine WP.icmpN d6_36 (XT.ii_eq_f hc1) ?_
    refine WP.aloadN d6_39 rfl ?_
    refine WP.iloadN d6_40 rfl ?_
    cases h
def f_openAccount (n : Nat) (p1 : Int32) (p2 : Int32) (p3 : Int32) (p4 : Int32) (s : St) : Option (Int32 × St) :=
  (f_isAccountId p1 s).bind fun c1 =>
  if c1 = 0 then
    f_openAccount_17 n s
  else
    (rd (gA s 0) p1).bind fun x3 =>
    if x3 = 0 then
      if p2 = (-1 : Int32) then
        f_openAccount_34 n p1 p2 p3 p4 s
      else
        (f_isOpenAccount p2 s).bind fun c6 =>
        if c6 = 0 then
          some ((2 : Int32), s)
        else
          f_openAccount_34 n p1 p2 p3 p4 s
    else
      f_openAccount_17 n s
set_option maxRecDepth 65536 in
set_option maxHeartbeats 4000000 in
theorem ok6 (l : Launch) (Z : State) (a0 : Array Value) (hw : HW a0 Z) (n : Nat) (p1 : Int32) (p2 : Int32) (p3 : Int32) (p4 : Int32) (s : St) (r : Int32 × St) (h : f_openAccount n p1 p2 p3 p4 s = some r) : CS l Z CN lay y6 prog_1_method_6_code 5 (some FieldType.int) R6 0 [.ref 0, .int p1, .int p2, .int p3, .int p4] (Hb 0 s) (P6 r) := by
  refine CS.of_wp pn_cls (leb rfl) fun n0 => ?_
  show W6 l Z n0 (P6 r) 0 0 0 [.val (.ref 0), .val (.int p1), .val (.int p2), .val (.int p3), .val (.int p4)] [] (Hb 0 s)
  unfold f_openAccount at h
  refine WP.aloadN d6_0 rfl ?_
  refine WP.iloadN d6_1 rfl ?_
  obtain ⟨c1, hc1, h⟩ := Option.bind_eq_some_iff.mp h
  refine WP.callP (i := 0) (y := y7) (as := [.int p1]) (S := []) d6_2 (hw _ m_89) (hw _ m_91) (hw _ m_3) (hw _ m_90) (hw _ m_92) (hw _ m_4) hy7 rfl (ok7 l Z a0 hw p1 s _ hc1) rfl (lenOf pd7 rfl) (leb rfl) (leb rfl) (leb rfl) (leb rfl) ?_
  rintro _ _ ⟨rfl, rfl⟩
  show W6 l Z n0 (P6 r) 0 0 5 [.val (.ref 0), .val (.int p1), .val (.int p2), .val (.int p3), .val (.int p4)] [.int c1] (Hb 0 s)
  rcases ite_e h with ⟨hc2, h⟩ | ⟨hc2, h⟩
  ·
    refine WP.ifY (pc' := 17) d6_5 (XT.i0_eq_t hc2) (by decide) rfl ?_
    exact WP.weak (L' := [.unset, .unset, .unset, .unset, .unset]) trivial (ok6_17 l Z a0 hw n0 n s _ h)
  ·
    refine WP.ifN d6_5 (XT.i0_eq_f hc2) ?_
    refine WP.aloadN d6_8 rfl ?_
    refine WP.getfield (i := 0) (j := 2) d6_9 (hw _ m_12) rfl rfl rfl ?_
    refine WP.iloadN d6_12 rfl ?_
    obtain ⟨x3, hx3, h⟩ := Option.bind_eq_some_iff.mp h
    refine WP.baload (i := 1) d6_13 rfl hx3 ?_
    rcases ite_e h with ⟨hc4, h⟩ | ⟨hc4, h⟩
    ·
      refine WP.ifY (pc' := 19) d6_14 (XT.i0_eq_t hc4) (by decide) rfl ?_
      refine WP.iloadN d6_19 rfl ?_
      refine WP.iconst (-1 : Int32) d6_20 rfl ?_
      rcases ite_e h with ⟨hc5, h⟩ | ⟨hc5, h⟩
      ·
        refine WP.icmpY (pc' := 34) d6_21 (XT.ii_eq_t hc5) (by decide) rfl ?_
        exact WP.weak (L' := [.val (.ref 0), .val (.int p1), .val (.int p2), .val (.int p3), .val (.int p4)]) ⟨rfl, rfl, rfl, rfl, rfl, trivial⟩ (ok6_34 l Z a0 hw n0 n p1 p2 p3 p4 s _ h)
      ·
        refine WP.icmpN d6_21 (XT.ii_eq_f hc5) ?_
        refine WP.aloadN d6_24 rfl ?_
        refine WP.iloadN d6_25 rfl ?_
        obtain ⟨c6, hc6, h⟩ := Option.bind_eq_some_iff.mp h
        refine WP.callP (i := 0) (y := y15) (as := [.int p2]) (S := []) d6_26 (hw _ m_122) (hw _ m_124) (hw _ m_3) (hw _ m_123) (hw _ m_125) (hw _ m_4) hy15 rfl (ok15 l Z a0 hw p2 s _ hc6) rfl (lenOf pd15 rfl) (leb rfl) (leb rfl) (leb rfl) (leb rfl) ?_
        rintro _ _ ⟨rfl, rfl⟩
        show W6 l Z n0 (P6 r) 0 0 29 [.val (.ref 0), .val (.int p1), .val (.int p2), .val (.int p3), .val (.int p4)] [.int c6] (Hb 0 s)
        rcases ite_e h with ⟨hc7, h⟩ | ⟨hc7, h⟩
        ·
          refine WP.ifN d6_29 (XT.i0_ne_f hc7) ?_
          refine WP.iconst (2 : Int32) d6_32 rfl ?_
          cases h
          exact WP.ireturn d6_33 rfl (leb rfl) (leb rfl) ⟨rfl, rfl⟩
        ·
          refine WP.ifY (pc' := 34) d6_29 (XT.i0_ne_t hc7) (by decide) rfl ?_
          exact WP.weak (L' := [.val (.ref 0), .val (.int p1), .val (.int p2), .val (.int p3), .val (.int p4)]) ⟨rfl, rfl, rfl, rfl, rfl, trivial⟩ (ok6_34 l Z a0 hw n0 n p1 p2 p3 p4 s _ h)
    ·
      refine WP.ifN d6_14 (XT.i0_eq_f hc4) ?_
      exact WP.weak (L' := [.unset, .unset, .unset, .unset, .unset]) trivial (ok6_17 l Z a0 hw n0 n s _ h)
theorem d16_0 : dc prog_1_method_58_code 0 (.aload_n 0) 1 := by decide +kernel
theorem d16_1 : dc prog_1_method_58_code 1 (.getfield 23) 3 := by decide +kernel
theorem d16_4 : dc prog_1_method_58_code 4 (.iload_n 1) 1 := by decide +kernel
theorem d16_5 : dc prog_1_method_58_code 5 (.iaload) 1 := by decide +kernel
theorem d16_6 : dc prog_1_method_58_code 6 (.ifCond .ne 7) 3 := by decide +kernel
theorem d16_9 : dc prog_1_method_58_code 9 (.iconst 1) 1 := by decide +kernel
theorem d16_10 : dc prog_1_method_58_code 10 (.goto 4) 3 := by decide +kernel
theorem d16_13 : dc prog_1_method_58_code 13 (.iconst 0) 1 := by decide +kernel
theorem d16_14 : dc prog_1_method_58_code 14 (.ireturn) 1 := by decide +kernel
abbrev y16 : MethodName := ⟨"GeneralLedger", "isLeaf", "(I)Z"⟩
theorem hy16 : y16.cls ≠ "java/lang/invoke/MethodHandle" ∧ y16.cls ≠ "java/lang/invoke/VarHandle" := by decide
theorem pd16 : parseMethodDescriptor y16.desc = some ⟨[.int], some .boolean⟩ := by decide +kernel
abbrev R16 : Room := { frames := 0, cells := 0, slots := 0, locals := 0 }
abbrev P16 (s : St) (r : Int32) : Option Value → List OwnC → Prop := fun v H' => v = some (.int r) ∧ H' = (Hb 0 s)
abbrev W16 (l : Launch) (Z : State) (n0 : Nat) (Q : Option Value → List OwnC → Prop) (k n pc : Nat) (L : List Slot) (S : List Value) (H : List OwnC) : Prop := WP l Z CN lay "GeneralLedger" "isLeaf" prog_1_method_58_code 2 (some FieldType.boolean) R16 n0 0 Q k n pc L S H
def f_isLeaf_14 (t0 : Int32) (s : St) : Option (Int32) :=
  some (t0 &&& 1)
set_option maxRecDepth 65536 in
set_option maxHeartbeats 4000000 in
theorem ok16_14 (l : Launch) (Z : State) (a0 : Array Value) (hw : HW a0 Z) (n0 : Nat) (t0 : Int32) (s : St) (r : Int32) (h : f_isLeaf_14 t0 s = some r) : W16 l Z n0 (P16 s r) 0 0 14 [.unset, .unset] [.int t0] (Hb 0 s) := by
  unfold f_isLeaf_14 at h
  cases h
  exact WP.zreturn d16_14 rfl (leb rfl) (leb rfl) ⟨rfl, rfl⟩
def f_isLeaf (p1 : Int32) (s : St) : Option (Int32) :=
  (rd (gA s 4) p1).bind fun x1 =>
  if x1 = 0 then
    f_isLeaf_14 (1 : Int32) s
  else
    f_isLeaf_14 (0 : Int32) s
set_option maxRecDepth 65536 in
set_option maxHeartbeats 4000000 in
theorem ok16 (l : Launch) (Z : State) (a0 : Array Value) (hw : HW a0 Z) (p1 : Int32) (s : St) (r : Int32) (h : f_isLeaf p1 s = some r) : CS l Z CN lay y16 prog_1_method_58_code 2 (some FieldType.boolean) R16 0 [.ref 0, .int p1] (Hb 0 s) (P16 s r) := by
  refine CS.of_wp pn_cls (leb rfl) fun n0 => ?_
  show W16 l Z n0 (P16 s r) 0 0 0 [.val (.ref 0), .val (.int p1)] [] (Hb 0 s)
  unfold f_isLeaf at h
  refine WP.aloadN d16_0 rfl ?_
  refine WP.getfield (i := 0) (j := 6) d16_1 (hw _ m_21) rfl rfl rfl ?_
  refine WP.iloadN d16_4 rfl ?_
  obtain ⟨x1, hx1, h⟩ := Option.bind_eq_some_iff.mp h
  refine WP.iaload (i := 5) d16_5 rfl hx1 ?_
  rcases ite_e h with ⟨hc2, h⟩ | ⟨hc2, h⟩
  ·
    refine WP.ifN d16_6 (XT.i0_ne_f hc2) ?_
    refine WP.iconst (1 : Int32) d16_9 rfl ?_
    refine WP.goto (pc' := 14) d16_10 (by decide) rfl ?_
    exact WP.weak (L' := [.unset, .unset]) trivial (ok16_14 l Z a0 hw n0 (1 : Int32) s _ h)
  ·
    refine WP.ifY (pc' := 13) d16_6 (XT.i0_ne_t hc2) (by decide) rfl ?_
    refine WP.iconst (0 : Int32) d16_13 rfl ?_
    exact WP.weak (L' := [.unset, .unset]) trivial (ok16_14 l Z a0 hw n0 (0 : Int32) s _ h)
theorem d17_0 : dc prog_1_method_11_code 0 (.iload_n 1) 1 := by decide +kernel
theorem d17_1 : dc prog_1_method_11_code 1 (.ifCond .ne 19) 3 := by decide +kernel
theorem d17_4 : dc prog_1_method_11_code 4 (.iload_n 2) 1 := by decide +kernel
theorem d17_5 : dc prog_1_method_11_code 5 (.iconst 3) 1 := by decide +kernel
theorem d17_6 : dc prog_1_method_11_code 6 (.if_icmp .eq 8) 3 := by decide +kernel
theorem d17_9 : dc prog_1_method_11_code 9 (.iload_n 2) 1 := by decide +kernel
theorem d17_10 : dc prog_1_method_11_code 10 (.iconst 4) 1 := by decide +kernel
theorem d17_11 : dc prog_1_method_11_code 11 (.if_icmp .ne 7) 3 := by decide +kernel
theorem d17_14 : dc prog_1_method_11_code 14 (.iconst 1) 1 := by decide +kernel
theorem d17_15 : dc prog_1_method_11_code 15 (.goto 4) 3 := by decide +kernel
theorem d17_18 : dc prog_1_method_11_code 18 (.iconst 0) 1 := by decide +kernel
theorem d17_19 : dc prog_1_method_11_code 19 (.ireturn) 1 := by decide +kernel
theorem d17_20 : dc prog_1_method_11_code 20 (.iload_n 2) 1 := by decide +kernel
theorem d17_21 : dc prog_1_method_11_code 21 (.iconst 2) 1 := by decide +kernel
theorem d17_22 : dc prog_1_method_11_code 22 (.if_icmp .ne 7) 3 := by decide +kernel
theorem d17_25 : dc prog_1_method_11_code 25 (.iconst 1) 1 := by decide +kernel
theorem d17_26 : dc prog_1_method_11_code 26 (.goto 4) 3 := by decide +kernel
theorem d17_29 : dc prog_1_method_11_code 29 (.iconst 0) 1 := by decide +kernel
theorem d17_30 : dc prog_1_method_11_code 30 (.ireturn) 1 := by decide +kernel
abbrev y17 : MethodName := ⟨"GeneralLedger", "typeFitsKind", "(II)Z"⟩
theorem hy17 : y17.cls ≠ "java/lang/invoke/MethodHandle" ∧ y17.cls ≠ "java/lang/invoke/VarHandle" := by decide
theorem pd17 : parseMethodDescriptor y17.desc = some ⟨[.int, .int], some .boolean⟩ := by decide +kernel
abbrev R17 : Room := { frames := 0, cells := 0, slots := 0, locals := 0 }
abbrev P17 (s : St) (r : Int32) : Option Value → List OwnC → Prop := fun v H' => v = some (.int r) ∧ H' = (Hb 0 s)
abbrev W17 (l : Launch) (Z : State) (n0 : Nat) (Q : Option Value → List OwnC → Prop) (k n pc : Nat) (L : List Slot) (S : List Value) (H : List OwnC) : Prop := WP l Z CN lay "GeneralLedger" "typeFitsKind" prog_1_method_11_code 3 (some FieldType.boolean) R17 n0 0 Q k n pc L S H
def f_typeFitsKind_19 (t0 : Int32) (s : St) : Option (Int32) :=
  some (t0 &&& 1)
set_option maxRecDepth 65536 in
set_option maxHeartbeats 4000000 in
theorem ok17_19 (l : Launch) (Z : State) (a0 : Array Value) (hw : HW a0 Z) (n0 : Nat) (t0 : Int32) (s : St) (r : Int32) (h : f_typeFitsKind_19 t0 s = some r) : W17 l Z n0 (P17 s r) 0 0 19 [.unset, .unset, .unset] [.int t0] (Hb 0 s) := by
  unfold f_typeFitsKind_19 at h
  cases h
  exact WP.zreturn d17_19 rfl (leb rfl) (leb rfl) ⟨rfl, rfl⟩
def f_typeFitsKind_14 (s : St) : Option (Int32) :=
  f_typeFitsKind_19 (1 : Int32) s
set_option maxRecDepth 65536 in
set_option maxHeartbeats 4000000 in
theorem ok17_14 (l : Launch) (Z : State) (a0 : Array Value) (hw : HW a0 Z) (n0 : Nat) (s : St) (r : Int32) (h : f_typeFitsKind_14 s = some r) : W17 l Z n0 (P17 s r) 0 0 14 [.unset, .unset, .unset] [] (Hb 0 s) := by
  unfold f_typeFitsKind_14 at h
  refine WP.iconst (1 : Int32) d17_14 rfl ?_
  refine WP.goto (pc' := 19) d17_15 (by decide) rfl ?_
  exact WP.weak (L' := [.unset, .unset, .unset]) trivial (ok17_19 l Z a0 hw n0 (1 : Int32) s _ h)
def f_typeFitsKind_30 (t0 : Int32) (s : St) : Option (Int32) :=
  some (t0 &&& 1)
set_option maxRecDepth 65536 in
set_option maxHeartbeats 4000000 in
theorem ok17_30 (l : Launch) (Z : State) (a0 : Array Value) (hw : HW a0 Z) (n0 : Nat) (t0 : Int32) (s : St) (r : Int32) (h : f_typeFitsKind_30 t0 s = some r) : W17 l Z n0 (P17 s r) 0 0 30 [.unset, .unset, .unset] [.int t0] (Hb 0 s) := by
  unfold f_typeFitsKind_30 at h
  cases h
  exact WP.zreturn d17_30 rfl (leb rfl) (leb rfl) ⟨rfl, rfl⟩
def f_typeFitsKind (p1 : Int32) (p2 : Int32) (s : St) : Option (Int32) :=
  if p1 = 0 then
    if p2 = (3 : Int32) then
      f_typeFitsKind_14 s
    else
      if p2 = (4 : Int32) then
        f_typeFitsKind_14 s
      else
        f_typeFitsKind_19 (0 : Int32) s
  else
    if p2 = (2 : Int32) then
      f_typeFitsKind_30 (1 : Int32) s
    else
      f_typeFitsKind_30 (0 : Int32) s
set_option maxRecDepth 65536 in
set_option maxHeartbeats 4000000 in
theorem ok17 (l : Launch) (Z : State) (a0 : Array Value) (hw : HW a0 Z) (p1 : Int32) (p2 : Int32) (s : St) (r : Int32) (h : f_typeFitsKind p1 p2 s = some r) : CS l Z CN lay y17 prog_1_method_11_code 3 (some FieldType.boolean) R17 0 [.ref 0, .int p1, .int p2] (Hb 0 s) (P17 s r) := by
  refine CS.of_wp pn_cls (leb rfl) fun n0 => ?_
  show W17 l Z n0 (P17 s r) 0 0 0 [.val (.ref 0), .val (.int p1), .val (.int p2)] [] (Hb 0 s)
  unfold f_typeFitsKind at h
  refine WP.iloadN d17_0 rfl ?_
  rcases ite_e h with ⟨hc1, h⟩ | ⟨hc1, h⟩
  ·
    refine WP.ifN d17_1 (XT.i0_ne_f hc1) ?_
    refine WP.iloadN d17_4 rfl ?_
    refine WP.iconst (3 : Int32) d17_5 rfl ?_
    rcases ite_e h with ⟨hc2, h⟩ | ⟨hc2, h⟩
    ·
      refine WP.icmpY (pc' := 14) d17_6 (XT.ii_eq_t hc2) (by decide) rfl ?_
      exact WP.weak (L' := [.unset, .unset, .unset]) trivial (ok17_14 l Z a0 hw n0 s _ h)
    ·
      refine WP.icmpN d17_6 (XT.ii_eq_f hc2) ?_
      refine WP.iloadN d17_9 rfl ?_
      refine WP.iconst (4 : Int32) d17_10 rfl ?_
      rcases ite_e h with ⟨hc3, h⟩ | ⟨hc3, h⟩
      ·
        refine WP.icmpN d17_11 (XT.ii_ne_f hc3) ?_
        exact WP.weak (L' := [.unset, .unset, .unset]) trivial (ok17_14 l Z a0 hw n0 s _ h)
      ·
        refine WP.icmpY (pc' := 18) d17_11 (XT.ii_ne_t hc3) (by decide) rfl ?_
        refine WP.iconst (0 : Int32) d17_18 rfl ?_
        exact WP.weak (L' := [.unset, .unset, .unset]) trivial (ok17_19 l Z a0 hw n0 (0 : Int32) s _ h)
  ·
    refine WP.ifY (pc' := 20) d17_1 (XT.i0_ne_t hc1) (by decide) rfl ?_
    refine WP.iloadN d17_20 rfl ?_
    refine WP.iconst (2 : Int32) d17_21 rfl ?_
    rcases ite_e h with ⟨hc4, h⟩ | ⟨hc4, h⟩
    ·
      refine WP.icmpN d17_22 (XT.ii_ne_f hc4) ?_
      refine WP.iconst (1 : Int32) d17_25 rfl ?_
      refine WP.goto (pc' := 30) d17_26 (by decide) rfl ?_
      exact WP.weak (L' := [.unset, .unset, .unset]) trivial (ok17_30 l Z a0 hw n0 (1 : Int32) s _ h)
    ·
      refine WP.icmpY (pc' := 29) d17_22 (XT.ii_ne_t hc4) (by decide) rfl ?_
      refine WP.iconst (0 : Int32) d17_29 rfl ?_
      exact WP.weak (L' := [.unset, .unset, .unset]) trivial (ok17_30 l Z a0 hw n0 (0 : Int32) s _ h)
theorem d14_0 : dc prog_1_method_10_code 0 (.iload_n 1) 1 := by decide +kernel
theorem d14_1 : dc prog_1_method_10_code 1 (.ifCond .eq 11) 3 := by decide +kernel
theorem d14_4 : dc prog_1_method_10_code 4 (.iload_n 1) 1 := by decide +kernel
theorem d14_5 : dc prog_1_method_10_code 5 (.iconst 1) 1 := by decide +kernel
theorem d14_6 : dc prog_1_method_10_code 6 (.if_icmp .eq 6) 3 := by decide +kernel
theorem d14_9 : dc prog_1_method_10_code 9 (.bipush 18) 2 := by decide +kernel
theorem d14_11 : dc prog_1_method_10_code 11 (.ireturn) 1 := by decide +kernel
theorem d14_12 : dc prog_1_method_10_code 12 (.aload_n 0) 1 := by decide +kernel
theorem d14_13 : dc prog_1_method_10_code 13 (.iload_n 2) 1 := by decide +kernel
theorem d14_14 : dc prog_1_method_10_code 14 (.invokevirtual 110) 3 := by decide +kernel
theorem d14_17 : dc prog_1_method_10_code 17 (.ifCond .ne 5) 3 := by decide +kernel
theorem d14_20 : dc prog_1_method_10_code 20 (.iconst 1) 1 := by decide +kernel
theorem d14_21 : dc prog_1_method_10_code 21 (.ireturn) 1 := by decide +kernel
theorem d14_22 : dc prog_1_method_10_code 22 (.aload_n 0) 1 := by decide +kernel
theorem d14_23 : dc prog_1_method_10_code 23 (.iload_n 2) 1 := by decide +kernel
theorem d14_24 : dc prog_1_method_10_code 24 (.invokevirtual 136) 3 := by decide +kernel
theorem d14_27 : dc prog_1_method_10_code 27 (.ifCond .ne 6) 3 := by decide +kernel
theorem d14_30 : dc prog_1_method_10_code 30 (.bipush 12) 2 := by decide +kernel
theorem d14_32 : dc prog_1_method_10_code 32 (.ireturn) 1 := by decide +kernel
theorem d14_33 : dc prog_1_method_10_code 33 (.aload_n 0) 1 := by decide +kernel
theorem d14_34 : dc prog_1_method_10_code 34 (.getfield 20) 3 := by decide +kernel
theorem d14_37 : dc prog_1_method_10_code 37 (.iload_n 2) 1 := by decide +kernel
theorem d14_38 : dc prog_1_method_10_code 38 (.iaload) 1 := by decide +kernel
theorem d14_39 : dc prog_1_method_10_code 39 (.ifCond .eq 5) 3 := by decide +kernel
theorem d14_42 : dc prog_1_method_10_code 42 (.iconst 4) 1 := by decide +kernel
theorem d14_43 : dc prog_1_method_10_code 43 (.ireturn) 1 := by decide +kernel
theorem d14_44 : dc prog_1_method_10_code 44 (.aload_n 0) 1 := by decide +kernel
theorem d14_45 : dc prog_1_method_10_code 45 (.iload_n 1) 1 := by decide +kernel
theorem d14_46 : dc prog_1_method_10_code 46 (.aload_n 0) 1 := by decide +kernel
theorem d14_47 : dc prog_1_method_10_code 47 (.getfield 17) 3 := by decide +kernel
theorem d14_50 : dc prog_1_method_10_code 50 (.iload_n 2) 1 := by decide +kernel
theorem d14_51 : dc prog_1_method_10_code 51 (.iaload) 1 := by decide +kernel
theorem d14_52 : dc prog_1_method_10_code 52 (.invokevirtual 139) 3 := by decide +kernel
theorem d14_55 : dc prog_1_method_10_code 55 (.ifCond .ne 5) 3 := by decide +kernel
theorem d14_58 : dc prog_1_method_10_code 58 (.iconst 3) 1 := by decide +kernel
theorem d14_59 : dc prog_1_method_10_code 59 (.ireturn) 1 := by decide +kernel
theorem d14_60 : dc prog_1_method_10_code 60 (.iload_n 1) 1 := by decide +kernel
theorem d14_61 : dc prog_1_method_10_code 61 (.ifCond .ne 11) 3 := by decide +kernel
theorem d14_64 : dc prog_1_method_10_code 64 (.aload_n 0) 1 := by decide +kernel
theorem d14_65 : dc prog_1_method_10_code 65 (.iload_n 2) 1 := by decide +kernel
theorem d14_66 : dc prog_1_method_10_code 66 (.putfield 83) 3 := by decide +kernel
theorem d14_69 : dc prog_1_method_10_code 69 (.goto 8) 3 := by decide +kernel
theorem d14_72 : dc prog_1_method_10_code 72 (.aload_n 0) 1 := by decide +kernel
theorem d14_73 : dc prog_1_method_10_code 73 (.iload_n 2) 1 := by decide +kernel
theorem d14_74 : dc prog_1_method_10_code 74 (.putfield 86) 3 := by decide +kernel
theorem d14_77 : dc prog_1_method_10_code 77 (.iconst 0) 1 := by decide +kernel
theorem d14_78 : dc prog_1_method_10_code 78 (.ireturn) 1 := by decide +kernel
abbrev y14 : MethodName := ⟨"GeneralLedger", "setSpecial", "(II)I"⟩
theorem hy14 : y14.cls ≠ "java/lang/invoke/MethodHandle" ∧ y14.cls ≠ "java/lang/invoke/VarHandle" := by decide
theorem pd14 : parseMethodDescriptor y14.desc = some ⟨[.int, .int], some .int⟩ := by decide +kernel
abbrev R14 : Room := { frames := 2, cells := 0, slots := 0, locals := 26 }
abbrev P14 (r : Int32 × St) : Option Value → List OwnC → Prop := fun v H' => v = some (.int r.1) ∧ H' = (Hb 0 r.2)
abbrev W14 (l : Launch) (Z : State) (n0 : Nat) (Q : Option Value → List OwnC → Prop) (k n pc : Nat) (L : List Slot) (S : List Value) (H : List OwnC) : Prop := WP l Z CN lay "GeneralLedger" "setSpecial" prog_1_method_10_code 3 (some FieldType.int) R14 n0 0 Q k n pc L S H
def f_setSpecial_77 (s : St) : Option (Int32 × St) :=
  some ((0 : Int32), s)
set_option maxRecDepth 65536 in
set_option maxHeartbeats 4000000 in
theorem ok14_77 (l : Launch) (Z : State) (a0 : Array Value) (hw : HW a0 Z) (n0 : Nat) (s : St) (r : Int32 × St) (h : f_setSpecial_77 s = some r) : W14 l Z n0 (P14 r) 0 0 77 [.unset, .unset, .unset] [] (Hb 0 s) := by
  unfold f_setSpecial_77 at h
  refine WP.iconst (0 : Int32) d14_77 rfl ?_
  cases h
  exact WP.ireturn d14_78 rfl (leb rfl) (leb rfl) ⟨rfl, rfl⟩
def f_setSpecial_12 (v1 : Int32) (v2 : Int32) (s : St) : Option (Int32 × St) :=
  (f_isOpenAccount v2 s).bind fun c1 =>
  if c1 = 0 then
    some ((1 : Int32), s)
  else
    (f_isLeaf v2 s).bind fun c3 =>
    if c3 = 0 then
      some ((12 : Int32), s)
    else
      (rd (gA s 3) v2).bind fun x5 =>
      if x5 = 0 then
        (rd (gA s 2) v2).bind fun x7 =>
        (f_typeFitsKind v1 x7 s).bind fun c8 =>
        if c8 = 0 then
          some ((3 : Int32), s)
        else
          if v1 = 0 then
            lt (sI s 3 v2) fun s11 =>
            f_setSpecial_77 s11
          else
            lt (sI s 4 v2) fun s12 =>
            f_setSpecial_77 s12
      else
        some ((4 : Int32), s)
set_option maxRecDepth 65536 in
set_option maxHeartbeats 4000000 in
theorem ok14_12 (l : Launch) (Z : State) (a0 : Array Value) (hw : HW a0 Z) (n0 : Nat) (v1 : Int32) (v2 : Int32) (s : St) (r : Int32 × St) (h : f_setSpecial_12 v1 v2 s = some r) : W14 l Z n0 (P14 r) 0 0 12 [.val (.ref 0), .val (.int v1), .val (.int v2)] [] (Hb 0 s) := by
  unfold f_setSpecial_12 at h
  refine WP.aloadN d14_12 rfl ?_
  refine WP.iloadN d14_13 rfl ?_
  obtain ⟨c1, hc1, h⟩ := Option.bind_eq_some_iff.mp h
  refine WP.callP (i := 0) (y := y15) (as := [.int v2]) (S := []) d14_14 (hw _ m_122) (hw _ m_124) (hw _ m_3) (hw _ m_123) (hw _ m_125) (hw _ m_4) hy15 rfl (ok15 l Z a0 hw v2 s _ hc1) rfl (lenOf pd15 rfl) (leb rfl) (leb rfl) (leb rfl) (leb rfl) ?_
  rintro _ _ ⟨rfl, rfl⟩
  show W14 l Z n0 (P14 r) 0 0 17 [.val (.ref 0), .val (.int v1), .val (.int v2)] [.int c1] (Hb 0 s)
  rcases ite_e h with ⟨hc2, h⟩ | ⟨hc2, h⟩
  ·
    refine WP.ifN d14_17 (XT.i0_ne_f hc2) ?_
    refine WP.iconst (1 : Int32) d14_20 rfl ?_
    cases h
    exact WP.ireturn d14_21 rfl (leb rfl) (leb rfl) ⟨rfl, rfl⟩
  ·
    refine WP.ifY (pc' := 22) d14_17 (XT.i0_ne_t hc2) (by decide) rfl ?_
    refine WP.aloadN d14_22 rfl ?_
    refine WP.iloadN d14_23 rfl ?_
    obtain ⟨c3, hc3, h⟩ := Option.bind_eq_some_iff.mp h
    refine WP.callP (i := 0) (y := y16) (as := [.int v2]) (S := []) d14_24 (hw _ m_126) (hw _ m_128) (hw _ m_3) (hw _ m_127) (hw _ m_129) (hw _ m_4) hy16 rfl (ok16 l Z a0 hw v2 s _ hc3) rfl (lenOf pd16 rfl) (leb rfl) (leb rfl) (leb rfl) (leb rfl) ?_
    rintro _ _ ⟨rfl, rfl⟩
    show W14 l Z n0 (P14 r) 0 0 27 [.val (.ref 0), .val (.int v1), .val (.int v2)] [.int c3] (Hb 0 s)
    rcases ite_e h with ⟨hc4, h⟩ | ⟨hc4, h⟩
    ·
      refine WP.ifN d14_27 (XT.i0_ne_f hc4) ?_
      refine WP.bipush (12 : Int32) d14_30 rfl ?_
      cases h
      exact WP.ireturn d14_32 rfl (leb rfl) (leb rfl) ⟨rfl, rfl⟩
    ·
      refine WP.ifY (pc' := 33) d14_27 (XT.i0_ne_t hc4) (by decide) rfl ?_
      refine WP.aloadN d14_33 rfl ?_
      refine WP.getfield (i := 0) (j := 5) d14_34 (hw _ m_19) rfl rfl rfl ?_
      refine WP.iloadN d14_37 rfl ?_
      obtain ⟨x5, hx5, h⟩ := Option.bind_eq_some_iff.mp h
      refine WP.iaload (i := 4) d14_38 rfl hx5 ?_
      rcases ite_e h with ⟨hc6, h⟩ | ⟨hc6, h⟩
      ·
        refine WP.ifY (pc' := 44) d14_39 (XT.i0_eq_t hc6) (by decide) rfl ?_
        refine WP.aloadN d14_44 rfl ?_
        refine WP.iloadN d14_45 rfl ?_
        refine WP.aloadN d14_46 rfl ?_
        refine WP.getfield (i := 0) (j := 4) d14_47 (hw _ m_17) rfl rfl rfl ?_
        refine WP.iloadN d14_50 rfl ?_
        obtain ⟨x7, hx7, h⟩ := Option.bind_eq_some_iff.mp h
        refine WP.iaload (i := 3) d14_51 rfl hx7 ?_
        obtain ⟨c8, hc8, h⟩ := Option.bind_eq_some_iff.mp h
        refine WP.callP (i := 0) (y := y17) (as := [.int v1, .int x7]) (S := []) d14_52 (hw _ m_130) (hw _ m_132) (hw _ m_3) (hw _ m_131) (hw _ m_133) (hw _ m_4) hy17 rfl (ok17 l Z a0 hw v1 x7 s _ hc8) rfl (lenOf pd17 rfl) (leb rfl) (leb rfl) (leb rfl) (leb rfl) ?_
        rintro _ _ ⟨rfl, rfl⟩
        show W14 l Z n0 (P14 r) 0 0 55 [.val (.ref 0), .val (.int v1), .val (.int v2)] [.int c8] (Hb 0 s)
        rcases ite_e h with ⟨hc9, h⟩ | ⟨hc9, h⟩
        ·
          refine WP.ifN d14_55 (XT.i0_ne_f hc9) ?_
          refine WP.iconst (3 : Int32) d14_58 rfl ?_
          cases h
          exact WP.ireturn d14_59 rfl (leb rfl) (leb rfl) ⟨rfl, rfl⟩
        ·
          refine WP.ifY (pc' := 60) d14_55 (XT.i0_ne_t hc9) (by decide) rfl ?_
          refine WP.iloadN d14_60 rfl ?_
          rcases ite_e h with ⟨hc10, h⟩ | ⟨hc10, h⟩
          ·
            refine WP.ifN d14_61 (XT.i0_ne_f hc10) ?_
            refine WP.aloadN d14_64 rfl ?_
            refine WP.iloadN d14_65 rfl ?_
            obtain ⟨s11, es11, h⟩ := lt_e h
            refine WP.putI (i := 0) (j := 23) (H' := (Hb 0 s11)) d14_66 (hw _ m_72) (Or.inl (hw _ m_73)) (hw _ m_3) (hlay hw) rfl rfl rfl (leb rfl) (by subst es11; rfl) ?_
            refine WP.goto (pc' := 77) d14_69 (by decide) rfl ?_
            exact WP.weak (L' := [.unset, .unset, .unset]) trivial (ok14_77 l Z a0 hw n0 s11 _ h)
          ·
            refine WP.ifY (pc' := 72) d14_61 (XT.i0_ne_t hc10) (by decide) rfl ?_
            refine WP.aloadN d14_72 rfl ?_
            refine WP.iloadN d14_73 rfl ?_
            obtain ⟨s12, es12, h⟩ := lt_e h
            refine WP.putI (i := 0) (j := 24) (H' := (Hb 0 s12)) d14_74 (hw _ m_74) (Or.inl (hw _ m_75)) (hw _ m_3) (hlay hw) rfl rfl rfl (leb rfl) (by subst es12; rfl) ?_
            exact WP.weak (L' := [.unset, .unset, .unset]) trivial (ok14_77 l Z a0 hw n0 s12 _ h)
      ·
        refine WP.ifN d14_39 (XT.i0_eq_f hc6) ?_
        refine WP.iconst (4 : Int32) d14_42 rfl ?_
        cases h
        exact WP.ireturn d14_43 rfl (leb rfl) (leb rfl) ⟨rfl, rfl⟩
def f_setSpecial (p1 : Int32) (p2 : Int32) (s : St) : Option (Int32 × St) :=
  if p1 = 0 then
    f_setSpecial_12 p1 p2 s
  else
    if p1 = (1 : Int32) then
      f_setSpecial_12 p1 p2 s
    else
      some ((18 : Int32), s)
set_option maxRecDepth 65536 in
set_option maxHeartbeats 4000000 in
theorem ok14 (l : Launch) (Z : State) (a0 : Array Value) (hw : HW a0 Z) (p1 : Int32) (p2 : Int32) (s : St) (r : Int32 × St) (h : f_setSpecial p1 p2 s = some r) : CS l Z CN lay y14 prog_1_method_10_code 3 (some FieldType.int) R14 0 [.ref 0, .int p1, .int p2] (Hb 0 s) (P14 r) := by
  refine CS.of_wp pn_cls (leb rfl) fun n0 => ?_
  show W14 l Z n0 (P14 r) 0 0 0 [.val (.ref 0), .val (.int p1), .val (.int p2)] [] (Hb 0 s)
  unfold f_setSpecial at h
  refine WP.iloadN d14_0 rfl ?_
  rcases ite_e h with ⟨hc1, h⟩ | ⟨hc1, h⟩
  ·
    refine WP.ifY (pc' := 12) d14_1 (XT.i0_eq_t hc1) (by decide) rfl ?_
    exact WP.weak (L' := [.val (.ref 0), .val (.int p1), .val (.int p2)]) ⟨rfl, rfl, rfl, trivial⟩ (ok14_12 l Z a0 hw n0 p1 p2 s _ h)
  ·
    refine WP.ifN d14_1 (XT.i0_eq_f hc1) ?_
    refine WP.iloadN d14_4 rfl ?_
    refine WP.iconst (1 : Int32) d14_5 rfl ?_
    rcases ite_e h with ⟨hc2, h⟩ | ⟨hc2, h⟩
    ·
      refine WP.icmpY (pc' := 12) d14_6 (XT.ii_eq_t hc2) (by decide) rfl ?_
      exact WP.weak (L' := [.val (.ref 0), .val (.int p1), .val (.int p2)]) ⟨rfl, rfl, rfl, trivial⟩ (ok14_12 l Z a0 hw n0 p1 p2 s _ h)
    ·
      refine WP.icmpN d14_6 (XT.ii_eq_f hc2) ?_
      refine WP.bipush (18 : Int32) d14_9 rfl ?_
      cases h
      exact WP.ireturn d14_11 rfl (leb rfl) (leb rfl) ⟨rfl, rfl⟩
theorem d19_0 : dc prog_1_method_62_code 0 (.iload_n 1) 1 := by decide +kernel
theorem d19_1 : dc prog_1_method_62_code 1 (.iconst 1) 1 := by decide +kernel
theorem d19_2 : dc prog_1_method_62_code 2 (.if_icmp .lt 15) 3 := by decide +kernel
theorem d19_5 : dc prog_1_method_62_code 5 (.iload_n 1) 1 := by decide +kernel
theorem d19_6 : dc prog_1_method_62_code 6 (.aload_n 0) 1 := by decide +kernel
theorem d19_7 : dc prog_1_method_62_code 7 (.getfield 67) 3 := by decide +kernel
theorem d19_10 : dc prog_1_method_62_code 10 (.if_icmp .ge 7) 3 := by decide +kernel
theorem d19_13 : dc prog_1_method_62_code 13 (.iconst 1) 1 := by decide +kernel
theorem d19_14 : dc prog_1_method_62_code 14 (.goto 4) 3 := by decide +kernel
theorem d19_17 : dc prog_1_method_62_code 17 (.iconst 0) 1 := by decide +kernel
theorem d19_18 : dc prog_1_method_62_code 18 (.ireturn) 1 := by decide +kernel
abbrev y19 : MethodName := ⟨"GeneralLedger", "isForeignCurrency", "(I)Z"⟩
theorem hy19 : y19.cls ≠ "java/lang/invoke/MethodHandle" ∧ y19.cls ≠ "java/lang/invoke/VarHandle" := by decide
theorem pd19 : parseMethodDescriptor y19.desc = some ⟨[.int], some .boolean⟩ := by decide +kernel
abbrev R19 : Room := { frames := 0, cells := 0, slots := 0, locals := 0 }
abbrev P19 (s : St) (r : Int32) : Option Value → List OwnC → Prop := fun v H' => v = some (.int r) ∧ H' = (Hb 0 s)
abbrev W19 (l : Launch) (Z : State) (n0 : Nat) (Q : Option Value → List OwnC → Prop) (k n pc : Nat) (L : List Slot) (S : List Value) (H : List OwnC) : Prop := WP l Z CN lay "GeneralLedger" "isForeignCurrency" prog_1_method_62_code 2 (some FieldType.boolean) R19 n0 0 Q k n pc L S H
def f_isForeignCurrency_18 (t0 : Int32) (s : St) : Option (Int32) :=
  some (t0 &&& 1)
set_option maxRecDepth 65536 in
set_option maxHeartbeats 4000000 in
theorem ok19_18 (l : Launch) (Z : State) (a0 : Array Value) (hw : HW a0 Z) (n0 : Nat) (t0 : Int32) (s : St) (r : Int32) (h : f_isForeignCurrency_18 t0 s = some r) : W19 l Z n0 (P19 s r) 0 0 18 [.unset, .unset] [.int t0] (Hb 0 s) := by
  unfold f_isForeignCurrency_18 at h
  cases h
  exact WP.zreturn d19_18 rfl (leb rfl) (leb rfl) ⟨rfl, rfl⟩
def f_isForeignCurrency_17 (s : St) : Option (Int32) :=
  f_isForeignCurrency_18 (0 : Int32) s
set_option maxRecDepth 65536 in
set_option maxHeartbeats 4000000 in
theorem ok19_17 (l : Launch) (Z : State) (a0 : Array Value) (hw : HW a0 Z) (n0 : Nat) (s : St) (r : Int32) (h : f_isForeignCurrency_17 s = some r) : W19 l Z n0 (P19 s r) 0 0 17 [.unset, .unset] [] (Hb 0 s) := by
  unfold f_isForeignCurrency_17 at h
  refine WP.iconst (0 : Int32) d19_17 rfl ?_
  exact WP.weak (L' := [.unset, .unset]) trivial (ok19_18 l Z a0 hw n0 (0 : Int32) s _ h)
def f_isForeignCurrency (p1 : Int32) (s : St) : Option (Int32) :=
  if p1 < (1 : Int32) then
    f_isForeignCurrency_17 s
  else
    if p1 < (gI s 0) then
      f_isForeignCurrency_18 (1 : Int32) s
    else
      f_isForeignCurrency_17 s
set_option maxRecDepth 65536 in
set_option maxHeartbeats 4000000 in
theorem ok19 (l : Launch) (Z : State) (a0 : Array Value) (hw : HW a0 Z) (p1 : Int32) (s : St) (r : Int32) (h : f_isForeignCurrency p1 s = some r) : CS l Z CN lay y19 prog_1_method_62_code 2 (some FieldType.boolean) R19 0 [.ref 0, .int p1] (Hb 0 s) (P19 s r) := by
  refine CS.of_wp pn_cls (leb rfl) fun n0 => ?_
  show W19 l Z n0 (P19 s r) 0 0 0 [.val (.ref 0), .val (.int p1)] [] (Hb 0 s)
  unfold f_isForeignCurrency at h
  refine WP.iloadN d19_0 rfl ?_
  refine WP.iconst (1 : Int32) d19_1 rfl ?_
  rcases ite_e h with ⟨hc1, h⟩ | ⟨hc1, h⟩
  ·
    refine WP.icmpY (pc' := 17) d19_2 (XT.ii_lt_t hc1) (by decide) rfl ?_
    exact WP.weak (L' := [.unset, .unset]) trivial (ok19_17 l Z a0 hw n0 s _ h)
  ·
    refine WP.icmpN d19_2 (XT.ii_lt_f hc1) ?_
    refine WP.iloadN d19_5 rfl ?_
    refine WP.aloadN d19_6 rfl ?_
    refine WP.getfield (i := 0) (j := 0) d19_7 (hw _ m_52) rfl rfl rfl ?_
    rcases ite_e h with ⟨hc2, h⟩ | ⟨hc2, h⟩
    ·
      refine WP.icmpN d19_10 (XT.ii_ge_f hc2) ?_
      refine WP.iconst (1 : Int32) d19_13 rfl ?_
      refine WP.goto (pc' := 18) d19_14 (by decide) rfl ?_
      exact WP.weak (L' := [.unset, .unset]) trivial (ok19_18 l Z a0 hw n0 (1 : Int32) s _ h)
    ·
      refine WP.icmpY (pc' := 17) d19_10 (XT.ii_ge_t hc2) (by decide) rfl ?_
      exact WP.weak (L' := [.unset, .unset]) trivial (ok19_17 l Z a0 hw n0 s _ h)
theorem d20_0 : dc prog_1_method_63_code 0 (.iload_n 1) 1 := by decide +kernel
theorem d20_1 : dc prog_1_method_63_code 1 (.iconst 1) 1 := by decide +kernel
theorem d20_2 : dc prog_1_method_63_code 2 (.if_icmp .lt 14) 3 := by decide +kernel
theorem d20_5 : dc prog_1_method_63_code 5 (.iload_n 1) 1 := by decide +kernel
theorem d20_6 : dc prog_1_method_63_code 6 (.ldc_w 263) 3 := by decide +kernel
theorem d20_9 : dc prog_1_method_63_code 9 (.if_icmp .gt 7) 3 := by decide +kernel
theorem d20_12 : dc prog_1_method_63_code 12 (.iconst 1) 1 := by decide +kernel
theorem d20_13 : dc prog_1_method_63_code 13 (.goto 4) 3 := by decide +kernel
theorem d20_16 : dc prog_1_method_63_code 16 (.iconst 0) 1 := by decide +kernel
theorem d20_17 : dc prog_1_method_63_code 17 (.ireturn) 1 := by decide +kernel
abbrev y20 : MethodName := ⟨"GeneralLedger", "isValidRate", "(I)Z"⟩
theorem hy20 : y20.cls ≠ "java/lang/invoke/MethodHandle" ∧ y20.cls ≠ "java/lang/invoke/VarHandle" := by decide
theorem pd20 : parseMethodDescriptor y20.desc = some ⟨[.int], some .boolean⟩ := by decide +kernel
abbrev R20 : Room := { frames := 0, cells := 0, slots := 0, locals := 0 }
abbrev P20 (s : St) (r : Int32) : Option Value → List OwnC → Prop := fun v H' => v = some (.int r) ∧ H' = (Hb 0 s)
abbrev W20 (l : Launch) (Z : State) (n0 : Nat) (Q : Option Value → List OwnC → Prop) (k n pc : Nat) (L : List Slot) (S : List Value) (H : List OwnC) : Prop := WP l Z CN lay "GeneralLedger" "isValidRate" prog_1_method_63_code 2 (some FieldType.boolean) R20 n0 0 Q k n pc L S H
def f_isValidRate_17 (t0 : Int32) (s : St) : Option (Int32) :=
  some (t0 &&& 1)
set_option maxRecDepth 65536 in
set_option maxHeartbeats 4000000 in
theorem ok20_17 (l : Launch) (Z : State) (a0 : Array Value) (hw : HW a0 Z) (n0 : Nat) (t0 : Int32) (s : St) (r : Int32) (h : f_isValidRate_17 t0 s = some r) : W20 l Z n0 (P20 s r) 0 0 17 [.unset, .unset] [.int t0] (Hb 0 s) := by
  unfold f_isValidRate_17 at h
  cases h
  exact WP.zreturn d20_17 rfl (leb rfl) (leb rfl) ⟨rfl, rfl⟩
def f_isValidRate_16 (s : St) : Option (Int32) :=
  f_isValidRate_17 (0 : Int32) s
set_option maxRecDepth 65536 in
set_option maxHeartbeats 4000000 in
theorem ok20_16 (l : Launch) (Z : State) (a0 : Array Value) (hw : HW a0 Z) (n0 : Nat) (s : St) (r : Int32) (h : f_isValidRate_16 s = some r) : W20 l Z n0 (P20 s r) 0 0 16 [.unset, .unset] [] (Hb 0 s) := by
  unfold f_isValidRate_16 at h
  refine WP.iconst (0 : Int32) d20_16 rfl ?_
  exact WP.weak (L' := [.unset, .unset]) trivial (ok20_17 l Z a0 hw n0 (0 : Int32) s _ h)
def f_isValidRate (p1 : Int32) (s : St) : Option (Int32) :=
  if p1 < (1 : Int32) then
    f_isValidRate_16 s
  else
    if (100000 : Int32) < p1 then
      f_isValidRate_16 s
    else
      f_isValidRate_17 (1 : Int32) s
set_option maxRecDepth 65536 in
set_option maxHeartbeats 4000000 in
theorem ok20 (l : Launch) (Z : State) (a0 : Array Value) (hw : HW a0 Z) (p1 : Int32) (s : St) (r : Int32) (h : f_isValidRate p1 s = some r) : CS l Z CN lay y20 prog_1_method_63_code 2 (some FieldType.boolean) R20 0 [.ref 0, .int p1] (Hb 0 s) (P20 s r) := by
  refine CS.of_wp pn_cls (leb rfl) fun n0 => ?_
  show W20 l Z n0 (P20 s r) 0 0 0 [.val (.ref 0), .val (.int p1)] [] (Hb 0 s)
  unfold f_isValidRate at h
  refine WP.iloadN d20_0 rfl ?_
  refine WP.iconst (1 : Int32) d20_1 rfl ?_
  rcases ite_e h with ⟨hc1, h⟩ | ⟨hc1, h⟩
  ·
    refine WP.icmpY (pc' := 16) d20_2 (XT.ii_lt_t hc1) (by decide) rfl ?_
    exact WP.weak (L' := [.unset, .unset]) trivial (ok20_16 l Z a0 hw n0 s _ h)
  ·
    refine WP.icmpN d20_2 (XT.ii_lt_f hc1) ?_
    refine WP.iloadN d20_5 rfl ?_
    refine WP.ldcw d20_6 (hw _ m_147) ?_
    rcases ite_e h with ⟨hc2, h⟩ | ⟨hc2, h⟩
    ·
      refine WP.icmpY (pc' := 16) d20_9 (XT.ii_gt_t hc2) (by decide) rfl ?_
      exact WP.weak (L' := [.unset, .unset]) trivial (ok20_16 l Z a0 hw n0 s _ h)
    ·
      refine WP.icmpN d20_9 (XT.ii_gt_f hc2) ?_
      refine WP.iconst (1 : Int32) d20_12 rfl ?_
      refine WP.goto (pc' := 17) d20_13 (by decide) rfl ?_
      exact WP.weak (L' := [.unset, .unset]) trivial (ok20_17 l Z a0 hw n0 (1 : Int32) s _ h)
theorem d18_0 : dc prog_1_method_12_code 0 (.aload_n 0) 1 := by decide +kernel
theorem d18_1 : dc prog_1_method_12_code 1 (.iload_n 1) 1 := by decide +kernel
theorem d18_2 : dc prog_1_method_12_code 2 (.invokevirtual 143) 3 := by decide +kernel
theorem d18_5 : dc prog_1_method_12_code 5 (.ifCond .ne 5) 3 := by decide +kernel
theorem d18_8 : dc prog_1_method_12_code 8 (.iconst 4) 1 := by decide +kernel
theorem d18_9 : dc prog_1_method_12_code 9 (.ireturn) 1 := by decide +kernel
theorem d18_10 : dc prog_1_method_12_code 10 (.aload_n 0) 1 := by decide +kernel
theorem d18_11 : dc prog_1_method_12_code 11 (.iload_n 2) 1 := by decide +kernel
theorem d18_12 : dc prog_1_method_12_code 12 (.invokevirtual 146) 3 := by decide +kernel
theorem d18_15 : dc prog_1_method_12_code 15 (.ifCond .ne 6) 3 := by decide +kernel
theorem d18_18 : dc prog_1_method_12_code 18 (.bipush 15) 2 := by decide +kernel
theorem d18_20 : dc prog_1_method_12_code 20 (.ireturn) 1 := by decide +kernel
theorem d18_21 : dc prog_1_method_12_code 21 (.aload_n 0) 1 := by decide +kernel
theorem d18_22 : dc prog_1_method_12_code 22 (.getfield 39) 3 := by decide +kernel
theorem d18_25 : dc prog_1_method_12_code 25 (.iload_n 1) 1 := by decide +kernel
theorem d18_26 : dc prog_1_method_12_code 26 (.iload_n 2) 1 := by decide +kernel
theorem d18_27 : dc prog_1_method_12_code 27 (.iastore) 1 := by decide +kernel
theorem d18_28 : dc prog_1_method_12_code 28 (.iconst 0) 1 := by decide +kernel
theorem d18_29 : dc prog_1_method_12_code 29 (.ireturn) 1 := by decide +kernel
abbrev y18 : MethodName := ⟨"GeneralLedger", "setRate", "(II)I"⟩
theorem hy18 : y18.cls ≠ "java/lang/invoke/MethodHandle" ∧ y18.cls ≠ "java/lang/invoke/VarHandle" := by decide
theorem pd18 : parseMethodDescriptor y18.desc = some ⟨[.int, .int], some .int⟩ := by decide +kernel
abbrev R18 : Room := { frames := 1, cells := 0, slots := 0, locals := 13 }
abbrev P18 (r : Int32 × St) : Option Value → List OwnC → Prop := fun v H' => v = some (.int r.1) ∧ H' = (Hb 0 r.2)
abbrev W18 (l : Launch) (Z : State) (n0 : Nat) (Q : Option Value → List OwnC → Prop) (k n pc : Nat) (L : List Slot) (S : List Value) (H : List OwnC) : Prop := WP l Z CN lay "GeneralLedger" "setRate" prog_1_method_12_code 3 (some FieldType.int) R18 n0 0 Q k n pc L S H
def f_setRate (p1 : Int32) (p2 : Int32) (s : St) : Option (Int32 × St) :=
  (f_isForeignCurrency p1 s).bind fun c1 =>
  if c1 = 0 then
    some ((4 : Int32), s)
  else
    (f_isValidRate p2 s).bind fun c3 =>
    if c3 = 0 then
      some ((15 : Int32), s)
    else
      (wrA s 7 p1 p2).bind fun s5 =>
      some ((0 : Int32), s5)
set_option maxRecDepth 65536 in
set_option maxHeartbeats 4000000 in
theorem ok18 (l : Launch) (Z : State) (a0 : Array Value) (hw : HW a0 Z) (p1 : Int32) (p2 : Int32) (s : St) (r : Int32 × St) (h : f_setRate p1 p2 s = some r) : CS l Z CN lay y18 prog_1_method_12_code 3 (some FieldType.int) R18 0 [.ref 0, .int p1, .int p2] (Hb 0 s) (P18 r) := by
  refine CS.of_wp pn_cls (leb rfl) fun n0 => ?_
  show W18 l Z n0 (P18 r) 0 0 0 [.val (.ref 0), .val (.int p1), .val (.int p2)] [] (Hb 0 s)
  unfold f_setRate at h
  refine WP.aloadN d18_0 rfl ?_
  refine WP.iloadN d18_1 rfl ?_
  obtain ⟨c1, hc1, h⟩ := Option.bind_eq_some_iff.mp h
  refine WP.callP (i := 0) (y := y19) (as := [.int p1]) (S := []) d18_2 (hw _ m_139) (hw _ m_141) (hw _ m_3) (hw _ m_140) (hw _ m_142) (hw _ m_4) hy19 rfl (ok19 l Z a0 hw p1 s _ hc1) rfl (lenOf pd19 rfl) (leb rfl) (leb rfl) (leb rfl) (leb rfl) ?_
  rintro _ _ ⟨rfl, rfl⟩
  show W18 l Z n0 (P18 r) 0 0 5 [.val (.ref 0), .val (.int p1), .val (.int p2)] [.int c1] (Hb 0 s)
  rcases ite_e h with ⟨hc2, h⟩ | ⟨hc2, h⟩
  ·
    refine WP.ifN d18_5 (XT.i0_ne_f hc2) ?_
    refine WP.iconst (4 : Int32) d18_8 rfl ?_
    cases h
    exact WP.ireturn d18_9 rfl (leb rfl) (leb rfl) ⟨rfl, rfl⟩
  ·
    refine WP.ifY (pc' := 10) d18_5 (XT.i0_ne_t hc2) (by decide) rfl ?_
    refine WP.aloadN d18_10 rfl ?_
    refine WP.iloadN d18_11 rfl ?_
    obtain ⟨c3, hc3, h⟩ := Option.bind_eq_some_iff.mp h
    refine WP.callP (i := 0) (y := y20) (as := [.int p2]) (S := []) d18_12 (hw _ m_143) (hw _ m_145) (hw _ m_3) (hw _ m_144) (hw _ m_146) (hw _ m_4) hy20 rfl (ok20 l Z a0 hw p2 s _ hc3) rfl (lenOf pd20 rfl) (leb rfl) (leb rfl) (leb rfl) (leb rfl) ?_
    rintro _ _ ⟨rfl, rfl⟩
    show W18 l Z n0 (P18 r) 0 0 15 [.val (.ref 0), .val (.int p1), .val (.int p2)] [.int c3] (Hb 0 s)
    rcases ite_e h with ⟨hc4, h⟩ | ⟨hc4, h⟩
    ·
      refine WP.ifN d18_15 (XT.i0_ne_f hc4) ?_
      refine WP.bipush (15 : Int32) d18_18 rfl ?_
      cases h
      exact WP.ireturn d18_20 rfl (leb rfl) (leb rfl) ⟨rfl, rfl⟩
    ·
      refine WP.ifY (pc' := 21) d18_15 (XT.i0_ne_t hc4) (by decide) rfl ?_
      refine WP.aloadN d18_21 rfl ?_
      refine WP.getfield (i := 0) (j := 11) d18_22 (hw _ m_32) rfl rfl rfl ?_
      refine WP.iloadN d18_25 rfl ?_
      refine WP.iloadN d18_26 rfl ?_
      obtain ⟨s5, hs5, h⟩ := Option.bind_eq_some_iff.mp h
      obtain ⟨ys5, gs5, es5⟩ := wrA_e hs5
      refine WP.iastore (i := 10) (xs := gA s 7) (H' := (Hb 0 s5)) d18_27 rfl (leb rfl) gs5 (by subst es5; rfl) ?_
      refine WP.iconst (0 : Int32) d18_28 rfl ?_
      cases h
      exact WP.ireturn d18_29 rfl (leb rfl) (leb rfl) ⟨rfl, rfl⟩
theorem d22_0 : dc prog_1_method_60_code 0 (.iload_n 1) 1 := by decide +kernel
theorem d22_1 : dc prog_1_method_60_code 1 (.ifCond .lt 12) 3 := by decide +kernel
theorem d22_4 : dc prog_1_method_60_code 4 (.iload_n 1) 1 := by decide +kernel
theorem d22_5 : dc prog_1_method_60_code 5 (.iconst 4) 1 := by decide +kernel
theorem d22_6 : dc prog_1_method_60_code 6 (.if_icmp .ge 7) 3 := by decide +kernel
theorem d22_9 : dc prog_1_method_60_code 9 (.iconst 1) 1 := by decide +kernel
theorem d22_10 : dc prog_1_method_60_code 10 (.goto 4) 3 := by decide +kernel
theorem d22_13 : dc prog_1_method_60_code 13 (.iconst 0) 1 := by decide +kernel
theorem d22_14 : dc prog_1_method_60_code 14 (.ireturn) 1 := by decide +kernel
abbrev y22 : MethodName := ⟨"GeneralLedger", "isSlot", "(I)Z"⟩
theorem hy22 : y22.cls ≠ "java/lang/invoke/MethodHandle" ∧ y22.cls ≠ "java/lang/invoke/VarHandle" := by decide
theorem pd22 : parseMethodDescriptor y22.desc = some ⟨[.int], some .boolean⟩ := by decide +kernel
abbrev R22 : Room := { frames := 0, cells := 0, slots := 0, locals := 0 }
abbrev P22 (s : St) (r : Int32) : Option Value → List OwnC → Prop := fun v H' => v = some (.int r) ∧ H' = (Hb 0 s)
abbrev W22 (l : Launch) (Z : State) (n0 : Nat) (Q : Option Value → List OwnC → Prop) (k n pc : Nat) (L : List Slot) (S : List Value) (H : List OwnC) : Prop := WP l Z CN lay "GeneralLedger" "isSlot" prog_1_method_60_code 2 (some FieldType.boolean) R22 n0 0 Q k n pc L S H
def f_isSlot_14 (t0 : Int32) (s : St) : Option (Int32) :=
  some (t0 &&& 1)
set_option maxRecDepth 65536 in
set_option maxHeartbeats 4000000 in
theorem ok22_14 (l : Launch) (Z : State) (a0 : Array Value) (hw : HW a0 Z) (n0 : Nat) (t0 : Int32) (s : St) (r : Int32) (h : f_isSlot_14 t0 s = some r) : W22 l Z n0 (P22 s r) 0 0 14 [.unset, .unset] [.int t0] (Hb 0 s) := by
  unfold f_isSlot_14 at h
  cases h
  exact WP.zreturn d22_14 rfl (leb rfl) (leb rfl) ⟨rfl, rfl⟩
def f_isSlot_13 (s : St) : Option (Int32) :=
  f_isSlot_14 (0 : Int32) s
set_option maxRecDepth 65536 in
set_option maxHeartbeats 4000000 in
theorem ok22_13 (l : Launch) (Z : State) (a0 : Array Value) (hw : HW a0 Z) (n0 : Nat) (s : St) (r : Int32) (h : f_isSlot_13 s = some r) : W22 l Z n0 (P22 s r) 0 0 13 [.unset, .unset] [] (Hb 0 s) := by
  unfold f_isSlot_13 at h
  refine WP.iconst (0 : Int32) d22_13 rfl ?_
  exact WP.weak (L' := [.unset, .unset]) trivial (ok22_14 l Z a0 hw n0 (0 : Int32) s _ h)
def f_isSlot (p1 : Int32) (s : St) : Option (Int32) :=
  if p1 < 0 then
    f_isSlot_13 s
  else
    if p1 < (4 : Int32) then
      f_isSlot_14 (1 : Int32) s
    else
      f_isSlot_13 s
set_option maxRecDepth 65536 in
set_option maxHeartbeats 4000000 in
theorem ok22 (l : Launch) (Z : State) (a0 : Array Value) (hw : HW a0 Z) (p1 : Int32) (s : St) (r : Int32) (h : f_isSlot p1 s = some r) : CS l Z CN lay y22 prog_1_method_60_code 2 (some FieldType.boolean) R22 0 [.ref 0, .int p1] (Hb 0 s) (P22 s r) := by
  refine CS.of_wp pn_cls (leb rfl) fun n0 => ?_
  show W22 l Z n0 (P22 s r) 0 0 0 [.val (.ref 0), .val (.int p1)] [] (Hb 0 s)
  unfold f_isSlot at h
  refine WP.iloadN d22_0 rfl ?_
  rcases ite_e h with ⟨hc1, h⟩ | ⟨hc1, h⟩
  ·
    refine WP.ifY (pc' := 13) d22_1 (XT.i0_lt_t hc1) (by decide) rfl ?_
    exact WP.weak (L' := [.unset, .unset]) trivial (ok22_13 l Z a0 hw n0 s _ h)
  ·
    refine WP.ifN d22_1 (XT.i0_lt_f hc1) ?_
    refine WP.iloadN d22_4 rfl ?_
    refine WP.iconst (4 : Int32) d22_5 rfl ?_
    rcases ite_e h with ⟨hc2, h⟩ | ⟨hc2, h⟩
    ·
      refine WP.icmpN d22_6 (XT.ii_ge_f hc2) ?_
      refine WP.iconst (1 : Int32) d22_9 rfl ?_
      refine WP.goto (pc' := 14) d22_10 (by decide) rfl ?_
      exact WP.weak (L' := [.unset, .unset]) trivial (ok22_14 l Z a0 hw n0 (1 : Int32) s _ h)
    ·
      refine WP.icmpY (pc' := 13) d22_6 (XT.ii_ge_t hc2) (by decide) rfl ?_
      exact WP.weak (L' := [.unset, .unset]) trivial (ok22_13 l Z a0 hw n0 s _ h)
theorem d23_0 : dc prog_1_method_59_code 0 (.iload_n 1) 1 := by decide +kernel
theorem d23_1 : dc prog_1_method_59_code 1 (.ifCond .lt 13) 3 := by decide +kernel
theorem d23_4 : dc prog_1_method_59_code 4 (.iload_n 1) 1 := by decide +kernel
theorem d23_5 : dc prog_1_method_59_code 5 (.bipush 12) 2 := by decide +kernel
theorem d23_7 : dc prog_1_method_59_code 7 (.if_icmp .ge 7) 3 := by decide +kernel
theorem d23_10 : dc prog_1_method_59_code 10 (.iconst 1) 1 := by decide +kernel
theorem d23_11 : dc prog_1_method_59_code 11 (.goto 4) 3 := by decide +kernel
theorem d23_14 : dc prog_1_method_59_code 14 (.iconst 0) 1 := by decide +kernel
theorem d23_15 : dc prog_1_method_59_code 15 (.ireturn) 1 := by decide +kernel
abbrev y23 : MethodName := ⟨"GeneralLedger", "isPeriod", "(I)Z"⟩
theorem hy23 : y23.cls ≠ "java/lang/invoke/MethodHandle" ∧ y23.cls ≠ "java/lang/invoke/VarHandle" := by decide
theorem pd23 : parseMethodDescriptor y23.desc = some ⟨[.int], some .boolean⟩ := by decide +kernel
abbrev R23 : Room := { frames := 0, cells := 0, slots := 0, locals := 0 }
abbrev P23 (s : St) (r : Int32) : Option Value → List OwnC → Prop := fun v H' => v = some (.int r) ∧ H' = (Hb 0 s)
abbrev W23 (l : Launch) (Z : State) (n0 : Nat) (Q : Option Value → List OwnC → Prop) (k n pc : Nat) (L : List Slot) (S : List Value) (H : List OwnC) : Prop := WP l Z CN lay "GeneralLedger" "isPeriod" prog_1_method_59_code 2 (some FieldType.boolean) R23 n0 0 Q k n pc L S H
def f_isPeriod_15 (t0 : Int32) (s : St) : Option (Int32) :=
  some (t0 &&& 1)
set_option maxRecDepth 65536 in
set_option maxHeartbeats 4000000 in
theorem ok23_15 (l : Launch) (Z : State) (a0 : Array Value) (hw : HW a0 Z) (n0 : Nat) (t0 : Int32) (s : St) (r : Int32) (h : f_isPeriod_15 t0 s = some r) : W23 l Z n0 (P23 s r) 0 0 15 [.unset, .unset] [.int t0] (Hb 0 s) := by
  unfold f_isPeriod_15 at h
  cases h
  exact WP.zreturn d23_15 rfl (leb rfl) (leb rfl) ⟨rfl, rfl⟩
def f_isPeriod_14 (s : St) : Option (Int32) :=
  f_isPeriod_15 (0 : Int32) s
set_option maxRecDepth 65536 in
set_option maxHeartbeats 4000000 in
theorem ok23_14 (l : Launch) (Z : State) (a0 : Array Value) (hw : HW a0 Z) (n0 : Nat) (s : St) (r : Int32) (h : f_isPeriod_14 s = some r) : W23 l Z n0 (P23 s r) 0 0 14 [.unset, .unset] [] (Hb 0 s) := by
  unfold f_isPeriod_14 at h
  refine WP.iconst (0 : Int32) d23_14 rfl ?_
  exact WP.weak (L' := [.unset, .unset]) trivial (ok23_15 l Z a0 hw n0 (0 : Int32) s _ h)
def f_isPeriod (p1 : Int32) (s : St) : Option (Int32) :=
  if p1 < 0 then
    f_isPeriod_14 s
  else
    if p1 < (12 : Int32) then
      f_isPeriod_15 (1 : Int32) s
    else
      f_isPeriod_14 s
set_option maxRecDepth 65536 in
set_option maxHeartbeats 4000000 in
theorem ok23 (l : Launch) (Z : State) (a0 : Array Value) (hw : HW a0 Z) (p1 : Int32) (s : St) (r : Int32) (h : f_isPeriod p1 s = some r) : CS l Z CN lay y23 prog_1_method_59_code 2 (some FieldType.boolean) R23 0 [.ref 0, .int p1] (Hb 0 s) (P23 s r) := by
  refine CS.of_wp pn_cls (leb rfl) fun n0 => ?_
  show W23 l Z n0 (P23 s r) 0 0 0 [.val (.ref 0), .val (.int p1)] [] (Hb 0 s)
  unfold f_isPeriod at h
  refine WP.iloadN d23_0 rfl ?_
  rcases ite_e h with ⟨hc1, h⟩ | ⟨hc1, h⟩
  ·
    refine WP.ifY (pc' := 14) d23_1 (XT.i0_lt_t hc1) (by decide) rfl ?_
    exact WP.weak (L' := [.unset, .unset]) trivial (ok23_14 l Z a0 hw n0 s _ h)
  ·
    refine WP.ifN d23_1 (XT.i0_lt_f hc1) ?_
    refine WP.iloadN d23_4 rfl ?_
    refine WP.bipush (12 : Int32) d23_5 rfl ?_
    rcases ite_e h with ⟨hc2, h⟩ | ⟨hc2, h⟩
    ·
      refine WP.icmpN d23_7 (XT.ii_ge_f hc2) ?_
      refine WP.iconst (1 : Int32) d23_10 rfl ?_
      refine WP.goto (pc' := 15) d23_11 (by decide) rfl ?_
      exact WP.weak (L' := [.unset, .unset]) trivial (ok23_15 l Z a0 hw n0 (1 : Int32) s _ h)
    ·
      refine WP.icmpY (pc' := 14) d23_7 (XT.ii_ge_t hc2) (by decide) rfl ?_
      exact WP.weak (L' := [.unset, .unset]) trivial (ok23_14 l Z a0 hw n0 s _ h)
theorem d21_0 : dc prog_1_method_13_code 0 (.aload_n 0) 1 := by decide +kernel
theorem d21_1 : dc prog_1_method_13_code 1 (.iload_n 1) 1 := by decide +kernel
theorem d21_2 : dc prog_1_method_13_code 2 (.invokevirtual 149) 3 := by decide +kernel
theorem d21_5 : dc prog_1_method_13_code 5 (.ifCond .ne 6) 3 := by decide +kernel
theorem d21_8 : dc prog_1_method_13_code 8 (.bipush 7) 2 := by decide +kernel
theorem d21_10 : dc prog_1_method_13_code 10 (.ireturn) 1 := by decide +kernel
theorem d21_11 : dc prog_1_method_13_code 11 (.aload_n 0) 1 := by decide +kernel
theorem d21_12 : dc prog_1_method_13_code 12 (.getfield 45) 3 := by decide +kernel
theorem d21_15 : dc prog_1_method_13_code 15 (.iload_n 1) 1 := by decide +kernel
theorem d21_16 : dc prog_1_method_13_code 16 (.baload) 1 := by decide +kernel
theorem d21_17 : dc prog_1_method_13_code 17 (.ifCond .eq 6) 3 := by decide +kernel
theorem d21_20 : dc prog_1_method_13_code 20 (.bipush 8) 2 := by decide +kernel
theorem d21_22 : dc prog_1_method_13_code 22 (.ireturn) 1 := by decide +kernel
theorem d21_23 : dc prog_1_method_13_code 23 (.aload_n 0) 1 := by decide +kernel
theorem d21_24 : dc prog_1_method_13_code 24 (.iload_n 2) 1 := by decide +kernel
theorem d21_25 : dc prog_1_method_13_code 25 (.invokevirtual 152) 3 := by decide +kernel
theorem d21_28 : dc prog_1_method_13_code 28 (.ifCond .ne 5) 3 := by decide +kernel
theorem d21_31 : dc prog_1_method_13_code 31 (.iconst 5) 1 := by decide +kernel
theorem d21_32 : dc prog_1_method_13_code 32 (.ireturn) 1 := by decide +kernel
theorem d21_33 : dc prog_1_method_13_code 33 (.iload_n 2) 1 := by decide +kernel
theorem d21_34 : dc prog_1_method_13_code 34 (.aload_n 0) 1 := by decide +kernel
theorem d21_35 : dc prog_1_method_13_code 35 (.getfield 89) 3 := by decide +kernel
theorem d21_38 : dc prog_1_method_13_code 38 (.if_icmp .ge 6) 3 := by decide +kernel
theorem d21_41 : dc prog_1_method_13_code 41 (.bipush 6) 2 := by decide +kernel
theorem d21_43 : dc prog_1_method_13_code 43 (.ireturn) 1 := by decide +kernel
theorem d21_44 : dc prog_1_method_13_code 44 (.iload_n 3) 1 := by decide +kernel
theorem d21_45 : dc prog_1_method_13_code 45 (.ifCond .eq 12) 3 := by decide +kernel
theorem d21_48 : dc prog_1_method_13_code 48 (.iload_n 2) 1 := by decide +kernel
theorem d21_49 : dc prog_1_method_13_code 49 (.bipush 11) 2 := by decide +kernel
theorem d21_51 : dc prog_1_method_13_code 51 (.if_icmp .ne 6) 3 := by decide +kernel
theorem d21_54 : dc prog_1_method_13_code 54 (.bipush 16) 2 := by decide +kernel
theorem d21_56 : dc prog_1_method_13_code 56 (.ireturn) 1 := by decide +kernel
theorem d21_57 : dc prog_1_method_13_code 57 (.aload_n 0) 1 := by decide +kernel
theorem d21_58 : dc prog_1_method_13_code 58 (.getfield 45) 3 := by decide +kernel
theorem d21_61 : dc prog_1_method_13_code 61 (.iload_n 1) 1 := by decide +kernel
theorem d21_62 : dc prog_1_method_13_code 62 (.iconst 1) 1 := by decide +kernel
theorem d21_63 : dc prog_1_method_13_code 63 (.bastore) 1 := by decide +kernel
theorem d21_64 : dc prog_1_method_13_code 64 (.aload_n 0) 1 := by decide +kernel
theorem d21_65 : dc prog_1_method_13_code 65 (.getfield 48) 3 := by decide +kernel
theorem d21_68 : dc prog_1_method_13_code 68 (.iload_n 1) 1 := by decide +kernel
theorem d21_69 : dc prog_1_method_13_code 69 (.iload_n 2) 1 := by decide +kernel
theorem d21_70 : dc prog_1_method_13_code 70 (.iastore) 1 := by decide +kernel
theorem d21_71 : dc prog_1_method_13_code 71 (.aload_n 0) 1 := by decide +kernel
theorem d21_72 : dc prog_1_method_13_code 72 (.getfield 51) 3 := by decide +kernel
theorem d21_75 : dc prog_1_method_13_code 75 (.iload_n 1) 1 := by decide +kernel
theorem d21_76 : dc prog_1_method_13_code 76 (.iload_n 3) 1 := by decide +kernel
theorem d21_77 : dc prog_1_method_13_code 77 (.ifCond .eq 7) 3 := by decide +kernel
theorem d21_80 : dc prog_1_method_13_code 80 (.iconst 1) 1 := by decide +kernel
theorem d21_81 : dc prog_1_method_13_code 81 (.goto 4) 3 := by decide +kernel
theorem d21_84 : dc prog_1_method_13_code 84 (.iconst 0) 1 := by decide +kernel
theorem d21_85 : dc prog_1_method_13_code 85 (.bastore) 1 := by decide +kernel
theorem d21_86 : dc prog_1_method_13_code 86 (.aload_n 0) 1 := by decide +kernel
theorem d21_87 : dc prog_1_method_13_code 87 (.getfield 54) 3 := by decide +kernel
theorem d21_90 : dc prog_1_method_13_code 90 (.iload_n 1) 1 := by decide +kernel
theorem d21_91 : dc prog_1_method_13_code 91 (.iconst 0) 1 := by decide +kernel
theorem d21_92 : dc prog_1_method_13_code 92 (.iastore) 1 := by decide +kernel
theorem d21_93 : dc prog_1_method_13_code 93 (.iconst 0) 1 := by decide +kernel
theorem d21_94 : dc prog_1_method_13_code 94 (.ireturn) 1 := by decide +kernel
abbrev y21 : MethodName := ⟨"GeneralLedger", "beginJournal", "(III)I"⟩
theorem hy21 : y21.cls ≠ "java/lang/invoke/MethodHandle" ∧ y21.cls ≠ "java/lang/invoke/VarHandle" := by decide
theorem pd21 : parseMethodDescriptor y21.desc = some ⟨[.int, .int, .int], some .int⟩ := by decide +kernel
abbrev R21 : Room := { frames := 1, cells := 0, slots := 0, locals := 13 }
abbrev P21 (r : Int32 × St) : Option Value → List OwnC → Prop := fun v H' => v = some (.int r.1) ∧ H' = (Hb 0 r.2)
abbrev W21 (l : Launch) (Z : State) (n0 : Nat) (Q : Option Value → List OwnC → Prop) (k n pc : Nat) (L : List Slot) (S : List Value) (H : List OwnC) : Prop := WP l Z CN lay "GeneralLedger" "beginJournal" prog_1_method_13_code 4 (some FieldType.int) R21 n0 0 Q k n pc L S H
def f_beginJournal_85 (v1 : Int32) (t0 : Int32) (t1 : Int32) (s : St) : Option (Int32 × St) :=
  (wrA s 10 t1 (t0 &&& 1)).bind fun s1 =>
  (wrA s1 11 v1 (0 : Int32)).bind fun s2 =>
  some ((0 : Int32), s2)
set_option maxRecDepth 65536 in
set_option maxHeartbeats 4000000 in
theorem ok21_85 (l : Launch) (Z : State) (a0 : Array Value) (hw : HW a0 Z) (n0 : Nat) (v1 : Int32) (t0 : Int32) (t1 : Int32) (s : St) (r : Int32 × St) (h : f_beginJournal_85 v1 t0 t1 s = some r) : W21 l Z n0 (P21 r) 0 0 85 [.val (.ref 0), .val (.int v1), .unset, .unset] [.int t0, .int t1, .ref 14] (Hb 0 s) := by
  unfold f_beginJournal_85 at h
  obtain ⟨s1, hs1, h⟩ := Option.bind_eq_some_iff.mp h
  obtain ⟨ys1, gs1, es1⟩ := wrA_e hs1
  refine WP.bastore (i := 14) (xs := gA s 10) (H' := (Hb 0 s1)) d21_85 rfl (leb rfl) gs1 (by subst es1; rfl) ?_
  refine WP.aloadN d21_86 rfl ?_
  refine WP.getfield (i := 0) (j := 16) d21_87 (hw _ m_42) rfl rfl rfl ?_
  refine WP.iloadN d21_90 rfl ?_
  refine WP.iconst (0 : Int32) d21_91 rfl ?_
  obtain ⟨s2, hs2, h⟩ := Option.bind_eq_some_iff.mp h
  obtain ⟨ys2, gs2, es2⟩ := wrA_e hs2
  refine WP.iastore (i := 15) (xs := gA s1 11) (H' := (Hb 0 s2)) d21_92 rfl (leb rfl) gs2 (by subst es2; rfl) ?_
  refine WP.iconst (0 : Int32) d21_93 rfl ?_
  cases h
  exact WP.ireturn d21_94 rfl (leb rfl) (leb rfl) ⟨rfl, rfl⟩
def f_beginJournal_57 (v1 : Int32) (v2 : Int32) (v3 : Int32) (s : St) : Option (Int32 × St) :=
  (wrA s 8 v1 (1 : Int32)).bind fun s1 =>
  (wrA s1 9 v1 v2).bind fun s2 =>
  if v3 = 0 then
    f_beginJournal_85 v1 (0 : Int32) v1 s2
  else
    f_beginJournal_85 v1 (1 : Int32) v1 s2
set_option maxRecDepth 65536 in
set_option maxHeartbeats 4000000 in
theorem ok21_57 (l : Launch) (Z : State) (a0 : Array Value) (hw : HW a0 Z) (n0 : Nat) (v1 : Int32) (v2 : Int32) (v3 : Int32) (s : St) (r : Int32 × St) (h : f_beginJournal_57 v1 v2 v3 s = some r) : W21 l Z n0 (P21 r) 0 0 57 [.val (.ref 0), .val (.int v1), .val (.int v2), .val (.int v3)] [] (Hb 0 s) := by
  unfold f_beginJournal_57 at h
  refine WP.aloadN d21_57 rfl ?_
  refine WP.getfield (i := 0) (j := 13) d21_58 (hw _ m_36) rfl rfl rfl ?_
  refine WP.iloadN d21_61 rfl ?_
  refine WP.iconst (1 : Int32) d21_62 rfl ?_
  obtain ⟨s1, hs1, h⟩ := Option.bind_eq_some_iff.mp h
  obtain ⟨ys1, gs1, es1⟩ := wrA_e hs1
  refine WP.bastore (i := 12) (xs := gA s 8) (H' := (Hb 0 s1)) d21_63 rfl (leb rfl) gs1 (by subst es1; rfl) ?_
  refine WP.aloadN d21_64 rfl ?_
  refine WP.getfield (i := 0) (j := 14) d21_65 (hw _ m_38) rfl rfl rfl ?_
  refine WP.iloadN d21_68 rfl ?_
  refine WP.iloadN d21_69 rfl ?_
  obtain ⟨s2, hs2, h⟩ := Option.bind_eq_some_iff.mp h
  obtain ⟨ys2, gs2, es2⟩ := wrA_e hs2
  refine WP.iastore (i := 13) (xs := gA s1 9) (H' := (Hb 0 s2)) d21_70 rfl (leb rfl) gs2 (by subst es2; rfl) ?_
  refine WP.aloadN d21_71 rfl ?_
  refine WP.getfield (i := 0) (j := 15) d21_72 (hw _ m_40) rfl rfl rfl ?_
  refine WP.iloadN d21_75 rfl ?_
  refine WP.iloadN d21_76 rfl ?_
  rcases ite_e h with ⟨hc3, h⟩ | ⟨hc3, h⟩
  ·
    refine WP.ifY (pc' := 84) d21_77 (XT.i0_eq_t hc3) (by decide) rfl ?_
    refine WP.iconst (0 : Int32) d21_84 rfl ?_
    exact WP.weak (L' := [.val (.ref 0), .val (.int v1), .unset, .unset]) ⟨rfl, rfl, trivial⟩ (ok21_85 l Z a0 hw n0 v1 (0 : Int32) v1 s2 _ h)
  ·
    refine WP.ifN d21_77 (XT.i0_eq_f hc3) ?_
    refine WP.iconst (1 : Int32) d21_80 rfl ?_
    refine WP.goto (pc' := 85) d21_81 (by decide) rfl ?_
    exact WP.weak (L' := [.val (.ref 0), .val (.int v1), .unset, .unset]) ⟨rfl, rfl, trivial⟩ (ok21_85 l Z a0 hw n0 v1 (1 : Int32) v1 s2 _ h)
def f_beginJournal (p1 : Int32) (p2 : Int32) (p3 : Int32) (s : St) : Option (Int32 × St) :=
  (f_isSlot p1 s).bind fun c1 =>
  if c1 = 0 then
    some ((7 : Int32), s)
  else
    (rd (gA s 8) p1).bind fun x3 =>
    if x3 = 0 then
      (f_isPeriod p2 s).bind fun c5 =>
      if c5 = 0 then
        some ((5 : Int32), s)
      else
        if p2 < (gI s 2) then
          some ((6 : Int32), s)
        else
          if p3 = 0 then
            f_beginJournal_57 p1 p2 p3 s
          else
            if p2 = (11 : Int32) then
              some ((16 : Int32), s)
            else
              f_beginJournal_57 p1 p2 p3 s
    else
      some ((8 : Int32), s)
set_option maxRecDepth 65536 in
set_option maxHeartbeats 4000000 in
theorem ok21 (l : Launch) (Z : State) (a0 : Array Value) (hw : HW a0 Z) (p1 : Int32) (p2 : Int32) (p3 : Int32) (s : St) (r : Int32 × St) (h : f_beginJournal p1 p2 p3 s = some r) : CS l Z CN lay y21 prog_1_method_13_code 4 (some FieldType.int) R21 0 [.ref 0, .int p1, .int p2, .int p3] (Hb 0 s) (P21 r) := by
  refine CS.of_wp pn_cls (leb rfl) fun n0 => ?_
  show W21 l Z n0 (P21 r) 0 0 0 [.val (.ref 0), .val (.int p1), .val (.int p2), .val (.int p3)] [] (Hb 0 s)
  unfold f_beginJournal at h
  refine WP.aloadN d21_0 rfl ?_
  refine WP.iloadN d21_1 rfl ?_
  obtain ⟨c1, hc1, h⟩ := Option.bind_eq_some_iff.mp h
  refine WP.callP (i := 0) (y := y22) (as := [.int p1]) (S := []) d21_2 (hw _ m_153) (hw _ m_155) (hw _ m_3) (hw _ m_154) (hw _ m_156) (hw _ m_4) hy22 rfl (ok22 l Z a0 hw p1 s _ hc1) rfl (lenOf pd22 rfl) (leb rfl) (leb rfl) (leb rfl) (leb rfl) ?_
  rintro _ _ ⟨rfl, rfl⟩
  show W21 l Z n0 (P21 r) 0 0 5 [.val (.ref 0), .val (.int p1), .val (.int p2), .val (.int p3)] [.int c1] (Hb 0 s)
  rcases ite_e h with ⟨hc2, h⟩ | ⟨hc2, h⟩
  ·
    refine WP.ifN d21_5 (XT.i0_ne_f hc2) ?_
    refine WP.bipush (7 : Int32) d21_8 rfl ?_
    cases h
    exact WP.ireturn d21_10 rfl (leb rfl) (leb rfl) ⟨rfl, rfl⟩
  ·
    refine WP.ifY (pc' := 11) d21_5 (XT.i0_ne_t hc2) (by decide) rfl ?_
    refine WP.aloadN d21_11 rfl ?_
    refine WP.getfield (i := 0) (j := 13) d21_12 (hw _ m_36) rfl rfl rfl ?_
    refine WP.iloadN d21_15 rfl ?_
    obtain ⟨x3, hx3, h⟩ := Option.bind_eq_some_iff.mp h
    refine WP.baload (i := 12) d21_16 rfl hx3 ?_
    rcases ite_e h with ⟨hc4, h⟩ | ⟨hc4, h⟩
    ·
      refine WP.ifY (pc' := 23) d21_17 (XT.i0_eq_t hc4) (by decide) rfl ?_
      refine WP.aloadN d21_23 rfl ?_
      refine WP.iloadN d21_24 rfl ?_
      obtain ⟨c5, hc5, h⟩ := Option.bind_eq_some_iff.mp h
      refine WP.callP (i := 0) (y := y23) (as := [.int p2]) (S := []) d21_25 (hw _ m_157) (hw _ m_159) (hw _ m_3) (hw _ m_158) (hw _ m_160) (hw _ m_4) hy23 rfl (ok23 l Z a0 hw p2 s _ hc5) rfl (lenOf pd23 rfl) (leb rfl) (leb rfl) (leb rfl) (leb rfl) ?_
      rintro _ _ ⟨rfl, rfl⟩
      show W21 l Z n0 (P21 r) 0 0 28 [.val (.ref 0), .val (.int p1), .val (.int p2), .val (.int p3)] [.int c5] (Hb 0 s)
      rcases ite_e h with ⟨hc6, h⟩ | ⟨hc6, h⟩
      ·
        refine WP.ifN d21_28 (XT.i0_ne_f hc6) ?_
        refine WP.iconst (5 : Int32) d21_31 rfl ?_
        cases h
        exact WP.ireturn d21_32 rfl (leb rfl) (leb rfl) ⟨rfl, rfl⟩
      ·
        refine WP.ifY (pc' := 33) d21_28 (XT.i0_ne_t hc6) (by decide) rfl ?_
        refine WP.iloadN d21_33 rfl ?_
        refine WP.aloadN d21_34 rfl ?_
        refine WP.getfield (i := 0) (j := 19) d21_35 (hw _ m_76) rfl rfl rfl ?_
        rcases ite_e h with ⟨hc7, h⟩ | ⟨hc7, h⟩
        ·
          refine WP.icmpN d21_38 (XT.ii_ge_f hc7) ?_
          refine WP.bipush (6 : Int32) d21_41 rfl ?_
          cases h
          exact WP.ireturn d21_43 rfl (leb rfl) (leb rfl) ⟨rfl, rfl⟩
        ·
          refine WP.icmpY (pc' := 44) d21_38 (XT.ii_ge_t hc7) (by decide) rfl ?_
          refine WP.iloadN d21_44 rfl ?_
          rcases ite_e h with ⟨hc8, h⟩ | ⟨hc8, h⟩
          ·
            refine WP.ifY (pc' := 57) d21_45 (XT.i0_eq_t hc8) (by decide) rfl ?_
            exact WP.weak (L' := [.val (.ref 0), .val (.int p1), .val (.int p2), .val (.int p3)]) ⟨rfl, rfl, rfl, rfl, trivial⟩ (ok21_57 l Z a0 hw n0 p1 p2 p3 s _ h)
          ·
            refine WP.ifN d21_45 (XT.i0_eq_f hc8) ?_
            refine WP.iloadN d21_48 rfl ?_
            refine WP.bipush (11 : Int32) d21_49 rfl ?_
            rcases ite_e h with ⟨hc9, h⟩ | ⟨hc9, h⟩
            ·
              refine WP.icmpN d21_51 (XT.ii_ne_f hc9) ?_
              refine WP.bipush (16 : Int32) d21_54 rfl ?_
              cases h
              exact WP.ireturn d21_56 rfl (leb rfl) (leb rfl) ⟨rfl, rfl⟩
            ·
              refine WP.icmpY (pc' := 57) d21_51 (XT.ii_ne_t hc9) (by decide) rfl ?_
              exact WP.weak (L' := [.val (.ref 0), .val (.int p1), .val (.int p2), .val (.int p3)]) ⟨rfl, rfl, rfl, rfl, trivial⟩ (ok21_57 l Z a0 hw n0 p1 p2 p3 s _ h)
    ·
      refine WP.ifN d21_17 (XT.i0_eq_f hc4) ?_
      refine WP.bipush (8 : Int32) d21_20 rfl ?_
      cases h
      exact WP.ireturn d21_22 rfl (leb rfl) (leb rfl) ⟨rfl, rfl⟩
theorem d25_0 : dc prog_1_method_64_code 0 (.iload_n 1) 1 := by decide +kernel
theorem d25_1 : dc prog_1_method_64_code 1 (.ifCond .eq 21) 3 := by decide +kernel
theorem d25_4 : dc prog_1_method_64_code 4 (.iload_n 1) 1 := by decide +kernel
theorem d25_5 : dc prog_1_method_64_code 5 (.ldc_w 264) 3 := by decide +kernel
theorem d25_8 : dc prog_1_method_64_code 8 (.if_icmp .lt 14) 3 := by decide +kernel
theorem d25_11 : dc prog_1_method_64_code 11 (.iload_n 1) 1 := by decide +kernel
theorem d25_12 : dc prog_1_method_64_code 12 (.ldc_w 265) 3 := by decide +kernel
theorem d25_15 : dc prog_1_method_64_code 15 (.if_icmp .gt 7) 3 := by decide +kernel
theorem d25_18 : dc prog_1_method_64_code 18 (.iconst 1) 1 := by decide +kernel
theorem d25_19 : dc prog_1_method_64_code 19 (.goto 4) 3 := by decide +kernel
theorem d25_22 : dc prog_1_method_64_code 22 (.iconst 0) 1 := by decide +kernel
theorem d25_23 : dc prog_1_method_64_code 23 (.ireturn) 1 := by decide +kernel
abbrev y25 : MethodName := ⟨"GeneralLedger", "isValidAmount", "(I)Z"⟩
theorem hy25 : y25.cls ≠ "java/lang/invoke/MethodHandle" ∧ y25.cls ≠ "java/lang/invoke/VarHandle" := by decide
theorem pd25 : parseMethodDescriptor y25.desc = some ⟨[.int], some .boolean⟩ := by decide +kernel
abbrev R25 : Room := { frames := 0, cells := 0, slots := 0, locals := 0 }
abbrev P25 (s : St) (r : Int32) : Option Value → List OwnC → Prop := fun v H' => v = some (.int r) ∧ H' = (Hb 0 s)
abbrev W25 (l : Launch) (Z : State) (n0 : Nat) (Q : Option Value → List OwnC → Prop) (k n pc : Nat) (L : List Slot) (S : List Value) (H : List OwnC) : Prop := WP l Z CN lay "GeneralLedger" "isValidAmount" prog_1_method_64_code 2 (some FieldType.boolean) R25 n0 0 Q k n pc L S H
def f_isValidAmount_23 (t0 : Int32) (s : St) : Option (Int32) :=
  some (t0 &&& 1)
set_option maxRecDepth 65536 in
set_option maxHeartbeats 4000000 in
theorem ok25_23 (l : Launch) (Z : State) (a0 : Array Value) (hw : HW a0 Z) (n0 : Nat) (t0 : Int32) (s : St) (r : Int32) (h : f_isValidAmount_23 t0 s = some r) : W25 l Z n0 (P25 s r) 0 0 23 [.unset, .unset] [.int t0] (Hb 0 s) := by
  unfold f_isValidAmount_23 at h
  cases h
  exact WP.zreturn d25_23 rfl (leb rfl) (leb rfl) ⟨rfl, rfl⟩
def f_isValidAmount_22 (s : St) : Option (Int32) :=
  f_isValidAmount_23 (0 : Int32) s
set_option maxRecDepth 65536 in
set_option maxHeartbeats 4000000 in
theorem ok25_22 (l : Launch) (Z : State) (a0 : Array Value) (hw : HW a0 Z) (n0 : Nat) (s : St) (r : Int32) (h : f_isValidAmount_22 s = some r) : W25 l Z n0 (P25 s r) 0 0 22 [.unset, .unset] [] (Hb 0 s) := by
  unfold f_isValidAmount_22 at h
  refine WP.iconst (0 : Int32) d25_22 rfl ?_
  exact WP.weak (L' := [.unset, .unset]) trivial (ok25_23 l Z a0 hw n0 (0 : Int32) s _ h)
def f_isValidAmount (p1 : Int32) (s : St) : Option (Int32) :=
  if p1 = 0 then
    f_isValidAmount_22 s
  else
    if p1 < (-1000000 : Int32) then
      f_isValidAmount_22 s
    else
      if (1000000 : Int32) < p1 then
        f_isValidAmount_22 s
      else
        f_isValidAmount_23 (1 : Int32) s
set_option maxRecDepth 65536 in
set_option maxHeartbeats 4000000 in
theorem ok25 (l : Launch) (Z : State) (a0 : Array Value) (hw : HW a0 Z) (p1 : Int32) (s : St) (r : Int32) (h : f_isValidAmount p1 s = some r) : CS l Z CN lay y25 prog_1_method_64_code 2 (some FieldType.boolean) R25 0 [.ref 0, .int p1] (Hb 0 s) (P25 s r) := by
  refine CS.of_wp pn_cls (leb rfl) fun n0 => ?_
  show W25 l Z n0 (P25 s r) 0 0 0 [.val (.ref 0), .val (.int p1)] [] (Hb 0 s)
  unfold f_isValidAmount at h
  refine WP.iloadN d25_0 rfl ?_
  rcases ite_e h with ⟨hc1, h⟩ | ⟨hc1, h⟩
  ·
    refine WP.ifY (pc' := 22) d25_1 (XT.i0_eq_t hc1) (by decide) rfl ?_
    exact WP.weak (L' := [.unset, .unset]) trivial (ok25_22 l Z a0 hw n0 s _ h)
  ·
    refine WP.ifN d25_1 (XT.i0_eq_f hc1) ?_
    refine WP.iloadN d25_4 rfl ?_
    refine WP.ldcw d25_5 (hw _ m_170) ?_
    rcases ite_e h with ⟨hc2, h⟩ | ⟨hc2, h⟩
    ·
      refine WP.icmpY (pc' := 22) d25_8 (XT.ii_lt_t hc2) (by decide) rfl ?_
      exact WP.weak (L' := [.unset, .unset]) trivial (ok25_22 l Z a0 hw n0 s _ h)
    ·
      refine WP.icmpN d25_8 (XT.ii_lt_f hc2) ?_
      refine WP.iloadN d25_11 rfl ?_
      refine WP.ldcw d25_12 (hw _ m_171) ?_
      rcases ite_e h with ⟨hc3, h⟩ | ⟨hc3, h⟩
      ·
        refine WP.icmpY (pc' := 22) d25_15 (XT.ii_gt_t hc3) (by decide) rfl ?_
        exact WP.weak (L' := [.unset, .unset]) trivial (ok25_22 l Z a0 hw n0 s _ h)
      ·
        refine WP.icmpN d25_15 (XT.ii_gt_f hc3) ?_
        refine WP.iconst (1 : Int32) d25_18 rfl ?_
        refine WP.goto (pc' := 23) d25_19 (by decide) rfl ?_
        exact WP.weak (L' := [.unset, .unset]) trivial (ok25_23 l Z a0 hw n0 (1 : Int32) s _ h)
theorem d27_0 : dc prog_1_method_54_code 0 (.iload_n 1) 1 := by decide +kernel
theorem d27_1 : dc prog_1_method_54_code 1 (.bipush 16) 2 := by decide +kernel
theorem d27_3 : dc prog_1_method_54_code 3 (.imul) 1 := by decide +kernel
theorem d27_4 : dc prog_1_method_54_code 4 (.iload_n 2) 1 := by decide +kernel
theorem d27_5 : dc prog_1_method_54_code 5 (.iadd) 1 := by decide +kernel
theorem d27_6 : dc prog_1_method_54_code 6 (.ireturn) 1 := by decide +kernel
abbrev y27 : MethodName := ⟨"GeneralLedger", "lineCell", "(II)I"⟩
theorem hy27 : y27.cls ≠ "java/lang/invoke/MethodHandle" ∧ y27.cls ≠ "java/lang/invoke/VarHandle" := by decide
theorem pd27 : parseMethodDescriptor y27.desc = some ⟨[.int, .int], some .int⟩ := by decide +kernel
abbrev R27 : Room := { frames := 0, cells := 0, slots := 0, locals := 0 }
abbrev P27 (s : St) (r : Int32) : Option Value → List OwnC → Prop := fun v H' => v = some (.int r) ∧ H' = (Hb 0 s)
abbrev W27 (l : Launch) (Z : State) (n0 : Nat) (Q : Option Value → List OwnC → Prop) (k n pc : Nat) (L : List Slot) (S : List Value) (H : List OwnC) : Prop := WP l Z CN lay "GeneralLedger" "lineCell" prog_1_method_54_code 3 (some FieldType.int) R27 n0 0 Q k n pc L S H
def f_lineCell (p1 : Int32) (p2 : Int32) (s : St) : Option (Int32) :=
  some ((p1 * (16 : Int32)) + p2)
set_option maxRecDepth 65536 in
set_option maxHeartbeats 4000000 in
theorem ok27 (l : Launch) (Z : State) (a0 : Array Value) (hw : HW a0 Z) (p1 : Int32) (p2 : Int32) (s : St) (r : Int32) (h : f_lineCell p1 p2 s = some r) : CS l Z CN lay y27 prog_1_method_54_code 3 (some FieldType.int) R27 0 [.ref 0, .int p1, .int p2] (Hb 0 s) (P27 s r) := by
  refine CS.of_wp pn_cls (leb rfl) fun n0 => ?_
  show W27 l Z n0 (P27 s r) 0 0 0 [.val (.ref 0), .val (.int p1), .val (.int p2)] [] (Hb 0 s)
  unfold f_lineCell at h
  refine WP.iloadN d27_0 rfl ?_
  refine WP.bipush (16 : Int32) d27_1 rfl ?_
  refine WP.imul d27_3 ?_
  refine WP.iloadN d27_4 rfl ?_
  refine WP.iadd d27_5 ?_
  cases h
  exact WP.ireturn d27_6 rfl (leb rfl) (leb rfl) ⟨rfl, rfl⟩
theorem d26_0 : dc prog_1_method_15_code 0 (.aload_n 0) 1 := by decide +kernel
theorem d26_1 : dc prog_1_method_15_code 1 (.getfield 54) 3 := by decide +kernel
theorem d26_4 : dc prog_1_method_15_code 4 (.iload_n 1) 1 := by decide +kernel
theorem d26_5 : dc prog_1_method_15_code 5 (.iaload) 1 := by decide +kernel
theorem d26_6 : dc prog_1_method_15_code 6 (.istore 4) 2 := by decide +kernel
theorem d26_8 : dc prog_1_method_15_code 8 (.iload 4) 2 := by decide +kernel
theorem d26_10 : dc prog_1_method_15_code 10 (.ifCond .lt 10) 3 := by decide +kernel
theorem d26_13 : dc prog_1_method_15_code 13 (.iload 4) 2 := by decide +kernel
theorem d26_15 : dc prog_1_method_15_code 15 (.bipush 16) 2 := by decide +kernel
theorem d26_17 : dc prog_1_method_15_code 17 (.if_icmp .lt 4) 3 := by decide +kernel
theorem d26_20 : dc prog_1_method_15_code 20 (.return_) 1 := by decide +kernel
theorem d26_21 : dc prog_1_method_15_code 21 (.aload_n 0) 1 := by decide +kernel
theorem d26_22 : dc prog_1_method_15_code 22 (.iload_n 1) 1 := by decide +kernel
theorem d26_23 : dc prog_1_method_15_code 23 (.iload 4) 2 := by decide +kernel
theorem d26_25 : dc prog_1_method_15_code 25 (.invokevirtual 162) 3 := by decide +kernel
theorem d26_28 : dc prog_1_method_15_code 28 (.istore 5) 2 := by decide +kernel
theorem d26_30 : dc prog_1_method_15_code 30 (.aload_n 0) 1 := by decide +kernel
theorem d26_31 : dc prog_1_method_15_code 31 (.getfield 57) 3 := by decide +kernel
theorem d26_34 : dc prog_1_method_15_code 34 (.iload 5) 2 := by decide +kernel
theorem d26_36 : dc prog_1_method_15_code 36 (.iload_n 2) 1 := by decide +kernel
theorem d26_37 : dc prog_1_method_15_code 37 (.iastore) 1 := by decide +kernel
theorem d26_38 : dc prog_1_method_15_code 38 (.aload_n 0) 1 := by decide +kernel
theorem d26_39 : dc prog_1_method_15_code 39 (.getfield 60) 3 := by decide +kernel
theorem d26_42 : dc prog_1_method_15_code 42 (.iload 5) 2 := by decide +kernel
theorem d26_44 : dc prog_1_method_15_code 44 (.iload_n 3) 1 := by decide +kernel
theorem d26_45 : dc prog_1_method_15_code 45 (.iastore) 1 := by decide +kernel
theorem d26_46 : dc prog_1_method_15_code 46 (.aload_n 0) 1 := by decide +kernel
theorem d26_47 : dc prog_1_method_15_code 47 (.getfield 54) 3 := by decide +kernel
theorem d26_50 : dc prog_1_method_15_code 50 (.iload_n 1) 1 := by decide +kernel
theorem d26_51 : dc prog_1_method_15_code 51 (.iload 4) 2 := by decide +kernel
theorem d26_53 : dc prog_1_method_15_code 53 (.iconst 1) 1 := by decide +kernel
theorem d26_54 : dc prog_1_method_15_code 54 (.iadd) 1 := by decide +kernel
theorem d26_55 : dc prog_1_method_15_code 55 (.iastore) 1 := by decide +kernel
theorem d26_56 : dc prog_1_method_15_code 56 (.return_) 1 := by decide +kernel
abbrev y26 : MethodName := ⟨"GeneralLedger", "appendLine", "(III)V"⟩
theorem hy26 : y26.cls ≠ "java/lang/invoke/MethodHandle" ∧ y26.cls ≠ "java/lang/invoke/VarHandle" := by decide
theorem pd26 : parseMethodDescriptor y26.desc = some ⟨[.int, .int, .int], none⟩ := by decide +kernel
abbrev R26 : Room := { frames := 1, cells := 0, slots := 0, locals := 14 }
abbrev P26 (r : St) : Option Value → List OwnC → Prop := fun v H' => v = none ∧ H' = (Hb 0 r)
abbrev W26 (l : Launch) (Z : State) (n0 : Nat) (Q : Option Value → List OwnC → Prop) (k n pc : Nat) (L : List Slot) (S : List Value) (H : List OwnC) : Prop := WP l Z CN lay "GeneralLedger" "appendLine" prog_1_method_15_code 6 (none) R26 n0 0 Q k n pc L S H
def f_appendLine_20 (s : St) : Option (St) :=
  some s
set_option maxRecDepth 65536 in
set_option maxHeartbeats 4000000 in
theorem ok26_20 (l : Launch) (Z : State) (a0 : Array Value) (hw : HW a0 Z) (n0 : Nat) (s : St) (r : St) (h : f_appendLine_20 s = some r) : W26 l Z n0 (P26 r) 0 0 20 [.unset, .unset, .unset, .unset, .unset, .unset] [] (Hb 0 s) := by
  unfold f_appendLine_20 at h
  cases h
  exact WP.vreturn d26_20 rfl (leb rfl) (leb rfl) ⟨rfl, rfl⟩
def f_appendLine (p1 : Int32) (p2 : Int32) (p3 : Int32) (s : St) : Option (St) :=
  (rd (gA s 11) p1).bind fun x1 =>
  if x1 < 0 then
    f_appendLine_20 s
  else
    if x1 < (16 : Int32) then
      (f_lineCell p1 x1 s).bind fun c4 =>
      (wrA s 12 c4 p2).bind fun s5 =>
      (wrA s5 13 c4 p3).bind fun s6 =>
      (wrA s6 11 p1 (x1 + (1 : Int32))).bind fun s7 =>
      some s7
    else
      f_appendLine_20 s
set_option maxRecDepth 65536 in
set_option maxHeartbeats 4000000 in
theorem ok26 (l : Launch) (Z : State) (a0 : Array Value) (hw : HW a0 Z) (p1 : Int32) (p2 : Int32) (p3 : Int32) (s : St) (r : St) (h : f_appendLine p1 p2 p3 s = some r) : CS l Z CN lay y26 prog_1_method_15_code 6 (none) R26 0 [.ref 0, .int p1, .int p2, .int p3] (Hb 0 s) (P26 r) := by
  refine CS.of_wp pn_cls (leb rfl) fun n0 => ?_
  show W26 l Z n0 (P26 r) 0 0 0 [.val (.ref 0), .val (.int p1), .val (.int p2), .val (.int p3), .unset, .unset] [] (Hb 0 s)
  unfold f_appendLine at h
  refine WP.aloadN d26_0 rfl ?_
  refine WP.getfield (i := 0) (j := 16) d26_1 (hw _ m_42) rfl rfl rfl ?_
  refine WP.iloadN d26_4 rfl ?_
  obtain ⟨x1, hx1, h⟩ := Option.bind_eq_some_iff.mp h
  refine WP.iaload (i := 15) d26_5 rfl hx1 ?_
  refine WP.istore (L' := [.val (.ref 0), .val (.int p1), .val (.int p2), .val (.int p3), .val (.int x1), .unset]) d26_6 (leb rfl) rfl ?_
  refine WP.iload d26_8 rfl ?_
  rcases ite_e h with ⟨hc2, h⟩ | ⟨hc2, h⟩
  ·
    refine WP.ifY (pc' := 20) d26_10 (XT.i0_lt_t hc2) (by decide) rfl ?_
    exact WP.weak (L' := [.unset, .unset, .unset, .unset, .unset, .unset]) trivial (ok26_20 l Z a0 hw n0 s _ h)
  ·
    refine WP.ifN d26_10 (XT.i0_lt_f hc2) ?_
    refine WP.iload d26_13 rfl ?_
    refine WP.bipush (16 : Int32) d26_15 rfl ?_
    rcases ite_e h with ⟨hc3, h⟩ | ⟨hc3, h⟩
    ·
      refine WP.icmpY (pc' := 21) d26_17 (XT.ii_lt_t hc3) (by decide) rfl ?_
      refine WP.aloadN d26_21 rfl ?_
      refine WP.iloadN d26_22 rfl ?_
      refine WP.iload d26_23 rfl ?_
      obtain ⟨c4, hc4, h⟩ := Option.bind_eq_some_iff.mp h
      refine WP.callP (i := 0) (y := y27) (as := [.int p1, .int x1]) (S := []) d26_25 (hw _ m_176) (hw _ m_178) (hw _ m_3) (hw _ m_177) (hw _ m_179) (hw _ m_4) hy27 rfl (ok27 l Z a0 hw p1 x1 s _ hc4) rfl (lenOf pd27 rfl) (leb rfl) (leb rfl) (leb rfl) (leb rfl) ?_
      rintro _ _ ⟨rfl, rfl⟩
      show W26 l Z n0 (P26 r) 0 0 28 [.val (.ref 0), .val (.int p1), .val (.int p2), .val (.int p3), .val (.int x1), .unset] [.int c4] (Hb 0 s)
      refine WP.istore (L' := [.val (.ref 0), .val (.int p1), .val (.int p2), .val (.int p3), .val (.int x1), .val (.int c4)]) d26_28 (leb rfl) rfl ?_
      refine WP.aloadN d26_30 rfl ?_
      refine WP.getfield (i := 0) (j := 17) d26_31 (hw _ m_44) rfl rfl rfl ?_
      refine WP.iload d26_34 rfl ?_
      refine WP.iloadN d26_36 rfl ?_
      obtain ⟨s5, hs5, h⟩ := Option.bind_eq_some_iff.mp h
      obtain ⟨ys5, gs5, es5⟩ := wrA_e hs5
      refine WP.iastore (i := 16) (xs := gA s 12) (H' := (Hb 0 s5)) d26_37 rfl (leb rfl) gs5 (by subst es5; rfl) ?_
      refine WP.aloadN d26_38 rfl ?_
      refine WP.getfield (i := 0) (j := 18) d26_39 (hw _ m_46) rfl rfl rfl ?_
      refine WP.iload d26_42 rfl ?_
      refine WP.iloadN d26_44 rfl ?_
      obtain ⟨s6, hs6, h⟩ := Option.bind_eq_some_iff.mp h
      obtain ⟨ys6, gs6, es6⟩ := wrA_e hs6
      refine WP.iastore (i := 17) (xs := gA s5 13) (H' := (Hb 0 s6)) d26_45 rfl (leb rfl) gs6 (by subst es6; rfl) ?_
      refine WP.aloadN d26_46 rfl ?_
      refine WP.getfield (i := 0) (j := 16) d26_47 (hw _ m_42) rfl rfl rfl ?_
      refine WP.iloadN d26_50 rfl ?_
      refine WP.iload d26_51 rfl ?_
      refine WP.iconst (1 : Int32) d26_53 rfl ?_
      refine WP.iadd d26_54 ?_
      obtain ⟨s7, hs7, h⟩ := Option.bind_eq_some_iff.mp h
      obtain ⟨ys7, gs7, es7⟩ := wrA_e hs7
      refine WP.iastore (i := 15) (xs := gA s6 11) (H' := (Hb 0 s7)) d26_55 rfl (leb rfl) gs7 (by subst es7; rfl) ?_
      cases h
      exact WP.vreturn d26_56 rfl (leb rfl) (leb rfl) ⟨rfl, rfl⟩
    ·
      refine WP.icmpN d26_17 (XT.ii_lt_f hc3) ?_
      exact WP.weak (L' := [.unset, .unset, .unset, .unset, .unset, .unset]) trivial (ok26_20 l Z a0 hw n0 s _ h)
theorem d24_0 : dc prog_1_method_14_code 0 (.aload_n 0) 1 := by decide +kernel
theorem d24_1 : dc prog_1_method_14_code 1 (.iload_n 1) 1 := by decide +kernel
theorem d24_2 : dc prog_1_method_14_code 2 (.invokevirtual 149) 3 := by decide +kernel
theorem d24_5 : dc prog_1_method_14_code 5 (.ifCond .ne 6) 3 := by decide +kernel
theorem d24_8 : dc prog_1_method_14_code 8 (.bipush 7) 2 := by decide +kernel
theorem d24_10 : dc prog_1_method_14_code 10 (.ireturn) 1 := by decide +kernel
theorem d24_11 : dc prog_1_method_14_code 11 (.aload_n 0) 1 := by decide +kernel
theorem d24_12 : dc prog_1_method_14_code 12 (.getfield 45) 3 := by decide +kernel
theorem d24_15 : dc prog_1_method_14_code 15 (.iload_n 1) 1 := by decide +kernel
theorem d24_16 : dc prog_1_method_14_code 16 (.baload) 1 := by decide +kernel
theorem d24_17 : dc prog_1_method_14_code 17 (.ifCond .ne 6) 3 := by decide +kernel
theorem d24_20 : dc prog_1_method_14_code 20 (.bipush 9) 2 := by decide +kernel
theorem d24_22 : dc prog_1_method_14_code 22 (.ireturn) 1 := by decide +kernel
theorem d24_23 : dc prog_1_method_14_code 23 (.aload_n 0) 1 := by decide +kernel
theorem d24_24 : dc prog_1_method_14_code 24 (.iload_n 2) 1 := by decide +kernel
theorem d24_25 : dc prog_1_method_14_code 25 (.invokevirtual 110) 3 := by decide +kernel
theorem d24_28 : dc prog_1_method_14_code 28 (.ifCond .ne 5) 3 := by decide +kernel
theorem d24_31 : dc prog_1_method_14_code 31 (.iconst 1) 1 := by decide +kernel
theorem d24_32 : dc prog_1_method_14_code 32 (.ireturn) 1 := by decide +kernel
theorem d24_33 : dc prog_1_method_14_code 33 (.aload_n 0) 1 := by decide +kernel
theorem d24_34 : dc prog_1_method_14_code 34 (.iload_n 2) 1 := by decide +kernel
theorem d24_35 : dc prog_1_method_14_code 35 (.invokevirtual 136) 3 := by decide +kernel
theorem d24_38 : dc prog_1_method_14_code 38 (.ifCond .ne 6) 3 := by decide +kernel
theorem d24_41 : dc prog_1_method_14_code 41 (.bipush 12) 2 := by decide +kernel
theorem d24_43 : dc prog_1_method_14_code 43 (.ireturn) 1 := by decide +kernel
theorem d24_44 : dc prog_1_method_14_code 44 (.aload_n 0) 1 := by decide +kernel
theorem d24_45 : dc prog_1_method_14_code 45 (.iload_n 3) 1 := by decide +kernel
theorem d24_46 : dc prog_1_method_14_code 46 (.invokevirtual 155) 3 := by decide +kernel
theorem d24_49 : dc prog_1_method_14_code 49 (.ifCond .ne 6) 3 := by decide +kernel
theorem d24_52 : dc prog_1_method_14_code 52 (.bipush 11) 2 := by decide +kernel
theorem d24_54 : dc prog_1_method_14_code 54 (.ireturn) 1 := by decide +kernel
theorem d24_55 : dc prog_1_method_14_code 55 (.aload_n 0) 1 := by decide +kernel
theorem d24_56 : dc prog_1_method_14_code 56 (.getfield 54) 3 := by decide +kernel
theorem d24_59 : dc prog_1_method_14_code 59 (.iload_n 1) 1 := by decide +kernel
theorem d24_60 : dc prog_1_method_14_code 60 (.iaload) 1 := by decide +kernel
theorem d24_61 : dc prog_1_method_14_code 61 (.aload_n 0) 1 := by decide +kernel
theorem d24_62 : dc prog_1_method_14_code 62 (.getfield 71) 3 := by decide +kernel
theorem d24_65 : dc prog_1_method_14_code 65 (.if_icmp .lt 6) 3 := by decide +kernel
theorem d24_68 : dc prog_1_method_14_code 68 (.bipush 10) 2 := by decide +kernel
theorem d24_70 : dc prog_1_method_14_code 70 (.ireturn) 1 := by decide +kernel
theorem d24_71 : dc prog_1_method_14_code 71 (.aload_n 0) 1 := by decide +kernel
theorem d24_72 : dc prog_1_method_14_code 72 (.iload_n 1) 1 := by decide +kernel
theorem d24_73 : dc prog_1_method_14_code 73 (.iload_n 2) 1 := by decide +kernel
theorem d24_74 : dc prog_1_method_14_code 74 (.iload_n 3) 1 := by decide +kernel
theorem d24_75 : dc prog_1_method_14_code 75 (.invokevirtual 158) 3 := by decide +kernel
theorem d24_78 : dc prog_1_method_14_code 78 (.iconst 0) 1 := by decide +kernel
theorem d24_79 : dc prog_1_method_14_code 79 (.ireturn) 1 := by decide +kernel
abbrev y24 : MethodName := ⟨"GeneralLedger", "addLine", "(III)I"⟩
theorem hy24 : y24.cls ≠ "java/lang/invoke/MethodHandle" ∧ y24.cls ≠ "java/lang/invoke/VarHandle" := by decide
theorem pd24 : parseMethodDescriptor y24.desc = some ⟨[.int, .int, .int], some .int⟩ := by decide +kernel
abbrev R24 : Room := { frames := 2, cells := 0, slots := 0, locals := 31 }
abbrev P24 (r : Int32 × St) : Option Value → List OwnC → Prop := fun v H' => v = some (.int r.1) ∧ H' = (Hb 0 r.2)
abbrev W24 (l : Launch) (Z : State) (n0 : Nat) (Q : Option Value → List OwnC → Prop) (k n pc : Nat) (L : List Slot) (S : List Value) (H : List OwnC) : Prop := WP l Z CN lay "GeneralLedger" "addLine" prog_1_method_14_code 4 (some FieldType.int) R24 n0 0 Q k n pc L S H
def f_addLine (p1 : Int32) (p2 : Int32) (p3 : Int32) (s : St) : Option (Int32 × St) :=
  (f_isSlot p1 s).bind fun c1 =>
  if c1 = 0 then
    some ((7 : Int32), s)
  else
    (rd (gA s 8) p1).bind fun x3 =>
    if x3 = 0 then
      some ((9 : Int32), s)
    else
      (f_isOpenAccount p2 s).bind fun c5 =>
      if c5 = 0 then
        some ((1 : Int32), s)
      else
        (f_isLeaf p2 s).bind fun c7 =>
        if c7 = 0 then
          some ((12 : Int32), s)
        else
          (f_isValidAmount p3 s).bind fun c9 =>
          if c9 = 0 then
            some ((11 : Int32), s)
          else
            (rd (gA s 11) p1).bind fun x11 =>
            if x11 < (gI s 1) then
              (f_appendLine p1 p2 p3 s).bind fun c13 =>
              some ((0 : Int32), c13)
            else
              some ((10 : Int32), s)
set_option maxRecDepth 65536 in
set_option maxHeartbeats 4000000 in
theorem ok24 (l : Launch) (Z : State) (a0 : Array Value) (hw : HW a0 Z) (p1 : Int32) (p2 : Int32) (p3 : Int32) (s : St) (r : Int32 × St) (h : f_addLine p1 p2 p3 s = some r) : CS l Z CN lay y24 prog_1_method_14_code 4 (some FieldType.int) R24 0 [.ref 0, .int p1, .int p2, .int p3] (Hb 0 s) (P24 r) := by
  refine CS.of_wp pn_cls (leb rfl) fun n0 => ?_
  show W24 l Z n0 (P24 r) 0 0 0 [.val (.ref 0), .val (.int p1), .val (.int p2), .val (.int p3)] [] (Hb 0 s)
  unfold f_addLine at h
  refine WP.aloadN d24_0 rfl ?_
  refine WP.iloadN d24_1 rfl ?_
  obtain ⟨c1, hc1, h⟩ := Option.bind_eq_some_iff.mp h
  refine WP.callP (i := 0) (y := y22) (as := [.int p1]) (S := []) d24_2 (hw _ m_153) (hw _ m_155) (hw _ m_3) (hw _ m_154) (hw _ m_156) (hw _ m_4) hy22 rfl (ok22 l Z a0 hw p1 s _ hc1) rfl (lenOf pd22 rfl) (leb rfl) (leb rfl) (leb rfl) (leb rfl) ?_
  rintro _ _ ⟨rfl, rfl⟩
  show W24 l Z n0 (P24 r) 0 0 5 [.val (.ref 0), .val (.int p1), .val (.int p2), .val (.int p3)] [.int c1] (Hb 0 s)
  rcases ite_e h with ⟨hc2, h⟩ | ⟨hc2, h⟩
  ·
    refine WP.ifN d24_5 (XT.i0_ne_f hc2) ?_
    refine WP.bipush (7 : Int32) d24_8 rfl ?_
    cases h
    exact WP.ireturn d24_10 rfl (leb rfl) (leb rfl) ⟨rfl, rfl⟩
  ·
    refine WP.ifY (pc' := 11) d24_5 (XT.i0_ne_t hc2) (by decide) rfl ?_
    refine WP.aloadN d24_11 rfl ?_
    refine WP.getfield (i := 0) (j := 13) d24_12 (hw _ m_36) rfl rfl rfl ?_
    refine WP.iloadN d24_15 rfl ?_
    obtain ⟨x3, hx3, h⟩ := Option.bind_eq_some_iff.mp h
    refine WP.baload (i := 12) d24_16 rfl hx3 ?_
    rcases ite_e h with ⟨hc4, h⟩ | ⟨hc4, h⟩
    ·
      refine WP.ifN d24_17 (XT.i0_ne_f hc4) ?_
      refine WP.bipush (9 : Int32) d24_20 rfl ?_
      cases h
      exact WP.ireturn d24_22 rfl (leb rfl) (leb rfl) ⟨rfl, rfl⟩
    ·
      refine WP.ifY (pc' := 23) d24_17 (XT.i0_ne_t hc4) (by decide) rfl ?_
      refine WP.aloadN d24_23 rfl ?_
      refine WP.iloadN d24_24 rfl ?_
      obtain ⟨c5, hc5, h⟩ := Option.bind_eq_some_iff.mp h
      refine WP.callP (i := 0) (y := y15) (as := [.int p2]) (S := []) d24_25 (hw _ m_122) (hw _ m_124) (hw _ m_3) (hw _ m_123) (hw _ m_125) (hw _ m_4) hy15 rfl (ok15 l Z a0 hw p2 s _ hc5) rfl (lenOf pd15 rfl) (leb rfl) (leb rfl) (leb rfl) (leb rfl) ?_
      rintro _ _ ⟨rfl, rfl⟩
      show W24 l Z n0 (P24 r) 0 0 28 [.val (.ref 0), .val (.int p1), .val (.int p2), .val (.int p3)] [.int c5] (Hb 0 s)
      rcases ite_e h with ⟨hc6, h⟩ | ⟨hc6, h⟩
      ·
        refine WP.ifN d24_28 (XT.i0_ne_f hc6) ?_
        refine WP.iconst (1 : Int32) d24_31 rfl ?_
        cases h
        exact WP.ireturn d24_32 rfl (leb rfl) (leb rfl) ⟨rfl, rfl⟩
      ·
        refine WP.ifY (pc' := 33) d24_28 (XT.i0_ne_t hc6) (by decide) rfl ?_
        refine WP.aloadN d24_33 rfl ?_
        refine WP.iloadN d24_34 rfl ?_
        obtain ⟨c7, hc7, h⟩ := Option.bind_eq_some_iff.mp h
        refine WP.callP (i := 0) (y := y16) (as := [.int p2]) (S := []) d24_35 (hw _ m_126) (hw _ m_128) (hw _ m_3) (hw _ m_127) (hw _ m_129) (hw _ m_4) hy16 rfl (ok16 l Z a0 hw p2 s _ hc7) rfl (lenOf pd16 rfl) (leb rfl) (leb rfl) (leb rfl) (leb rfl) ?_
        rintro _ _ ⟨rfl, rfl⟩
        show W24 l Z n0 (P24 r) 0 0 38 [.val (.ref 0), .val (.int p1), .val (.int p2), .val (.int p3)] [.int c7] (Hb 0 s)
        rcases ite_e h with ⟨hc8, h⟩ | ⟨hc8, h⟩
        ·
          refine WP.ifN d24_38 (XT.i0_ne_f hc8) ?_
          refine WP.bipush (12 : Int32) d24_41 rfl ?_
          cases h
          exact WP.ireturn d24_43 rfl (leb rfl) (leb rfl) ⟨rfl, rfl⟩
        ·
          refine WP.ifY (pc' := 44) d24_38 (XT.i0_ne_t hc8) (by decide) rfl ?_
          refine WP.aloadN d24_44 rfl ?_
          refine WP.iloadN d24_45 rfl ?_
          obtain ⟨c9, hc9, h⟩ := Option.bind_eq_some_iff.mp h
          refine WP.callP (i := 0) (y := y25) (as := [.int p3]) (S := []) d24_46 (hw _ m_166) (hw _ m_168) (hw _ m_3) (hw _ m_167) (hw _ m_169) (hw _ m_4) hy25 rfl (ok25 l Z a0 hw p3 s _ hc9) rfl (lenOf pd25 rfl) (leb rfl) (leb rfl) (leb rfl) (leb rfl) ?_
          rintro _ _ ⟨rfl, rfl⟩
          show W24 l Z n0 (P24 r) 0 0 49 [.val (.ref 0), .val (.int p1), .val (.int p2), .val (.int p3)] [.int c9] (Hb 0 s)
          rcases ite_e h with ⟨hc10, h⟩ | ⟨hc10, h⟩
          ·
            refine WP.ifN d24_49 (XT.i0_ne_f hc10) ?_
            refine WP.bipush (11 : Int32) d24_52 rfl ?_
            cases h
            exact WP.ireturn d24_54 rfl (leb rfl) (leb rfl) ⟨rfl, rfl⟩
          ·
            refine WP.ifY (pc' := 55) d24_49 (XT.i0_ne_t hc10) (by decide) rfl ?_
            refine WP.aloadN d24_55 rfl ?_
            refine WP.getfield (i := 0) (j := 16) d24_56 (hw _ m_42) rfl rfl rfl ?_
            refine WP.iloadN d24_59 rfl ?_
            obtain ⟨x11, hx11, h⟩ := Option.bind_eq_some_iff.mp h
            refine WP.iaload (i := 15) d24_60 rfl hx11 ?_
            refine WP.aloadN d24_61 rfl ?_
            refine WP.getfield (i := 0) (j := 1) d24_62 (hw _ m_54) rfl rfl rfl ?_
            rcases ite_e h with ⟨hc12, h⟩ | ⟨hc12, h⟩
            ·
              refine WP.icmpY (pc' := 71) d24_65 (XT.ii_lt_t hc12) (by decide) rfl ?_
              refine WP.aloadN d24_71 rfl ?_
              refine WP.iloadN d24_72 rfl ?_
              refine WP.iloadN d24_73 rfl ?_
              refine WP.iloadN d24_74 rfl ?_
              obtain ⟨c13, hc13, h⟩ := Option.bind_eq_some_iff.mp h
              refine WP.callP (i := 0) (y := y26) (as := [.int p1, .int p2, .int p3]) (S := []) d24_75 (hw _ m_172) (hw _ m_174) (hw _ m_3) (hw _ m_173) (hw _ m_175) (hw _ m_4) hy26 rfl (ok26 l Z a0 hw p1 p2 p3 s _ hc13) rfl (lenOf pd26 rfl) (leb rfl) (leb rfl) (leb rfl) (leb rfl) ?_
              rintro _ _ ⟨rfl, rfl⟩
              show W24 l Z n0 (P24 r) 0 0 78 [.val (.ref 0), .val (.int p1), .val (.int p2), .val (.int p3)] [] (Hb 0 c13)
              refine WP.iconst (0 : Int32) d24_78 rfl ?_
              cases h
              exact WP.ireturn d24_79 rfl (leb rfl) (leb rfl) ⟨rfl, rfl⟩
            ·
              refine WP.icmpN d24_65 (XT.ii_lt_f hc12) ?_
              refine WP.bipush (10 : Int32) d24_68 rfl ?_
              cases h
              exact WP.ireturn d24_70 rfl (leb rfl) (leb rfl) ⟨rfl, rfl⟩
theorem d31_0 : dc prog_1_method_20_code 0 (.aload_n 0) 1 := by decide +kernel
theorem d31_1 : dc prog_1_method_20_code 1 (.getfield 54) 3 := by decide +kernel
theorem d31_4 : dc prog_1_method_20_code 4 (.iload_n 1) 1 := by decide +kernel
theorem d31_5 : dc prog_1_method_20_code 5 (.iaload) 1 := by decide +kernel
theorem d31_6 : dc prog_1_method_20_code 6 (.istore_n 2) 1 := by decide +kernel
theorem d31_7 : dc prog_1_method_20_code 7 (.iload_n 2) 1 := by decide +kernel
theorem d31_8 : dc prog_1_method_20_code 8 (.ifCond .ge 5) 3 := by decide +kernel
theorem d31_11 : dc prog_1_method_20_code 11 (.iconst 0) 1 := by decide +kernel
theorem d31_12 : dc prog_1_method_20_code 12 (.ireturn) 1 := by decide +kernel
theorem d31_13 : dc prog_1_method_20_code 13 (.iload_n 2) 1 := by decide +kernel
theorem d31_14 : dc prog_1_method_20_code 14 (.bipush 16) 2 := by decide +kernel
theorem d31_16 : dc prog_1_method_20_code 16 (.if_icmp .le 6) 3 := by decide +kernel
theorem d31_19 : dc prog_1_method_20_code 19 (.bipush 16) 2 := by decide +kernel
theorem d31_21 : dc prog_1_method_20_code 21 (.ireturn) 1 := by decide +kernel
theorem d31_22 : dc prog_1_method_20_code 22 (.iload_n 2) 1 := by decide +kernel
theorem d31_23 : dc prog_1_method_20_code 23 (.ireturn) 1 := by decide +kernel
abbrev y31 : MethodName := ⟨"GeneralLedger", "stagedLines", "(I)I"⟩
theorem hy31 : y31.cls ≠ "java/lang/invoke/MethodHandle" ∧ y31.cls ≠ "java/lang/invoke/VarHandle" := by decide
theorem pd31 : parseMethodDescriptor y31.desc = some ⟨[.int], some .int⟩ := by decide +kernel
abbrev R31 : Room := { frames := 0, cells := 0, slots := 0, locals := 0 }
abbrev P31 (s : St) (r : Int32) : Option Value → List OwnC → Prop := fun v H' => v = some (.int r) ∧ H' = (Hb 0 s)
abbrev W31 (l : Launch) (Z : State) (n0 : Nat) (Q : Option Value → List OwnC → Prop) (k n pc : Nat) (L : List Slot) (S : List Value) (H : List OwnC) : Prop := WP l Z CN lay "GeneralLedger" "stagedLines" prog_1_method_20_code 3 (some FieldType.int) R31 n0 0 Q k n pc L S H
def f_stagedLines (p1 : Int32) (s : St) : Option (Int32) :=
  (rd (gA s 11) p1).bind fun x1 =>
  if x1 < 0 then
    some (0 : Int32)
  else
    if (16 : Int32) < x1 then
      some (16 : Int32)
    else
      some x1
set_option maxRecDepth 65536 in
set_option maxHeartbeats 4000000 in
theorem ok31 (l : Launch) (Z : State) (a0 : Array Value) (hw : HW a0 Z) (p1 : Int32) (s : St) (r : Int32) (h : f_stagedLines p1 s = some r) : CS l Z CN lay y31 prog_1_method_20_code 3 (some FieldType.int) R31 0 [.ref 0, .int p1] (Hb 0 s) (P31 s r) := by
  refine CS.of_wp pn_cls (leb rfl) fun n0 => ?_
  show W31 l Z n0 (P31 s r) 0 0 0 [.val (.ref 0), .val (.int p1), .unset] [] (Hb 0 s)
  unfold f_stagedLines at h
  refine WP.aloadN d31_0 rfl ?_
  refine WP.getfield (i := 0) (j := 16) d31_1 (hw _ m_42) rfl rfl rfl ?_
  refine WP.iloadN d31_4 rfl ?_
  obtain ⟨x1, hx1, h⟩ := Option.bind_eq_some_iff.mp h
  refine WP.iaload (i := 15) d31_5 rfl hx1 ?_
  refine WP.istoreN (L' := [.val (.ref 0), .val (.int p1), .val (.int x1)]) d31_6 (leb rfl) rfl ?_
  refine WP.iloadN d31_7 rfl ?_
  rcases ite_e h with ⟨hc2, h⟩ | ⟨hc2, h⟩
  ·
    refine WP.ifN d31_8 (XT.i0_ge_f hc2) ?_
    refine WP.iconst (0 : Int32) d31_11 rfl ?_
    cases h
    exact WP.ireturn d31_12 rfl (leb rfl) (leb rfl) ⟨rfl, rfl⟩
  ·
    refine WP.ifY (pc' := 13) d31_8 (XT.i0_ge_t hc2) (by decide) rfl ?_
    refine WP.iloadN d31_13 rfl ?_
    refine WP.bipush (16 : Int32) d31_14 rfl ?_
    rcases ite_e h with ⟨hc3, h⟩ | ⟨hc3, h⟩
    ·
      refine WP.icmpN d31_16 (XT.ii_le_f hc3) ?_
      refine WP.bipush (16 : Int32) d31_19 rfl ?_
      cases h
      exact WP.ireturn d31_21 rfl (leb rfl) (leb rfl) ⟨rfl, rfl⟩
    ·
      refine WP.icmpY (pc' := 22) d31_16 (XT.ii_le_t hc3) (by decide) rfl ?_
      refine WP.iloadN d31_22 rfl ?_
      cases h
      exact WP.ireturn d31_23 rfl (leb rfl) (leb rfl) ⟨rfl, rfl⟩
theorem d30_0 : dc prog_1_method_21_code 0 (.aload_n 0) 1 := by decide +kernel
theorem d30_1 : dc prog_1_method_21_code 1 (.iload_n 1) 1 := by decide +kernel
theorem d30_2 : dc prog_1_method_21_code 2 (.invokevirtual 187) 3 := by decide +kernel
theorem d30_5 : dc prog_1_method_21_code 5 (.istore_n 2) 1 := by decide +kernel
theorem d30_6 : dc prog_1_method_21_code 6 (.iconst 0) 1 := by decide +kernel
theorem d30_7 : dc prog_1_method_21_code 7 (.istore_n 3) 1 := by decide +kernel
theorem d30_8 : dc prog_1_method_21_code 8 (.iload_n 3) 1 := by decide +kernel
theorem d30_9 : dc prog_1_method_21_code 9 (.iload_n 2) 1 := by decide +kernel
theorem d30_10 : dc prog_1_method_21_code 10 (.if_icmp .ge 33) 3 := by decide +kernel
theorem d30_13 : dc prog_1_method_21_code 13 (.aload_n 0) 1 := by decide +kernel
theorem d30_14 : dc prog_1_method_21_code 14 (.getfield 57) 3 := by decide +kernel
theorem d30_17 : dc prog_1_method_21_code 17 (.aload_n 0) 1 := by decide +kernel
theorem d30_18 : dc prog_1_method_21_code 18 (.iload_n 1) 1 := by decide +kernel
theorem d30_19 : dc prog_1_method_21_code 19 (.iload_n 3) 1 := by decide +kernel
theorem d30_20 : dc prog_1_method_21_code 20 (.invokevirtual 162) 3 := by decide +kernel
theorem d30_23 : dc prog_1_method_21_code 23 (.iaload) 1 := by decide +kernel
theorem d30_24 : dc prog_1_method_21_code 24 (.istore 4) 2 := by decide +kernel
theorem d30_26 : dc prog_1_method_21_code 26 (.aload_n 0) 1 := by decide +kernel
theorem d30_27 : dc prog_1_method_21_code 27 (.iload 4) 2 := by decide +kernel
theorem d30_29 : dc prog_1_method_21_code 29 (.invokevirtual 136) 3 := by decide +kernel
theorem d30_32 : dc prog_1_method_21_code 32 (.ifCond .ne 5) 3 := by decide +kernel
theorem d30_35 : dc prog_1_method_21_code 35 (.iconst 1) 1 := by decide +kernel
theorem d30_36 : dc prog_1_method_21_code 36 (.ireturn) 1 := by decide +kernel
theorem d30_37 : dc prog_1_method_21_code 37 (.iinc 3 1) 3 := by decide +kernel
theorem d30_40 : dc prog_1_method_21_code 40 (.goto (-32)) 3 := by decide +kernel
theorem d30_43 : dc prog_1_method_21_code 43 (.iconst 0) 1 := by decide +kernel
theorem d30_44 : dc prog_1_method_21_code 44 (.ireturn) 1 := by decide +kernel
abbrev y30 : MethodName := ⟨"GeneralLedger", "journalHasParent", "(I)Z"⟩
theorem hy30 : y30.cls ≠ "java/lang/invoke/MethodHandle" ∧ y30.cls ≠ "java/lang/invoke/VarHandle" := by decide
theorem pd30 : parseMethodDescriptor y30.desc = some ⟨[.int], some .boolean⟩ := by decide +kernel
abbrev R30 : Room := { frames := 1, cells := 0, slots := 0, locals := 15 }
abbrev P30 (s : St) (r : Int32) : Option Value → List OwnC → Prop := fun v H' => v = some (.int r) ∧ H' = (Hb 0 s)
abbrev W30 (l : Launch) (Z : State) (n0 : Nat) (Q : Option Value → List OwnC → Prop) (k n pc : Nat) (L : List Slot) (S : List Value) (H : List OwnC) : Prop := WP l Z CN lay "GeneralLedger" "journalHasParent" prog_1_method_21_code 5 (some FieldType.boolean) R30 n0 0 Q k n pc L S H
def g_journalHasParent_8 (k8 : Int32 → Int32 → Int32 → St → Option (Int32)) (n : Nat) (v1 : Int32) (v2 : Int32) (v3 : Int32) (s : St) : Option (Int32) :=
  if v3 < v2 then
    (f_lineCell v1 v3 s).bind fun c2 =>
    (rd (gA s 12) c2).bind fun x3 =>
    (f_isLeaf x3 s).bind fun c4 =>
    if c4 = 0 then
      some (1 : Int32)
    else
      lt (v3 + (1 : Int32)) fun x6 =>
      k8 v1 v2 x6 s
  else
    some (0 : Int32)
set_option maxRecDepth 65536 in
set_option maxHeartbeats 4000000 in
theorem okg30_8 (l : Launch) (Z : State) (a0 : Array Value) (hw : HW a0 Z) (n0 : Nat) (k8 : Int32 → Int32 → Int32 → St → Option (Int32)) (hk8 : ∀ (v1 : Int32) (v2 : Int32) (v3 : Int32) (s : St) (r : Int32), k8 v1 v2 v3 s = some r → W30 l Z n0 (P30 s r) 0 0 8 [.val (.ref 0), .val (.int v1), .val (.int v2), .val (.int v3), .unset] [] (Hb 0 s)) (n : Nat) (v1 : Int32) (v2 : Int32) (v3 : Int32) (s : St) (r : Int32) (h : g_journalHasParent_8 k8 n v1 v2 v3 s = some r) : W30 l Z n0 (P30 s r) 0 0 8 [.val (.ref 0), .val (.int v1), .val (.int v2), .val (.int v3), .unset] [] (Hb 0 s) := by
  unfold g_journalHasParent_8 at h
  refine WP.iloadN d30_8 rfl ?_
  refine WP.iloadN d30_9 rfl ?_
  rcases ite_e h with ⟨hc1, h⟩ | ⟨hc1, h⟩
  ·
    refine WP.icmpN d30_10 (XT.ii_ge_f hc1) ?_
    refine WP.aloadN d30_13 rfl ?_
    refine WP.getfield (i := 0) (j := 17) d30_14 (hw _ m_44) rfl rfl rfl ?_
    refine WP.aloadN d30_17 rfl ?_
    refine WP.iloadN d30_18 rfl ?_
    refine WP.iloadN d30_19 rfl ?_
    obtain ⟨c2, hc2, h⟩ := Option.bind_eq_some_iff.mp h
    refine WP.callP (i := 0) (y := y27) (as := [.int v1, .int v3]) (S := [.ref 16]) d30_20 (hw _ m_176) (hw _ m_178) (hw _ m_3) (hw _ m_177) (hw _ m_179) (hw _ m_4) hy27 rfl (ok27 l Z a0 hw v1 v3 s _ hc2) rfl (lenOf pd27 rfl) (leb rfl) (leb rfl) (leb rfl) (leb rfl) ?_
    rintro _ _ ⟨rfl, rfl⟩
    show W30 l Z n0 (P30 s r) 0 0 23 [.val (.ref 0), .val (.int v1), .val (.int v2), .val (.int v3), .unset] [.int c2, .ref 16] (Hb 0 s)
    obtain ⟨x3, hx3, h⟩ := Option.bind_eq_some_iff.mp h
    refine WP.iaload (i := 16) d30_23 rfl hx3 ?_
    refine WP.istore (L' := [.val (.ref 0), .val (.int v1), .val (.int v2), .val (.int v3), .val (.int x3)]) d30_24 (leb rfl) rfl ?_
    refine WP.aloadN d30_26 rfl ?_
    refine WP.iload d30_27 rfl ?_
    obtain ⟨c4, hc4, h⟩ := Option.bind_eq_some_iff.mp h
    refine WP.callP (i := 0) (y := y16) (as := [.int x3]) (S := []) d30_29 (hw _ m_126) (hw _ m_128) (hw _ m_3) (hw _ m_127) (hw _ m_129) (hw _ m_4) hy16 rfl (ok16 l Z a0 hw x3 s _ hc4) rfl (lenOf pd16 rfl) (leb rfl) (leb rfl) (leb rfl) (leb rfl) ?_
    rintro _ _ ⟨rfl, rfl⟩
    show W30 l Z n0 (P30 s r) 0 0 32 [.val (.ref 0), .val (.int v1), .val (.int v2), .val (.int v3), .val (.int x3)] [.int c4] (Hb 0 s)
    rcases ite_e h with ⟨hc5, h⟩ | ⟨hc5, h⟩
    ·
      refine WP.ifN d30_32 (XT.i0_ne_f hc5) ?_
      refine WP.iconst (1 : Int32) d30_35 rfl ?_
      cases h
      exact WP.zreturn d30_36 rfl (leb rfl) (leb rfl) ⟨rfl, rfl⟩
    ·
      refine WP.ifY (pc' := 37) d30_32 (XT.i0_ne_t hc5) (by decide) rfl ?_
      obtain ⟨x6, ex6, h⟩ := lt_e h
      refine WP.iinc (L' := [.val (.ref 0), .val (.int v1), .val (.int v2), .val (.int x6), .val (.int x3)]) (1 : Int32) d30_37 rfl rfl (by subst ex6; rfl) ?_
      refine WP.goto (pc' := 8) d30_40 (by decide) rfl ?_
      exact WP.weak (L' := [.val (.ref 0), .val (.int v1), .val (.int v2), .val (.int x6), .unset]) ⟨rfl, rfl, rfl, rfl, trivial⟩ (hk8 v1 v2 x6 s _ h)
  ·
    refine WP.icmpY (pc' := 43) d30_10 (XT.ii_ge_t hc1) (by decide) rfl ?_
    refine WP.iconst (0 : Int32) d30_43 rfl ?_
    cases h
    exact WP.zreturn d30_44 rfl (leb rfl) (leb rfl) ⟨rfl, rfl⟩
def f_journalHasParent_8 : Nat → Int32 → Int32 → Int32 → St → Option (Int32)
  | 0 => fun _ _ _ _ => none
  | n + 1 => g_journalHasParent_8 (f_journalHasParent_8 n) n
theorem ok30_8 (l : Launch) (Z : State) (a0 : Array Value) (hw : HW a0 Z) (n0 : Nat) : ∀ (n : Nat) (v1 : Int32) (v2 : Int32) (v3 : Int32) (s : St) (r : Int32), f_journalHasParent_8 n v1 v2 v3 s = some r → W30 l Z n0 (P30 s r) 0 0 8 [.val (.ref 0), .val (.int v1), .val (.int v2), .val (.int v3), .unset] [] (Hb 0 s)
  | 0, v1, v2, v3, s, r, h => nomatch (show none = some r from h)
  | n + 1, v1, v2, v3, s, r, h => okg30_8 l Z a0 hw n0 _ (ok30_8 l Z a0 hw n0 n) n v1 v2 v3 s r h
def f_journalHasParent (n : Nat) (p1 : Int32) (s : St) : Option (Int32) :=
  (f_stagedLines p1 s).bind fun c1 =>
  f_journalHasParent_8 n p1 c1 (0 : Int32) s
set_option maxRecDepth 65536 in
set_option maxHeartbeats 4000000 in
theorem ok30 (l : Launch) (Z : State) (a0 : Array Value) (hw : HW a0 Z) (n : Nat) (p1 : Int32) (s : St) (r : Int32) (h : f_journalHasParent n p1 s = some r) : CS l Z CN lay y30 prog_1_method_21_code 5 (some FieldType.boolean) R30 0 [.ref 0, .int p1] (Hb 0 s) (P30 s r) := by
  refine CS.of_wp pn_cls (leb rfl) fun n0 => ?_
  show W30 l Z n0 (P30 s r) 0 0 0 [.val (.ref 0), .val (.int p1), .unset, .unset, .unset] [] (Hb 0 s)
  unfold f_journalHasParent at h
  refine WP.aloadN d30_0 rfl ?_
  refine WP.iloadN d30_1 rfl ?_
  obtain ⟨c1, hc1, h⟩ := Option.bind_eq_some_iff.mp h
  refine WP.callP (i := 0) (y := y31) (as := [.int p1]) (S := []) d30_2 (hw _ m_193) (hw _ m_195) (hw _ m_3) (hw _ m_194) (hw _ m_196) (hw _ m_4) hy31 rfl (ok31 l Z a0 hw p1 s _ hc1) rfl (lenOf pd31 rfl) (leb rfl) (leb rfl) (leb rfl) (leb rfl) ?_
  rintro _ _ ⟨rfl, rfl⟩
  show W30 l Z n0 (P30 s r) 0 0 5 [.val (.ref 0), .val (.int p1), .unset, .unset, .unset] [.int c1] (Hb 0 s)
  refine WP.istoreN (L' := [.val (.ref 0), .val (.int p1), .val (.int c1), .unset, .unset]) d30_5 (leb rfl) rfl ?_
  refine WP.iconst (0 : Int32) d30_6 rfl ?_
  refine WP.istoreN (L' := [.val (.ref 0), .val (.int p1), .val (.int c1), .val (.int (0 : Int32)), .unset]) d30_7 (leb rfl) rfl ?_
  exact WP.weak (L' := [.val (.ref 0), .val (.int p1), .val (.int c1), .val (.int (0 : Int32)), .unset]) ⟨rfl, rfl, rfl, rfl, trivial⟩ (ok30_8 l Z a0 hw n0 n p1 c1 (0 : Int32) s _ h)
theorem d33_0 : dc prog_1_method_23_code 0 (.iconst 0) 1 := by decide +kernel
theorem d33_1 : dc prog_1_method_23_code 1 (.istore_n 1) 1 := by decide +kernel
theorem d33_2 : dc prog_1_method_23_code 2 (.iload_n 1) 1 := by decide +kernel
theorem d33_3 : dc prog_1_method_23_code 3 (.iconst 4) 1 := by decide +kernel
theorem d33_4 : dc prog_1_method_23_code 4 (.if_icmp .ge 16) 3 := by decide +kernel
theorem d33_7 : dc prog_1_method_23_code 7 (.aload_n 0) 1 := by decide +kernel
theorem d33_8 : dc prog_1_method_23_code 8 (.getfield 42) 3 := by decide +kernel
theorem d33_11 : dc prog_1_method_23_code 11 (.iload_n 1) 1 := by decide +kernel
theorem d33_12 : dc prog_1_method_23_code 12 (.lconst 0) 1 := by decide +kernel
theorem d33_13 : dc prog_1_method_23_code 13 (.lastore) 1 := by decide +kernel
theorem d33_14 : dc prog_1_method_23_code 14 (.iinc 1 1) 3 := by decide +kernel
theorem d33_17 : dc prog_1_method_23_code 17 (.goto (-15)) 3 := by decide +kernel
theorem d33_20 : dc prog_1_method_23_code 20 (.return_) 1 := by decide +kernel
abbrev y33 : MethodName := ⟨"GeneralLedger", "clearCurrencyTotals", "()V"⟩
theorem hy33 : y33.cls ≠ "java/lang/invoke/MethodHandle" ∧ y33.cls ≠ "java/lang/invoke/VarHandle" := by decide
theorem pd33 : parseMethodDescriptor y33.desc = some ⟨[], none⟩ := by decide +kernel
abbrev R33 : Room := { frames := 0, cells := 0, slots := 0, locals := 0 }
abbrev P33 (r : St) : Option Value → List OwnC → Prop := fun v H' => v = none ∧ H' = (Hb 0 r)
abbrev W33 (l : Launch) (Z : State) (n0 : Nat) (Q : Option Value → List OwnC → Prop) (k n pc : Nat) (L : List Slot) (S : List Value) (H : List OwnC) : Prop := WP l Z CN lay "GeneralLedger" "clearCurrencyTotals" prog_1_method_23_code 2 (none) R33 n0 0 Q k n pc L S H
def g_clearCurrencyTotals_2 (k2 : Int32 → St → Option (St)) (n : Nat) (v1 : Int32) (s : St) : Option (St) :=
  if v1 < (4 : Int32) then
    (wrB s 2 v1 (0 : Int64)).bind fun s2 =>
    lt (v1 + (1 : Int32)) fun x3 =>
    k2 x3 s2
  else
    some s
set_option maxRecDepth 65536 in
set_option maxHeartbeats 4000000 in
theorem okg33_2 (l : Launch) (Z : State) (a0 : Array Value) (hw : HW a0 Z) (n0 : Nat) (k2 : Int32 → St → Option (St)) (hk2 : ∀ (v1 : Int32) (s : St) (r : St), k2 v1 s = some r → W33 l Z n0 (P33 r) 0 0 2 [.val (.ref 0), .val (.int v1)] [] (Hb 0 s)) (n : Nat) (v1 : Int32) (s : St) (r : St) (h : g_clearCurrencyTotals_2 k2 n v1 s = some r) : W33 l Z n0 (P33 r) 0 0 2 [.val (.ref 0), .val (.int v1)] [] (Hb 0 s) := by
  unfold g_clearCurrencyTotals_2 at h
  refine WP.iloadN d33_2 rfl ?_
  refine WP.iconst (4 : Int32) d33_3 rfl ?_
  rcases ite_e h with ⟨hc1, h⟩ | ⟨hc1, h⟩
  ·
    refine WP.icmpN d33_4 (XT.ii_ge_f hc1) ?_
    refine WP.aloadN d33_7 rfl ?_
    refine WP.getfield (i := 0) (j := 12) d33_8 (hw _ m_34) rfl rfl rfl ?_
    refine WP.iloadN d33_11 rfl ?_
    refine WP.lconst (0 : Int64) d33_12 rfl ?_
    obtain ⟨s2, hs2, h⟩ := Option.bind_eq_some_iff.mp h
    obtain ⟨ys2, gs2, es2⟩ := wrB_e hs2
    refine WP.lastore (i := 11) (xs := gB s 2) (H' := (Hb 0 s2)) d33_13 rfl (leb rfl) gs2 (by subst es2; rfl) ?_
    obtain ⟨x3, ex3, h⟩ := lt_e h
    refine WP.iinc (L' := [.val (.ref 0), .val (.int x3)]) (1 : Int32) d33_14 rfl rfl (by subst ex3; rfl) ?_
    refine WP.goto (pc' := 2) d33_17 (by decide) rfl ?_
    exact WP.weak (L' := [.val (.ref 0), .val (.int x3)]) ⟨rfl, rfl, trivial⟩ (hk2 x3 s2 _ h)
  ·
    refine WP.icmpY (pc' := 20) d33_4 (XT.ii_ge_t hc1) (by decide) rfl ?_
    cases h
    exact WP.vreturn d33_20 rfl (leb rfl) (leb rfl) ⟨rfl, rfl⟩
def f_clearCurrencyTotals_2 : Nat → Int32 → St → Option (St)
  | 0 => fun _ _ => none
  | n + 1 => g_clearCurrencyTotals_2 (f_clearCurrencyTotals_2 n) n
theorem ok33_2 (l : Launch) (Z : State) (a0 : Array Value) (hw : HW a0 Z) (n0 : Nat) : ∀ (n : Nat) (v1 : Int32) (s : St) (r : St), f_clearCurrencyTotals_2 n v1 s = some r → W33 l Z n0 (P33 r) 0 0 2 [.val (.ref 0), .val (.int v1)] [] (Hb 0 s)
  | 0, v1, s, r, h => nomatch (show none = some r from h)
  | n + 1, v1, s, r, h => okg33_2 l Z a0 hw n0 _ (ok33_2 l Z a0 hw n0 n) n v1 s r h
def f_clearCurrencyTotals (n : Nat) (s : St) : Option (St) :=
  f_clearCurrencyTotals_2 n (0 : Int32) s
set_option maxRecDepth 65536 in
set_option maxHeartbeats 4000000 in
theorem ok33 (l : Launch) (Z : State) (a0 : Array Value) (hw : HW a0 Z) (n : Nat) (s : St) (r : St) (h : f_clearCurrencyTotals n s = some r) : CS l Z CN lay y33 prog_1_method_23_code 2 (none) R33 0 [.ref 0] (Hb 0 s) (P33 r) := by
  refine CS.of_wp pn_cls (leb rfl) fun n0 => ?_
  show W33 l Z n0 (P33 r) 0 0 0 [.val (.ref 0), .unset] [] (Hb 0 s)
  unfold f_clearCurrencyTotals at h
  refine WP.iconst (0 : Int32) d33_0 rfl ?_
  refine WP.istoreN (L' := [.val (.ref 0), .val (.int (0 : Int32))]) d33_1 (leb rfl) rfl ?_
  exact WP.weak (L' := [.val (.ref 0), .val (.int (0 : Int32))]) ⟨rfl, rfl, trivial⟩ (ok33_2 l Z a0 hw n0 n (0 : Int32) s _ h)
theorem d34_0 : dc prog_1_method_24_code 0 (.iconst 0) 1 := by decide +kernel
theorem d34_1 : dc prog_1_method_24_code 1 (.istore_n 1) 1 := by decide +kernel
theorem d34_2 : dc prog_1_method_24_code 2 (.iload_n 1) 1 := by decide +kernel
theorem d34_3 : dc prog_1_method_24_code 3 (.iconst 4) 1 := by decide +kernel
theorem d34_4 : dc prog_1_method_24_code 4 (.if_icmp .ge 22) 3 := by decide +kernel
theorem d34_7 : dc prog_1_method_24_code 7 (.aload_n 0) 1 := by decide +kernel
theorem d34_8 : dc prog_1_method_24_code 8 (.getfield 42) 3 := by decide +kernel
theorem d34_11 : dc prog_1_method_24_code 11 (.iload_n 1) 1 := by decide +kernel
theorem d34_12 : dc prog_1_method_24_code 12 (.laload) 1 := by decide +kernel
theorem d34_13 : dc prog_1_method_24_code 13 (.lconst 0) 1 := by decide +kernel
theorem d34_14 : dc prog_1_method_24_code 14 (.lcmp) 1 := by decide +kernel
theorem d34_15 : dc prog_1_method_24_code 15 (.ifCond .eq 5) 3 := by decide +kernel
theorem d34_18 : dc prog_1_method_24_code 18 (.iconst 0) 1 := by decide +kernel
theorem d34_19 : dc prog_1_method_24_code 19 (.ireturn) 1 := by decide +kernel
theorem d34_20 : dc prog_1_method_24_code 20 (.iinc 1 1) 3 := by decide +kernel
theorem d34_23 : dc prog_1_method_24_code 23 (.goto (-21)) 3 := by decide +kernel
theorem d34_26 : dc prog_1_method_24_code 26 (.iconst 1) 1 := by decide +kernel
theorem d34_27 : dc prog_1_method_24_code 27 (.ireturn) 1 := by decide +kernel
abbrev y34 : MethodName := ⟨"GeneralLedger", "currencyTotalsZero", "()Z"⟩
theorem hy34 : y34.cls ≠ "java/lang/invoke/MethodHandle" ∧ y34.cls ≠ "java/lang/invoke/VarHandle" := by decide
theorem pd34 : parseMethodDescriptor y34.desc = some ⟨[], some .boolean⟩ := by decide +kernel
abbrev R34 : Room := { frames := 0, cells := 0, slots := 0, locals := 0 }
abbrev P34 (s : St) (r : Int32) : Option Value → List OwnC → Prop := fun v H' => v = some (.int r) ∧ H' = (Hb 0 s)
abbrev W34 (l : Launch) (Z : State) (n0 : Nat) (Q : Option Value → List OwnC → Prop) (k n pc : Nat) (L : List Slot) (S : List Value) (H : List OwnC) : Prop := WP l Z CN lay "GeneralLedger" "currencyTotalsZero" prog_1_method_24_code 2 (some FieldType.boolean) R34 n0 0 Q k n pc L S H
def g_currencyTotalsZero_2 (k2 : Int32 → St → Option (Int32)) (n : Nat) (v1 : Int32) (s : St) : Option (Int32) :=
  if v1 < (4 : Int32) then
    (rd (gB s 2) v1).bind fun x2 =>
    if x2 = (0 : Int64) then
      lt (v1 + (1 : Int32)) fun x4 =>
      k2 x4 s
    else
      some (0 : Int32)
  else
    some (1 : Int32)
set_option maxRecDepth 65536 in
set_option maxHeartbeats 4000000 in
theorem okg34_2 (l : Launch) (Z : State) (a0 : Array Value) (hw : HW a0 Z) (n0 : Nat) (k2 : Int32 → St → Option (Int32)) (hk2 : ∀ (v1 : Int32) (s : St) (r : Int32), k2 v1 s = some r → W34 l Z n0 (P34 s r) 0 0 2 [.val (.ref 0), .val (.int v1)] [] (Hb 0 s)) (n : Nat) (v1 : Int32) (s : St) (r : Int32) (h : g_currencyTotalsZero_2 k2 n v1 s = some r) : W34 l Z n0 (P34 s r) 0 0 2 [.val (.ref 0), .val (.int v1)] [] (Hb 0 s) := by
  unfold g_currencyTotalsZero_2 at h
  refine WP.iloadN d34_2 rfl ?_
  refine WP.iconst (4 : Int32) d34_3 rfl ?_
  rcases ite_e h with ⟨hc1, h⟩ | ⟨hc1, h⟩
  ·
    refine WP.icmpN d34_4 (XT.ii_ge_f hc1) ?_
    refine WP.aloadN d34_7 rfl ?_
    refine WP.getfield (i := 0) (j := 12) d34_8 (hw _ m_34) rfl rfl rfl ?_
    refine WP.iloadN d34_11 rfl ?_
    obtain ⟨x2, hx2, h⟩ := Option.bind_eq_some_iff.mp h
    refine WP.laload (i := 11) d34_12 rfl hx2 ?_
    refine WP.lconst (0 : Int64) d34_13 rfl ?_
    refine WP.lcmp d34_14 ?_
    rcases ite_e h with ⟨hc3, h⟩ | ⟨hc3, h⟩
    ·
      refine WP.ifY (pc' := 20) d34_15 (XT.ll_eq_t hc3) (by decide) rfl ?_
      obtain ⟨x4, ex4, h⟩ := lt_e h
      refine WP.iinc (L' := [.val (.ref 0), .val (.int x4)]) (1 : Int32) d34_20 rfl rfl (by subst ex4; rfl) ?_
      refine WP.goto (pc' := 2) d34_23 (by decide) rfl ?_
      exact WP.weak (L' := [.val (.ref 0), .val (.int x4)]) ⟨rfl, rfl, trivial⟩ (hk2 x4 s _ h)
    ·
      refine WP.ifN d34_15 (XT.ll_eq_f hc3) ?_
      refine WP.iconst (0 : Int32) d34_18 rfl ?_
      cases h
      exact WP.zreturn d34_19 rfl (leb rfl) (leb rfl) ⟨rfl, rfl⟩
  ·
    refine WP.icmpY (pc' := 26) d34_4 (XT.ii_ge_t hc1) (by decide) rfl ?_
    refine WP.iconst (1 : Int32) d34_26 rfl ?_
    cases h
    exact WP.zreturn d34_27 rfl (leb rfl) (leb rfl) ⟨rfl, rfl⟩
def f_currencyTotalsZero_2 : Nat → Int32 → St → Option (Int32)
  | 0 => fun _ _ => none
  | n + 1 => g_currencyTotalsZero_2 (f_currencyTotalsZero_2 n) n
theorem ok34_2 (l : Launch) (Z : State) (a0 : Array Value) (hw : HW a0 Z) (n0 : Nat) : ∀ (n : Nat) (v1 : Int32) (s : St) (r : Int32), f_currencyTotalsZero_2 n v1 s = some r → W34 l Z n0 (P34 s r) 0 0 2 [.val (.ref 0), .val (.int v1)] [] (Hb 0 s)
  | 0, v1, s, r, h => nomatch (show none = some r from h)
  | n + 1, v1, s, r, h => okg34_2 l Z a0 hw n0 _ (ok34_2 l Z a0 hw n0 n) n v1 s r h
def f_currencyTotalsZero (n : Nat) (s : St) : Option (Int32) :=
  f_currencyTotalsZero_2 n (0 : Int32) s
set_option maxRecDepth 65536 in
set_option maxHeartbeats 4000000 in
theorem ok34 (l : Launch) (Z : State) (a0 : Array Value) (hw : HW a0 Z) (n : Nat) (s : St) (r : Int32) (h : f_currencyTotalsZero n s = some r) : CS l Z CN lay y34 prog_1_method_24_code 2 (some FieldType.boolean) R34 0 [.ref 0] (Hb 0 s) (P34 s r) := by
  refine CS.of_wp pn_cls (leb rfl) fun n0 => ?_
  show W34 l Z n0 (P34 s r) 0 0 0 [.val (.ref 0), .unset] [] (Hb 0 s)
  unfold f_currencyTotalsZero at h
  refine WP.iconst (0 : Int32) d34_0 rfl ?_
  refine WP.istoreN (L' := [.val (.ref 0), .val (.int (0 : Int32))]) d34_1 (leb rfl) rfl ?_
  exact WP.weak (L' := [.val (.ref 0), .val (.int (0 : Int32))]) ⟨rfl, rfl, trivial⟩ (ok34_2 l Z a0 hw n0 n (0 : Int32) s _ h)
theorem d32_0 : dc prog_1_method_22_code 0 (.aload_n 0) 1 := by decide +kernel
theorem d32_1 : dc prog_1_method_22_code 1 (.invokevirtual 190) 3 := by decide +kernel
theorem d32_4 : dc prog_1_method_22_code 4 (.aload_n 0) 1 := by decide +kernel
theorem d32_5 : dc prog_1_method_22_code 5 (.iload_n 1) 1 := by decide +kernel
theorem d32_6 : dc prog_1_method_22_code 6 (.invokevirtual 187) 3 := by decide +kernel
theorem d32_9 : dc prog_1_method_22_code 9 (.istore_n 2) 1 := by decide +kernel
theorem d32_10 : dc prog_1_method_22_code 10 (.iconst 0) 1 := by decide +kernel
theorem d32_11 : dc prog_1_method_22_code 11 (.istore_n 3) 1 := by decide +kernel
theorem d32_12 : dc prog_1_method_22_code 12 (.iload_n 3) 1 := by decide +kernel
theorem d32_13 : dc prog_1_method_22_code 13 (.iload_n 2) 1 := by decide +kernel
theorem d32_14 : dc prog_1_method_22_code 14 (.if_icmp .ge 65) 3 := by decide +kernel
theorem d32_17 : dc prog_1_method_22_code 17 (.aload_n 0) 1 := by decide +kernel
theorem d32_18 : dc prog_1_method_22_code 18 (.iload_n 1) 1 := by decide +kernel
theorem d32_19 : dc prog_1_method_22_code 19 (.iload_n 3) 1 := by decide +kernel
theorem d32_20 : dc prog_1_method_22_code 20 (.invokevirtual 162) 3 := by decide +kernel
theorem d32_23 : dc prog_1_method_22_code 23 (.istore 4) 2 := by decide +kernel
theorem d32_25 : dc prog_1_method_22_code 25 (.aload_n 0) 1 := by decide +kernel
theorem d32_26 : dc prog_1_method_22_code 26 (.getfield 20) 3 := by decide +kernel
theorem d32_29 : dc prog_1_method_22_code 29 (.aload_n 0) 1 := by decide +kernel
theorem d32_30 : dc prog_1_method_22_code 30 (.getfield 57) 3 := by decide +kernel
theorem d32_33 : dc prog_1_method_22_code 33 (.iload 4) 2 := by decide +kernel
theorem d32_35 : dc prog_1_method_22_code 35 (.iaload) 1 := by decide +kernel
theorem d32_36 : dc prog_1_method_22_code 36 (.iaload) 1 := by decide +kernel
theorem d32_37 : dc prog_1_method_22_code 37 (.istore 5) 2 := by decide +kernel
theorem d32_39 : dc prog_1_method_22_code 39 (.iload 5) 2 := by decide +kernel
theorem d32_41 : dc prog_1_method_22_code 41 (.ifCond .lt 32) 3 := by decide +kernel
theorem d32_44 : dc prog_1_method_22_code 44 (.iload 5) 2 := by decide +kernel
theorem d32_46 : dc prog_1_method_22_code 46 (.iconst 4) 1 := by decide +kernel
theorem d32_47 : dc prog_1_method_22_code 47 (.if_icmp .ge 26) 3 := by decide +kernel
theorem d32_50 : dc prog_1_method_22_code 50 (.aload_n 0) 1 := by decide +kernel
theorem d32_51 : dc prog_1_method_22_code 51 (.getfield 42) 3 := by decide +kernel
theorem d32_54 : dc prog_1_method_22_code 54 (.iload 5) 2 := by decide +kernel
theorem d32_56 : dc prog_1_method_22_code 56 (.aload_n 0) 1 := by decide +kernel
theorem d32_57 : dc prog_1_method_22_code 57 (.getfield 42) 3 := by decide +kernel
theorem d32_60 : dc prog_1_method_22_code 60 (.iload 5) 2 := by decide +kernel
theorem d32_62 : dc prog_1_method_22_code 62 (.laload) 1 := by decide +kernel
theorem d32_63 : dc prog_1_method_22_code 63 (.aload_n 0) 1 := by decide +kernel
theorem d32_64 : dc prog_1_method_22_code 64 (.getfield 60) 3 := by decide +kernel
theorem d32_67 : dc prog_1_method_22_code 67 (.iload 4) 2 := by decide +kernel
theorem d32_69 : dc prog_1_method_22_code 69 (.iaload) 1 := by decide +kernel
theorem d32_70 : dc prog_1_method_22_code 70 (.i2l) 1 := by decide +kernel
theorem d32_71 : dc prog_1_method_22_code 71 (.ladd) 1 := by decide +kernel
theorem d32_72 : dc prog_1_method_22_code 72 (.lastore) 1 := by decide +kernel
theorem d32_73 : dc prog_1_method_22_code 73 (.iinc 3 1) 3 := by decide +kernel
theorem d32_76 : dc prog_1_method_22_code 76 (.goto (-64)) 3 := by decide +kernel
theorem d32_79 : dc prog_1_method_22_code 79 (.aload_n 0) 1 := by decide +kernel
theorem d32_80 : dc prog_1_method_22_code 80 (.invokevirtual 193) 3 := by decide +kernel
theorem d32_83 : dc prog_1_method_22_code 83 (.ireturn) 1 := by decide +kernel
abbrev y32 : MethodName := ⟨"GeneralLedger", "journalBalanced", "(I)Z"⟩
theorem hy32 : y32.cls ≠ "java/lang/invoke/MethodHandle" ∧ y32.cls ≠ "java/lang/invoke/VarHandle" := by decide
theorem pd32 : parseMethodDescriptor y32.desc = some ⟨[.int], some .boolean⟩ := by decide +kernel
abbrev R32 : Room := { frames := 1, cells := 0, slots := 0, locals := 14 }
abbrev P32 (r : Int32 × St) : Option Value → List OwnC → Prop := fun v H' => v = some (.int r.1) ∧ H' = (Hb 0 r.2)
abbrev W32 (l : Launch) (Z : State) (n0 : Nat) (Q : Option Value → List OwnC → Prop) (k n pc : Nat) (L : List Slot) (S : List Value) (H : List OwnC) : Prop := WP l Z CN lay "GeneralLedger" "journalBalanced" prog_1_method_22_code 6 (some FieldType.boolean) R32 n0 0 Q k n pc L S H
def f_journalBalanced_73 (k12 : Int32 → Int32 → Int32 → St → Option (Int32 × St)) (n : Nat) (v1 : Int32) (v2 : Int32) (v3 : Int32) (s : St) : Option (Int32 × St) :=
  lt (v3 + (1 : Int32)) fun x1 =>
  k12 v1 v2 x1 s
set_option maxRecDepth 65536 in
set_option maxHeartbeats 4000000 in
theorem ok32_73 (l : Launch) (Z : State) (a0 : Array Value) (hw : HW a0 Z) (n0 : Nat) (k12 : Int32 → Int32 → Int32 → St → Option (Int32 × St)) (hk12 : ∀ (v1 : Int32) (v2 : Int32) (v3 : Int32) (s : St) (r : Int32 × St), k12 v1 v2 v3 s = some r → W32 l Z n0 (P32 r) 0 0 12 [.val (.ref 0), .val (.int v1), .val (.int v2), .val (.int v3), .unset, .unset] [] (Hb 0 s)) (n : Nat) (v1 : Int32) (v2 : Int32) (v3 : Int32) (s : St) (r : Int32 × St) (h : f_journalBalanced_73 k12 n v1 v2 v3 s = some r) : W32 l Z n0 (P32 r) 0 0 73 [.val (.ref 0), .val (.int v1), .val (.int v2), .val (.int v3), .unset, .unset] [] (Hb 0 s) := by
  unfold f_journalBalanced_73 at h
  obtain ⟨x1, ex1, h⟩ := lt_e h
  refine WP.iinc (L' := [.val (.ref 0), .val (.int v1), .val (.int v2), .val (.int x1), .unset, .unset]) (1 : Int32) d32_73 rfl rfl (by subst ex1; rfl) ?_
  refine WP.goto (pc' := 12) d32_76 (by decide) rfl ?_
  exact WP.weak (L' := [.val (.ref 0), .val (.int v1), .val (.int v2), .val (.int x1), .unset, .unset]) ⟨rfl, rfl, rfl, rfl, trivial⟩ (hk12 v1 v2 x1 s _ h)
def g_journalBalanced_12 (k12 : Int32 → Int32 → Int32 → St → Option (Int32 × St)) (n : Nat) (v1 : Int32) (v2 : Int32) (v3 : Int32) (s : St) : Option (Int32 × St) :=
  if v3 < v2 then
    (f_lineCell v1 v3 s).bind fun c2 =>
    (rd (gA s 12) c2).bind fun x3 =>
    (rd (gA s 3) x3).bind fun x4 =>
    if x4 < 0 then
      f_journalBalanced_73 k12 n v1 v2 v3 s
    else
      if x4 < (4 : Int32) then
        (rd (gB s 2) x4).bind fun x7 =>
        (rd (gA s 13) c2).bind fun x8 =>
        (wrB s 2 x4 (x7 + x8.toInt64)).bind fun s9 =>
        f_journalBalanced_73 k12 n v1 v2 v3 s9
      else
        f_journalBalanced_73 k12 n v1 v2 v3 s
  else
    (f_currencyTotalsZero n s).bind fun c10 =>
    some (c10 &&& 1, s)
set_option maxRecDepth 65536 in
set_option maxHeartbeats 4000000 in
theorem okg32_12 (l : Launch) (Z : State) (a0 : Array Value) (hw : HW a0 Z) (n0 : Nat) (k12 : Int32 → Int32 → Int32 → St → Option (Int32 × St)) (hk12 : ∀ (v1 : Int32) (v2 : Int32) (v3 : Int32) (s : St) (r : Int32 × St), k12 v1 v2 v3 s = some r → W32 l Z n0 (P32 r) 0 0 12 [.val (.ref 0), .val (.int v1), .val (.int v2), .val (.int v3), .unset, .unset] [] (Hb 0 s)) (n : Nat) (v1 : Int32) (v2 : Int32) (v3 : Int32) (s : St) (r : Int32 × St) (h : g_journalBalanced_12 k12 n v1 v2 v3 s = some r) : W32 l Z n0 (P32 r) 0 0 12 [.val (.ref 0), .val (.int v1), .val (.int v2), .val (.int v3), .unset, .unset] [] (Hb 0 s) := by
  unfold g_journalBalanced_12 at h
  refine WP.iloadN d32_12 rfl ?_
  refine WP.iloadN d32_13 rfl ?_
  rcases ite_e h with ⟨hc1, h⟩ | ⟨hc1, h⟩
  ·
    refine WP.icmpN d32_14 (XT.ii_ge_f hc1) ?_
    refine WP.aloadN d32_17 rfl ?_
    refine WP.iloadN d32_18 rfl ?_
    refine WP.iloadN d32_19 rfl ?_
    obtain ⟨c2, hc2, h⟩ := Option.bind_eq_some_iff.mp h
    refine WP.callP (i := 0) (y := y27) (as := [.int v1, .int v3]) (S := []) d32_20 (hw _ m_176) (hw _ m_178) (hw _ m_3) (hw _ m_177) (hw _ m_179) (hw _ m_4) hy27 rfl (ok27 l Z a0 hw v1 v3 s _ hc2) rfl (lenOf pd27 rfl) (leb rfl) (leb rfl) (leb rfl) (leb rfl) ?_
    rintro _ _ ⟨rfl, rfl⟩
    show W32 l Z n0 (P32 r) 0 0 23 [.val (.ref 0), .val (.int v1), .val (.int v2), .val (.int v3), .unset, .unset] [.int c2] (Hb 0 s)
    refine WP.istore (L' := [.val (.ref 0), .val (.int v1), .val (.int v2), .val (.int v3), .val (.int c2), .unset]) d32_23 (leb rfl) rfl ?_
    refine WP.aloadN d32_25 rfl ?_
    refine WP.getfield (i := 0) (j := 5) d32_26 (hw _ m_19) rfl rfl rfl ?_
    refine WP.aloadN d32_29 rfl ?_
    refine WP.getfield (i := 0) (j := 17) d32_30 (hw _ m_44) rfl rfl rfl ?_
    refine WP.iload d32_33 rfl ?_
    obtain ⟨x3, hx3, h⟩ := Option.bind_eq_some_iff.mp h
    refine WP.iaload (i := 16) d32_35 rfl hx3 ?_
    obtain ⟨x4, hx4, h⟩ := Option.bind_eq_some_iff.mp h
    refine WP.iaload (i := 4) d32_36 rfl hx4 ?_
    refine WP.istore (L' := [.val (.ref 0), .val (.int v1), .val (.int v2), .val (.int v3), .val (.int c2), .val (.int x4)]) d32_37 (leb rfl) rfl ?_
    refine WP.iload d32_39 rfl ?_
    rcases ite_e h with ⟨hc5, h⟩ | ⟨hc5, h⟩
    ·
      refine WP.ifY (pc' := 73) d32_41 (XT.i0_lt_t hc5) (by decide) rfl ?_
      exact WP.weak (L' := [.val (.ref 0), .val (.int v1), .val (.int v2), .val (.int v3), .unset, .unset]) ⟨rfl, rfl, rfl, rfl, trivial⟩ (ok32_73 l Z a0 hw n0 _ hk12 n v1 v2 v3 s _ h)
    ·
      refine WP.ifN d32_41 (XT.i0_lt_f hc5) ?_
      refine WP.iload d32_44 rfl ?_
      refine WP.iconst (4 : Int32) d32_46 rfl ?_
      rcases ite_e h with ⟨hc6, h⟩ | ⟨hc6, h⟩
      ·
        refine WP.icmpN d32_47 (XT.ii_ge_f hc6) ?_
        refine WP.aloadN d32_50 rfl ?_
        refine WP.getfield (i := 0) (j := 12) d32_51 (hw _ m_34) rfl rfl rfl ?_
        refine WP.iload d32_54 rfl ?_
        refine WP.aloadN d32_56 rfl ?_
        refine WP.getfield (i := 0) (j := 12) d32_57 (hw _ m_34) rfl rfl rfl ?_
        refine WP.iload d32_60 rfl ?_
        obtain ⟨x7, hx7, h⟩ := Option.bind_eq_some_iff.mp h
        refine WP.laload (i := 11) d32_62 rfl hx7 ?_
        refine WP.aloadN d32_63 rfl ?_
        refine WP.getfield (i := 0) (j := 18) d32_64 (hw _ m_46) rfl rfl rfl ?_
        refine WP.iload d32_67 rfl ?_
        obtain ⟨x8, hx8, h⟩ := Option.bind_eq_some_iff.mp h
        refine WP.iaload (i := 17) d32_69 rfl hx8 ?_
        refine WP.i2l d32_70 ?_
        refine WP.ladd d32_71 ?_
        obtain ⟨s9, hs9, h⟩ := Option.bind_eq_some_iff.mp h
        obtain ⟨ys9, gs9, es9⟩ := wrB_e hs9
        refine WP.lastore (i := 11) (xs := gB s 2) (H' := (Hb 0 s9)) d32_72 rfl (leb rfl) gs9 (by subst es9; rfl) ?_
        exact WP.weak (L' := [.val (.ref 0), .val (.int v1), .val (.int v2), .val (.int v3), .unset, .unset]) ⟨rfl, rfl, rfl, rfl, trivial⟩ (ok32_73 l Z a0 hw n0 _ hk12 n v1 v2 v3 s9 _ h)
      ·
        refine WP.icmpY (pc' := 73) d32_47 (XT.ii_ge_t hc6) (by decide) rfl ?_
        exact WP.weak (L' := [.val (.ref 0), .val (.int v1), .val (.int v2), .val (.int v3), .unset, .unset]) ⟨rfl, rfl, rfl, rfl, trivial⟩ (ok32_73 l Z a0 hw n0 _ hk12 n v1 v2 v3 s _ h)
  ·
    refine WP.icmpY (pc' := 79) d32_14 (XT.ii_ge_t hc1) (by decide) rfl ?_
    refine WP.aloadN d32_79 rfl ?_
    obtain ⟨c10, hc10, h⟩ := Option.bind_eq_some_iff.mp h
    refine WP.callP (i := 0) (y := y34) (as := []) (S := []) d32_80 (hw _ m_205) (hw _ m_207) (hw _ m_3) (hw _ m_206) (hw _ m_208) (hw _ m_4) hy34 rfl (ok34 l Z a0 hw n s _ hc10) rfl (lenOf pd34 rfl) (leb rfl) (leb rfl) (leb rfl) (leb rfl) ?_
    rintro _ _ ⟨rfl, rfl⟩
    show W32 l Z n0 (P32 r) 0 0 83 [.val (.ref 0), .val (.int v1), .val (.int v2), .val (.int v3), .unset, .unset] [.int c10] (Hb 0 s)
    cases h
    exact WP.zreturn d32_83 rfl (leb rfl) (leb rfl) ⟨rfl, rfl⟩
def f_journalBalanced_12 : Nat → Int32 → Int32 → Int32 → St → Option (Int32 × St)
  | 0 => fun _ _ _ _ => none
  | n + 1 => g_journalBalanced_12 (f_journalBalanced_12 n) n
theorem ok32_12 (l : Launch) (Z : State) (a0 : Array Value) (hw : HW a0 Z) (n0 : Nat) : ∀ (n : Nat) (v1 : Int32) (v2 : Int32) (v3 : Int32) (s : St) (r : Int32 × St), f_journalBalanced_12 n v1 v2 v3 s = some r → W32 l Z n0 (P32 r) 0 0 12 [.val (.ref 0), .val (.int v1), .val (.int v2), .val (.int v3), .unset, .unset] [] (Hb 0 s)
  | 0, v1, v2, v3, s, r, h => nomatch (show none = some r from h)
  | n + 1, v1, v2, v3, s, r, h => okg32_12 l Z a0 hw n0 _ (ok32_12 l Z a0 hw n0 n) n v1 v2 v3 s r h
def f_journalBalanced (n : Nat) (p1 : Int32) (s : St) : Option (Int32 × St) :=
  (f_clearCurrencyTotals n s).bind fun c1 =>
  (f_stagedLines p1 c1).bind fun c2 =>
  f_journalBalanced_12 n p1 c2 (0 : Int32) c1
set_option maxRecDepth 65536 in
set_option maxHeartbeats 4000000 in
theorem ok32 (l : Launch) (Z : State) (a0 : Array Value) (hw : HW a0 Z) (n : Nat) (p1 : Int32) (s : St) (r : Int32 × St) (h : f_journalBalanced n p1 s = some r) : CS l Z CN lay y32 prog_1_method_22_code 6 (some FieldType.boolean) R32 0 [.ref 0, .int p1] (Hb 0 s) (P32 r) := by
  refine CS.of_wp pn_cls (leb rfl) fun n0 => ?_
  show W32 l Z n0 (P32 r) 0 0 0 [.val (.ref 0), .val (.int p1), .unset, .unset, .unset, .unset] [] (Hb 0 s)
  unfold f_journalBalanced at h
  refine WP.aloadN d32_0 rfl ?_
  obtain ⟨c1, hc1, h⟩ := Option.bind_eq_some_iff.mp h
  refine WP.callP (i := 0) (y := y33) (as := []) (S := []) d32_1 (hw _ m_201) (hw _ m_203) (hw _ m_3) (hw _ m_202) (hw _ m_204) (hw _ m_4) hy33 rfl (ok33 l Z a0 hw n s _ hc1) rfl (lenOf pd33 rfl) (leb rfl) (leb rfl) (leb rfl) (leb rfl) ?_
  rintro _ _ ⟨rfl, rfl⟩
  show W32 l Z n0 (P32 r) 0 0 4 [.val (.ref 0), .val (.int p1), .unset, .unset, .unset, .unset] [] (Hb 0 c1)
  refine WP.aloadN d32_4 rfl ?_
  refine WP.iloadN d32_5 rfl ?_
  obtain ⟨c2, hc2, h⟩ := Option.bind_eq_some_iff.mp h
  refine WP.callP (i := 0) (y := y31) (as := [.int p1]) (S := []) d32_6 (hw _ m_193) (hw _ m_195) (hw _ m_3) (hw _ m_194) (hw _ m_196) (hw _ m_4) hy31 rfl (ok31 l Z a0 hw p1 c1 _ hc2) rfl (lenOf pd31 rfl) (leb rfl) (leb rfl) (leb rfl) (leb rfl) ?_
  rintro _ _ ⟨rfl, rfl⟩
  show W32 l Z n0 (P32 r) 0 0 9 [.val (.ref 0), .val (.int p1), .unset, .unset, .unset, .unset] [.int c2] (Hb 0 c1)
  refine WP.istoreN (L' := [.val (.ref 0), .val (.int p1), .val (.int c2), .unset, .unset, .unset]) d32_9 (leb rfl) rfl ?_
  refine WP.iconst (0 : Int32) d32_10 rfl ?_
  refine WP.istoreN (L' := [.val (.ref 0), .val (.int p1), .val (.int c2), .val (.int (0 : Int32)), .unset, .unset]) d32_11 (leb rfl) rfl ?_
  exact WP.weak (L' := [.val (.ref 0), .val (.int p1), .val (.int c2), .val (.int (0 : Int32)), .unset, .unset]) ⟨rfl, rfl, rfl, rfl, trivial⟩ (ok32_12 l Z a0 hw n0 n p1 c2 (0 : Int32) c1 _ h)
theorem d37_0 : dc prog_1_method_52_code 0 (.iload_n 1) 1 := by decide +kernel
theorem d37_1 : dc prog_1_method_52_code 1 (.ifCond .lt 8) 3 := by decide +kernel
theorem d37_4 : dc prog_1_method_52_code 4 (.iload_n 1) 1 := by decide +kernel
theorem d37_5 : dc prog_1_method_52_code 5 (.iconst 4) 1 := by decide +kernel
theorem d37_6 : dc prog_1_method_52_code 6 (.if_icmp .lt 6) 3 := by decide +kernel
theorem d37_9 : dc prog_1_method_52_code 9 (.bipush 100) 2 := by decide +kernel
theorem d37_11 : dc prog_1_method_52_code 11 (.ireturn) 1 := by decide +kernel
theorem d37_12 : dc prog_1_method_52_code 12 (.aload_n 0) 1 := by decide +kernel
theorem d37_13 : dc prog_1_method_52_code 13 (.getfield 39) 3 := by decide +kernel
theorem d37_16 : dc prog_1_method_52_code 16 (.iload_n 1) 1 := by decide +kernel
theorem d37_17 : dc prog_1_method_52_code 17 (.iaload) 1 := by decide +kernel
theorem d37_18 : dc prog_1_method_52_code 18 (.ireturn) 1 := by decide +kernel
abbrev y37 : MethodName := ⟨"GeneralLedger", "rateOf", "(I)I"⟩
theorem hy37 : y37.cls ≠ "java/lang/invoke/MethodHandle" ∧ y37.cls ≠ "java/lang/invoke/VarHandle" := by decide
theorem pd37 : parseMethodDescriptor y37.desc = some ⟨[.int], some .int⟩ := by decide +kernel
abbrev R37 : Room := { frames := 0, cells := 0, slots := 0, locals := 0 }
abbrev P37 (s : St) (r : Int32) : Option Value → List OwnC → Prop := fun v H' => v = some (.int r) ∧ H' = (Hb 0 s)
abbrev W37 (l : Launch) (Z : State) (n0 : Nat) (Q : Option Value → List OwnC → Prop) (k n pc : Nat) (L : List Slot) (S : List Value) (H : List OwnC) : Prop := WP l Z CN lay "GeneralLedger" "rateOf" prog_1_method_52_code 2 (some FieldType.int) R37 n0 0 Q k n pc L S H
def f_rateOf_9 (s : St) : Option (Int32) :=
  some (100 : Int32)
set_option maxRecDepth 65536 in
set_option maxHeartbeats 4000000 in
theorem ok37_9 (l : Launch) (Z : State) (a0 : Array Value) (hw : HW a0 Z) (n0 : Nat) (s : St) (r : Int32) (h : f_rateOf_9 s = some r) : W37 l Z n0 (P37 s r) 0 0 9 [.unset, .unset] [] (Hb 0 s) := by
  unfold f_rateOf_9 at h
  refine WP.bipush (100 : Int32) d37_9 rfl ?_
  cases h
  exact WP.ireturn d37_11 rfl (leb rfl) (leb rfl) ⟨rfl, rfl⟩
def f_rateOf (p1 : Int32) (s : St) : Option (Int32) :=
  if p1 < 0 then
    f_rateOf_9 s
  else
    if p1 < (4 : Int32) then
      (rd (gA s 7) p1).bind fun x3 =>
      some x3
    else
      f_rateOf_9 s
set_option maxRecDepth 65536 in
set_option maxHeartbeats 4000000 in
theorem ok37 (l : Launch) (Z : State) (a0 : Array Value) (hw : HW a0 Z) (p1 : Int32) (s : St) (r : Int32) (h : f_rateOf p1 s = some r) : CS l Z CN lay y37 prog_1_method_52_code 2 (some FieldType.int) R37 0 [.ref 0, .int p1] (Hb 0 s) (P37 s r) := by
  refine CS.of_wp pn_cls (leb rfl) fun n0 => ?_
  show W37 l Z n0 (P37 s r) 0 0 0 [.val (.ref 0), .val (.int p1)] [] (Hb 0 s)
  unfold f_rateOf at h
  refine WP.iloadN d37_0 rfl ?_
  rcases ite_e h with ⟨hc1, h⟩ | ⟨hc1, h⟩
  ·
    refine WP.ifY (pc' := 9) d37_1 (XT.i0_lt_t hc1) (by decide) rfl ?_
    exact WP.weak (L' := [.unset, .unset]) trivial (ok37_9 l Z a0 hw n0 s _ h)
  ·
    refine WP.ifN d37_1 (XT.i0_lt_f hc1) ?_
    refine WP.iloadN d37_4 rfl ?_
    refine WP.iconst (4 : Int32) d37_5 rfl ?_
    rcases ite_e h with ⟨hc2, h⟩ | ⟨hc2, h⟩
    ·
      refine WP.icmpY (pc' := 12) d37_6 (XT.ii_lt_t hc2) (by decide) rfl ?_
      refine WP.aloadN d37_12 rfl ?_
      refine WP.getfield (i := 0) (j := 11) d37_13 (hw _ m_32) rfl rfl rfl ?_
      refine WP.iloadN d37_16 rfl ?_
      obtain ⟨x3, hx3, h⟩ := Option.bind_eq_some_iff.mp h
      refine WP.iaload (i := 10) d37_17 rfl hx3 ?_
      cases h
      exact WP.ireturn d37_18 rfl (leb rfl) (leb rfl) ⟨rfl, rfl⟩
    ·
      refine WP.icmpN d37_6 (XT.ii_lt_f hc2) ?_
      exact WP.weak (L' := [.unset, .unset]) trivial (ok37_9 l Z a0 hw n0 s _ h)
theorem d38_0 : dc prog_1_method_51_code 0 (.lload_n 1) 1 := by decide +kernel
theorem d38_1 : dc prog_1_method_51_code 1 (.iload_n 3) 1 := by decide +kernel
theorem d38_2 : dc prog_1_method_51_code 2 (.i2l) 1 := by decide +kernel
theorem d38_3 : dc prog_1_method_51_code 3 (.lmul) 1 := by decide +kernel
theorem d38_4 : dc prog_1_method_51_code 4 (.lstore 4) 2 := by decide +kernel
theorem d38_6 : dc prog_1_method_51_code 6 (.lload 4) 2 := by decide +kernel
theorem d38_8 : dc prog_1_method_51_code 8 (.lconst 0) 1 := by decide +kernel
theorem d38_9 : dc prog_1_method_51_code 9 (.lcmp) 1 := by decide +kernel
theorem d38_10 : dc prog_1_method_51_code 10 (.ifCond .lt 14) 3 := by decide +kernel
theorem d38_13 : dc prog_1_method_51_code 13 (.lload 4) 2 := by decide +kernel
theorem d38_15 : dc prog_1_method_51_code 15 (.ldc2_w 259) 3 := by decide +kernel
theorem d38_18 : dc prog_1_method_51_code 18 (.ladd) 1 := by decide +kernel
theorem d38_19 : dc prog_1_method_51_code 19 (.ldc2_w 261) 3 := by decide +kernel
theorem d38_22 : dc prog_1_method_51_code 22 (.ldiv) 1 := by decide +kernel
theorem d38_23 : dc prog_1_method_51_code 23 (.lreturn) 1 := by decide +kernel
theorem d38_24 : dc prog_1_method_51_code 24 (.lload 4) 2 := by decide +kernel
theorem d38_26 : dc prog_1_method_51_code 26 (.lneg) 1 := by decide +kernel
theorem d38_27 : dc prog_1_method_51_code 27 (.ldc2_w 259) 3 := by decide +kernel
theorem d38_30 : dc prog_1_method_51_code 30 (.ladd) 1 := by decide +kernel
theorem d38_31 : dc prog_1_method_51_code 31 (.ldc2_w 261) 3 := by decide +kernel
theorem d38_34 : dc prog_1_method_51_code 34 (.ldiv) 1 := by decide +kernel
theorem d38_35 : dc prog_1_method_51_code 35 (.lstore 6) 2 := by decide +kernel
theorem d38_37 : dc prog_1_method_51_code 37 (.lload 6) 2 := by decide +kernel
theorem d38_39 : dc prog_1_method_51_code 39 (.lneg) 1 := by decide +kernel
theorem d38_40 : dc prog_1_method_51_code 40 (.lreturn) 1 := by decide +kernel
abbrev y38 : MethodName := ⟨"GeneralLedger", "roundRate", "(JI)J"⟩
theorem hy38 : y38.cls ≠ "java/lang/invoke/MethodHandle" ∧ y38.cls ≠ "java/lang/invoke/VarHandle" := by decide
theorem pd38 : parseMethodDescriptor y38.desc = some ⟨[.long, .int], some .long⟩ := by decide +kernel
abbrev R38 : Room := { frames := 0, cells := 0, slots := 0, locals := 0 }
abbrev P38 (s : St) (r : Int64) : Option Value → List OwnC → Prop := fun v H' => v = some (.long r) ∧ H' = (Hb 0 s)
abbrev W38 (l : Launch) (Z : State) (n0 : Nat) (Q : Option Value → List OwnC → Prop) (k n pc : Nat) (L : List Slot) (S : List Value) (H : List OwnC) : Prop := WP l Z CN lay "GeneralLedger" "roundRate" prog_1_method_51_code 8 (some FieldType.long) R38 n0 0 Q k n pc L S H
def f_roundRate (p1 : Int64) (p2 : Int32) (s : St) : Option (Int64) :=
  lt (p1 * p2.toInt64) fun x1 =>
  if x1 < (0 : Int64) then
    lt (((-x1) + (50 : Int64)) / (100 : Int64)) fun x3 =>
    some (-x3)
  else
    some ((x1 + (50 : Int64)) / (100 : Int64))
set_option maxRecDepth 65536 in
set_option maxHeartbeats 4000000 in
theorem ok38 (l : Launch) (Z : State) (a0 : Array Value) (hw : HW a0 Z) (p1 : Int64) (p2 : Int32) (s : St) (r : Int64) (h : f_roundRate p1 p2 s = some r) : CS l Z CN lay y38 prog_1_method_51_code 8 (some FieldType.long) R38 0 [.ref 0, .long p1, .int p2] (Hb 0 s) (P38 s r) := by
  refine CS.of_wp pn_cls (leb rfl) fun n0 => ?_
  show W38 l Z n0 (P38 s r) 0 0 0 [.val (.ref 0), .val (.long p1), .second, .val (.int p2), .unset, .unset, .unset, .unset] [] (Hb 0 s)
  unfold f_roundRate at h
  refine WP.lloadN d38_0 rfl ?_
  refine WP.iloadN d38_1 rfl ?_
  refine WP.i2l d38_2 ?_
  refine WP.lmul d38_3 ?_
  obtain ⟨x1, ex1, h⟩ := lt_e h
  refine WP.lstore (L' := [.val (.ref 0), .val (.long p1), .second, .val (.int p2), .val (.long x1), .second, .unset, .unset]) d38_4 (leb rfl) (by subst ex1; rfl) ?_
  refine WP.lload d38_6 rfl ?_
  refine WP.lconst (0 : Int64) d38_8 rfl ?_
  refine WP.lcmp d38_9 ?_
  rcases ite_e h with ⟨hc2, h⟩ | ⟨hc2, h⟩
  ·
    refine WP.ifY (pc' := 24) d38_10 (XT.ll_lt_t hc2) (by decide) rfl ?_
    refine WP.lload d38_24 rfl ?_
    refine WP.lneg d38_26 ?_
    refine WP.ldc2 d38_27 (hw _ m_225) ?_
    refine WP.ladd d38_30 ?_
    refine WP.ldc2 d38_31 (hw _ m_226) ?_
    refine WP.ldiv d38_34 (by decide) ?_
    obtain ⟨x3, ex3, h⟩ := lt_e h
    refine WP.lstore (L' := [.val (.ref 0), .val (.long p1), .second, .val (.int p2), .val (.long x1), .second, .val (.long x3), .second]) d38_35 (leb rfl) (by subst ex3; rfl) ?_
    refine WP.lload d38_37 rfl ?_
    refine WP.lneg d38_39 ?_
    cases h
    exact WP.lreturn d38_40 rfl (leb rfl) (leb rfl) ⟨rfl, rfl⟩
  ·
    refine WP.ifN d38_10 (XT.ll_lt_f hc2) ?_
    refine WP.lload d38_13 rfl ?_
    refine WP.ldc2 d38_15 (hw _ m_225) ?_
    refine WP.ladd d38_18 ?_
    refine WP.ldc2 d38_19 (hw _ m_226) ?_
    refine WP.ldiv d38_22 (by decide) ?_
    cases h
    exact WP.lreturn d38_23 rfl (leb rfl) (leb rfl) ⟨rfl, rfl⟩
theorem d36_0 : dc prog_1_method_26_code 0 (.aload_n 0) 1 := by decide +kernel
theorem d36_1 : dc prog_1_method_26_code 1 (.iload_n 1) 1 := by decide +kernel
theorem d36_2 : dc prog_1_method_26_code 2 (.iload_n 2) 1 := by decide +kernel
theorem d36_3 : dc prog_1_method_26_code 3 (.invokevirtual 162) 3 := by decide +kernel
theorem d36_6 : dc prog_1_method_26_code 6 (.istore_n 3) 1 := by decide +kernel
theorem d36_7 : dc prog_1_method_26_code 7 (.aload_n 0) 1 := by decide +kernel
theorem d36_8 : dc prog_1_method_26_code 8 (.getfield 57) 3 := by decide +kernel
theorem d36_11 : dc prog_1_method_26_code 11 (.iload_n 3) 1 := by decide +kernel
theorem d36_12 : dc prog_1_method_26_code 12 (.iaload) 1 := by decide +kernel
theorem d36_13 : dc prog_1_method_26_code 13 (.istore 4) 2 := by decide +kernel
theorem d36_15 : dc prog_1_method_26_code 15 (.aload_n 0) 1 := by decide +kernel
theorem d36_16 : dc prog_1_method_26_code 16 (.aload_n 0) 1 := by decide +kernel
theorem d36_17 : dc prog_1_method_26_code 17 (.getfield 20) 3 := by decide +kernel
theorem d36_20 : dc prog_1_method_26_code 20 (.iload 4) 2 := by decide +kernel
theorem d36_22 : dc prog_1_method_26_code 22 (.iaload) 1 := by decide +kernel
theorem d36_23 : dc prog_1_method_26_code 23 (.invokevirtual 201) 3 := by decide +kernel
theorem d36_26 : dc prog_1_method_26_code 26 (.istore 5) 2 := by decide +kernel
theorem d36_28 : dc prog_1_method_26_code 28 (.aload_n 0) 1 := by decide +kernel
theorem d36_29 : dc prog_1_method_26_code 29 (.aload_n 0) 1 := by decide +kernel
theorem d36_30 : dc prog_1_method_26_code 30 (.getfield 60) 3 := by decide +kernel
theorem d36_33 : dc prog_1_method_26_code 33 (.iload_n 3) 1 := by decide +kernel
theorem d36_34 : dc prog_1_method_26_code 34 (.iaload) 1 := by decide +kernel
theorem d36_35 : dc prog_1_method_26_code 35 (.i2l) 1 := by decide +kernel
theorem d36_36 : dc prog_1_method_26_code 36 (.iload 5) 2 := by decide +kernel
theorem d36_38 : dc prog_1_method_26_code 38 (.invokevirtual 204) 3 := by decide +kernel
theorem d36_41 : dc prog_1_method_26_code 41 (.lreturn) 1 := by decide +kernel
abbrev y36 : MethodName := ⟨"GeneralLedger", "lineFunc", "(II)J"⟩
theorem hy36 : y36.cls ≠ "java/lang/invoke/MethodHandle" ∧ y36.cls ≠ "java/lang/invoke/VarHandle" := by decide
theorem pd36 : parseMethodDescriptor y36.desc = some ⟨[.int, .int], some .long⟩ := by decide +kernel
abbrev R36 : Room := { frames := 1, cells := 0, slots := 0, locals := 19 }
abbrev P36 (s : St) (r : Int64) : Option Value → List OwnC → Prop := fun v H' => v = some (.long r) ∧ H' = (Hb 0 s)
abbrev W36 (l : Launch) (Z : State) (n0 : Nat) (Q : Option Value → List OwnC → Prop) (k n pc : Nat) (L : List Slot) (S : List Value) (H : List OwnC) : Prop := WP l Z CN lay "GeneralLedger" "lineFunc" prog_1_method_26_code 6 (some FieldType.long) R36 n0 0 Q k n pc L S H
def f_lineFunc (p1 : Int32) (p2 : Int32) (s : St) : Option (Int64) :=
  (f_lineCell p1 p2 s).bind fun c1 =>
  (rd (gA s 12) c1).bind fun x2 =>
  (rd (gA s 3) x2).bind fun x3 =>
  (f_rateOf x3 s).bind fun c4 =>
  (rd (gA s 13) c1).bind fun x5 =>
  (f_roundRate x5.toInt64 c4 s).bind fun c6 =>
  some c6
set_option maxRecDepth 65536 in
set_option maxHeartbeats 4000000 in
theorem ok36 (l : Launch) (Z : State) (a0 : Array Value) (hw : HW a0 Z) (p1 : Int32) (p2 : Int32) (s : St) (r : Int64) (h : f_lineFunc p1 p2 s = some r) : CS l Z CN lay y36 prog_1_method_26_code 6 (some FieldType.long) R36 0 [.ref 0, .int p1, .int p2] (Hb 0 s) (P36 s r) := by
  refine CS.of_wp pn_cls (leb rfl) fun n0 => ?_
  show W36 l Z n0 (P36 s r) 0 0 0 [.val (.ref 0), .val (.int p1), .val (.int p2), .unset, .unset, .unset] [] (Hb 0 s)
  unfold f_lineFunc at h
  refine WP.aloadN d36_0 rfl ?_
  refine WP.iloadN d36_1 rfl ?_
  refine WP.iloadN d36_2 rfl ?_
  obtain ⟨c1, hc1, h⟩ := Option.bind_eq_some_iff.mp h
  refine WP.callP (i := 0) (y := y27) (as := [.int p1, .int p2]) (S := []) d36_3 (hw _ m_176) (hw _ m_178) (hw _ m_3) (hw _ m_177) (hw _ m_179) (hw _ m_4) hy27 rfl (ok27 l Z a0 hw p1 p2 s _ hc1) rfl (lenOf pd27 rfl) (leb rfl) (leb rfl) (leb rfl) (leb rfl) ?_
  rintro _ _ ⟨rfl, rfl⟩
  show W36 l Z n0 (P36 s r) 0 0 6 [.val (.ref 0), .val (.int p1), .val (.int p2), .unset, .unset, .unset] [.int c1] (Hb 0 s)
  refine WP.istoreN (L' := [.val (.ref 0), .val (.int p1), .val (.int p2), .val (.int c1), .unset, .unset]) d36_6 (leb rfl) rfl ?_
  refine WP.aloadN d36_7 rfl ?_
  refine WP.getfield (i := 0) (j := 17) d36_8 (hw _ m_44) rfl rfl rfl ?_
  refine WP.iloadN d36_11 rfl ?_
  obtain ⟨x2, hx2, h⟩ := Option.bind_eq_some_iff.mp h
  refine WP.iaload (i := 16) d36_12 rfl hx2 ?_
  refine WP.istore (L' := [.val (.ref 0), .val (.int p1), .val (.int p2), .val (.int c1), .val (.int x2), .unset]) d36_13 (leb rfl) rfl ?_
  refine WP.aloadN d36_15 rfl ?_
  refine WP.aloadN d36_16 rfl ?_
  refine WP.getfield (i := 0) (j := 5) d36_17 (hw _ m_19) rfl rfl rfl ?_
  refine WP.iload d36_20 rfl ?_
  obtain ⟨x3, hx3, h⟩ := Option.bind_eq_some_iff.mp h
  refine WP.iaload (i := 4) d36_22 rfl hx3 ?_
  obtain ⟨c4, hc4, h⟩ := Option.bind_eq_some_iff.mp h
  refine WP.callP (i := 0) (y := y37) (as := [.int x3]) (S := []) d36_23 (hw _ m_217) (hw _ m_219) (hw _ m_3) (hw _ m_218) (hw _ m_220) (hw _ m_4) hy37 rfl (ok37 l Z a0 hw x3 s _ hc4) rfl (lenOf pd37 rfl) (leb rfl) (leb rfl) (leb rfl) (leb rfl) ?_
  rintro _ _ ⟨rfl, rfl⟩
  show W36 l Z n0 (P36 s r) 0 0 26 [.val (.ref 0), .val (.int p1), .val (.int p2), .val (.int c1), .val (.int x2), .unset] [.int c4] (Hb 0 s)
  refine WP.istore (L' := [.val (.ref 0), .val (.int p1), .val (.int p2), .val (.int c1), .val (.int x2), .val (.int c4)]) d36_26 (leb rfl) rfl ?_
  refine WP.aloadN d36_28 rfl ?_
  refine WP.aloadN d36_29 rfl ?_
  refine WP.getfield (i := 0) (j := 18) d36_30 (hw _ m_46) rfl rfl rfl ?_
  refine WP.iloadN d36_33 rfl ?_
  obtain ⟨x5, hx5, h⟩ := Option.bind_eq_some_iff.mp h
  refine WP.iaload (i := 17) d36_34 rfl hx5 ?_
  refine WP.i2l d36_35 ?_
  refine WP.iload d36_36 rfl ?_
  obtain ⟨c6, hc6, h⟩ := Option.bind_eq_some_iff.mp h
  refine WP.callP (i := 0) (y := y38) (as := [.long x5.toInt64, .int c4]) (S := []) d36_38 (hw _ m_221) (hw _ m_223) (hw _ m_3) (hw _ m_222) (hw _ m_224) (hw _ m_4) hy38 rfl (ok38 l Z a0 hw x5.toInt64 c4 s _ hc6) rfl (lenOf pd38 rfl) (leb rfl) (leb rfl) (leb rfl) (leb rfl) ?_
  rintro _ _ ⟨rfl, rfl⟩
  show W36 l Z n0 (P36 s r) 0 0 41 [.val (.ref 0), .val (.int p1), .val (.int p2), .val (.int c1), .val (.int x2), .val (.int c4)] [.long c6] (Hb 0 s)
  cases h
  exact WP.lreturn d36_41 rfl (leb rfl) (leb rfl) ⟨rfl, rfl⟩
theorem d35_0 : dc prog_1_method_25_code 0 (.lconst 0) 1 := by decide +kernel
theorem d35_1 : dc prog_1_method_25_code 1 (.lstore_n 2) 1 := by decide +kernel
theorem d35_2 : dc prog_1_method_25_code 2 (.aload_n 0) 1 := by decide +kernel
theorem d35_3 : dc prog_1_method_25_code 3 (.iload_n 1) 1 := by decide +kernel
theorem d35_4 : dc prog_1_method_25_code 4 (.invokevirtual 187) 3 := by decide +kernel
theorem d35_7 : dc prog_1_method_25_code 7 (.istore 4) 2 := by decide +kernel
theorem d35_9 : dc prog_1_method_25_code 9 (.iconst 0) 1 := by decide +kernel
theorem d35_10 : dc prog_1_method_25_code 10 (.istore 5) 2 := by decide +kernel
theorem d35_12 : dc prog_1_method_25_code 12 (.iload 5) 2 := by decide +kernel
theorem d35_14 : dc prog_1_method_25_code 14 (.iload 4) 2 := by decide +kernel
theorem d35_16 : dc prog_1_method_25_code 16 (.if_icmp .ge 23) 3 := by decide +kernel
theorem d35_19 : dc prog_1_method_25_code 19 (.aload_n 0) 1 := by decide +kernel
theorem d35_20 : dc prog_1_method_25_code 20 (.iload_n 1) 1 := by decide +kernel
theorem d35_21 : dc prog_1_method_25_code 21 (.iload 5) 2 := by decide +kernel
theorem d35_23 : dc prog_1_method_25_code 23 (.invokevirtual 197) 3 := by decide +kernel
theorem d35_26 : dc prog_1_method_25_code 26 (.lstore 6) 2 := by decide +kernel
theorem d35_28 : dc prog_1_method_25_code 28 (.lload_n 2) 1 := by decide +kernel
theorem d35_29 : dc prog_1_method_25_code 29 (.lload 6) 2 := by decide +kernel
theorem d35_31 : dc prog_1_method_25_code 31 (.ladd) 1 := by decide +kernel
theorem d35_32 : dc prog_1_method_25_code 32 (.lstore_n 2) 1 := by decide +kernel
theorem d35_33 : dc prog_1_method_25_code 33 (.iinc 5 1) 3 := by decide +kernel
theorem d35_36 : dc prog_1_method_25_code 36 (.goto (-24)) 3 := by decide +kernel
theorem d35_39 : dc prog_1_method_25_code 39 (.lload_n 2) 1 := by decide +kernel
theorem d35_40 : dc prog_1_method_25_code 40 (.lreturn) 1 := by decide +kernel
abbrev y35 : MethodName := ⟨"GeneralLedger", "journalRounding", "(I)J"⟩
theorem hy35 : y35.cls ≠ "java/lang/invoke/MethodHandle" ∧ y35.cls ≠ "java/lang/invoke/VarHandle" := by decide
theorem pd35 : parseMethodDescriptor y35.desc = some ⟨[.int], some .long⟩ := by decide +kernel
abbrev R35 : Room := { frames := 2, cells := 0, slots := 0, locals := 36 }
abbrev P35 (s : St) (r : Int64) : Option Value → List OwnC → Prop := fun v H' => v = some (.long r) ∧ H' = (Hb 0 s)
abbrev W35 (l : Launch) (Z : State) (n0 : Nat) (Q : Option Value → List OwnC → Prop) (k n pc : Nat) (L : List Slot) (S : List Value) (H : List OwnC) : Prop := WP l Z CN lay "GeneralLedger" "journalRounding" prog_1_method_25_code 8 (some FieldType.long) R35 n0 0 Q k n pc L S H
def g_journalRounding_12 (k12 : Int32 → Int64 → Int32 → Int32 → St → Option (Int64)) (n : Nat) (v1 : Int32) (v2 : Int64) (v4 : Int32) (v5 : Int32) (s : St) : Option (Int64) :=
  if v5 < v4 then
    (f_lineFunc v1 v5 s).bind fun c2 =>
    lt (v2 + c2) fun x3 =>
    lt (v5 + (1 : Int32)) fun x4 =>
    k12 v1 x3 v4 x4 s
  else
    some v2
set_option maxRecDepth 65536 in
set_option maxHeartbeats 4000000 in
theorem okg35_12 (l : Launch) (Z : State) (a0 : Array Value) (hw : HW a0 Z) (n0 : Nat) (k12 : Int32 → Int64 → Int32 → Int32 → St → Option (Int64)) (hk12 : ∀ (v1 : Int32) (v2 : Int64) (v4 : Int32) (v5 : Int32) (s : St) (r : Int64), k12 v1 v2 v4 v5 s = some r → W35 l Z n0 (P35 s r) 0 0 12 [.val (.ref 0), .val (.int v1), .val (.long v2), .second, .val (.int v4), .val (.int v5), .unset, .unset] [] (Hb 0 s)) (n : Nat) (v1 : Int32) (v2 : Int64) (v4 : Int32) (v5 : Int32) (s : St) (r : Int64) (h : g_journalRounding_12 k12 n v1 v2 v4 v5 s = some r) : W35 l Z n0 (P35 s r) 0 0 12 [.val (.ref 0), .val (.int v1), .val (.long v2), .second, .val (.int v4), .val (.int v5), .unset, .unset] [] (Hb 0 s) := by
  unfold g_journalRounding_12 at h
  refine WP.iload d35_12 rfl ?_
  refine WP.iload d35_14 rfl ?_
  rcases ite_e h with ⟨hc1, h⟩ | ⟨hc1, h⟩
  ·
    refine WP.icmpN d35_16 (XT.ii_ge_f hc1) ?_
    refine WP.aloadN d35_19 rfl ?_
    refine WP.iloadN d35_20 rfl ?_
    refine WP.iload d35_21 rfl ?_
    obtain ⟨c2, hc2, h⟩ := Option.bind_eq_some_iff.mp h
    refine WP.callP (i := 0) (y := y36) (as := [.int v1, .int v5]) (S := []) d35_23 (hw _ m_213) (hw _ m_215) (hw _ m_3) (hw _ m_214) (hw _ m_216) (hw _ m_4) hy36 rfl (ok36 l Z a0 hw v1 v5 s _ hc2) rfl (lenOf pd36 rfl) (leb rfl) (leb rfl) (leb rfl) (leb rfl) ?_
    rintro _ _ ⟨rfl, rfl⟩
    show W35 l Z n0 (P35 s r) 0 0 26 [.val (.ref 0), .val (.int v1), .val (.long v2), .second, .val (.int v4), .val (.int v5), .unset, .unset] [.long c2] (Hb 0 s)
    refine WP.lstore (L' := [.val (.ref 0), .val (.int v1), .val (.long v2), .second, .val (.int v4), .val (.int v5), .val (.long c2), .second]) d35_26 (leb rfl) rfl ?_
    refine WP.lloadN d35_28 rfl ?_
    refine WP.lload d35_29 rfl ?_
    refine WP.ladd d35_31 ?_
    obtain ⟨x3, ex3, h⟩ := lt_e h
    refine WP.lstoreN (L' := [.val (.ref 0), .val (.int v1), .val (.long x3), .second, .val (.int v4), .val (.int v5), .val (.long c2), .second]) d35_32 (leb rfl) (by subst ex3; rfl) ?_
    obtain ⟨x4, ex4, h⟩ := lt_e h
    refine WP.iinc (L' := [.val (.ref 0), .val (.int v1), .val (.long x3), .second, .val (.int v4), .val (.int x4), .val (.long c2), .second]) (1 : Int32) d35_33 rfl rfl (by subst ex4; rfl) ?_
    refine WP.goto (pc' := 12) d35_36 (by decide) rfl ?_
    exact WP.weak (L' := [.val (.ref 0), .val (.int v1), .val (.long x3), .second, .val (.int v4), .val (.int x4), .unset, .unset]) ⟨rfl, rfl, rfl, rfl, rfl, rfl, trivial⟩ (hk12 v1 x3 v4 x4 s _ h)
  ·
    refine WP.icmpY (pc' := 39) d35_16 (XT.ii_ge_t hc1) (by decide) rfl ?_
    refine WP.lloadN d35_39 rfl ?_
    cases h
    exact WP.lreturn d35_40 rfl (leb rfl) (leb rfl) ⟨rfl, rfl⟩
def f_journalRounding_12 : Nat → Int32 → Int64 → Int32 → Int32 → St → Option (Int64)
  | 0 => fun _ _ _ _ _ => none
  | n + 1 => g_journalRounding_12 (f_journalRounding_12 n) n
theorem ok35_12 (l : Launch) (Z : State) (a0 : Array Value) (hw : HW a0 Z) (n0 : Nat) : ∀ (n : Nat) (v1 : Int32) (v2 : Int64) (v4 : Int32) (v5 : Int32) (s : St) (r : Int64), f_journalRounding_12 n v1 v2 v4 v5 s = some r → W35 l Z n0 (P35 s r) 0 0 12 [.val (.ref 0), .val (.int v1), .val (.long v2), .second, .val (.int v4), .val (.int v5), .unset, .unset] [] (Hb 0 s)
  | 0, v1, v2, v4, v5, s, r, h => nomatch (show none = some r from h)
  | n + 1, v1, v2, v4, v5, s, r, h => okg35_12 l Z a0 hw n0 _ (ok35_12 l Z a0 hw n0 n) n v1 v2 v4 v5 s r h
def f_journalRounding (n : Nat) (p1 : Int32) (s : St) : Option (Int64) :=
  (f_stagedLines p1 s).bind fun c1 =>
  f_journalRounding_12 n p1 (0 : Int64) c1 (0 : Int32) s
set_option maxRecDepth 65536 in
set_option maxHeartbeats 4000000 in
theorem ok35 (l : Launch) (Z : State) (a0 : Array Value) (hw : HW a0 Z) (n : Nat) (p1 : Int32) (s : St) (r : Int64) (h : f_journalRounding n p1 s = some r) : CS l Z CN lay y35 prog_1_method_25_code 8 (some FieldType.long) R35 0 [.ref 0, .int p1] (Hb 0 s) (P35 s r) := by
  refine CS.of_wp pn_cls (leb rfl) fun n0 => ?_
  show W35 l Z n0 (P35 s r) 0 0 0 [.val (.ref 0), .val (.int p1), .unset, .unset, .unset, .unset, .unset, .unset] [] (Hb 0 s)
  unfold f_journalRounding at h
  refine WP.lconst (0 : Int64) d35_0 rfl ?_
  refine WP.lstoreN (L' := [.val (.ref 0), .val (.int p1), .val (.long (0 : Int64)), .second, .unset, .unset, .unset, .unset]) d35_1 (leb rfl) rfl ?_
  refine WP.aloadN d35_2 rfl ?_
  refine WP.iloadN d35_3 rfl ?_
  obtain ⟨c1, hc1, h⟩ := Option.bind_eq_some_iff.mp h
  refine WP.callP (i := 0) (y := y31) (as := [.int p1]) (S := []) d35_4 (hw _ m_193) (hw _ m_195) (hw _ m_3) (hw _ m_194) (hw _ m_196) (hw _ m_4) hy31 rfl (ok31 l Z a0 hw p1 s _ hc1) rfl (lenOf pd31 rfl) (leb rfl) (leb rfl) (leb rfl) (leb rfl) ?_
  rintro _ _ ⟨rfl, rfl⟩
  show W35 l Z n0 (P35 s r) 0 0 7 [.val (.ref 0), .val (.int p1), .val (.long (0 : Int64)), .second, .unset, .unset, .unset, .unset] [.int c1] (Hb 0 s)
  refine WP.istore (L' := [.val (.ref 0), .val (.int p1), .val (.long (0 : Int64)), .second, .val (.int c1), .unset, .unset, .unset]) d35_7 (leb rfl) rfl ?_
  refine WP.iconst (0 : Int32) d35_9 rfl ?_
  refine WP.istore (L' := [.val (.ref 0), .val (.int p1), .val (.long (0 : Int64)), .second, .val (.int c1), .val (.int (0 : Int32)), .unset, .unset]) d35_10 (leb rfl) rfl ?_
  exact WP.weak (L' := [.val (.ref 0), .val (.int p1), .val (.long (0 : Int64)), .second, .val (.int c1), .val (.int (0 : Int32)), .unset, .unset]) ⟨rfl, rfl, rfl, rfl, rfl, rfl, trivial⟩ (ok35_12 l Z a0 hw n0 n p1 (0 : Int64) c1 (0 : Int32) s _ h)
theorem d29_0 : dc prog_1_method_19_code 0 (.aload_n 0) 1 := by decide +kernel
theorem d29_1 : dc prog_1_method_19_code 1 (.iload_n 1) 1 := by decide +kernel
theorem d29_2 : dc prog_1_method_19_code 2 (.invokevirtual 149) 3 := by decide +kernel
theorem d29_5 : dc prog_1_method_19_code 5 (.ifCond .ne 6) 3 := by decide +kernel
theorem d29_8 : dc prog_1_method_19_code 8 (.bipush 7) 2 := by decide +kernel
theorem d29_10 : dc prog_1_method_19_code 10 (.ireturn) 1 := by decide +kernel
theorem d29_11 : dc prog_1_method_19_code 11 (.aload_n 0) 1 := by decide +kernel
theorem d29_12 : dc prog_1_method_19_code 12 (.getfield 45) 3 := by decide +kernel
theorem d29_15 : dc prog_1_method_19_code 15 (.iload_n 1) 1 := by decide +kernel
theorem d29_16 : dc prog_1_method_19_code 16 (.baload) 1 := by decide +kernel
theorem d29_17 : dc prog_1_method_19_code 17 (.ifCond .ne 6) 3 := by decide +kernel
theorem d29_20 : dc prog_1_method_19_code 20 (.bipush 9) 2 := by decide +kernel
theorem d29_22 : dc prog_1_method_19_code 22 (.ireturn) 1 := by decide +kernel
theorem d29_23 : dc prog_1_method_19_code 23 (.aload_n 0) 1 := by decide +kernel
theorem d29_24 : dc prog_1_method_19_code 24 (.getfield 48) 3 := by decide +kernel
theorem d29_27 : dc prog_1_method_19_code 27 (.iload_n 1) 1 := by decide +kernel
theorem d29_28 : dc prog_1_method_19_code 28 (.iaload) 1 := by decide +kernel
theorem d29_29 : dc prog_1_method_19_code 29 (.aload_n 0) 1 := by decide +kernel
theorem d29_30 : dc prog_1_method_19_code 30 (.getfield 89) 3 := by decide +kernel
theorem d29_33 : dc prog_1_method_19_code 33 (.if_icmp .ge 6) 3 := by decide +kernel
theorem d29_36 : dc prog_1_method_19_code 36 (.bipush 6) 2 := by decide +kernel
theorem d29_38 : dc prog_1_method_19_code 38 (.ireturn) 1 := by decide +kernel
theorem d29_39 : dc prog_1_method_19_code 39 (.aload_n 0) 1 := by decide +kernel
theorem d29_40 : dc prog_1_method_19_code 40 (.getfield 54) 3 := by decide +kernel
theorem d29_43 : dc prog_1_method_19_code 43 (.iload_n 1) 1 := by decide +kernel
theorem d29_44 : dc prog_1_method_19_code 44 (.iaload) 1 := by decide +kernel
theorem d29_45 : dc prog_1_method_19_code 45 (.ifCond .ne 6) 3 := by decide +kernel
theorem d29_48 : dc prog_1_method_19_code 48 (.bipush 13) 2 := by decide +kernel
theorem d29_50 : dc prog_1_method_19_code 50 (.ireturn) 1 := by decide +kernel
theorem d29_51 : dc prog_1_method_19_code 51 (.aload_n 0) 1 := by decide +kernel
theorem d29_52 : dc prog_1_method_19_code 52 (.iload_n 1) 1 := by decide +kernel
theorem d29_53 : dc prog_1_method_19_code 53 (.invokevirtual 181) 3 := by decide +kernel
theorem d29_56 : dc prog_1_method_19_code 56 (.ifCond .eq 6) 3 := by decide +kernel
theorem d29_59 : dc prog_1_method_19_code 59 (.bipush 12) 2 := by decide +kernel
theorem d29_61 : dc prog_1_method_19_code 61 (.ireturn) 1 := by decide +kernel
theorem d29_62 : dc prog_1_method_19_code 62 (.aload_n 0) 1 := by decide +kernel
theorem d29_63 : dc prog_1_method_19_code 63 (.iload_n 1) 1 := by decide +kernel
theorem d29_64 : dc prog_1_method_19_code 64 (.invokevirtual 184) 3 := by decide +kernel
theorem d29_67 : dc prog_1_method_19_code 67 (.ifCond .ne 6) 3 := by decide +kernel
theorem d29_70 : dc prog_1_method_19_code 70 (.bipush 13) 2 := by decide +kernel
theorem d29_72 : dc prog_1_method_19_code 72 (.ireturn) 1 := by decide +kernel
theorem d29_73 : dc prog_1_method_19_code 73 (.aload_n 0) 1 := by decide +kernel
theorem d29_74 : dc prog_1_method_19_code 74 (.iload_n 1) 1 := by decide +kernel
theorem d29_75 : dc prog_1_method_19_code 75 (.invokevirtual 169) 3 := by decide +kernel
theorem d29_78 : dc prog_1_method_19_code 78 (.lstore_n 2) 1 := by decide +kernel
theorem d29_79 : dc prog_1_method_19_code 79 (.lload_n 2) 1 := by decide +kernel
theorem d29_80 : dc prog_1_method_19_code 80 (.lconst 0) 1 := by decide +kernel
theorem d29_81 : dc prog_1_method_19_code 81 (.lcmp) 1 := by decide +kernel
theorem d29_82 : dc prog_1_method_19_code 82 (.ifCond .eq 13) 3 := by decide +kernel
theorem d29_85 : dc prog_1_method_19_code 85 (.aload_n 0) 1 := by decide +kernel
theorem d29_86 : dc prog_1_method_19_code 86 (.getfield 83) 3 := by decide +kernel
theorem d29_89 : dc prog_1_method_19_code 89 (.ifCond .ge 6) 3 := by decide +kernel
theorem d29_92 : dc prog_1_method_19_code 92 (.bipush 14) 2 := by decide +kernel
theorem d29_94 : dc prog_1_method_19_code 94 (.ireturn) 1 := by decide +kernel
theorem d29_95 : dc prog_1_method_19_code 95 (.iconst 0) 1 := by decide +kernel
theorem d29_96 : dc prog_1_method_19_code 96 (.ireturn) 1 := by decide +kernel
abbrev y29 : MethodName := ⟨"GeneralLedger", "postRefusal", "(I)I"⟩
theorem hy29 : y29.cls ≠ "java/lang/invoke/MethodHandle" ∧ y29.cls ≠ "java/lang/invoke/VarHandle" := by decide
theorem pd29 : parseMethodDescriptor y29.desc = some ⟨[.int], some .int⟩ := by decide +kernel
abbrev R29 : Room := { frames := 3, cells := 0, slots := 0, locals := 55 }
abbrev P29 (r : Int32 × St) : Option Value → List OwnC → Prop := fun v H' => v = some (.int r.1) ∧ H' = (Hb 0 r.2)
abbrev W29 (l : Launch) (Z : State) (n0 : Nat) (Q : Option Value → List OwnC → Prop) (k n pc : Nat) (L : List Slot) (S : List Value) (H : List OwnC) : Prop := WP l Z CN lay "GeneralLedger" "postRefusal" prog_1_method_19_code 4 (some FieldType.int) R29 n0 0 Q k n pc L S H
def f_postRefusal_95 (n : Nat) (s : St) : Option (Int32 × St) :=
  some ((0 : Int32), s)
set_option maxRecDepth 65536 in
set_option maxHeartbeats 4000000 in
theorem ok29_95 (l : Launch) (Z : State) (a0 : Array Value) (hw : HW a0 Z) (n0 : Nat) (n : Nat) (s : St) (r : Int32 × St) (h : f_postRefusal_95 n s = some r) : W29 l Z n0 (P29 r) 0 0 95 [.unset, .unset, .unset, .unset] [] (Hb 0 s) := by
  unfold f_postRefusal_95 at h
  refine WP.iconst (0 : Int32) d29_95 rfl ?_
  cases h
  exact WP.ireturn d29_96 rfl (leb rfl) (leb rfl) ⟨rfl, rfl⟩
def f_postRefusal (n : Nat) (p1 : Int32) (s : St) : Option (Int32 × St) :=
  (f_isSlot p1 s).bind fun c1 =>
  if c1 = 0 then
    some ((7 : Int32), s)
  else
    (rd (gA s 8) p1).bind fun x3 =>
    if x3 = 0 then
      some ((9 : Int32), s)
    else
      (rd (gA s 9) p1).bind fun x5 =>
      if x5 < (gI s 2) then
        some ((6 : Int32), s)
      else
        (rd (gA s 11) p1).bind fun x7 =>
        if x7 = 0 then
          some ((13 : Int32), s)
        else
          (f_journalHasParent n p1 s).bind fun c9 =>
          if c9 = 0 then
            (f_journalBalanced n p1 s).bind fun c11 =>
            if c11.1 = 0 then
              some ((13 : Int32), c11.2)
            else
              (f_journalRounding n p1 c11.2).bind fun c13 =>
              if c13 = (0 : Int64) then
                f_postRefusal_95 n c11.2
              else
                if (gI c11.2 3) < 0 then
                  some ((14 : Int32), c11.2)
                else
                  f_postRefusal_95 n c11.2
          else
            some ((12 : Int32), s)
set_option maxRecDepth 65536 in
set_option maxHeartbeats 4000000 in
theorem ok29 (l : Launch) (Z : State) (a0 : Array Value) (hw : HW a0 Z) (n : Nat) (p1 : Int32) (s : St) (r : Int32 × St) (h : f_postRefusal n p1 s = some r) : CS l Z CN lay y29 prog_1_method_19_code 4 (some FieldType.int) R29 0 [.ref 0, .int p1] (Hb 0 s) (P29 r) := by
  refine CS.of_wp pn_cls (leb rfl) fun n0 => ?_
  show W29 l Z n0 (P29 r) 0 0 0 [.val (.ref 0), .val (.int p1), .unset, .unset] [] (Hb 0 s)
  unfold f_postRefusal at h
  refine WP.aloadN d29_0 rfl ?_
  refine WP.iloadN d29_1 rfl ?_
  obtain ⟨c1, hc1, h⟩ := Option.bind_eq_some_iff.mp h
  refine WP.callP (i := 0) (y := y22) (as := [.int p1]) (S := []) d29_2 (hw _ m_153) (hw _ m_155) (hw _ m_3) (hw _ m_154) (hw _ m_156) (hw _ m_4) hy22 rfl (ok22 l Z a0 hw p1 s _ hc1) rfl (lenOf pd22 rfl) (leb rfl) (leb rfl) (leb rfl) (leb rfl) ?_
  rintro _ _ ⟨rfl, rfl⟩
  show W29 l Z n0 (P29 r) 0 0 5 [.val (.ref 0), .val (.int p1), .unset, .unset] [.int c1] (Hb 0 s)
  rcases ite_e h with ⟨hc2, h⟩ | ⟨hc2, h⟩
  ·
    refine WP.ifN d29_5 (XT.i0_ne_f hc2) ?_
    refine WP.bipush (7 : Int32) d29_8 rfl ?_
    cases h
    exact WP.ireturn d29_10 rfl (leb rfl) (leb rfl) ⟨rfl, rfl⟩
  ·
    refine WP.ifY (pc' := 11) d29_5 (XT.i0_ne_t hc2) (by decide) rfl ?_
    refine WP.aloadN d29_11 rfl ?_
    refine WP.getfield (i := 0) (j := 13) d29_12 (hw _ m_36) rfl rfl rfl ?_
    refine WP.iloadN d29_15 rfl ?_
    obtain ⟨x3, hx3, h⟩ := Option.bind_eq_some_iff.mp h
    refine WP.baload (i := 12) d29_16 rfl hx3 ?_
    rcases ite_e h with ⟨hc4, h⟩ | ⟨hc4, h⟩
    ·
      refine WP.ifN d29_17 (XT.i0_ne_f hc4) ?_
      refine WP.bipush (9 : Int32) d29_20 rfl ?_
      cases h
      exact WP.ireturn d29_22 rfl (leb rfl) (leb rfl) ⟨rfl, rfl⟩
    ·
      refine WP.ifY (pc' := 23) d29_17 (XT.i0_ne_t hc4) (by decide) rfl ?_
      refine WP.aloadN d29_23 rfl ?_
      refine WP.getfield (i := 0) (j := 14) d29_24 (hw _ m_38) rfl rfl rfl ?_
      refine WP.iloadN d29_27 rfl ?_
      obtain ⟨x5, hx5, h⟩ := Option.bind_eq_some_iff.mp h
      refine WP.iaload (i := 13) d29_28 rfl hx5 ?_
      refine WP.aloadN d29_29 rfl ?_
      refine WP.getfield (i := 0) (j := 19) d29_30 (hw _ m_76) rfl rfl rfl ?_
      rcases ite_e h with ⟨hc6, h⟩ | ⟨hc6, h⟩
      ·
        refine WP.icmpN d29_33 (XT.ii_ge_f hc6) ?_
        refine WP.bipush (6 : Int32) d29_36 rfl ?_
        cases h
        exact WP.ireturn d29_38 rfl (leb rfl) (leb rfl) ⟨rfl, rfl⟩
      ·
        refine WP.icmpY (pc' := 39) d29_33 (XT.ii_ge_t hc6) (by decide) rfl ?_
        refine WP.aloadN d29_39 rfl ?_
        refine WP.getfield (i := 0) (j := 16) d29_40 (hw _ m_42) rfl rfl rfl ?_
        refine WP.iloadN d29_43 rfl ?_
        obtain ⟨x7, hx7, h⟩ := Option.bind_eq_some_iff.mp h
        refine WP.iaload (i := 15) d29_44 rfl hx7 ?_
        rcases ite_e h with ⟨hc8, h⟩ | ⟨hc8, h⟩
        ·
          refine WP.ifN d29_45 (XT.i0_ne_f hc8) ?_
          refine WP.bipush (13 : Int32) d29_48 rfl ?_
          cases h
          exact WP.ireturn d29_50 rfl (leb rfl) (leb rfl) ⟨rfl, rfl⟩
        ·
          refine WP.ifY (pc' := 51) d29_45 (XT.i0_ne_t hc8) (by decide) rfl ?_
          refine WP.aloadN d29_51 rfl ?_
          refine WP.iloadN d29_52 rfl ?_
          obtain ⟨c9, hc9, h⟩ := Option.bind_eq_some_iff.mp h
          refine WP.callP (i := 0) (y := y30) (as := [.int p1]) (S := []) d29_53 (hw _ m_189) (hw _ m_191) (hw _ m_3) (hw _ m_190) (hw _ m_192) (hw _ m_4) hy30 rfl (ok30 l Z a0 hw n p1 s _ hc9) rfl (lenOf pd30 rfl) (leb rfl) (leb rfl) (leb rfl) (leb rfl) ?_
          rintro _ _ ⟨rfl, rfl⟩
          show W29 l Z n0 (P29 r) 0 0 56 [.val (.ref 0), .val (.int p1), .unset, .unset] [.int c9] (Hb 0 s)
          rcases ite_e h with ⟨hc10, h⟩ | ⟨hc10, h⟩
          ·
            refine WP.ifY (pc' := 62) d29_56 (XT.i0_eq_t hc10) (by decide) rfl ?_
            refine WP.aloadN d29_62 rfl ?_
            refine WP.iloadN d29_63 rfl ?_
            obtain ⟨c11, hc11, h⟩ := Option.bind_eq_some_iff.mp h
            refine WP.callP (i := 0) (y := y32) (as := [.int p1]) (S := []) d29_64 (hw _ m_197) (hw _ m_199) (hw _ m_3) (hw _ m_198) (hw _ m_200) (hw _ m_4) hy32 rfl (ok32 l Z a0 hw n p1 s _ hc11) rfl (lenOf pd32 rfl) (leb rfl) (leb rfl) (leb rfl) (leb rfl) ?_
            rintro _ _ ⟨rfl, rfl⟩
            show W29 l Z n0 (P29 r) 0 0 67 [.val (.ref 0), .val (.int p1), .unset, .unset] [.int c11.1] (Hb 0 c11.2)
            rcases ite_e h with ⟨hc12, h⟩ | ⟨hc12, h⟩
            ·
              refine WP.ifN d29_67 (XT.i0_ne_f hc12) ?_
              refine WP.bipush (13 : Int32) d29_70 rfl ?_
              cases h
              exact WP.ireturn d29_72 rfl (leb rfl) (leb rfl) ⟨rfl, rfl⟩
            ·
              refine WP.ifY (pc' := 73) d29_67 (XT.i0_ne_t hc12) (by decide) rfl ?_
              refine WP.aloadN d29_73 rfl ?_
              refine WP.iloadN d29_74 rfl ?_
              obtain ⟨c13, hc13, h⟩ := Option.bind_eq_some_iff.mp h
              refine WP.callP (i := 0) (y := y35) (as := [.int p1]) (S := []) d29_75 (hw _ m_209) (hw _ m_211) (hw _ m_3) (hw _ m_210) (hw _ m_212) (hw _ m_4) hy35 rfl (ok35 l Z a0 hw n p1 c11.2 _ hc13) rfl (lenOf pd35 rfl) (leb rfl) (leb rfl) (leb rfl) (leb rfl) ?_
              rintro _ _ ⟨rfl, rfl⟩
              show W29 l Z n0 (P29 r) 0 0 78 [.val (.ref 0), .val (.int p1), .unset, .unset] [.long c13] (Hb 0 c11.2)
              refine WP.lstoreN (L' := [.val (.ref 0), .val (.int p1), .val (.long c13), .second]) d29_78 (leb rfl) rfl ?_
              refine WP.lloadN d29_79 rfl ?_
              refine WP.lconst (0 : Int64) d29_80 rfl ?_
              refine WP.lcmp d29_81 ?_
              rcases ite_e h with ⟨hc14, h⟩ | ⟨hc14, h⟩
              ·
                refine WP.ifY (pc' := 95) d29_82 (XT.ll_eq_t hc14) (by decide) rfl ?_
                exact WP.weak (L' := [.unset, .unset, .unset, .unset]) trivial (ok29_95 l Z a0 hw n0 n c11.2 _ h)
              ·
                refine WP.ifN d29_82 (XT.ll_eq_f hc14) ?_
                refine WP.aloadN d29_85 rfl ?_
                refine WP.getfield (i := 0) (j := 23) d29_86 (hw _ m_72) rfl rfl rfl ?_
                rcases ite_e h with ⟨hc15, h⟩ | ⟨hc15, h⟩
                ·
                  refine WP.ifN d29_89 (XT.i0_ge_f hc15) ?_
                  refine WP.bipush (14 : Int32) d29_92 rfl ?_
                  cases h
                  exact WP.ireturn d29_94 rfl (leb rfl) (leb rfl) ⟨rfl, rfl⟩
                ·
                  refine WP.ifY (pc' := 95) d29_89 (XT.i0_ge_t hc15) (by decide) rfl ?_
                  exact WP.weak (L' := [.unset, .unset, .unset, .unset]) trivial (ok29_95 l Z a0 hw n0 n c11.2 _ h)
          ·
            refine WP.ifN d29_56 (XT.i0_eq_f hc10) ?_
            refine WP.bipush (12 : Int32) d29_59 rfl ?_
            cases h
            exact WP.ireturn d29_61 rfl (leb rfl) (leb rfl) ⟨rfl, rfl⟩
theorem d40_0 : dc prog_1_method_48_code 0 (.aload_n 0) 1 := by decide +kernel
theorem d40_1 : dc prog_1_method_48_code 1 (.iload_n 1) 1 := by decide +kernel
theorem d40_2 : dc prog_1_method_48_code 2 (.invokevirtual 106) 3 := by decide +kernel
theorem d40_5 : dc prog_1_method_48_code 5 (.ifCond .eq 12) 3 := by decide +kernel
theorem d40_8 : dc prog_1_method_48_code 8 (.aload_n 0) 1 := by decide +kernel
theorem d40_9 : dc prog_1_method_48_code 9 (.iload 6) 2 := by decide +kernel
theorem d40_11 : dc prog_1_method_48_code 11 (.invokevirtual 152) 3 := by decide +kernel
theorem d40_14 : dc prog_1_method_48_code 14 (.ifCond .ne 4) 3 := by decide +kernel
theorem d40_17 : dc prog_1_method_48_code 17 (.return_) 1 := by decide +kernel
theorem d40_18 : dc prog_1_method_48_code 18 (.aload_n 0) 1 := by decide +kernel
theorem d40_19 : dc prog_1_method_48_code 19 (.iload_n 1) 1 := by decide +kernel
theorem d40_20 : dc prog_1_method_48_code 20 (.iload 6) 2 := by decide +kernel
theorem d40_22 : dc prog_1_method_48_code 22 (.invokevirtual 132) 3 := by decide +kernel
theorem d40_25 : dc prog_1_method_48_code 25 (.istore 7) 2 := by decide +kernel
theorem d40_27 : dc prog_1_method_48_code 27 (.aload_n 0) 1 := by decide +kernel
theorem d40_28 : dc prog_1_method_48_code 28 (.getfield 36) 3 := by decide +kernel
theorem d40_31 : dc prog_1_method_48_code 31 (.iload 7) 2 := by decide +kernel
theorem d40_33 : dc prog_1_method_48_code 33 (.aload_n 0) 1 := by decide +kernel
theorem d40_34 : dc prog_1_method_48_code 34 (.getfield 36) 3 := by decide +kernel
theorem d40_37 : dc prog_1_method_48_code 37 (.iload 7) 2 := by decide +kernel
theorem d40_39 : dc prog_1_method_48_code 39 (.laload) 1 := by decide +kernel
theorem d40_40 : dc prog_1_method_48_code 40 (.lload_n 2) 1 := by decide +kernel
theorem d40_41 : dc prog_1_method_48_code 41 (.ladd) 1 := by decide +kernel
theorem d40_42 : dc prog_1_method_48_code 42 (.lastore) 1 := by decide +kernel
theorem d40_43 : dc prog_1_method_48_code 43 (.aload_n 0) 1 := by decide +kernel
theorem d40_44 : dc prog_1_method_48_code 44 (.getfield 32) 3 := by decide +kernel
theorem d40_47 : dc prog_1_method_48_code 47 (.iload 7) 2 := by decide +kernel
theorem d40_49 : dc prog_1_method_48_code 49 (.aload_n 0) 1 := by decide +kernel
theorem d40_50 : dc prog_1_method_48_code 50 (.getfield 32) 3 := by decide +kernel
theorem d40_53 : dc prog_1_method_48_code 53 (.iload 7) 2 := by decide +kernel
theorem d40_55 : dc prog_1_method_48_code 55 (.laload) 1 := by decide +kernel
theorem d40_56 : dc prog_1_method_48_code 56 (.lload 4) 2 := by decide +kernel
theorem d40_58 : dc prog_1_method_48_code 58 (.ladd) 1 := by decide +kernel
theorem d40_59 : dc prog_1_method_48_code 59 (.lastore) 1 := by decide +kernel
theorem d40_60 : dc prog_1_method_48_code 60 (.aload_n 0) 1 := by decide +kernel
theorem d40_61 : dc prog_1_method_48_code 61 (.getfield 29) 3 := by decide +kernel
theorem d40_64 : dc prog_1_method_48_code 64 (.iload_n 1) 1 := by decide +kernel
theorem d40_65 : dc prog_1_method_48_code 65 (.iconst 1) 1 := by decide +kernel
theorem d40_66 : dc prog_1_method_48_code 66 (.bastore) 1 := by decide +kernel
theorem d40_67 : dc prog_1_method_48_code 67 (.return_) 1 := by decide +kernel
abbrev y40 : MethodName := ⟨"GeneralLedger", "apply", "(IJJI)V"⟩
theorem hy40 : y40.cls ≠ "java/lang/invoke/MethodHandle" ∧ y40.cls ≠ "java/lang/invoke/VarHandle" := by decide
theorem pd40 : parseMethodDescriptor y40.desc = some ⟨[.int, .long, .long, .int], none⟩ := by decide +kernel
abbrev R40 : Room := { frames := 1, cells := 0, slots := 0, locals := 14 }
abbrev P40 (r : St) : Option Value → List OwnC → Prop := fun v H' => v = none ∧ H' = (Hb 0 r)
abbrev W40 (l : Launch) (Z : State) (n0 : Nat) (Q : Option Value → List OwnC → Prop) (k n pc : Nat) (L : List Slot) (S : List Value) (H : List OwnC) : Prop := WP l Z CN lay "GeneralLedger" "apply" prog_1_method_48_code 8 (none) R40 n0 0 Q k n pc L S H
def f_apply_17 (s : St) : Option (St) :=
  some s
set_option maxRecDepth 65536 in
set_option maxHeartbeats 4000000 in
theorem ok40_17 (l : Launch) (Z : State) (a0 : Array Value) (hw : HW a0 Z) (n0 : Nat) (s : St) (r : St) (h : f_apply_17 s = some r) : W40 l Z n0 (P40 r) 0 0 17 [.unset, .unset, .unset, .unset, .unset, .unset, .unset, .unset] [] (Hb 0 s) := by
  unfold f_apply_17 at h
  cases h
  exact WP.vreturn d40_17 rfl (leb rfl) (leb rfl) ⟨rfl, rfl⟩
def f_apply (p1 : Int32) (p2 : Int64) (p3 : Int64) (p4 : Int32) (s : St) : Option (St) :=
  (f_isAccountId p1 s).bind fun c1 =>
  if c1 = 0 then
    f_apply_17 s
  else
    (f_isPeriod p4 s).bind fun c3 =>
    if c3 = 0 then
      f_apply_17 s
    else
      (f_cell p1 p4 s).bind fun c5 =>
      (rd (gB s 1) c5).bind fun x6 =>
      (wrB s 1 c5 (x6 + p2)).bind fun s7 =>
      (rd (gB s7 0) c5).bind fun x8 =>
      (wrB s7 0 c5 (x8 + p3)).bind fun s9 =>
      (wrA s9 6 p1 (1 : Int32)).bind fun s10 =>
      some s10
set_option maxRecDepth 65536 in
set_option maxHeartbeats 4000000 in
theorem ok40 (l : Launch) (Z : State) (a0 : Array Value) (hw : HW a0 Z) (p1 : Int32) (p2 : Int64) (p3 : Int64) (p4 : Int32) (s : St) (r : St) (h : f_apply p1 p2 p3 p4 s = some r) : CS l Z CN lay y40 prog_1_method_48_code 8 (none) R40 0 [.ref 0, .int p1, .long p2, .long p3, .int p4] (Hb 0 s) (P40 r) := by
  refine CS.of_wp pn_cls (leb rfl) fun n0 => ?_
  show W40 l Z n0 (P40 r) 0 0 0 [.val (.ref 0), .val (.int p1), .val (.long p2), .second, .val (.long p3), .second, .val (.int p4), .unset] [] (Hb 0 s)
  unfold f_apply at h
  refine WP.aloadN d40_0 rfl ?_
  refine WP.iloadN d40_1 rfl ?_
  obtain ⟨c1, hc1, h⟩ := Option.bind_eq_some_iff.mp h
  refine WP.callP (i := 0) (y := y7) (as := [.int p1]) (S := []) d40_2 (hw _ m_89) (hw _ m_91) (hw _ m_3) (hw _ m_90) (hw _ m_92) (hw _ m_4) hy7 rfl (ok7 l Z a0 hw p1 s _ hc1) rfl (lenOf pd7 rfl) (leb rfl) (leb rfl) (leb rfl) (leb rfl) ?_
  rintro _ _ ⟨rfl, rfl⟩
  show W40 l Z n0 (P40 r) 0 0 5 [.val (.ref 0), .val (.int p1), .val (.long p2), .second, .val (.long p3), .second, .val (.int p4), .unset] [.int c1] (Hb 0 s)
  rcases ite_e h with ⟨hc2, h⟩ | ⟨hc2, h⟩
  ·
    refine WP.ifY (pc' := 17) d40_5 (XT.i0_eq_t hc2) (by decide) rfl ?_
    exact WP.weak (L' := [.unset, .unset, .unset, .unset, .unset, .unset, .unset, .unset]) trivial (ok40_17 l Z a0 hw n0 s _ h)
  ·
    refine WP.ifN d40_5 (XT.i0_eq_f hc2) ?_
    refine WP.aloadN d40_8 rfl ?_
    refine WP.iload d40_9 rfl ?_
    obtain ⟨c3, hc3, h⟩ := Option.bind_eq_some_iff.mp h
    refine WP.callP (i := 0) (y := y23) (as := [.int p4]) (S := []) d40_11 (hw _ m_157) (hw _ m_159) (hw _ m_3) (hw _ m_158) (hw _ m_160) (hw _ m_4) hy23 rfl (ok23 l Z a0 hw p4 s _ hc3) rfl (lenOf pd23 rfl) (leb rfl) (leb rfl) (leb rfl) (leb rfl) ?_
    rintro _ _ ⟨rfl, rfl⟩
    show W40 l Z n0 (P40 r) 0 0 14 [.val (.ref 0), .val (.int p1), .val (.long p2), .second, .val (.long p3), .second, .val (.int p4), .unset] [.int c3] (Hb 0 s)
    rcases ite_e h with ⟨hc4, h⟩ | ⟨hc4, h⟩
    ·
      refine WP.ifN d40_14 (XT.i0_ne_f hc4) ?_
      exact WP.weak (L' := [.unset, .unset, .unset, .unset, .unset, .unset, .unset, .unset]) trivial (ok40_17 l Z a0 hw n0 s _ h)
    ·
      refine WP.ifY (pc' := 18) d40_14 (XT.i0_ne_t hc4) (by decide) rfl ?_
      refine WP.aloadN d40_18 rfl ?_
      refine WP.iloadN d40_19 rfl ?_
      refine WP.iload d40_20 rfl ?_
      obtain ⟨c5, hc5, h⟩ := Option.bind_eq_some_iff.mp h
      refine WP.callP (i := 0) (y := y12) (as := [.int p1, .int p4]) (S := []) d40_22 (hw _ m_109) (hw _ m_111) (hw _ m_3) (hw _ m_110) (hw _ m_112) (hw _ m_4) hy12 rfl (ok12 l Z a0 hw p1 p4 s _ hc5) rfl (lenOf pd12 rfl) (leb rfl) (leb rfl) (leb rfl) (leb rfl) ?_
      rintro _ _ ⟨rfl, rfl⟩
      show W40 l Z n0 (P40 r) 0 0 25 [.val (.ref 0), .val (.int p1), .val (.long p2), .second, .val (.long p3), .second, .val (.int p4), .unset] [.int c5] (Hb 0 s)
      refine WP.istore (L' := [.val (.ref 0), .val (.int p1), .val (.long p2), .second, .val (.long p3), .second, .val (.int p4), .val (.int c5)]) d40_25 (leb rfl) rfl ?_
      refine WP.aloadN d40_27 rfl ?_
      refine WP.getfield (i := 0) (j := 10) d40_28 (hw _ m_30) rfl rfl rfl ?_
      refine WP.iload d40_31 rfl ?_
      refine WP.aloadN d40_33 rfl ?_
      refine WP.getfield (i := 0) (j := 10) d40_34 (hw _ m_30) rfl rfl rfl ?_
      refine WP.iload d40_37 rfl ?_
      obtain ⟨x6, hx6, h⟩ := Option.bind_eq_some_iff.mp h
      refine WP.laload (i := 9) d40_39 rfl hx6 ?_
      refine WP.lloadN d40_40 rfl ?_
      refine WP.ladd d40_41 ?_
      obtain ⟨s7, hs7, h⟩ := Option.bind_eq_some_iff.mp h
      obtain ⟨ys7, gs7, es7⟩ := wrB_e hs7
      refine WP.lastore (i := 9) (xs := gB s 1) (H' := (Hb 0 s7)) d40_42 rfl (leb rfl) gs7 (by subst es7; rfl) ?_
      refine WP.aloadN d40_43 rfl ?_
      refine WP.getfield (i := 0) (j := 9) d40_44 (hw _ m_28) rfl rfl rfl ?_
      refine WP.iload d40_47 rfl ?_
      refine WP.aloadN d40_49 rfl ?_
      refine WP.getfield (i := 0) (j := 9) d40_50 (hw _ m_28) rfl rfl rfl ?_
      refine WP.iload d40_53 rfl ?_
      obtain ⟨x8, hx8, h⟩ := Option.bind_eq_some_iff.mp h
      refine WP.laload (i := 8) d40_55 rfl hx8 ?_
      refine WP.lload d40_56 rfl ?_
      refine WP.ladd d40_58 ?_
      obtain ⟨s9, hs9, h⟩ := Option.bind_eq_some_iff.mp h
      obtain ⟨ys9, gs9, es9⟩ := wrB_e hs9
      refine WP.lastore (i := 8) (xs := gB s7 0) (H' := (Hb 0 s9)) d40_59 rfl (leb rfl) gs9 (by subst es9; rfl) ?_
      refine WP.aloadN d40_60 rfl ?_
      refine WP.getfield (i := 0) (j := 8) d40_61 (hw _ m_25) rfl rfl rfl ?_
      refine WP.iloadN d40_64 rfl ?_
      refine WP.iconst (1 : Int32) d40_65 rfl ?_
      obtain ⟨s10, hs10, h⟩ := Option.bind_eq_some_iff.mp h
      obtain ⟨ys10, gs10, es10⟩ := wrA_e hs10
      refine WP.bastore (i := 7) (xs := gA s9 6) (H' := (Hb 0 s10)) d40_66 rfl (leb rfl) gs10 (by subst es10; rfl) ?_
      cases h
      exact WP.vreturn d40_67 rfl (leb rfl) (leb rfl) ⟨rfl, rfl⟩
theorem d39_0 : dc prog_1_method_27_code 0 (.aload_n 0) 1 := by decide +kernel
theorem d39_1 : dc prog_1_method_27_code 1 (.iload_n 1) 1 := by decide +kernel
theorem d39_2 : dc prog_1_method_27_code 2 (.invokevirtual 187) 3 := by decide +kernel
theorem d39_5 : dc prog_1_method_27_code 5 (.istore 6) 2 := by decide +kernel
theorem d39_7 : dc prog_1_method_27_code 7 (.iconst 0) 1 := by decide +kernel
theorem d39_8 : dc prog_1_method_27_code 8 (.istore 7) 2 := by decide +kernel
theorem d39_10 : dc prog_1_method_27_code 10 (.iload 7) 2 := by decide +kernel
theorem d39_12 : dc prog_1_method_27_code 12 (.iload 6) 2 := by decide +kernel
theorem d39_14 : dc prog_1_method_27_code 14 (.if_icmp .ge 68) 3 := by decide +kernel
theorem d39_17 : dc prog_1_method_27_code 17 (.aload_n 0) 1 := by decide +kernel
theorem d39_18 : dc prog_1_method_27_code 18 (.iload_n 1) 1 := by decide +kernel
theorem d39_19 : dc prog_1_method_27_code 19 (.iload 7) 2 := by decide +kernel
theorem d39_21 : dc prog_1_method_27_code 21 (.invokevirtual 162) 3 := by decide +kernel
theorem d39_24 : dc prog_1_method_27_code 24 (.istore 8) 2 := by decide +kernel
theorem d39_26 : dc prog_1_method_27_code 26 (.aload_n 0) 1 := by decide +kernel
theorem d39_27 : dc prog_1_method_27_code 27 (.getfield 60) 3 := by decide +kernel
theorem d39_30 : dc prog_1_method_27_code 30 (.iload 8) 2 := by decide +kernel
theorem d39_32 : dc prog_1_method_27_code 32 (.iaload) 1 := by decide +kernel
theorem d39_33 : dc prog_1_method_27_code 33 (.i2l) 1 := by decide +kernel
theorem d39_34 : dc prog_1_method_27_code 34 (.lstore 9) 2 := by decide +kernel
theorem d39_36 : dc prog_1_method_27_code 36 (.aload_n 0) 1 := by decide +kernel
theorem d39_37 : dc prog_1_method_27_code 37 (.iload_n 1) 1 := by decide +kernel
theorem d39_38 : dc prog_1_method_27_code 38 (.iload 7) 2 := by decide +kernel
theorem d39_40 : dc prog_1_method_27_code 40 (.invokevirtual 197) 3 := by decide +kernel
theorem d39_43 : dc prog_1_method_27_code 43 (.lstore 11) 2 := by decide +kernel
theorem d39_45 : dc prog_1_method_27_code 45 (.iload 5) 2 := by decide +kernel
theorem d39_47 : dc prog_1_method_27_code 47 (.ifCond .eq 13) 3 := by decide +kernel
theorem d39_50 : dc prog_1_method_27_code 50 (.lload 9) 2 := by decide +kernel
theorem d39_52 : dc prog_1_method_27_code 52 (.lneg) 1 := by decide +kernel
theorem d39_53 : dc prog_1_method_27_code 53 (.lstore 9) 2 := by decide +kernel
theorem d39_55 : dc prog_1_method_27_code 55 (.lload 11) 2 := by decide +kernel
theorem d39_57 : dc prog_1_method_27_code 57 (.lneg) 1 := by decide +kernel
theorem d39_58 : dc prog_1_method_27_code 58 (.lstore 11) 2 := by decide +kernel
theorem d39_60 : dc prog_1_method_27_code 60 (.aload_n 0) 1 := by decide +kernel
theorem d39_61 : dc prog_1_method_27_code 61 (.aload_n 0) 1 := by decide +kernel
theorem d39_62 : dc prog_1_method_27_code 62 (.getfield 57) 3 := by decide +kernel
theorem d39_65 : dc prog_1_method_27_code 65 (.iload 8) 2 := by decide +kernel
theorem d39_67 : dc prog_1_method_27_code 67 (.iaload) 1 := by decide +kernel
theorem d39_68 : dc prog_1_method_27_code 68 (.lload 9) 2 := by decide +kernel
theorem d39_70 : dc prog_1_method_27_code 70 (.lload 11) 2 := by decide +kernel
theorem d39_72 : dc prog_1_method_27_code 72 (.iload_n 2) 1 := by decide +kernel
theorem d39_73 : dc prog_1_method_27_code 73 (.invokevirtual 208) 3 := by decide +kernel
theorem d39_76 : dc prog_1_method_27_code 76 (.iinc 7 1) 3 := by decide +kernel
theorem d39_79 : dc prog_1_method_27_code 79 (.goto (-69)) 3 := by decide +kernel
theorem d39_82 : dc prog_1_method_27_code 82 (.lload_n 3) 1 := by decide +kernel
theorem d39_83 : dc prog_1_method_27_code 83 (.lconst 0) 1 := by decide +kernel
theorem d39_84 : dc prog_1_method_27_code 84 (.lcmp) 1 := by decide +kernel
theorem d39_85 : dc prog_1_method_27_code 85 (.ifCond .eq 28) 3 := by decide +kernel
theorem d39_88 : dc prog_1_method_27_code 88 (.lload_n 3) 1 := by decide +kernel
theorem d39_89 : dc prog_1_method_27_code 89 (.lneg) 1 := by decide +kernel
theorem d39_90 : dc prog_1_method_27_code 90 (.lstore 7) 2 := by decide +kernel
theorem d39_92 : dc prog_1_method_27_code 92 (.iload 5) 2 := by decide +kernel
theorem d39_94 : dc prog_1_method_27_code 94 (.ifCond .eq 6) 3 := by decide +kernel
theorem d39_97 : dc prog_1_method_27_code 97 (.lload_n 3) 1 := by decide +kernel
theorem d39_98 : dc prog_1_method_27_code 98 (.lstore 7) 2 := by decide +kernel
theorem d39_100 : dc prog_1_method_27_code 100 (.aload_n 0) 1 := by decide +kernel
theorem d39_101 : dc prog_1_method_27_code 101 (.aload_n 0) 1 := by decide +kernel
theorem d39_102 : dc prog_1_method_27_code 102 (.getfield 83) 3 := by decide +kernel
theorem d39_105 : dc prog_1_method_27_code 105 (.lload 7) 2 := by decide +kernel
theorem d39_107 : dc prog_1_method_27_code 107 (.lload 7) 2 := by decide +kernel
theorem d39_109 : dc prog_1_method_27_code 109 (.iload_n 2) 1 := by decide +kernel
theorem d39_110 : dc prog_1_method_27_code 110 (.invokevirtual 208) 3 := by decide +kernel
theorem d39_113 : dc prog_1_method_27_code 113 (.return_) 1 := by decide +kernel
abbrev y39 : MethodName := ⟨"GeneralLedger", "applyJournal", "(IIJZ)V"⟩
theorem hy39 : y39.cls ≠ "java/lang/invoke/MethodHandle" ∧ y39.cls ≠ "java/lang/invoke/VarHandle" := by decide
theorem pd39 : parseMethodDescriptor y39.desc = some ⟨[.int, .int, .long, .boolean], none⟩ := by decide +kernel
abbrev R39 : Room := { frames := 2, cells := 0, slots := 0, locals := 36 }
abbrev P39 (r : St) : Option Value → List OwnC → Prop := fun v H' => v = none ∧ H' = (Hb 0 r)
abbrev W39 (l : Launch) (Z : State) (n0 : Nat) (Q : Option Value → List OwnC → Prop) (k n pc : Nat) (L : List Slot) (S : List Value) (H : List OwnC) : Prop := WP l Z CN lay "GeneralLedger" "applyJournal" prog_1_method_27_code 13 (none) R39 n0 0 Q k n pc L S H
def f_applyJournal_60 (k10 : Int32 → Int32 → Int64 → Int32 → Int32 → Int32 → St → Option (St)) (n : Nat) (v1 : Int32) (v2 : Int32) (v3 : Int64) (v5 : Int32) (v6 : Int32) (v7 : Int32) (v8 : Int32) (v9 : Int64) (v11 : Int64) (s : St) : Option (St) :=
  (rd (gA s 12) v8).bind fun x1 =>
  (f_apply x1 v9 v11 v2 s).bind fun c2 =>
  lt (v7 + (1 : Int32)) fun x3 =>
  k10 v1 v2 v3 v5 v6 x3 c2
set_option maxRecDepth 65536 in
set_option maxHeartbeats 4000000 in
theorem ok39_60 (l : Launch) (Z : State) (a0 : Array Value) (hw : HW a0 Z) (n0 : Nat) (k10 : Int32 → Int32 → Int64 → Int32 → Int32 → Int32 → St → Option (St)) (hk10 : ∀ (v1 : Int32) (v2 : Int32) (v3 : Int64) (v5 : Int32) (v6 : Int32) (v7 : Int32) (s : St) (r : St), k10 v1 v2 v3 v5 v6 v7 s = some r → W39 l Z n0 (P39 r) 0 0 10 [.val (.ref 0), .val (.int v1), .val (.int v2), .val (.long v3), .second, .val (.int v5), .val (.int v6), .val (.int v7), .unset, .unset, .unset, .unset, .unset] [] (Hb 0 s)) (n : Nat) (v1 : Int32) (v2 : Int32) (v3 : Int64) (v5 : Int32) (v6 : Int32) (v7 : Int32) (v8 : Int32) (v9 : Int64) (v11 : Int64) (s : St) (r : St) (h : f_applyJournal_60 k10 n v1 v2 v3 v5 v6 v7 v8 v9 v11 s = some r) : W39 l Z n0 (P39 r) 0 0 60 [.val (.ref 0), .val (.int v1), .val (.int v2), .val (.long v3), .second, .val (.int v5), .val (.int v6), .val (.int v7), .val (.int v8), .val (.long v9), .second, .val (.long v11), .second] [] (Hb 0 s) := by
  unfold f_applyJournal_60 at h
  refine WP.aloadN d39_60 rfl ?_
  refine WP.aloadN d39_61 rfl ?_
  refine WP.getfield (i := 0) (j := 17) d39_62 (hw _ m_44) rfl rfl rfl ?_
  refine WP.iload d39_65 rfl ?_
  obtain ⟨x1, hx1, h⟩ := Option.bind_eq_some_iff.mp h
  refine WP.iaload (i := 16) d39_67 rfl hx1 ?_
  refine WP.lload d39_68 rfl ?_
  refine WP.lload d39_70 rfl ?_
  refine WP.iloadN d39_72 rfl ?_
  obtain ⟨c2, hc2, h⟩ := Option.bind_eq_some_iff.mp h
  refine WP.callP (i := 0) (y := y40) (as := [.int x1, .long v9, .long v11, .int v2]) (S := []) d39_73 (hw _ m_231) (hw _ m_233) (hw _ m_3) (hw _ m_232) (hw _ m_234) (hw _ m_4) hy40 rfl (ok40 l Z a0 hw x1 v9 v11 v2 s _ hc2) rfl (lenOf pd40 rfl) (leb rfl) (leb rfl) (leb rfl) (leb rfl) ?_
  rintro _ _ ⟨rfl, rfl⟩
  show W39 l Z n0 (P39 r) 0 0 76 [.val (.ref 0), .val (.int v1), .val (.int v2), .val (.long v3), .second, .val (.int v5), .val (.int v6), .val (.int v7), .val (.int v8), .val (.long v9), .second, .val (.long v11), .second] [] (Hb 0 c2)
  obtain ⟨x3, ex3, h⟩ := lt_e h
  refine WP.iinc (L' := [.val (.ref 0), .val (.int v1), .val (.int v2), .val (.long v3), .second, .val (.int v5), .val (.int v6), .val (.int x3), .val (.int v8), .val (.long v9), .second, .val (.long v11), .second]) (1 : Int32) d39_76 rfl rfl (by subst ex3; rfl) ?_
  refine WP.goto (pc' := 10) d39_79 (by decide) rfl ?_
  exact WP.weak (L' := [.val (.ref 0), .val (.int v1), .val (.int v2), .val (.long v3), .second, .val (.int v5), .val (.int v6), .val (.int x3), .unset, .unset, .unset, .unset, .unset]) ⟨rfl, rfl, rfl, rfl, rfl, rfl, rfl, rfl, trivial⟩ (hk10 v1 v2 v3 v5 v6 x3 c2 _ h)
def f_applyJournal_113 (n : Nat) (s : St) : Option (St) :=
  some s
set_option maxRecDepth 65536 in
set_option maxHeartbeats 4000000 in
theorem ok39_113 (l : Launch) (Z : State) (a0 : Array Value) (hw : HW a0 Z) (n0 : Nat) (n : Nat) (s : St) (r : St) (h : f_applyJournal_113 n s = some r) : W39 l Z n0 (P39 r) 0 0 113 [.unset, .unset, .unset, .unset, .unset, .unset, .unset, .unset, .unset, .unset, .unset, .unset, .unset] [] (Hb 0 s) := by
  unfold f_applyJournal_113 at h
  cases h
  exact WP.vreturn d39_113 rfl (leb rfl) (leb rfl) ⟨rfl, rfl⟩
def f_applyJournal_100 (n : Nat) (v2 : Int32) (v7 : Int64) (s : St) : Option (St) :=
  (f_apply (gI s 3) v7 v7 v2 s).bind fun c1 =>
  f_applyJournal_113 n c1
set_option maxRecDepth 65536 in
set_option maxHeartbeats 4000000 in
theorem ok39_100 (l : Launch) (Z : State) (a0 : Array Value) (hw : HW a0 Z) (n0 : Nat) (n : Nat) (v2 : Int32) (v7 : Int64) (s : St) (r : St) (h : f_applyJournal_100 n v2 v7 s = some r) : W39 l Z n0 (P39 r) 0 0 100 [.val (.ref 0), .unset, .val (.int v2), .unset, .unset, .unset, .unset, .val (.long v7), .second, .unset, .unset, .unset, .unset] [] (Hb 0 s) := by
  unfold f_applyJournal_100 at h
  refine WP.aloadN d39_100 rfl ?_
  refine WP.aloadN d39_101 rfl ?_
  refine WP.getfield (i := 0) (j := 23) d39_102 (hw _ m_72) rfl rfl rfl ?_
  refine WP.lload d39_105 rfl ?_
  refine WP.lload d39_107 rfl ?_
  refine WP.iloadN d39_109 rfl ?_
  obtain ⟨c1, hc1, h⟩ := Option.bind_eq_some_iff.mp h
  refine WP.callP (i := 0) (y := y40) (as := [.int (gI s 3), .long v7, .long v7, .int v2]) (S := []) d39_110 (hw _ m_231) (hw _ m_233) (hw _ m_3) (hw _ m_232) (hw _ m_234) (hw _ m_4) hy40 rfl (ok40 l Z a0 hw (gI s 3) v7 v7 v2 s _ hc1) rfl (lenOf pd40 rfl) (leb rfl) (leb rfl) (leb rfl) (leb rfl) ?_
  rintro _ _ ⟨rfl, rfl⟩
  show W39 l Z n0 (P39 r) 0 0 113 [.val (.ref 0), .unset, .val (.int v2), .unset, .unset, .unset, .unset, .val (.long v7), .second, .unset, .unset, .unset, .unset] [] (Hb 0 c1)
  exact WP.weak (L' := [.unset, .unset, .unset, .unset, .unset, .unset, .unset, .unset, .unset, .unset, .unset, .unset, .unset]) trivial (ok39_113 l Z a0 hw n0 n c1 _ h)
def g_applyJournal_10 (k10 : Int32 → Int32 → Int64 → Int32 → Int32 → Int32 → St → Option (St)) (n : Nat) (v1 : Int32) (v2 : Int32) (v3 : Int64) (v5 : Int32) (v6 : Int32) (v7 : Int32) (s : St) : Option (St) :=
  if v7 < v6 then
    (f_lineCell v1 v7 s).bind fun c2 =>
    (rd (gA s 13) c2).bind fun x3 =>
    lt (x3.toInt64) fun x4 =>
    (f_lineFunc v1 v7 s).bind fun c5 =>
    if v5 = 0 then
      f_applyJournal_60 k10 n v1 v2 v3 v5 v6 v7 c2 x4 c5 s
    else
      lt (-x4) fun x7 =>
      lt (-c5) fun x8 =>
      f_applyJournal_60 k10 n v1 v2 v3 v5 v6 v7 c2 x7 x8 s
  else
    if v3 = (0 : Int64) then
      f_applyJournal_113 n s
    else
      lt (-v3) fun x10 =>
      if v5 = 0 then
        f_applyJournal_100 n v2 x10 s
      else
        f_applyJournal_100 n v2 v3 s
set_option maxRecDepth 65536 in
set_option maxHeartbeats 4000000 in
theorem okg39_10 (l : Launch) (Z : State) (a0 : Array Value) (hw : HW a0 Z) (n0 : Nat) (k10 : Int32 → Int32 → Int64 → Int32 → Int32 → Int32 → St → Option (St)) (hk10 : ∀ (v1 : Int32) (v2 : Int32) (v3 : Int64) (v5 : Int32) (v6 : Int32) (v7 : Int32) (s : St) (r : St), k10 v1 v2 v3 v5 v6 v7 s = some r → W39 l Z n0 (P39 r) 0 0 10 [.val (.ref 0), .val (.int v1), .val (.int v2), .val (.long v3), .second, .val (.int v5), .val (.int v6), .val (.int v7), .unset, .unset, .unset, .unset, .unset] [] (Hb 0 s)) (n : Nat) (v1 : Int32) (v2 : Int32) (v3 : Int64) (v5 : Int32) (v6 : Int32) (v7 : Int32) (s : St) (r : St) (h : g_applyJournal_10 k10 n v1 v2 v3 v5 v6 v7 s = some r) : W39 l Z n0 (P39 r) 0 0 10 [.val (.ref 0), .val (.int v1), .val (.int v2), .val (.long v3), .second, .val (.int v5), .val (.int v6), .val (.int v7), .unset, .unset, .unset, .unset, .unset] [] (Hb 0 s) := by
  unfold g_applyJournal_10 at h
  refine WP.iload d39_10 rfl ?_
  refine WP.iload d39_12 rfl ?_
  rcases ite_e h with ⟨hc1, h⟩ | ⟨hc1, h⟩
  ·
    refine WP.icmpN d39_14 (XT.ii_ge_f hc1) ?_
    refine WP.aloadN d39_17 rfl ?_
    refine WP.iloadN d39_18 rfl ?_
    refine WP.iload d39_19 rfl ?_
    obtain ⟨c2, hc2, h⟩ := Option.bind_eq_some_iff.mp h
    refine WP.callP (i := 0) (y := y27) (as := [.int v1, .int v7]) (S := []) d39_21 (hw _ m_176) (hw _ m_178) (hw _ m_3) (hw _ m_177) (hw _ m_179) (hw _ m_4) hy27 rfl (ok27 l Z a0 hw v1 v7 s _ hc2) rfl (lenOf pd27 rfl) (leb rfl) (leb rfl) (leb rfl) (leb rfl) ?_
    rintro _ _ ⟨rfl, rfl⟩
    show W39 l Z n0 (P39 r) 0 0 24 [.val (.ref 0), .val (.int v1), .val (.int v2), .val (.long v3), .second, .val (.int v5), .val (.int v6), .val (.int v7), .unset, .unset, .unset, .unset, .unset] [.int c2] (Hb 0 s)
    refine WP.istore (L' := [.val (.ref 0), .val (.int v1), .val (.int v2), .val (.long v3), .second, .val (.int v5), .val (.int v6), .val (.int v7), .val (.int c2), .unset, .unset, .unset, .unset]) d39_24 (leb rfl) rfl ?_
    refine WP.aloadN d39_26 rfl ?_
    refine WP.getfield (i := 0) (j := 18) d39_27 (hw _ m_46) rfl rfl rfl ?_
    refine WP.iload d39_30 rfl ?_
    obtain ⟨x3, hx3, h⟩ := Option.bind_eq_some_iff.mp h
    refine WP.iaload (i := 17) d39_32 rfl hx3 ?_
    refine WP.i2l d39_33 ?_
    obtain ⟨x4, ex4, h⟩ := lt_e h
    refine WP.lstore (L' := [.val (.ref 0), .val (.int v1), .val (.int v2), .val (.long v3), .second, .val (.int v5), .val (.int v6), .val (.int v7), .val (.int c2), .val (.long x4), .second, .unset, .unset]) d39_34 (leb rfl) (by subst ex4; rfl) ?_
    refine WP.aloadN d39_36 rfl ?_
    refine WP.iloadN d39_37 rfl ?_
    refine WP.iload d39_38 rfl ?_
    obtain ⟨c5, hc5, h⟩ := Option.bind_eq_some_iff.mp h
    refine WP.callP (i := 0) (y := y36) (as := [.int v1, .int v7]) (S := []) d39_40 (hw _ m_213) (hw _ m_215) (hw _ m_3) (hw _ m_214) (hw _ m_216) (hw _ m_4) hy36 rfl (ok36 l Z a0 hw v1 v7 s _ hc5) rfl (lenOf pd36 rfl) (leb rfl) (leb rfl) (leb rfl) (leb rfl) ?_
    rintro _ _ ⟨rfl, rfl⟩
    show W39 l Z n0 (P39 r) 0 0 43 [.val (.ref 0), .val (.int v1), .val (.int v2), .val (.long v3), .second, .val (.int v5), .val (.int v6), .val (.int v7), .val (.int c2), .val (.long x4), .second, .unset, .unset] [.long c5] (Hb 0 s)
    refine WP.lstore (L' := [.val (.ref 0), .val (.int v1), .val (.int v2), .val (.long v3), .second, .val (.int v5), .val (.int v6), .val (.int v7), .val (.int c2), .val (.long x4), .second, .val (.long c5), .second]) d39_43 (leb rfl) rfl ?_
    refine WP.iload d39_45 rfl ?_
    rcases ite_e h with ⟨hc6, h⟩ | ⟨hc6, h⟩
    ·
      refine WP.ifY (pc' := 60) d39_47 (XT.i0_eq_t hc6) (by decide) rfl ?_
      exact WP.weak (L' := [.val (.ref 0), .val (.int v1), .val (.int v2), .val (.long v3), .second, .val (.int v5), .val (.int v6), .val (.int v7), .val (.int c2), .val (.long x4), .second, .val (.long c5), .second]) ⟨rfl, rfl, rfl, rfl, rfl, rfl, rfl, rfl, rfl, rfl, rfl, rfl, rfl, trivial⟩ (ok39_60 l Z a0 hw n0 _ hk10 n v1 v2 v3 v5 v6 v7 c2 x4 c5 s _ h)
    ·
      refine WP.ifN d39_47 (XT.i0_eq_f hc6) ?_
      refine WP.lload d39_50 rfl ?_
      refine WP.lneg d39_52 ?_
      obtain ⟨x7, ex7, h⟩ := lt_e h
      refine WP.lstore (L' := [.val (.ref 0), .val (.int v1), .val (.int v2), .val (.long v3), .second, .val (.int v5), .val (.int v6), .val (.int v7), .val (.int c2), .val (.long x7), .second, .val (.long c5), .second]) d39_53 (leb rfl) (by subst ex7; rfl) ?_
      refine WP.lload d39_55 rfl ?_
      refine WP.lneg d39_57 ?_
      obtain ⟨x8, ex8, h⟩ := lt_e h
      refine WP.lstore (L' := [.val (.ref 0), .val (.int v1), .val (.int v2), .val (.long v3), .second, .val (.int v5), .val (.int v6), .val (.int v7), .val (.int c2), .val (.long x7), .second, .val (.long x8), .second]) d39_58 (leb rfl) (by subst ex8; rfl) ?_
      exact WP.weak (L' := [.val (.ref 0), .val (.int v1), .val (.int v2), .val (.long v3), .second, .val (.int v5), .val (.int v6), .val (.int v7), .val (.int c2), .val (.long x7), .second, .val (.long x8), .second]) ⟨rfl, rfl, rfl, rfl, rfl, rfl, rfl, rfl, rfl, rfl, rfl, rfl, rfl, trivial⟩ (ok39_60 l Z a0 hw n0 _ hk10 n v1 v2 v3 v5 v6 v7 c2 x7 x8 s _ h)
  ·
    refine WP.icmpY (pc' := 82) d39_14 (XT.ii_ge_t hc1) (by decide) rfl ?_
    refine WP.lloadN d39_82 rfl ?_
    refine WP.lconst (0 : Int64) d39_83 rfl ?_
    refine WP.lcmp d39_84 ?_
    rcases ite_e h with ⟨hc9, h⟩ | ⟨hc9, h⟩
    ·
      refine WP.ifY (pc' := 113) d39_85 (XT.ll_eq_t hc9) (by decide) rfl ?_
      exact WP.weak (L' := [.unset, .unset, .unset, .unset, .unset, .unset, .unset, .unset, .unset, .unset, .unset, .unset, .unset]) trivial (ok39_113 l Z a0 hw n0 n s _ h)
    ·
      refine WP.ifN d39_85 (XT.ll_eq_f hc9) ?_
      refine WP.lloadN d39_88 rfl ?_
      refine WP.lneg d39_89 ?_
      obtain ⟨x10, ex10, h⟩ := lt_e h
      refine WP.lstore (L' := [.val (.ref 0), .val (.int v1), .val (.int v2), .val (.long v3), .second, .val (.int v5), .val (.int v6), .val (.long x10), .second, .unset, .unset, .unset, .unset]) d39_90 (leb rfl) (by subst ex10; rfl) ?_
      refine WP.iload d39_92 rfl ?_
      rcases ite_e h with ⟨hc11, h⟩ | ⟨hc11, h⟩
      ·
        refine WP.ifY (pc' := 100) d39_94 (XT.i0_eq_t hc11) (by decide) rfl ?_
        exact WP.weak (L' := [.val (.ref 0), .unset, .val (.int v2), .unset, .unset, .unset, .unset, .val (.long x10), .second, .unset, .unset, .unset, .unset]) ⟨rfl, rfl, rfl, rfl, trivial⟩ (ok39_100 l Z a0 hw n0 n v2 x10 s _ h)
      ·
        refine WP.ifN d39_94 (XT.i0_eq_f hc11) ?_
        refine WP.lloadN d39_97 rfl ?_
        refine WP.lstore (L' := [.val (.ref 0), .val (.int v1), .val (.int v2), .val (.long v3), .second, .val (.int v5), .val (.int v6), .val (.long v3), .second, .unset, .unset, .unset, .unset]) d39_98 (leb rfl) rfl ?_
        exact WP.weak (L' := [.val (.ref 0), .unset, .val (.int v2), .unset, .unset, .unset, .unset, .val (.long v3), .second, .unset, .unset, .unset, .unset]) ⟨rfl, rfl, rfl, rfl, trivial⟩ (ok39_100 l Z a0 hw n0 n v2 v3 s _ h)
def f_applyJournal_10 : Nat → Int32 → Int32 → Int64 → Int32 → Int32 → Int32 → St → Option (St)
  | 0 => fun _ _ _ _ _ _ _ => none
  | n + 1 => g_applyJournal_10 (f_applyJournal_10 n) n
theorem ok39_10 (l : Launch) (Z : State) (a0 : Array Value) (hw : HW a0 Z) (n0 : Nat) : ∀ (n : Nat) (v1 : Int32) (v2 : Int32) (v3 : Int64) (v5 : Int32) (v6 : Int32) (v7 : Int32) (s : St) (r : St), f_applyJournal_10 n v1 v2 v3 v5 v6 v7 s = some r → W39 l Z n0 (P39 r) 0 0 10 [.val (.ref 0), .val (.int v1), .val (.int v2), .val (.long v3), .second, .val (.int v5), .val (.int v6), .val (.int v7), .unset, .unset, .unset, .unset, .unset] [] (Hb 0 s)
  | 0, v1, v2, v3, v5, v6, v7, s, r, h => nomatch (show none = some r from h)
  | n + 1, v1, v2, v3, v5, v6, v7, s, r, h => okg39_10 l Z a0 hw n0 _ (ok39_10 l Z a0 hw n0 n) n v1 v2 v3 v5 v6 v7 s r h
def f_applyJournal (n : Nat) (p1 : Int32) (p2 : Int32) (p3 : Int64) (p4 : Int32) (s : St) : Option (St) :=
  (f_stagedLines p1 s).bind fun c1 =>
  f_applyJournal_10 n p1 p2 p3 p4 c1 (0 : Int32) s
set_option maxRecDepth 65536 in
set_option maxHeartbeats 4000000 in
theorem ok39 (l : Launch) (Z : State) (a0 : Array Value) (hw : HW a0 Z) (n : Nat) (p1 : Int32) (p2 : Int32) (p3 : Int64) (p4 : Int32) (s : St) (r : St) (h : f_applyJournal n p1 p2 p3 p4 s = some r) : CS l Z CN lay y39 prog_1_method_27_code 13 (none) R39 0 [.ref 0, .int p1, .int p2, .long p3, .int p4] (Hb 0 s) (P39 r) := by
  refine CS.of_wp pn_cls (leb rfl) fun n0 => ?_
  show W39 l Z n0 (P39 r) 0 0 0 [.val (.ref 0), .val (.int p1), .val (.int p2), .val (.long p3), .second, .val (.int p4), .unset, .unset, .unset, .unset, .unset, .unset, .unset] [] (Hb 0 s)
  unfold f_applyJournal at h
  refine WP.aloadN d39_0 rfl ?_
  refine WP.iloadN d39_1 rfl ?_
  obtain ⟨c1, hc1, h⟩ := Option.bind_eq_some_iff.mp h
  refine WP.callP (i := 0) (y := y31) (as := [.int p1]) (S := []) d39_2 (hw _ m_193) (hw _ m_195) (hw _ m_3) (hw _ m_194) (hw _ m_196) (hw _ m_4) hy31 rfl (ok31 l Z a0 hw p1 s _ hc1) rfl (lenOf pd31 rfl) (leb rfl) (leb rfl) (leb rfl) (leb rfl) ?_
  rintro _ _ ⟨rfl, rfl⟩
  show W39 l Z n0 (P39 r) 0 0 5 [.val (.ref 0), .val (.int p1), .val (.int p2), .val (.long p3), .second, .val (.int p4), .unset, .unset, .unset, .unset, .unset, .unset, .unset] [.int c1] (Hb 0 s)
  refine WP.istore (L' := [.val (.ref 0), .val (.int p1), .val (.int p2), .val (.long p3), .second, .val (.int p4), .val (.int c1), .unset, .unset, .unset, .unset, .unset, .unset]) d39_5 (leb rfl) rfl ?_
  refine WP.iconst (0 : Int32) d39_7 rfl ?_
  refine WP.istore (L' := [.val (.ref 0), .val (.int p1), .val (.int p2), .val (.long p3), .second, .val (.int p4), .val (.int c1), .val (.int (0 : Int32)), .unset, .unset, .unset, .unset, .unset]) d39_8 (leb rfl) rfl ?_
  exact WP.weak (L' := [.val (.ref 0), .val (.int p1), .val (.int p2), .val (.long p3), .second, .val (.int p4), .val (.int c1), .val (.int (0 : Int32)), .unset, .unset, .unset, .unset, .unset]) ⟨rfl, rfl, rfl, rfl, rfl, rfl, rfl, rfl, trivial⟩ (ok39_10 l Z a0 hw n0 n p1 p2 p3 p4 c1 (0 : Int32) s _ h)
theorem d41_0 : dc prog_1_method_28_code 0 (.aload_n 0) 1 := by decide +kernel
theorem d41_1 : dc prog_1_method_28_code 1 (.aload_n 0) 1 := by decide +kernel
theorem d41_2 : dc prog_1_method_28_code 2 (.getfield 92) 3 := by decide +kernel
theorem d41_5 : dc prog_1_method_28_code 5 (.lconst 1) 1 := by decide +kernel
theorem d41_6 : dc prog_1_method_28_code 6 (.ladd) 1 := by decide +kernel
theorem d41_7 : dc prog_1_method_28_code 7 (.putfield 92) 3 := by decide +kernel
theorem d41_10 : dc prog_1_method_28_code 10 (.aload_n 0) 1 := by decide +kernel
theorem d41_11 : dc prog_1_method_28_code 11 (.aload_n 0) 1 := by decide +kernel
theorem d41_12 : dc prog_1_method_28_code 12 (.getfield 96) 3 := by decide +kernel
theorem d41_15 : dc prog_1_method_28_code 15 (.lload_n 1) 1 := by decide +kernel
theorem d41_16 : dc prog_1_method_28_code 16 (.ladd) 1 := by decide +kernel
theorem d41_17 : dc prog_1_method_28_code 17 (.putfield 96) 3 := by decide +kernel
theorem d41_20 : dc prog_1_method_28_code 20 (.return_) 1 := by decide +kernel
abbrev y41 : MethodName := ⟨"GeneralLedger", "countJournal", "(J)V"⟩
theorem hy41 : y41.cls ≠ "java/lang/invoke/MethodHandle" ∧ y41.cls ≠ "java/lang/invoke/VarHandle" := by decide
theorem pd41 : parseMethodDescriptor y41.desc = some ⟨[.long], none⟩ := by decide +kernel
abbrev R41 : Room := { frames := 0, cells := 0, slots := 0, locals := 0 }
abbrev P41 (r : St) : Option Value → List OwnC → Prop := fun v H' => v = none ∧ H' = (Hb 0 r)
abbrev W41 (l : Launch) (Z : State) (n0 : Nat) (Q : Option Value → List OwnC → Prop) (k n pc : Nat) (L : List Slot) (S : List Value) (H : List OwnC) : Prop := WP l Z CN lay "GeneralLedger" "countJournal" prog_1_method_28_code 3 (none) R41 n0 0 Q k n pc L S H
def f_countJournal (p1 : Int64) (s : St) : Option (St) :=
  lt (sJ s 0 ((gJ s 0) + (1 : Int64))) fun s1 =>
  lt (sJ s1 1 ((gJ s1 1) + p1)) fun s2 =>
  some s2
set_option maxRecDepth 65536 in
set_option maxHeartbeats 4000000 in
theorem ok41 (l : Launch) (Z : State) (a0 : Array Value) (hw : HW a0 Z) (p1 : Int64) (s : St) (r : St) (h : f_countJournal p1 s = some r) : CS l Z CN lay y41 prog_1_method_28_code 3 (none) R41 0 [.ref 0, .long p1] (Hb 0 s) (P41 r) := by
  refine CS.of_wp pn_cls (leb rfl) fun n0 => ?_
  show W41 l Z n0 (P41 r) 0 0 0 [.val (.ref 0), .val (.long p1), .second] [] (Hb 0 s)
  unfold f_countJournal at h
  refine WP.aloadN d41_0 rfl ?_
  refine WP.aloadN d41_1 rfl ?_
  refine WP.getfield (i := 0) (j := 20) d41_2 (hw _ m_78) rfl rfl rfl ?_
  refine WP.lconst (1 : Int64) d41_5 rfl ?_
  refine WP.ladd d41_6 ?_
  obtain ⟨s1, es1, h⟩ := lt_e h
  refine WP.putJ (i := 0) (j := 20) (H' := (Hb 0 s1)) d41_7 (hw _ m_78) (Or.inl (hw _ m_79)) (hw _ m_3) (hlay hw) rfl rfl rfl (leb rfl) (by subst es1; rfl) ?_
  refine WP.aloadN d41_10 rfl ?_
  refine WP.aloadN d41_11 rfl ?_
  refine WP.getfield (i := 0) (j := 21) d41_12 (hw _ m_80) rfl rfl rfl ?_
  refine WP.lloadN d41_15 rfl ?_
  refine WP.ladd d41_16 ?_
  obtain ⟨s2, es2, h⟩ := lt_e h
  refine WP.putJ (i := 0) (j := 21) (H' := (Hb 0 s2)) d41_17 (hw _ m_80) (Or.inl (hw _ m_81)) (hw _ m_3) (hlay hw) rfl rfl rfl (leb rfl) (by subst es2; rfl) ?_
  cases h
  exact WP.vreturn d41_20 rfl (leb rfl) (leb rfl) ⟨rfl, rfl⟩
theorem d28_0 : dc prog_1_method_18_code 0 (.aload_n 0) 1 := by decide +kernel
theorem d28_1 : dc prog_1_method_18_code 1 (.iload_n 1) 1 := by decide +kernel
theorem d28_2 : dc prog_1_method_18_code 2 (.invokevirtual 165) 3 := by decide +kernel
theorem d28_5 : dc prog_1_method_18_code 5 (.istore_n 2) 1 := by decide +kernel
theorem d28_6 : dc prog_1_method_18_code 6 (.iload_n 2) 1 := by decide +kernel
theorem d28_7 : dc prog_1_method_18_code 7 (.ifCond .eq 5) 3 := by decide +kernel
theorem d28_10 : dc prog_1_method_18_code 10 (.iload_n 2) 1 := by decide +kernel
theorem d28_11 : dc prog_1_method_18_code 11 (.ireturn) 1 := by decide +kernel
theorem d28_12 : dc prog_1_method_18_code 12 (.aload_n 0) 1 := by decide +kernel
theorem d28_13 : dc prog_1_method_18_code 13 (.getfield 48) 3 := by decide +kernel
theorem d28_16 : dc prog_1_method_18_code 16 (.iload_n 1) 1 := by decide +kernel
theorem d28_17 : dc prog_1_method_18_code 17 (.iaload) 1 := by decide +kernel
theorem d28_18 : dc prog_1_method_18_code 18 (.istore_n 3) 1 := by decide +kernel
theorem d28_19 : dc prog_1_method_18_code 19 (.aload_n 0) 1 := by decide +kernel
theorem d28_20 : dc prog_1_method_18_code 20 (.iload_n 1) 1 := by decide +kernel
theorem d28_21 : dc prog_1_method_18_code 21 (.invokevirtual 169) 3 := by decide +kernel
theorem d28_24 : dc prog_1_method_18_code 24 (.lstore 4) 2 := by decide +kernel
theorem d28_26 : dc prog_1_method_18_code 26 (.aload_n 0) 1 := by decide +kernel
theorem d28_27 : dc prog_1_method_18_code 27 (.getfield 54) 3 := by decide +kernel
theorem d28_30 : dc prog_1_method_18_code 30 (.iload_n 1) 1 := by decide +kernel
theorem d28_31 : dc prog_1_method_18_code 31 (.iaload) 1 := by decide +kernel
theorem d28_32 : dc prog_1_method_18_code 32 (.i2l) 1 := by decide +kernel
theorem d28_33 : dc prog_1_method_18_code 33 (.lstore 6) 2 := by decide +kernel
theorem d28_35 : dc prog_1_method_18_code 35 (.lload 4) 2 := by decide +kernel
theorem d28_37 : dc prog_1_method_18_code 37 (.lconst 0) 1 := by decide +kernel
theorem d28_38 : dc prog_1_method_18_code 38 (.lcmp) 1 := by decide +kernel
theorem d28_39 : dc prog_1_method_18_code 39 (.ifCond .eq 9) 3 := by decide +kernel
theorem d28_42 : dc prog_1_method_18_code 42 (.lload 6) 2 := by decide +kernel
theorem d28_44 : dc prog_1_method_18_code 44 (.lconst 1) 1 := by decide +kernel
theorem d28_45 : dc prog_1_method_18_code 45 (.ladd) 1 := by decide +kernel
theorem d28_46 : dc prog_1_method_18_code 46 (.lstore 6) 2 := by decide +kernel
theorem d28_48 : dc prog_1_method_18_code 48 (.aload_n 0) 1 := by decide +kernel
theorem d28_49 : dc prog_1_method_18_code 49 (.iload_n 1) 1 := by decide +kernel
theorem d28_50 : dc prog_1_method_18_code 50 (.iload_n 3) 1 := by decide +kernel
theorem d28_51 : dc prog_1_method_18_code 51 (.lload 4) 2 := by decide +kernel
theorem d28_53 : dc prog_1_method_18_code 53 (.iconst 0) 1 := by decide +kernel
theorem d28_54 : dc prog_1_method_18_code 54 (.invokevirtual 173) 3 := by decide +kernel
theorem d28_57 : dc prog_1_method_18_code 57 (.aload_n 0) 1 := by decide +kernel
theorem d28_58 : dc prog_1_method_18_code 58 (.lload 6) 2 := by decide +kernel
theorem d28_60 : dc prog_1_method_18_code 60 (.invokevirtual 177) 3 := by decide +kernel
theorem d28_63 : dc prog_1_method_18_code 63 (.aload_n 0) 1 := by decide +kernel
theorem d28_64 : dc prog_1_method_18_code 64 (.getfield 51) 3 := by decide +kernel
theorem d28_67 : dc prog_1_method_18_code 67 (.iload_n 1) 1 := by decide +kernel
theorem d28_68 : dc prog_1_method_18_code 68 (.baload) 1 := by decide +kernel
theorem d28_69 : dc prog_1_method_18_code 69 (.ifCond .eq 28) 3 := by decide +kernel
theorem d28_72 : dc prog_1_method_18_code 72 (.iload_n 3) 1 := by decide +kernel
theorem d28_73 : dc prog_1_method_18_code 73 (.iconst 1) 1 := by decide +kernel
theorem d28_74 : dc prog_1_method_18_code 74 (.iadd) 1 := by decide +kernel
theorem d28_75 : dc prog_1_method_18_code 75 (.bipush 12) 2 := by decide +kernel
theorem d28_77 : dc prog_1_method_18_code 77 (.if_icmp .ge 20) 3 := by decide +kernel
theorem d28_80 : dc prog_1_method_18_code 80 (.aload_n 0) 1 := by decide +kernel
theorem d28_81 : dc prog_1_method_18_code 81 (.iload_n 1) 1 := by decide +kernel
theorem d28_82 : dc prog_1_method_18_code 82 (.iload_n 3) 1 := by decide +kernel
theorem d28_83 : dc prog_1_method_18_code 83 (.iconst 1) 1 := by decide +kernel
theorem d28_84 : dc prog_1_method_18_code 84 (.iadd) 1 := by decide +kernel
theorem d28_85 : dc prog_1_method_18_code 85 (.lload 4) 2 := by decide +kernel
theorem d28_87 : dc prog_1_method_18_code 87 (.iconst 1) 1 := by decide +kernel
theorem d28_88 : dc prog_1_method_18_code 88 (.invokevirtual 173) 3 := by decide +kernel
theorem d28_91 : dc prog_1_method_18_code 91 (.aload_n 0) 1 := by decide +kernel
theorem d28_92 : dc prog_1_method_18_code 92 (.lload 6) 2 := by decide +kernel
theorem d28_94 : dc prog_1_method_18_code 94 (.invokevirtual 177) 3 := by decide +kernel
theorem d28_97 : dc prog_1_method_18_code 97 (.aload_n 0) 1 := by decide +kernel
theorem d28_98 : dc prog_1_method_18_code 98 (.lload 4) 2 := by decide +kernel
theorem d28_100 : dc prog_1_method_18_code 100 (.lneg) 1 := by decide +kernel
theorem d28_101 : dc prog_1_method_18_code 101 (.putfield 99) 3 := by decide +kernel
theorem d28_104 : dc prog_1_method_18_code 104 (.aload_n 0) 1 := by decide +kernel
theorem d28_105 : dc prog_1_method_18_code 105 (.iload_n 1) 1 := by decide +kernel
theorem d28_106 : dc prog_1_method_18_code 106 (.invokevirtual 102) 3 := by decide +kernel
theorem d28_109 : dc prog_1_method_18_code 109 (.iconst 0) 1 := by decide +kernel
theorem d28_110 : dc prog_1_method_18_code 110 (.ireturn) 1 := by decide +kernel
abbrev y28 : MethodName := ⟨"GeneralLedger", "post", "(I)I"⟩
theorem hy28 : y28.cls ≠ "java/lang/invoke/MethodHandle" ∧ y28.cls ≠ "java/lang/invoke/VarHandle" := by decide
theorem pd28 : parseMethodDescriptor y28.desc = some ⟨[.int], some .int⟩ := by decide +kernel
abbrev R28 : Room := { frames := 4, cells := 0, slots := 0, locals := 70 }
abbrev P28 (r : Int32 × St) : Option Value → List OwnC → Prop := fun v H' => v = some (.int r.1) ∧ H' = (Hb 0 r.2)
abbrev W28 (l : Launch) (Z : State) (n0 : Nat) (Q : Option Value → List OwnC → Prop) (k n pc : Nat) (L : List Slot) (S : List Value) (H : List OwnC) : Prop := WP l Z CN lay "GeneralLedger" "post" prog_1_method_18_code 8 (some FieldType.int) R28 n0 0 Q k n pc L S H
def f_post_97 (n : Nat) (v1 : Int32) (v4 : Int64) (s : St) : Option (Int32 × St) :=
  lt (sJ s 2 (-v4)) fun s1 =>
  (f_freeSlot v1 s1).bind fun c2 =>
  some ((0 : Int32), c2)
set_option maxRecDepth 65536 in
set_option maxHeartbeats 4000000 in
theorem ok28_97 (l : Launch) (Z : State) (a0 : Array Value) (hw : HW a0 Z) (n0 : Nat) (n : Nat) (v1 : Int32) (v4 : Int64) (s : St) (r : Int32 × St) (h : f_post_97 n v1 v4 s = some r) : W28 l Z n0 (P28 r) 0 0 97 [.val (.ref 0), .val (.int v1), .unset, .unset, .val (.long v4), .second, .unset, .unset] [] (Hb 0 s) := by
  unfold f_post_97 at h
  refine WP.aloadN d28_97 rfl ?_
  refine WP.lload d28_98 rfl ?_
  refine WP.lneg d28_100 ?_
  obtain ⟨s1, es1, h⟩ := lt_e h
  refine WP.putJ (i := 0) (j := 22) (H' := (Hb 0 s1)) d28_101 (hw _ m_82) (Or.inl (hw _ m_83)) (hw _ m_3) (hlay hw) rfl rfl rfl (leb rfl) (by subst es1; rfl) ?_
  refine WP.aloadN d28_104 rfl ?_
  refine WP.iloadN d28_105 rfl ?_
  obtain ⟨c2, hc2, h⟩ := Option.bind_eq_some_iff.mp h
  refine WP.callP (i := 0) (y := y5) (as := [.int v1]) (S := []) d28_106 (hw _ m_68) (hw _ m_70) (hw _ m_3) (hw _ m_69) (hw _ m_71) (hw _ m_4) hy5 rfl (ok5 l Z a0 hw v1 s1 _ hc2) rfl (lenOf pd5 rfl) (leb rfl) (leb rfl) (leb rfl) (leb rfl) ?_
  rintro _ _ ⟨rfl, rfl⟩
  show W28 l Z n0 (P28 r) 0 0 109 [.val (.ref 0), .val (.int v1), .unset, .unset, .val (.long v4), .second, .unset, .unset] [] (Hb 0 c2)
  refine WP.iconst (0 : Int32) d28_109 rfl ?_
  cases h
  exact WP.ireturn d28_110 rfl (leb rfl) (leb rfl) ⟨rfl, rfl⟩
def f_post_48 (n : Nat) (v1 : Int32) (v3 : Int32) (v4 : Int64) (v6 : Int64) (s : St) : Option (Int32 × St) :=
  (f_applyJournal n v1 v3 v4 (0 : Int32) s).bind fun c1 =>
  (f_countJournal v6 c1).bind fun c2 =>
  (rd (gA c2 10) v1).bind fun x3 =>
  if x3 = 0 then
    f_post_97 n v1 v4 c2
  else
    if (v3 + (1 : Int32)) < (12 : Int32) then
      (f_applyJournal n v1 (v3 + (1 : Int32)) v4 (1 : Int32) c2).bind fun c6 =>
      (f_countJournal v6 c6).bind fun c7 =>
      f_post_97 n v1 v4 c7
    else
      f_post_97 n v1 v4 c2
set_option maxRecDepth 65536 in
set_option maxHeartbeats 4000000 in
theorem ok28_48 (l : Launch) (Z : State) (a0 : Array Value) (hw : HW a0 Z) (n0 : Nat) (n : Nat) (v1 : Int32) (v3 : Int32) (v4 : Int64) (v6 : Int64) (s : St) (r : Int32 × St) (h : f_post_48 n v1 v3 v4 v6 s = some r) : W28 l Z n0 (P28 r) 0 0 48 [.val (.ref 0), .val (.int v1), .unset, .val (.int v3), .val (.long v4), .second, .val (.long v6), .second] [] (Hb 0 s) := by
  unfold f_post_48 at h
  refine WP.aloadN d28_48 rfl ?_
  refine WP.iloadN d28_49 rfl ?_
  refine WP.iloadN d28_50 rfl ?_
  refine WP.lload d28_51 rfl ?_
  refine WP.iconst (0 : Int32) d28_53 rfl ?_
  obtain ⟨c1, hc1, h⟩ := Option.bind_eq_some_iff.mp h
  refine WP.callP (i := 0) (y := y39) (as := [.int v1, .int v3, .long v4, .int (0 : Int32)]) (S := []) d28_54 (hw _ m_227) (hw _ m_229) (hw _ m_3) (hw _ m_228) (hw _ m_230) (hw _ m_4) hy39 rfl (ok39 l Z a0 hw n v1 v3 v4 (0 : Int32) s _ hc1) rfl (lenOf pd39 rfl) (leb rfl) (leb rfl) (leb rfl) (leb rfl) ?_
  rintro _ _ ⟨rfl, rfl⟩
  show W28 l Z n0 (P28 r) 0 0 57 [.val (.ref 0), .val (.int v1), .unset, .val (.int v3), .val (.long v4), .second, .val (.long v6), .second] [] (Hb 0 c1)
  refine WP.aloadN d28_57 rfl ?_
  refine WP.lload d28_58 rfl ?_
  obtain ⟨c2, hc2, h⟩ := Option.bind_eq_some_iff.mp h
  refine WP.callP (i := 0) (y := y41) (as := [.long v6]) (S := []) d28_60 (hw _ m_235) (hw _ m_237) (hw _ m_3) (hw _ m_236) (hw _ m_238) (hw _ m_4) hy41 rfl (ok41 l Z a0 hw v6 c1 _ hc2) rfl (lenOf pd41 rfl) (leb rfl) (leb rfl) (leb rfl) (leb rfl) ?_
  rintro _ _ ⟨rfl, rfl⟩
  show W28 l Z n0 (P28 r) 0 0 63 [.val (.ref 0), .val (.int v1), .unset, .val (.int v3), .val (.long v4), .second, .val (.long v6), .second] [] (Hb 0 c2)
  refine WP.aloadN d28_63 rfl ?_
  refine WP.getfield (i := 0) (j := 15) d28_64 (hw _ m_40) rfl rfl rfl ?_
  refine WP.iloadN d28_67 rfl ?_
  obtain ⟨x3, hx3, h⟩ := Option.bind_eq_some_iff.mp h
  refine WP.baload (i := 14) d28_68 rfl hx3 ?_
  rcases ite_e h with ⟨hc4, h⟩ | ⟨hc4, h⟩
  ·
    refine WP.ifY (pc' := 97) d28_69 (XT.i0_eq_t hc4) (by decide) rfl ?_
    exact WP.weak (L' := [.val (.ref 0), .val (.int v1), .unset, .unset, .val (.long v4), .second, .unset, .unset]) ⟨rfl, rfl, rfl, rfl, trivial⟩ (ok28_97 l Z a0 hw n0 n v1 v4 c2 _ h)
  ·
    refine WP.ifN d28_69 (XT.i0_eq_f hc4) ?_
    refine WP.iloadN d28_72 rfl ?_
    refine WP.iconst (1 : Int32) d28_73 rfl ?_
    refine WP.iadd d28_74 ?_
    refine WP.bipush (12 : Int32) d28_75 rfl ?_
    rcases ite_e h with ⟨hc5, h⟩ | ⟨hc5, h⟩
    ·
      refine WP.icmpN d28_77 (XT.ii_ge_f hc5) ?_
      refine WP.aloadN d28_80 rfl ?_
      refine WP.iloadN d28_81 rfl ?_
      refine WP.iloadN d28_82 rfl ?_
      refine WP.iconst (1 : Int32) d28_83 rfl ?_
      refine WP.iadd d28_84 ?_
      refine WP.lload d28_85 rfl ?_
      refine WP.iconst (1 : Int32) d28_87 rfl ?_
      obtain ⟨c6, hc6, h⟩ := Option.bind_eq_some_iff.mp h
      refine WP.callP (i := 0) (y := y39) (as := [.int v1, .int (v3 + (1 : Int32)), .long v4, .int (1 : Int32)]) (S := []) d28_88 (hw _ m_227) (hw _ m_229) (hw _ m_3) (hw _ m_228) (hw _ m_230) (hw _ m_4) hy39 rfl (ok39 l Z a0 hw n v1 (v3 + (1 : Int32)) v4 (1 : Int32) c2 _ hc6) rfl (lenOf pd39 rfl) (leb rfl) (leb rfl) (leb rfl) (leb rfl) ?_
      rintro _ _ ⟨rfl, rfl⟩
      show W28 l Z n0 (P28 r) 0 0 91 [.val (.ref 0), .val (.int v1), .unset, .val (.int v3), .val (.long v4), .second, .val (.long v6), .second] [] (Hb 0 c6)
      refine WP.aloadN d28_91 rfl ?_
      refine WP.lload d28_92 rfl ?_
      obtain ⟨c7, hc7, h⟩ := Option.bind_eq_some_iff.mp h
      refine WP.callP (i := 0) (y := y41) (as := [.long v6]) (S := []) d28_94 (hw _ m_235) (hw _ m_237) (hw _ m_3) (hw _ m_236) (hw _ m_238) (hw _ m_4) hy41 rfl (ok41 l Z a0 hw v6 c6 _ hc7) rfl (lenOf pd41 rfl) (leb rfl) (leb rfl) (leb rfl) (leb rfl) ?_
      rintro _ _ ⟨rfl, rfl⟩
      show W28 l Z n0 (P28 r) 0 0 97 [.val (.ref 0), .val (.int v1), .unset, .val (.int v3), .val (.long v4), .second, .val (.long v6), .second] [] (Hb 0 c7)
      exact WP.weak (L' := [.val (.ref 0), .val (.int v1), .unset, .unset, .val (.long v4), .second, .unset, .unset]) ⟨rfl, rfl, rfl, rfl, trivial⟩ (ok28_97 l Z a0 hw n0 n v1 v4 c7 _ h)
    ·
      refine WP.icmpY (pc' := 97) d28_77 (XT.ii_ge_t hc5) (by decide) rfl ?_
      exact WP.weak (L' := [.val (.ref 0), .val (.int v1), .unset, .unset, .val (.long v4), .second, .unset, .unset]) ⟨rfl, rfl, rfl, rfl, trivial⟩ (ok28_97 l Z a0 hw n0 n v1 v4 c2 _ h)
def f_post (n : Nat) (p1 : Int32) (s : St) : Option (Int32 × St) :=
  (f_postRefusal n p1 s).bind fun c1 =>
  if c1.1 = 0 then
    (rd (gA c1.2 9) p1).bind fun x3 =>
    (f_journalRounding n p1 c1.2).bind fun c4 =>
    (rd (gA c1.2 11) p1).bind fun x5 =>
    lt (x5.toInt64) fun x6 =>
    if c4 = (0 : Int64) then
      f_post_48 n p1 x3 c4 x6 c1.2
    else
      lt (x6 + (1 : Int64)) fun x8 =>
      f_post_48 n p1 x3 c4 x8 c1.2
  else
    some (c1.1, c1.2)
set_option maxRecDepth 65536 in
set_option maxHeartbeats 4000000 in
theorem ok28 (l : Launch) (Z : State) (a0 : Array Value) (hw : HW a0 Z) (n : Nat) (p1 : Int32) (s : St) (r : Int32 × St) (h : f_post n p1 s = some r) : CS l Z CN lay y28 prog_1_method_18_code 8 (some FieldType.int) R28 0 [.ref 0, .int p1] (Hb 0 s) (P28 r) := by
  refine CS.of_wp pn_cls (leb rfl) fun n0 => ?_
  show W28 l Z n0 (P28 r) 0 0 0 [.val (.ref 0), .val (.int p1), .unset, .unset, .unset, .unset, .unset, .unset] [] (Hb 0 s)
  unfold f_post at h
  refine WP.aloadN d28_0 rfl ?_
  refine WP.iloadN d28_1 rfl ?_
  obtain ⟨c1, hc1, h⟩ := Option.bind_eq_some_iff.mp h
  refine WP.callP (i := 0) (y := y29) (as := [.int p1]) (S := []) d28_2 (hw _ m_185) (hw _ m_187) (hw _ m_3) (hw _ m_186) (hw _ m_188) (hw _ m_4) hy29 rfl (ok29 l Z a0 hw n p1 s _ hc1) rfl (lenOf pd29 rfl) (leb rfl) (leb rfl) (leb rfl) (leb rfl) ?_
  rintro _ _ ⟨rfl, rfl⟩
  show W28 l Z n0 (P28 r) 0 0 5 [.val (.ref 0), .val (.int p1), .unset, .unset, .unset, .unset, .unset, .unset] [.int c1.1] (Hb 0 c1.2)
  refine WP.istoreN (L' := [.val (.ref 0), .val (.int p1), .val (.int c1.1), .unset, .unset, .unset, .unset, .unset]) d28_5 (leb rfl) rfl ?_
  refine WP.iloadN d28_6 rfl ?_
  rcases ite_e h with ⟨hc2, h⟩ | ⟨hc2, h⟩
  ·
    refine WP.ifY (pc' := 12) d28_7 (XT.i0_eq_t hc2) (by decide) rfl ?_
    refine WP.aloadN d28_12 rfl ?_
    refine WP.getfield (i := 0) (j := 14) d28_13 (hw _ m_38) rfl rfl rfl ?_
    refine WP.iloadN d28_16 rfl ?_
    obtain ⟨x3, hx3, h⟩ := Option.bind_eq_some_iff.mp h
    refine WP.iaload (i := 13) d28_17 rfl hx3 ?_
    refine WP.istoreN (L' := [.val (.ref 0), .val (.int p1), .val (.int c1.1), .val (.int x3), .unset, .unset, .unset, .unset]) d28_18 (leb rfl) rfl ?_
    refine WP.aloadN d28_19 rfl ?_
    refine WP.iloadN d28_20 rfl ?_
    obtain ⟨c4, hc4, h⟩ := Option.bind_eq_some_iff.mp h
    refine WP.callP (i := 0) (y := y35) (as := [.int p1]) (S := []) d28_21 (hw _ m_209) (hw _ m_211) (hw _ m_3) (hw _ m_210) (hw _ m_212) (hw _ m_4) hy35 rfl (ok35 l Z a0 hw n p1 c1.2 _ hc4) rfl (lenOf pd35 rfl) (leb rfl) (leb rfl) (leb rfl) (leb rfl) ?_
    rintro _ _ ⟨rfl, rfl⟩
    show W28 l Z n0 (P28 r) 0 0 24 [.val (.ref 0), .val (.int p1), .val (.int c1.1), .val (.int x3), .unset, .unset, .unset, .unset] [.long c4] (Hb 0 c1.2)
    refine WP.lstore (L' := [.val (.ref 0), .val (.int p1), .val (.int c1.1), .val (.int x3), .val (.long c4), .second, .unset, .unset]) d28_24 (leb rfl) rfl ?_
    refine WP.aloadN d28_26 rfl ?_
    refine WP.getfield (i := 0) (j := 16) d28_27 (hw _ m_42) rfl rfl rfl ?_
    refine WP.iloadN d28_30 rfl ?_
    obtain ⟨x5, hx5, h⟩ := Option.bind_eq_some_iff.mp h
    refine WP.iaload (i := 15) d28_31 rfl hx5 ?_
    refine WP.i2l d28_32 ?_
    obtain ⟨x6, ex6, h⟩ := lt_e h
    refine WP.lstore (L' := [.val (.ref 0), .val (.int p1), .val (.int c1.1), .val (.int x3), .val (.long c4), .second, .val (.long x6), .second]) d28_33 (leb rfl) (by subst ex6; rfl) ?_
    refine WP.lload d28_35 rfl ?_
    refine WP.lconst (0 : Int64) d28_37 rfl ?_
    refine WP.lcmp d28_38 ?_
    rcases ite_e h with ⟨hc7, h⟩ | ⟨hc7, h⟩
    ·
      refine WP.ifY (pc' := 48) d28_39 (XT.ll_eq_t hc7) (by decide) rfl ?_
      exact WP.weak (L' := [.val (.ref 0), .val (.int p1), .unset, .val (.int x3), .val (.long c4), .second, .val (.long x6), .second]) ⟨rfl, rfl, rfl, rfl, rfl, rfl, rfl, trivial⟩ (ok28_48 l Z a0 hw n0 n p1 x3 c4 x6 c1.2 _ h)
    ·
      refine WP.ifN d28_39 (XT.ll_eq_f hc7) ?_
      refine WP.lload d28_42 rfl ?_
      refine WP.lconst (1 : Int64) d28_44 rfl ?_
      refine WP.ladd d28_45 ?_
      obtain ⟨x8, ex8, h⟩ := lt_e h
      refine WP.lstore (L' := [.val (.ref 0), .val (.int p1), .val (.int c1.1), .val (.int x3), .val (.long c4), .second, .val (.long x8), .second]) d28_46 (leb rfl) (by subst ex8; rfl) ?_
      exact WP.weak (L' := [.val (.ref 0), .val (.int p1), .unset, .val (.int x3), .val (.long c4), .second, .val (.long x8), .second]) ⟨rfl, rfl, rfl, rfl, rfl, rfl, rfl, trivial⟩ (ok28_48 l Z a0 hw n0 n p1 x3 c4 x8 c1.2 _ h)
  ·
    refine WP.ifN d28_7 (XT.i0_eq_f hc2) ?_
    refine WP.iloadN d28_10 rfl ?_
    cases h
    exact WP.ireturn d28_11 rfl (leb rfl) (leb rfl) ⟨rfl, rfl⟩
theorem d42_0 : dc method_2_code 0 (.lload_n 0) 1 := by decide +kernel
theorem d42_1 : dc method_2_code 1 (.iload_n 2) 1 := by decide +kernel
theorem d42_2 : dc method_2_code 2 (.i2l) 1 := by decide +kernel
theorem d42_3 : dc method_2_code 3 (.lmul) 1 := by decide +kernel
theorem d42_4 : dc method_2_code 4 (.lstore_n 3) 1 := by decide +kernel
theorem d42_5 : dc method_2_code 5 (.lload_n 3) 1 := by decide +kernel
theorem d42_6 : dc method_2_code 6 (.lconst 0) 1 := by decide +kernel
theorem d42_7 : dc method_2_code 7 (.lcmp) 1 := by decide +kernel
theorem d42_8 : dc method_2_code 8 (.ifCond .lt 13) 3 := by decide +kernel
theorem d42_11 : dc method_2_code 11 (.lload_n 3) 1 := by decide +kernel
theorem d42_12 : dc method_2_code 12 (.ldc2_w 7) 3 := by decide +kernel
theorem d42_15 : dc method_2_code 15 (.ladd) 1 := by decide +kernel
theorem d42_16 : dc method_2_code 16 (.ldc2_w 9) 3 := by decide +kernel
theorem d42_19 : dc method_2_code 19 (.ldiv) 1 := by decide +kernel
theorem d42_20 : dc method_2_code 20 (.lreturn) 1 := by decide +kernel
theorem d42_21 : dc method_2_code 21 (.lload_n 3) 1 := by decide +kernel
theorem d42_22 : dc method_2_code 22 (.lneg) 1 := by decide +kernel
theorem d42_23 : dc method_2_code 23 (.ldc2_w 7) 3 := by decide +kernel
theorem d42_26 : dc method_2_code 26 (.ladd) 1 := by decide +kernel
theorem d42_27 : dc method_2_code 27 (.ldc2_w 9) 3 := by decide +kernel
theorem d42_30 : dc method_2_code 30 (.ldiv) 1 := by decide +kernel
theorem d42_31 : dc method_2_code 31 (.lneg) 1 := by decide +kernel
theorem d42_32 : dc method_2_code 32 (.lreturn) 1 := by decide +kernel
abbrev y42 : MethodName := ⟨"GeneralLedgerL3", "round", "(JI)J"⟩
theorem hy42 : y42.cls ≠ "java/lang/invoke/MethodHandle" ∧ y42.cls ≠ "java/lang/invoke/VarHandle" := by decide
theorem pd42 : parseMethodDescriptor y42.desc = some ⟨[.long, .int], some .long⟩ := by decide +kernel
abbrev R42 : Room := { frames := 0, cells := 0, slots := 0, locals := 0 }
abbrev P42 (r : Int64) : Option Value → List OwnC → Prop := fun v H' => v = some (.long r) ∧ H' = ([] : List OwnC)
abbrev W42 (l : Launch) (Z : State) (n0 : Nat) (Q : Option Value → List OwnC → Prop) (k n pc : Nat) (L : List Slot) (S : List Value) (H : List OwnC) : Prop := WP l Z CN lay "GeneralLedgerL3" "round" method_2_code 5 (some FieldType.long) R42 n0 0 Q k n pc L S H
def f_L_round (p0 : Int64) (p1 : Int32) : Option (Int64) :=
  lt (p0 * p1.toInt64) fun x1 =>
  if x1 < (0 : Int64) then
    some (-(((-x1) + (50 : Int64)) / (100 : Int64)))
  else
    some ((x1 + (50 : Int64)) / (100 : Int64))
set_option maxRecDepth 65536 in
set_option maxHeartbeats 4000000 in
theorem ok42 (l : Launch) (Z : State) (a0 : Array Value) (hw : HW a0 Z) (p0 : Int64) (p1 : Int32) (r : Int64) (h : f_L_round p0 p1 = some r) : CS l Z CN lay y42 method_2_code 5 (some FieldType.long) R42 0 [.long p0, .int p1] ([] : List OwnC) (P42 r) := by
  refine CS.of_wp pn_law (leb rfl) fun n0 => ?_
  show W42 l Z n0 (P42 r) 0 0 0 [.val (.long p0), .second, .val (.int p1), .unset, .unset] [] ([] : List OwnC)
  unfold f_L_round at h
  refine WP.lloadN d42_0 rfl ?_
  refine WP.iloadN d42_1 rfl ?_
  refine WP.i2l d42_2 ?_
  refine WP.lmul d42_3 ?_
  obtain ⟨x1, ex1, h⟩ := lt_e h
  refine WP.lstoreN (L' := [.val (.long p0), .second, .val (.int p1), .val (.long x1), .second]) d42_4 (leb rfl) (by subst ex1; rfl) ?_
  refine WP.lloadN d42_5 rfl ?_
  refine WP.lconst (0 : Int64) d42_6 rfl ?_
  refine WP.lcmp d42_7 ?_
  rcases ite_e h with ⟨hc2, h⟩ | ⟨hc2, h⟩
  ·
    refine WP.ifY (pc' := 21) d42_8 (XT.ll_lt_t hc2) (by decide) rfl ?_
    refine WP.lloadN d42_21 rfl ?_
    refine WP.lneg d42_22 ?_
    refine WP.ldc2 d42_23 (hw _ m_243) ?_
    refine WP.ladd d42_26 ?_
    refine WP.ldc2 d42_27 (hw _ m_244) ?_
    refine WP.ldiv d42_30 (by decide) ?_
    refine WP.lneg d42_31 ?_
    cases h
    exact WP.lreturn d42_32 rfl (leb rfl) (leb rfl) ⟨rfl, rfl⟩
  ·
    refine WP.ifN d42_8 (XT.ll_lt_f hc2) ?_
    refine WP.lloadN d42_11 rfl ?_
    refine WP.ldc2 d42_12 (hw _ m_243) ?_
    refine WP.ladd d42_15 ?_
    refine WP.ldc2 d42_16 (hw _ m_244) ?_
    refine WP.ldiv d42_19 (by decide) ?_
    cases h
    exact WP.lreturn d42_20 rfl (leb rfl) (leb rfl) ⟨rfl, rfl⟩
theorem d44_0 : dc prog_1_method_37_code 0 (.iload_n 1) 1 := by decide +kernel
theorem d44_1 : dc prog_1_method_37_code 1 (.istore_n 3) 1 := by decide +kernel
theorem d44_2 : dc prog_1_method_37_code 2 (.iconst 0) 1 := by decide +kernel
theorem d44_3 : dc prog_1_method_37_code 3 (.istore 4) 2 := by decide +kernel
theorem d44_5 : dc prog_1_method_37_code 5 (.iload 4) 2 := by decide +kernel
theorem d44_7 : dc prog_1_method_37_code 7 (.bipush 33) 2 := by decide +kernel
theorem d44_9 : dc prog_1_method_37_code 9 (.if_icmp .ge 35) 3 := by decide +kernel
theorem d44_12 : dc prog_1_method_37_code 12 (.iload_n 3) 1 := by decide +kernel
theorem d44_13 : dc prog_1_method_37_code 13 (.iload_n 2) 1 := by decide +kernel
theorem d44_14 : dc prog_1_method_37_code 14 (.if_icmp .ne 5) 3 := by decide +kernel
theorem d44_17 : dc prog_1_method_37_code 17 (.iconst 1) 1 := by decide +kernel
theorem d44_18 : dc prog_1_method_37_code 18 (.ireturn) 1 := by decide +kernel
theorem d44_19 : dc prog_1_method_37_code 19 (.iload_n 3) 1 := by decide +kernel
theorem d44_20 : dc prog_1_method_37_code 20 (.ifCond .lt 9) 3 := by decide +kernel
theorem d44_23 : dc prog_1_method_37_code 23 (.iload_n 3) 1 := by decide +kernel
theorem d44_24 : dc prog_1_method_37_code 24 (.bipush 32) 2 := by decide +kernel
theorem d44_26 : dc prog_1_method_37_code 26 (.if_icmp .lt 5) 3 := by decide +kernel
theorem d44_29 : dc prog_1_method_37_code 29 (.iconst 0) 1 := by decide +kernel
theorem d44_30 : dc prog_1_method_37_code 30 (.ireturn) 1 := by decide +kernel
theorem d44_31 : dc prog_1_method_37_code 31 (.aload_n 0) 1 := by decide +kernel
theorem d44_32 : dc prog_1_method_37_code 32 (.getfield 13) 3 := by decide +kernel
theorem d44_35 : dc prog_1_method_37_code 35 (.iload_n 3) 1 := by decide +kernel
theorem d44_36 : dc prog_1_method_37_code 36 (.iaload) 1 := by decide +kernel
theorem d44_37 : dc prog_1_method_37_code 37 (.istore_n 3) 1 := by decide +kernel
theorem d44_38 : dc prog_1_method_37_code 38 (.iinc 4 1) 3 := by decide +kernel
theorem d44_41 : dc prog_1_method_37_code 41 (.goto (-36)) 3 := by decide +kernel
theorem d44_44 : dc prog_1_method_37_code 44 (.iconst 0) 1 := by decide +kernel
theorem d44_45 : dc prog_1_method_37_code 45 (.ireturn) 1 := by decide +kernel
abbrev y44 : MethodName := ⟨"GeneralLedger", "inSubtree", "(II)Z"⟩
theorem hy44 : y44.cls ≠ "java/lang/invoke/MethodHandle" ∧ y44.cls ≠ "java/lang/invoke/VarHandle" := by decide
theorem pd44 : parseMethodDescriptor y44.desc = some ⟨[.int, .int], some .boolean⟩ := by decide +kernel
abbrev R44 : Room := { frames := 0, cells := 0, slots := 0, locals := 0 }
abbrev P44 (s : St) (r : Int32) : Option Value → List OwnC → Prop := fun v H' => v = some (.int r) ∧ H' = (Hb 0 s)
abbrev W44 (l : Launch) (Z : State) (n0 : Nat) (Q : Option Value → List OwnC → Prop) (k n pc : Nat) (L : List Slot) (S : List Value) (H : List OwnC) : Prop := WP l Z CN lay "GeneralLedger" "inSubtree" prog_1_method_37_code 5 (some FieldType.boolean) R44 n0 0 Q k n pc L S H
def f_inSubtree_29 (n : Nat) (s : St) : Option (Int32) :=
  some (0 : Int32)
set_option maxRecDepth 65536 in
set_option maxHeartbeats 4000000 in
theorem ok44_29 (l : Launch) (Z : State) (a0 : Array Value) (hw : HW a0 Z) (n0 : Nat) (n : Nat) (s : St) (r : Int32) (h : f_inSubtree_29 n s = some r) : W44 l Z n0 (P44 s r) 0 0 29 [.unset, .unset, .unset, .unset, .unset] [] (Hb 0 s) := by
  unfold f_inSubtree_29 at h
  refine WP.iconst (0 : Int32) d44_29 rfl ?_
  cases h
  exact WP.zreturn d44_30 rfl (leb rfl) (leb rfl) ⟨rfl, rfl⟩
def g_inSubtree_5 (k5 : Int32 → Int32 → Int32 → St → Option (Int32)) (n : Nat) (v2 : Int32) (v3 : Int32) (v4 : Int32) (s : St) : Option (Int32) :=
  if v4 < (33 : Int32) then
    if v3 = v2 then
      some (1 : Int32)
    else
      if v3 < 0 then
        f_inSubtree_29 n s
      else
        if v3 < (32 : Int32) then
          (rd (gA s 1) v3).bind fun x5 =>
          lt (v4 + (1 : Int32)) fun x6 =>
          k5 v2 x5 x6 s
        else
          f_inSubtree_29 n s
  else
    some (0 : Int32)
set_option maxRecDepth 65536 in
set_option maxHeartbeats 4000000 in
theorem okg44_5 (l : Launch) (Z : State) (a0 : Array Value) (hw : HW a0 Z) (n0 : Nat) (k5 : Int32 → Int32 → Int32 → St → Option (Int32)) (hk5 : ∀ (v2 : Int32) (v3 : Int32) (v4 : Int32) (s : St) (r : Int32), k5 v2 v3 v4 s = some r → W44 l Z n0 (P44 s r) 0 0 5 [.val (.ref 0), .unset, .val (.int v2), .val (.int v3), .val (.int v4)] [] (Hb 0 s)) (n : Nat) (v2 : Int32) (v3 : Int32) (v4 : Int32) (s : St) (r : Int32) (h : g_inSubtree_5 k5 n v2 v3 v4 s = some r) : W44 l Z n0 (P44 s r) 0 0 5 [.val (.ref 0), .unset, .val (.int v2), .val (.int v3), .val (.int v4)] [] (Hb 0 s) := by
  unfold g_inSubtree_5 at h
  refine WP.iload d44_5 rfl ?_
  refine WP.bipush (33 : Int32) d44_7 rfl ?_
  rcases ite_e h with ⟨hc1, h⟩ | ⟨hc1, h⟩
  ·
    refine WP.icmpN d44_9 (XT.ii_ge_f hc1) ?_
    refine WP.iloadN d44_12 rfl ?_
    refine WP.iloadN d44_13 rfl ?_
    rcases ite_e h with ⟨hc2, h⟩ | ⟨hc2, h⟩
    ·
      refine WP.icmpN d44_14 (XT.ii_ne_f hc2) ?_
      refine WP.iconst (1 : Int32) d44_17 rfl ?_
      cases h
      exact WP.zreturn d44_18 rfl (leb rfl) (leb rfl) ⟨rfl, rfl⟩
    ·
      refine WP.icmpY (pc' := 19) d44_14 (XT.ii_ne_t hc2) (by decide) rfl ?_
      refine WP.iloadN d44_19 rfl ?_
      rcases ite_e h with ⟨hc3, h⟩ | ⟨hc3, h⟩
      ·
        refine WP.ifY (pc' := 29) d44_20 (XT.i0_lt_t hc3) (by decide) rfl ?_
        exact WP.weak (L' := [.unset, .unset, .unset, .unset, .unset]) trivial (ok44_29 l Z a0 hw n0 n s _ h)
      ·
        refine WP.ifN d44_20 (XT.i0_lt_f hc3) ?_
        refine WP.iloadN d44_23 rfl ?_
        refine WP.bipush (32 : Int32) d44_24 rfl ?_
        rcases ite_e h with ⟨hc4, h⟩ | ⟨hc4, h⟩
        ·
          refine WP.icmpY (pc' := 31) d44_26 (XT.ii_lt_t hc4) (by decide) rfl ?_
          refine WP.aloadN d44_31 rfl ?_
          refine WP.getfield (i := 0) (j := 3) d44_32 (hw _ m_15) rfl rfl rfl ?_
          refine WP.iloadN d44_35 rfl ?_
          obtain ⟨x5, hx5, h⟩ := Option.bind_eq_some_iff.mp h
          refine WP.iaload (i := 2) d44_36 rfl hx5 ?_
          refine WP.istoreN (L' := [.val (.ref 0), .unset, .val (.int v2), .val (.int x5), .val (.int v4)]) d44_37 (leb rfl) rfl ?_
          obtain ⟨x6, ex6, h⟩ := lt_e h
          refine WP.iinc (L' := [.val (.ref 0), .unset, .val (.int v2), .val (.int x5), .val (.int x6)]) (1 : Int32) d44_38 rfl rfl (by subst ex6; rfl) ?_
          refine WP.goto (pc' := 5) d44_41 (by decide) rfl ?_
          exact WP.weak (L' := [.val (.ref 0), .unset, .val (.int v2), .val (.int x5), .val (.int x6)]) ⟨rfl, rfl, rfl, rfl, trivial⟩ (hk5 v2 x5 x6 s _ h)
        ·
          refine WP.icmpN d44_26 (XT.ii_lt_f hc4) ?_
          exact WP.weak (L' := [.unset, .unset, .unset, .unset, .unset]) trivial (ok44_29 l Z a0 hw n0 n s _ h)
  ·
    refine WP.icmpY (pc' := 44) d44_9 (XT.ii_ge_t hc1) (by decide) rfl ?_
    refine WP.iconst (0 : Int32) d44_44 rfl ?_
    cases h
    exact WP.zreturn d44_45 rfl (leb rfl) (leb rfl) ⟨rfl, rfl⟩
def f_inSubtree_5 : Nat → Int32 → Int32 → Int32 → St → Option (Int32)
  | 0 => fun _ _ _ _ => none
  | n + 1 => g_inSubtree_5 (f_inSubtree_5 n) n
theorem ok44_5 (l : Launch) (Z : State) (a0 : Array Value) (hw : HW a0 Z) (n0 : Nat) : ∀ (n : Nat) (v2 : Int32) (v3 : Int32) (v4 : Int32) (s : St) (r : Int32), f_inSubtree_5 n v2 v3 v4 s = some r → W44 l Z n0 (P44 s r) 0 0 5 [.val (.ref 0), .unset, .val (.int v2), .val (.int v3), .val (.int v4)] [] (Hb 0 s)
  | 0, v2, v3, v4, s, r, h => nomatch (show none = some r from h)
  | n + 1, v2, v3, v4, s, r, h => okg44_5 l Z a0 hw n0 _ (ok44_5 l Z a0 hw n0 n) n v2 v3 v4 s r h
def f_inSubtree (n : Nat) (p1 : Int32) (p2 : Int32) (s : St) : Option (Int32) :=
  f_inSubtree_5 n p2 p1 (0 : Int32) s
set_option maxRecDepth 65536 in
set_option maxHeartbeats 4000000 in
theorem ok44 (l : Launch) (Z : State) (a0 : Array Value) (hw : HW a0 Z) (n : Nat) (p1 : Int32) (p2 : Int32) (s : St) (r : Int32) (h : f_inSubtree n p1 p2 s = some r) : CS l Z CN lay y44 prog_1_method_37_code 5 (some FieldType.boolean) R44 0 [.ref 0, .int p1, .int p2] (Hb 0 s) (P44 s r) := by
  refine CS.of_wp pn_cls (leb rfl) fun n0 => ?_
  show W44 l Z n0 (P44 s r) 0 0 0 [.val (.ref 0), .val (.int p1), .val (.int p2), .unset, .unset] [] (Hb 0 s)
  unfold f_inSubtree at h
  refine WP.iloadN d44_0 rfl ?_
  refine WP.istoreN (L' := [.val (.ref 0), .val (.int p1), .val (.int p2), .val (.int p1), .unset]) d44_1 (leb rfl) rfl ?_
  refine WP.iconst (0 : Int32) d44_2 rfl ?_
  refine WP.istore (L' := [.val (.ref 0), .val (.int p1), .val (.int p2), .val (.int p1), .val (.int (0 : Int32))]) d44_3 (leb rfl) rfl ?_
  exact WP.weak (L' := [.val (.ref 0), .unset, .val (.int p2), .val (.int p1), .val (.int (0 : Int32))]) ⟨rfl, rfl, rfl, rfl, trivial⟩ (ok44_5 l Z a0 hw n0 n p2 p1 (0 : Int32) s _ h)
theorem d45_0 : dc prog_1_method_38_code 0 (.iload 4) 2 := by decide +kernel
theorem d45_2 : dc prog_1_method_38_code 2 (.ifCond .ne 15) 3 := by decide +kernel
theorem d45_5 : dc prog_1_method_38_code 5 (.aload_n 0) 1 := by decide +kernel
theorem d45_6 : dc prog_1_method_38_code 6 (.getfield 32) 3 := by decide +kernel
theorem d45_9 : dc prog_1_method_38_code 9 (.aload_n 0) 1 := by decide +kernel
theorem d45_10 : dc prog_1_method_38_code 10 (.iload_n 1) 1 := by decide +kernel
theorem d45_11 : dc prog_1_method_38_code 11 (.iload_n 3) 1 := by decide +kernel
theorem d45_12 : dc prog_1_method_38_code 12 (.invokevirtual 132) 3 := by decide +kernel
theorem d45_15 : dc prog_1_method_38_code 15 (.laload) 1 := by decide +kernel
theorem d45_16 : dc prog_1_method_38_code 16 (.lreturn) 1 := by decide +kernel
theorem d45_17 : dc prog_1_method_38_code 17 (.iload 4) 2 := by decide +kernel
theorem d45_19 : dc prog_1_method_38_code 19 (.iconst 2) 1 := by decide +kernel
theorem d45_20 : dc prog_1_method_38_code 20 (.if_icmp .ne 10) 3 := by decide +kernel
theorem d45_23 : dc prog_1_method_38_code 23 (.aload_n 0) 1 := by decide +kernel
theorem d45_24 : dc prog_1_method_38_code 24 (.iload_n 1) 1 := by decide +kernel
theorem d45_25 : dc prog_1_method_38_code 25 (.iload_n 3) 1 := by decide +kernel
theorem d45_26 : dc prog_1_method_38_code 26 (.invokevirtual 225) 3 := by decide +kernel
theorem d45_30 : dc prog_1_method_38_code 30 (.aload_n 0) 1 := by decide +kernel
theorem d45_31 : dc prog_1_method_38_code 31 (.getfield 20) 3 := by decide +kernel
theorem d45_34 : dc prog_1_method_38_code 34 (.iload_n 1) 1 := by decide +kernel
theorem d45_35 : dc prog_1_method_38_code 35 (.iaload) 1 := by decide +kernel
theorem d45_36 : dc prog_1_method_38_code 36 (.aload_n 0) 1 := by decide +kernel
theorem d45_37 : dc prog_1_method_38_code 37 (.getfield 20) 3 := by decide +kernel
theorem d45_40 : dc prog_1_method_38_code 40 (.iload_n 2) 1 := by decide +kernel
theorem d45_41 : dc prog_1_method_38_code 41 (.iaload) 1 := by decide +kernel
theorem d45_42 : dc prog_1_method_38_code 42 (.if_icmp .eq 5) 3 := by decide +kernel
theorem d45_45 : dc prog_1_method_38_code 45 (.lconst 0) 1 := by decide +kernel
theorem d45_46 : dc prog_1_method_38_code 46 (.lreturn) 1 := by decide +kernel
theorem d45_47 : dc prog_1_method_38_code 47 (.iload 4) 2 := by decide +kernel
theorem d45_49 : dc prog_1_method_38_code 49 (.iconst 1) 1 := by decide +kernel
theorem d45_50 : dc prog_1_method_38_code 50 (.if_icmp .ne 15) 3 := by decide +kernel
theorem d45_53 : dc prog_1_method_38_code 53 (.aload_n 0) 1 := by decide +kernel
theorem d45_54 : dc prog_1_method_38_code 54 (.getfield 36) 3 := by decide +kernel
theorem d45_57 : dc prog_1_method_38_code 57 (.aload_n 0) 1 := by decide +kernel
theorem d45_58 : dc prog_1_method_38_code 58 (.iload_n 1) 1 := by decide +kernel
theorem d45_59 : dc prog_1_method_38_code 59 (.iload_n 3) 1 := by decide +kernel
theorem d45_60 : dc prog_1_method_38_code 60 (.invokevirtual 132) 3 := by decide +kernel
theorem d45_63 : dc prog_1_method_38_code 63 (.laload) 1 := by decide +kernel
theorem d45_64 : dc prog_1_method_38_code 64 (.lreturn) 1 := by decide +kernel
theorem d45_65 : dc prog_1_method_38_code 65 (.aload_n 0) 1 := by decide +kernel
theorem d45_66 : dc prog_1_method_38_code 66 (.iload_n 1) 1 := by decide +kernel
theorem d45_67 : dc prog_1_method_38_code 67 (.iload_n 3) 1 := by decide +kernel
theorem d45_68 : dc prog_1_method_38_code 68 (.invokevirtual 222) 3 := by decide +kernel
abbrev y45 : MethodName := ⟨"GeneralLedger", "contribution", "(IIII)J"⟩
theorem hy45 : y45.cls ≠ "java/lang/invoke/MethodHandle" ∧ y45.cls ≠ "java/lang/invoke/VarHandle" := by decide
theorem pd45 : parseMethodDescriptor y45.desc = some ⟨[.int, .int, .int, .int], some .long⟩ := by decide +kernel
abbrev R45 : Room := { frames := 1, cells := 0, slots := 0, locals := 15 }
abbrev P45 (s : St) (r : Int64) : Option Value → List OwnC → Prop := fun v H' => v = some (.long r) ∧ H' = (Hb 0 s)
abbrev W45 (l : Launch) (Z : State) (n0 : Nat) (Q : Option Value → List OwnC → Prop) (k n pc : Nat) (L : List Slot) (S : List Value) (H : List OwnC) : Prop := WP l Z CN lay "GeneralLedger" "contribution" prog_1_method_38_code 5 (some FieldType.long) R45 n0 0 Q k n pc L S H
def f_contribution (p1 : Int32) (p2 : Int32) (p3 : Int32) (p4 : Int32) (s : St) : Option (Int64) :=
  if p4 = 0 then
    (f_cell p1 p3 s).bind fun c2 =>
    (rd (gB s 0) c2).bind fun x3 =>
    some x3
  else
    if p4 = (2 : Int32) then
      none
    else
      (rd (gA s 3) p1).bind fun x5 =>
      (rd (gA s 3) p2).bind fun x6 =>
      if x5 = x6 then
        if p4 = (1 : Int32) then
          (f_cell p1 p3 s).bind fun c9 =>
          (rd (gB s 1) c9).bind fun x10 =>
          some x10
        else
          none
      else
        some (0 : Int64)
set_option maxRecDepth 65536 in
set_option maxHeartbeats 4000000 in
theorem ok45 (l : Launch) (Z : State) (a0 : Array Value) (hw : HW a0 Z) (p1 : Int32) (p2 : Int32) (p3 : Int32) (p4 : Int32) (s : St) (r : Int64) (h : f_contribution p1 p2 p3 p4 s = some r) : CS l Z CN lay y45 prog_1_method_38_code 5 (some FieldType.long) R45 0 [.ref 0, .int p1, .int p2, .int p3, .int p4] (Hb 0 s) (P45 s r) := by
  refine CS.of_wp pn_cls (leb rfl) fun n0 => ?_
  show W45 l Z n0 (P45 s r) 0 0 0 [.val (.ref 0), .val (.int p1), .val (.int p2), .val (.int p3), .val (.int p4)] [] (Hb 0 s)
  unfold f_contribution at h
  refine WP.iload d45_0 rfl ?_
  rcases ite_e h with ⟨hc1, h⟩ | ⟨hc1, h⟩
  ·
    refine WP.ifN d45_2 (XT.i0_ne_f hc1) ?_
    refine WP.aloadN d45_5 rfl ?_
    refine WP.getfield (i := 0) (j := 9) d45_6 (hw _ m_28) rfl rfl rfl ?_
    refine WP.aloadN d45_9 rfl ?_
    refine WP.iloadN d45_10 rfl ?_
    refine WP.iloadN d45_11 rfl ?_
    obtain ⟨c2, hc2, h⟩ := Option.bind_eq_some_iff.mp h
    refine WP.callP (i := 0) (y := y12) (as := [.int p1, .int p3]) (S := [.ref 8]) d45_12 (hw _ m_109) (hw _ m_111) (hw _ m_3) (hw _ m_110) (hw _ m_112) (hw _ m_4) hy12 rfl (ok12 l Z a0 hw p1 p3 s _ hc2) rfl (lenOf pd12 rfl) (leb rfl) (leb rfl) (leb rfl) (leb rfl) ?_
    rintro _ _ ⟨rfl, rfl⟩
    show W45 l Z n0 (P45 s r) 0 0 15 [.val (.ref 0), .val (.int p1), .val (.int p2), .val (.int p3), .val (.int p4)] [.int c2, .ref 8] (Hb 0 s)
    obtain ⟨x3, hx3, h⟩ := Option.bind_eq_some_iff.mp h
    refine WP.laload (i := 8) d45_15 rfl hx3 ?_
    cases h
    exact WP.lreturn d45_16 rfl (leb rfl) (leb rfl) ⟨rfl, rfl⟩
  ·
    refine WP.ifY (pc' := 17) d45_2 (XT.i0_ne_t hc1) (by decide) rfl ?_
    refine WP.iload d45_17 rfl ?_
    refine WP.iconst (2 : Int32) d45_19 rfl ?_
    rcases ite_e h with ⟨hc4, h⟩ | ⟨hc4, h⟩
    ·
      refine WP.icmpN d45_20 (XT.ii_ne_f hc4) ?_
      refine WP.aloadN d45_23 rfl ?_
      refine WP.iloadN d45_24 rfl ?_
      refine WP.iloadN d45_25 rfl ?_
      cases h
    ·
      refine WP.icmpY (pc' := 30) d45_20 (XT.ii_ne_t hc4) (by decide) rfl ?_
      refine WP.aloadN d45_30 rfl ?_
      refine WP.getfield (i := 0) (j := 5) d45_31 (hw _ m_19) rfl rfl rfl ?_
      refine WP.iloadN d45_34 rfl ?_
      obtain ⟨x5, hx5, h⟩ := Option.bind_eq_some_iff.mp h
      refine WP.iaload (i := 4) d45_35 rfl hx5 ?_
      refine WP.aloadN d45_36 rfl ?_
      refine WP.getfield (i := 0) (j := 5) d45_37 (hw _ m_19) rfl rfl rfl ?_
      refine WP.iloadN d45_40 rfl ?_
      obtain ⟨x6, hx6, h⟩ := Option.bind_eq_some_iff.mp h
      refine WP.iaload (i := 4) d45_41 rfl hx6 ?_
      rcases ite_e h with ⟨hc7, h⟩ | ⟨hc7, h⟩
      ·
        refine WP.icmpY (pc' := 47) d45_42 (XT.ii_eq_t hc7) (by decide) rfl ?_
        refine WP.iload d45_47 rfl ?_
        refine WP.iconst (1 : Int32) d45_49 rfl ?_
        rcases ite_e h with ⟨hc8, h⟩ | ⟨hc8, h⟩
        ·
          refine WP.icmpN d45_50 (XT.ii_ne_f hc8) ?_
          refine WP.aloadN d45_53 rfl ?_
          refine WP.getfield (i := 0) (j := 10) d45_54 (hw _ m_30) rfl rfl rfl ?_
          refine WP.aloadN d45_57 rfl ?_
          refine WP.iloadN d45_58 rfl ?_
          refine WP.iloadN d45_59 rfl ?_
          obtain ⟨c9, hc9, h⟩ := Option.bind_eq_some_iff.mp h
          refine WP.callP (i := 0) (y := y12) (as := [.int p1, .int p3]) (S := [.ref 9]) d45_60 (hw _ m_109) (hw _ m_111) (hw _ m_3) (hw _ m_110) (hw _ m_112) (hw _ m_4) hy12 rfl (ok12 l Z a0 hw p1 p3 s _ hc9) rfl (lenOf pd12 rfl) (leb rfl) (leb rfl) (leb rfl) (leb rfl) ?_
          rintro _ _ ⟨rfl, rfl⟩
          show W45 l Z n0 (P45 s r) 0 0 63 [.val (.ref 0), .val (.int p1), .val (.int p2), .val (.int p3), .val (.int p4)] [.int c9, .ref 9] (Hb 0 s)
          obtain ⟨x10, hx10, h⟩ := Option.bind_eq_some_iff.mp h
          refine WP.laload (i := 9) d45_63 rfl hx10 ?_
          cases h
          exact WP.lreturn d45_64 rfl (leb rfl) (leb rfl) ⟨rfl, rfl⟩
        ·
          refine WP.icmpY (pc' := 65) d45_50 (XT.ii_ne_t hc8) (by decide) rfl ?_
          refine WP.aloadN d45_65 rfl ?_
          refine WP.iloadN d45_66 rfl ?_
          refine WP.iloadN d45_67 rfl ?_
          cases h
      ·
        refine WP.icmpN d45_42 (XT.ii_eq_f hc7) ?_
        refine WP.lconst (0 : Int64) d45_45 rfl ?_
        cases h
        exact WP.lreturn d45_46 rfl (leb rfl) (leb rfl) ⟨rfl, rfl⟩
theorem d43_0 : dc prog_1_method_36_code 0 (.aload_n 0) 1 := by decide +kernel
theorem d43_1 : dc prog_1_method_36_code 1 (.iload_n 1) 1 := by decide +kernel
theorem d43_2 : dc prog_1_method_36_code 2 (.invokevirtual 110) 3 := by decide +kernel
theorem d43_5 : dc prog_1_method_36_code 5 (.ifCond .ne 5) 3 := by decide +kernel
theorem d43_8 : dc prog_1_method_36_code 8 (.lconst 0) 1 := by decide +kernel
theorem d43_9 : dc prog_1_method_36_code 9 (.lreturn) 1 := by decide +kernel
theorem d43_10 : dc prog_1_method_36_code 10 (.aload_n 0) 1 := by decide +kernel
theorem d43_11 : dc prog_1_method_36_code 11 (.iload_n 2) 1 := by decide +kernel
theorem d43_12 : dc prog_1_method_36_code 12 (.invokevirtual 152) 3 := by decide +kernel
theorem d43_15 : dc prog_1_method_36_code 15 (.ifCond .ne 5) 3 := by decide +kernel
theorem d43_18 : dc prog_1_method_36_code 18 (.lconst 0) 1 := by decide +kernel
theorem d43_19 : dc prog_1_method_36_code 19 (.lreturn) 1 := by decide +kernel
theorem d43_20 : dc prog_1_method_36_code 20 (.iload_n 3) 1 := by decide +kernel
theorem d43_21 : dc prog_1_method_36_code 21 (.ifCond .lt 8) 3 := by decide +kernel
theorem d43_24 : dc prog_1_method_36_code 24 (.iload_n 3) 1 := by decide +kernel
theorem d43_25 : dc prog_1_method_36_code 25 (.iconst 3) 1 := by decide +kernel
theorem d43_26 : dc prog_1_method_36_code 26 (.if_icmp .le 5) 3 := by decide +kernel
theorem d43_29 : dc prog_1_method_36_code 29 (.lconst 0) 1 := by decide +kernel
theorem d43_30 : dc prog_1_method_36_code 30 (.lreturn) 1 := by decide +kernel
theorem d43_31 : dc prog_1_method_36_code 31 (.lconst 0) 1 := by decide +kernel
theorem d43_32 : dc prog_1_method_36_code 32 (.lstore 4) 2 := by decide +kernel
theorem d43_34 : dc prog_1_method_36_code 34 (.iconst 0) 1 := by decide +kernel
theorem d43_35 : dc prog_1_method_36_code 35 (.istore 6) 2 := by decide +kernel
theorem d43_37 : dc prog_1_method_36_code 37 (.iload 6) 2 := by decide +kernel
theorem d43_39 : dc prog_1_method_36_code 39 (.bipush 32) 2 := by decide +kernel
theorem d43_41 : dc prog_1_method_36_code 41 (.if_icmp .ge 53) 3 := by decide +kernel
theorem d43_44 : dc prog_1_method_36_code 44 (.aload_n 0) 1 := by decide +kernel
theorem d43_45 : dc prog_1_method_36_code 45 (.getfield 7) 3 := by decide +kernel
theorem d43_48 : dc prog_1_method_36_code 48 (.iload 6) 2 := by decide +kernel
theorem d43_50 : dc prog_1_method_36_code 50 (.baload) 1 := by decide +kernel
theorem d43_51 : dc prog_1_method_36_code 51 (.ifCond .ne 6) 3 := by decide +kernel
theorem d43_54 : dc prog_1_method_36_code 54 (.goto 34) 3 := by decide +kernel
theorem d43_57 : dc prog_1_method_36_code 57 (.aload_n 0) 1 := by decide +kernel
theorem d43_58 : dc prog_1_method_36_code 58 (.iload 6) 2 := by decide +kernel
theorem d43_60 : dc prog_1_method_36_code 60 (.iload_n 1) 1 := by decide +kernel
theorem d43_61 : dc prog_1_method_36_code 61 (.invokevirtual 231) 3 := by decide +kernel
theorem d43_64 : dc prog_1_method_36_code 64 (.ifCond .ne 6) 3 := by decide +kernel
theorem d43_67 : dc prog_1_method_36_code 67 (.goto 21) 3 := by decide +kernel
theorem d43_70 : dc prog_1_method_36_code 70 (.aload_n 0) 1 := by decide +kernel
theorem d43_71 : dc prog_1_method_36_code 71 (.iload 6) 2 := by decide +kernel
theorem d43_73 : dc prog_1_method_36_code 73 (.iload_n 1) 1 := by decide +kernel
theorem d43_74 : dc prog_1_method_36_code 74 (.iload_n 2) 1 := by decide +kernel
theorem d43_75 : dc prog_1_method_36_code 75 (.iload_n 3) 1 := by decide +kernel
theorem d43_76 : dc prog_1_method_36_code 76 (.invokevirtual 234) 3 := by decide +kernel
theorem d43_79 : dc prog_1_method_36_code 79 (.lstore 7) 2 := by decide +kernel
theorem d43_81 : dc prog_1_method_36_code 81 (.lload 4) 2 := by decide +kernel
theorem d43_83 : dc prog_1_method_36_code 83 (.lload 7) 2 := by decide +kernel
theorem d43_85 : dc prog_1_method_36_code 85 (.ladd) 1 := by decide +kernel
theorem d43_86 : dc prog_1_method_36_code 86 (.lstore 4) 2 := by decide +kernel
theorem d43_88 : dc prog_1_method_36_code 88 (.iinc 6 1) 3 := by decide +kernel
theorem d43_91 : dc prog_1_method_36_code 91 (.goto (-54)) 3 := by decide +kernel
theorem d43_94 : dc prog_1_method_36_code 94 (.lload 4) 2 := by decide +kernel
theorem d43_96 : dc prog_1_method_36_code 96 (.lreturn) 1 := by decide +kernel
abbrev y43 : MethodName := ⟨"GeneralLedger", "balance", "(III)J"⟩
theorem hy43 : y43.cls ≠ "java/lang/invoke/MethodHandle" ∧ y43.cls ≠ "java/lang/invoke/VarHandle" := by decide
theorem pd43 : parseMethodDescriptor y43.desc = some ⟨[.int, .int, .int], some .long⟩ := by decide +kernel
abbrev R43 : Room := { frames := 2, cells := 0, slots := 0, locals := 31 }
abbrev P43 (s : St) (r : Int64) : Option Value → List OwnC → Prop := fun v H' => v = some (.long r) ∧ H' = (Hb 0 s)
abbrev W43 (l : Launch) (Z : State) (n0 : Nat) (Q : Option Value → List OwnC → Prop) (k n pc : Nat) (L : List Slot) (S : List Value) (H : List OwnC) : Prop := WP l Z CN lay "GeneralLedger" "balance" prog_1_method_36_code 9 (some FieldType.long) R43 n0 0 Q k n pc L S H
def f_balance_29 (n : Nat) (s : St) : Option (Int64) :=
  some (0 : Int64)
set_option maxRecDepth 65536 in
set_option maxHeartbeats 4000000 in
theorem ok43_29 (l : Launch) (Z : State) (a0 : Array Value) (hw : HW a0 Z) (n0 : Nat) (n : Nat) (s : St) (r : Int64) (h : f_balance_29 n s = some r) : W43 l Z n0 (P43 s r) 0 0 29 [.unset, .unset, .unset, .unset, .unset, .unset, .unset, .unset, .unset] [] (Hb 0 s) := by
  unfold f_balance_29 at h
  refine WP.lconst (0 : Int64) d43_29 rfl ?_
  cases h
  exact WP.lreturn d43_30 rfl (leb rfl) (leb rfl) ⟨rfl, rfl⟩
def f_balance_88 (k37 : Int32 → Int32 → Int32 → Int64 → Int32 → St → Option (Int64)) (n : Nat) (v1 : Int32) (v2 : Int32) (v3 : Int32) (v4 : Int64) (v6 : Int32) (s : St) : Option (Int64) :=
  lt (v6 + (1 : Int32)) fun x1 =>
  k37 v1 v2 v3 v4 x1 s
set_option maxRecDepth 65536 in
set_option maxHeartbeats 4000000 in
theorem ok43_88 (l : Launch) (Z : State) (a0 : Array Value) (hw : HW a0 Z) (n0 : Nat) (k37 : Int32 → Int32 → Int32 → Int64 → Int32 → St → Option (Int64)) (hk37 : ∀ (v1 : Int32) (v2 : Int32) (v3 : Int32) (v4 : Int64) (v6 : Int32) (s : St) (r : Int64), k37 v1 v2 v3 v4 v6 s = some r → W43 l Z n0 (P43 s r) 0 0 37 [.val (.ref 0), .val (.int v1), .val (.int v2), .val (.int v3), .val (.long v4), .second, .val (.int v6), .unset, .unset] [] (Hb 0 s)) (n : Nat) (v1 : Int32) (v2 : Int32) (v3 : Int32) (v4 : Int64) (v6 : Int32) (s : St) (r : Int64) (h : f_balance_88 k37 n v1 v2 v3 v4 v6 s = some r) : W43 l Z n0 (P43 s r) 0 0 88 [.val (.ref 0), .val (.int v1), .val (.int v2), .val (.int v3), .val (.long v4), .second, .val (.int v6), .unset, .unset] [] (Hb 0 s) := by
  unfold f_balance_88 at h
  obtain ⟨x1, ex1, h⟩ := lt_e h
  refine WP.iinc (L' := [.val (.ref 0), .val (.int v1), .val (.int v2), .val (.int v3), .val (.long v4), .second, .val (.int x1), .unset, .unset]) (1 : Int32) d43_88 rfl rfl (by subst ex1; rfl) ?_
  refine WP.goto (pc' := 37) d43_91 (by decide) rfl ?_
  exact WP.weak (L' := [.val (.ref 0), .val (.int v1), .val (.int v2), .val (.int v3), .val (.long v4), .second, .val (.int x1), .unset, .unset]) ⟨rfl, rfl, rfl, rfl, rfl, rfl, rfl, trivial⟩ (hk37 v1 v2 v3 v4 x1 s _ h)
def g_balance_37 (k37 : Int32 → Int32 → Int32 → Int64 → Int32 → St → Option (Int64)) (n : Nat) (v1 : Int32) (v2 : Int32) (v3 : Int32) (v4 : Int64) (v6 : Int32) (s : St) : Option (Int64) :=
  if v6 < (32 : Int32) then
    (rd (gA s 0) v6).bind fun x2 =>
    if x2 = 0 then
      f_balance_88 k37 n v1 v2 v3 v4 v6 s
    else
      (f_inSubtree n v6 v1 s).bind fun c4 =>
      if c4 = 0 then
        f_balance_88 k37 n v1 v2 v3 v4 v6 s
      else
        (f_contribution v6 v1 v2 v3 s).bind fun c6 =>
        lt (v4 + c6) fun x7 =>
        f_balance_88 k37 n v1 v2 v3 x7 v6 s
  else
    some v4
set_option maxRecDepth 65536 in
set_option maxHeartbeats 4000000 in
theorem okg43_37 (l : Launch) (Z : State) (a0 : Array Value) (hw : HW a0 Z) (n0 : Nat) (k37 : Int32 → Int32 → Int32 → Int64 → Int32 → St → Option (Int64)) (hk37 : ∀ (v1 : Int32) (v2 : Int32) (v3 : Int32) (v4 : Int64) (v6 : Int32) (s : St) (r : Int64), k37 v1 v2 v3 v4 v6 s = some r → W43 l Z n0 (P43 s r) 0 0 37 [.val (.ref 0), .val (.int v1), .val (.int v2), .val (.int v3), .val (.long v4), .second, .val (.int v6), .unset, .unset] [] (Hb 0 s)) (n : Nat) (v1 : Int32) (v2 : Int32) (v3 : Int32) (v4 : Int64) (v6 : Int32) (s : St) (r : Int64) (h : g_balance_37 k37 n v1 v2 v3 v4 v6 s = some r) : W43 l Z n0 (P43 s r) 0 0 37 [.val (.ref 0), .val (.int v1), .val (.int v2), .val (.int v3), .val (.long v4), .second, .val (.int v6), .unset, .unset] [] (Hb 0 s) := by
  unfold g_balance_37 at h
  refine WP.iload d43_37 rfl ?_
  refine WP.bipush (32 : Int32) d43_39 rfl ?_
  rcases ite_e h with ⟨hc1, h⟩ | ⟨hc1, h⟩
  ·
    refine WP.icmpN d43_41 (XT.ii_ge_f hc1) ?_
    refine WP.aloadN d43_44 rfl ?_
    refine WP.getfield (i := 0) (j := 2) d43_45 (hw _ m_12) rfl rfl rfl ?_
    refine WP.iload d43_48 rfl ?_
    obtain ⟨x2, hx2, h⟩ := Option.bind_eq_some_iff.mp h
    refine WP.baload (i := 1) d43_50 rfl hx2 ?_
    rcases ite_e h with ⟨hc3, h⟩ | ⟨hc3, h⟩
    ·
      refine WP.ifN d43_51 (XT.i0_ne_f hc3) ?_
      refine WP.goto (pc' := 88) d43_54 (by decide) rfl ?_
      exact WP.weak (L' := [.val (.ref 0), .val (.int v1), .val (.int v2), .val (.int v3), .val (.long v4), .second, .val (.int v6), .unset, .unset]) ⟨rfl, rfl, rfl, rfl, rfl, rfl, rfl, trivial⟩ (ok43_88 l Z a0 hw n0 _ hk37 n v1 v2 v3 v4 v6 s _ h)
    ·
      refine WP.ifY (pc' := 57) d43_51 (XT.i0_ne_t hc3) (by decide) rfl ?_
      refine WP.aloadN d43_57 rfl ?_
      refine WP.iload d43_58 rfl ?_
      refine WP.iloadN d43_60 rfl ?_
      obtain ⟨c4, hc4, h⟩ := Option.bind_eq_some_iff.mp h
      refine WP.callP (i := 0) (y := y44) (as := [.int v6, .int v1]) (S := []) d43_61 (hw _ m_251) (hw _ m_253) (hw _ m_3) (hw _ m_252) (hw _ m_254) (hw _ m_4) hy44 rfl (ok44 l Z a0 hw n v6 v1 s _ hc4) rfl (lenOf pd44 rfl) (leb rfl) (leb rfl) (leb rfl) (leb rfl) ?_
      rintro _ _ ⟨rfl, rfl⟩
      show W43 l Z n0 (P43 s r) 0 0 64 [.val (.ref 0), .val (.int v1), .val (.int v2), .val (.int v3), .val (.long v4), .second, .val (.int v6), .unset, .unset] [.int c4] (Hb 0 s)
      rcases ite_e h with ⟨hc5, h⟩ | ⟨hc5, h⟩
      ·
        refine WP.ifN d43_64 (XT.i0_ne_f hc5) ?_
        refine WP.goto (pc' := 88) d43_67 (by decide) rfl ?_
        exact WP.weak (L' := [.val (.ref 0), .val (.int v1), .val (.int v2), .val (.int v3), .val (.long v4), .second, .val (.int v6), .unset, .unset]) ⟨rfl, rfl, rfl, rfl, rfl, rfl, rfl, trivial⟩ (ok43_88 l Z a0 hw n0 _ hk37 n v1 v2 v3 v4 v6 s _ h)
      ·
        refine WP.ifY (pc' := 70) d43_64 (XT.i0_ne_t hc5) (by decide) rfl ?_
        refine WP.aloadN d43_70 rfl ?_
        refine WP.iload d43_71 rfl ?_
        refine WP.iloadN d43_73 rfl ?_
        refine WP.iloadN d43_74 rfl ?_
        refine WP.iloadN d43_75 rfl ?_
        obtain ⟨c6, hc6, h⟩ := Option.bind_eq_some_iff.mp h
        refine WP.callP (i := 0) (y := y45) (as := [.int v6, .int v1, .int v2, .int v3]) (S := []) d43_76 (hw _ m_255) (hw _ m_257) (hw _ m_3) (hw _ m_256) (hw _ m_258) (hw _ m_4) hy45 rfl (ok45 l Z a0 hw v6 v1 v2 v3 s _ hc6) rfl (lenOf pd45 rfl) (leb rfl) (leb rfl) (leb rfl) (leb rfl) ?_
        rintro _ _ ⟨rfl, rfl⟩
        show W43 l Z n0 (P43 s r) 0 0 79 [.val (.ref 0), .val (.int v1), .val (.int v2), .val (.int v3), .val (.long v4), .second, .val (.int v6), .unset, .unset] [.long c6] (Hb 0 s)
        refine WP.lstore (L' := [.val (.ref 0), .val (.int v1), .val (.int v2), .val (.int v3), .val (.long v4), .second, .val (.int v6), .val (.long c6), .second]) d43_79 (leb rfl) rfl ?_
        refine WP.lload d43_81 rfl ?_
        refine WP.lload d43_83 rfl ?_
        refine WP.ladd d43_85 ?_
        obtain ⟨x7, ex7, h⟩ := lt_e h
        refine WP.lstore (L' := [.val (.ref 0), .val (.int v1), .val (.int v2), .val (.int v3), .val (.long x7), .second, .val (.int v6), .val (.long c6), .second]) d43_86 (leb rfl) (by subst ex7; rfl) ?_
        exact WP.weak (L' := [.val (.ref 0), .val (.int v1), .val (.int v2), .val (.int v3), .val (.long x7), .second, .val (.int v6), .unset, .unset]) ⟨rfl, rfl, rfl, rfl, rfl, rfl, rfl, trivial⟩ (ok43_88 l Z a0 hw n0 _ hk37 n v1 v2 v3 x7 v6 s _ h)
  ·
    refine WP.icmpY (pc' := 94) d43_41 (XT.ii_ge_t hc1) (by decide) rfl ?_
    refine WP.lload d43_94 rfl ?_
    cases h
    exact WP.lreturn d43_96 rfl (leb rfl) (leb rfl) ⟨rfl, rfl⟩
def f_balance_37 : Nat → Int32 → Int32 → Int32 → Int64 → Int32 → St → Option (Int64)
  | 0 => fun _ _ _ _ _ _ => none
  | n + 1 => g_balance_37 (f_balance_37 n) n
theorem ok43_37 (l : Launch) (Z : State) (a0 : Array Value) (hw : HW a0 Z) (n0 : Nat) : ∀ (n : Nat) (v1 : Int32) (v2 : Int32) (v3 : Int32) (v4 : Int64) (v6 : Int32) (s : St) (r : Int64), f_balance_37 n v1 v2 v3 v4 v6 s = some r → W43 l Z n0 (P43 s r) 0 0 37 [.val (.ref 0), .val (.int v1), .val (.int v2), .val (.int v3), .val (.long v4), .second, .val (.int v6), .unset, .unset] [] (Hb 0 s)
  | 0, v1, v2, v3, v4, v6, s, r, h => nomatch (show none = some r from h)
  | n + 1, v1, v2, v3, v4, v6, s, r, h => okg43_37 l Z a0 hw n0 _ (ok43_37 l Z a0 hw n0 n) n v1 v2 v3 v4 v6 s r h
def f_balance (n : Nat) (p1 : Int32) (p2 : Int32) (p3 : Int32) (s : St) : Option (Int64) :=
  (f_isOpenAccount p1 s).bind fun c1 =>
  if c1 = 0 then
    some (0 : Int64)
  else
    (f_isPeriod p2 s).bind fun c3 =>
    if c3 = 0 then
      some (0 : Int64)
    else
      if p3 < 0 then
        f_balance_29 n s
      else
        if (3 : Int32) < p3 then
          f_balance_29 n s
        else
          f_balance_37 n p1 p2 p3 (0 : Int64) (0 : Int32) s
set_option maxRecDepth 65536 in
set_option maxHeartbeats 4000000 in
theorem ok43 (l : Launch) (Z : State) (a0 : Array Value) (hw : HW a0 Z) (n : Nat) (p1 : Int32) (p2 : Int32) (p3 : Int32) (s : St) (r : Int64) (h : f_balance n p1 p2 p3 s = some r) : CS l Z CN lay y43 prog_1_method_36_code 9 (some FieldType.long) R43 0 [.ref 0, .int p1, .int p2, .int p3] (Hb 0 s) (P43 s r) := by
  refine CS.of_wp pn_cls (leb rfl) fun n0 => ?_
  show W43 l Z n0 (P43 s r) 0 0 0 [.val (.ref 0), .val (.int p1), .val (.int p2), .val (.int p3), .unset, .unset, .unset, .unset, .unset] [] (Hb 0 s)
  unfold f_balance at h
  refine WP.aloadN d43_0 rfl ?_
  refine WP.iloadN d43_1 rfl ?_
  obtain ⟨c1, hc1, h⟩ := Option.bind_eq_some_iff.mp h
  refine WP.callP (i := 0) (y := y15) (as := [.int p1]) (S := []) d43_2 (hw _ m_122) (hw _ m_124) (hw _ m_3) (hw _ m_123) (hw _ m_125) (hw _ m_4) hy15 rfl (ok15 l Z a0 hw p1 s _ hc1) rfl (lenOf pd15 rfl) (leb rfl) (leb rfl) (leb rfl) (leb rfl) ?_
  rintro _ _ ⟨rfl, rfl⟩
  show W43 l Z n0 (P43 s r) 0 0 5 [.val (.ref 0), .val (.int p1), .val (.int p2), .val (.int p3), .unset, .unset, .unset, .unset, .unset] [.int c1] (Hb 0 s)
  rcases ite_e h with ⟨hc2, h⟩ | ⟨hc2, h⟩
  ·
    refine WP.ifN d43_5 (XT.i0_ne_f hc2) ?_
    refine WP.lconst (0 : Int64) d43_8 rfl ?_
    cases h
    exact WP.lreturn d43_9 rfl (leb rfl) (leb rfl) ⟨rfl, rfl⟩
  ·
    refine WP.ifY (pc' := 10) d43_5 (XT.i0_ne_t hc2) (by decide) rfl ?_
    refine WP.aloadN d43_10 rfl ?_
    refine WP.iloadN d43_11 rfl ?_
    obtain ⟨c3, hc3, h⟩ := Option.bind_eq_some_iff.mp h
    refine WP.callP (i := 0) (y := y23) (as := [.int p2]) (S := []) d43_12 (hw _ m_157) (hw _ m_159) (hw _ m_3) (hw _ m_158) (hw _ m_160) (hw _ m_4) hy23 rfl (ok23 l Z a0 hw p2 s _ hc3) rfl (lenOf pd23 rfl) (leb rfl) (leb rfl) (leb rfl) (leb rfl) ?_
    rintro _ _ ⟨rfl, rfl⟩
    show W43 l Z n0 (P43 s r) 0 0 15 [.val (.ref 0), .val (.int p1), .val (.int p2), .val (.int p3), .unset, .unset, .unset, .unset, .unset] [.int c3] (Hb 0 s)
    rcases ite_e h with ⟨hc4, h⟩ | ⟨hc4, h⟩
    ·
      refine WP.ifN d43_15 (XT.i0_ne_f hc4) ?_
      refine WP.lconst (0 : Int64) d43_18 rfl ?_
      cases h
      exact WP.lreturn d43_19 rfl (leb rfl) (leb rfl) ⟨rfl, rfl⟩
    ·
      refine WP.ifY (pc' := 20) d43_15 (XT.i0_ne_t hc4) (by decide) rfl ?_
      refine WP.iloadN d43_20 rfl ?_
      rcases ite_e h with ⟨hc5, h⟩ | ⟨hc5, h⟩
      ·
        refine WP.ifY (pc' := 29) d43_21 (XT.i0_lt_t hc5) (by decide) rfl ?_
        exact WP.weak (L' := [.unset, .unset, .unset, .unset, .unset, .unset, .unset, .unset, .unset]) trivial (ok43_29 l Z a0 hw n0 n s _ h)
      ·
        refine WP.ifN d43_21 (XT.i0_lt_f hc5) ?_
        refine WP.iloadN d43_24 rfl ?_
        refine WP.iconst (3 : Int32) d43_25 rfl ?_
        rcases ite_e h with ⟨hc6, h⟩ | ⟨hc6, h⟩
        ·
          refine WP.icmpN d43_26 (XT.ii_le_f hc6) ?_
          exact WP.weak (L' := [.unset, .unset, .unset, .unset, .unset, .unset, .unset, .unset, .unset]) trivial (ok43_29 l Z a0 hw n0 n s _ h)
        ·
          refine WP.icmpY (pc' := 31) d43_26 (XT.ii_le_t hc6) (by decide) rfl ?_
          refine WP.lconst (0 : Int64) d43_31 rfl ?_
          refine WP.lstore (L' := [.val (.ref 0), .val (.int p1), .val (.int p2), .val (.int p3), .val (.long (0 : Int64)), .second, .unset, .unset, .unset]) d43_32 (leb rfl) rfl ?_
          refine WP.iconst (0 : Int32) d43_34 rfl ?_
          refine WP.istore (L' := [.val (.ref 0), .val (.int p1), .val (.int p2), .val (.int p3), .val (.long (0 : Int64)), .second, .val (.int (0 : Int32)), .unset, .unset]) d43_35 (leb rfl) rfl ?_
          exact WP.weak (L' := [.val (.ref 0), .val (.int p1), .val (.int p2), .val (.int p3), .val (.long (0 : Int64)), .second, .val (.int (0 : Int32)), .unset, .unset]) ⟨rfl, rfl, rfl, rfl, rfl, rfl, rfl, trivial⟩ (ok43_37 l Z a0 hw n0 n p1 p2 p3 (0 : Int64) (0 : Int32) s _ h)
theorem d47_0 : dc prog_1_method_40_code 0 (.lconst 0) 1 := by decide +kernel
theorem d47_1 : dc prog_1_method_40_code 1 (.lstore_n 2) 1 := by decide +kernel
theorem d47_2 : dc prog_1_method_40_code 2 (.iconst 0) 1 := by decide +kernel
theorem d47_3 : dc prog_1_method_40_code 3 (.istore 4) 2 := by decide +kernel
theorem d47_5 : dc prog_1_method_40_code 5 (.iload 4) 2 := by decide +kernel
theorem d47_7 : dc prog_1_method_40_code 7 (.bipush 32) 2 := by decide +kernel
theorem d47_9 : dc prog_1_method_40_code 9 (.if_icmp .ge 34) 3 := by decide +kernel
theorem d47_12 : dc prog_1_method_40_code 12 (.aload_n 0) 1 := by decide +kernel
theorem d47_13 : dc prog_1_method_40_code 13 (.getfield 7) 3 := by decide +kernel
theorem d47_16 : dc prog_1_method_40_code 16 (.iload 4) 2 := by decide +kernel
theorem d47_18 : dc prog_1_method_40_code 18 (.baload) 1 := by decide +kernel
theorem d47_19 : dc prog_1_method_40_code 19 (.ifCond .eq 18) 3 := by decide +kernel
theorem d47_22 : dc prog_1_method_40_code 22 (.lload_n 2) 1 := by decide +kernel
theorem d47_23 : dc prog_1_method_40_code 23 (.aload_n 0) 1 := by decide +kernel
theorem d47_24 : dc prog_1_method_40_code 24 (.getfield 32) 3 := by decide +kernel
theorem d47_27 : dc prog_1_method_40_code 27 (.aload_n 0) 1 := by decide +kernel
theorem d47_28 : dc prog_1_method_40_code 28 (.iload 4) 2 := by decide +kernel
theorem d47_30 : dc prog_1_method_40_code 30 (.iload_n 1) 1 := by decide +kernel
theorem d47_31 : dc prog_1_method_40_code 31 (.invokevirtual 132) 3 := by decide +kernel
theorem d47_34 : dc prog_1_method_40_code 34 (.laload) 1 := by decide +kernel
theorem d47_35 : dc prog_1_method_40_code 35 (.ladd) 1 := by decide +kernel
theorem d47_36 : dc prog_1_method_40_code 36 (.lstore_n 2) 1 := by decide +kernel
theorem d47_37 : dc prog_1_method_40_code 37 (.iinc 4 1) 3 := by decide +kernel
theorem d47_40 : dc prog_1_method_40_code 40 (.goto (-35)) 3 := by decide +kernel
theorem d47_43 : dc prog_1_method_40_code 43 (.lload_n 2) 1 := by decide +kernel
theorem d47_44 : dc prog_1_method_40_code 44 (.lreturn) 1 := by decide +kernel
abbrev y47 : MethodName := ⟨"GeneralLedger", "trialFunc", "(I)J"⟩
theorem hy47 : y47.cls ≠ "java/lang/invoke/MethodHandle" ∧ y47.cls ≠ "java/lang/invoke/VarHandle" := by decide
theorem pd47 : parseMethodDescriptor y47.desc = some ⟨[.int], some .long⟩ := by decide +kernel
abbrev R47 : Room := { frames := 1, cells := 0, slots := 0, locals := 17 }
abbrev P47 (s : St) (r : Int64) : Option Value → List OwnC → Prop := fun v H' => v = some (.long r) ∧ H' = (Hb 0 s)
abbrev W47 (l : Launch) (Z : State) (n0 : Nat) (Q : Option Value → List OwnC → Prop) (k n pc : Nat) (L : List Slot) (S : List Value) (H : List OwnC) : Prop := WP l Z CN lay "GeneralLedger" "trialFunc" prog_1_method_40_code 5 (some FieldType.long) R47 n0 0 Q k n pc L S H
def f_trialFunc_37 (k5 : Int32 → Int64 → Int32 → St → Option (Int64)) (n : Nat) (v1 : Int32) (v2 : Int64) (v4 : Int32) (s : St) : Option (Int64) :=
  lt (v4 + (1 : Int32)) fun x1 =>
  k5 v1 v2 x1 s
set_option maxRecDepth 65536 in
set_option maxHeartbeats 4000000 in
theorem ok47_37 (l : Launch) (Z : State) (a0 : Array Value) (hw : HW a0 Z) (n0 : Nat) (k5 : Int32 → Int64 → Int32 → St → Option (Int64)) (hk5 : ∀ (v1 : Int32) (v2 : Int64) (v4 : Int32) (s : St) (r : Int64), k5 v1 v2 v4 s = some r → W47 l Z n0 (P47 s r) 0 0 5 [.val (.ref 0), .val (.int v1), .val (.long v2), .second, .val (.int v4)] [] (Hb 0 s)) (n : Nat) (v1 : Int32) (v2 : Int64) (v4 : Int32) (s : St) (r : Int64) (h : f_trialFunc_37 k5 n v1 v2 v4 s = some r) : W47 l Z n0 (P47 s r) 0 0 37 [.val (.ref 0), .val (.int v1), .val (.long v2), .second, .val (.int v4)] [] (Hb 0 s) := by
  unfold f_trialFunc_37 at h
  obtain ⟨x1, ex1, h⟩ := lt_e h
  refine WP.iinc (L' := [.val (.ref 0), .val (.int v1), .val (.long v2), .second, .val (.int x1)]) (1 : Int32) d47_37 rfl rfl (by subst ex1; rfl) ?_
  refine WP.goto (pc' := 5) d47_40 (by decide) rfl ?_
  exact WP.weak (L' := [.val (.ref 0), .val (.int v1), .val (.long v2), .second, .val (.int x1)]) ⟨rfl, rfl, rfl, rfl, rfl, trivial⟩ (hk5 v1 v2 x1 s _ h)
def g_trialFunc_5 (k5 : Int32 → Int64 → Int32 → St → Option (Int64)) (n : Nat) (v1 : Int32) (v2 : Int64) (v4 : Int32) (s : St) : Option (Int64) :=
  if v4 < (32 : Int32) then
    (rd (gA s 0) v4).bind fun x2 =>
    if x2 = 0 then
      f_trialFunc_37 k5 n v1 v2 v4 s
    else
      (f_cell v4 v1 s).bind fun c4 =>
      (rd (gB s 0) c4).bind fun x5 =>
      lt (v2 + x5) fun x6 =>
      f_trialFunc_37 k5 n v1 x6 v4 s
  else
    some v2
set_option maxRecDepth 65536 in
set_option maxHeartbeats 4000000 in
theorem okg47_5 (l : Launch) (Z : State) (a0 : Array Value) (hw : HW a0 Z) (n0 : Nat) (k5 : Int32 → Int64 → Int32 → St → Option (Int64)) (hk5 : ∀ (v1 : Int32) (v2 : Int64) (v4 : Int32) (s : St) (r : Int64), k5 v1 v2 v4 s = some r → W47 l Z n0 (P47 s r) 0 0 5 [.val (.ref 0), .val (.int v1), .val (.long v2), .second, .val (.int v4)] [] (Hb 0 s)) (n : Nat) (v1 : Int32) (v2 : Int64) (v4 : Int32) (s : St) (r : Int64) (h : g_trialFunc_5 k5 n v1 v2 v4 s = some r) : W47 l Z n0 (P47 s r) 0 0 5 [.val (.ref 0), .val (.int v1), .val (.long v2), .second, .val (.int v4)] [] (Hb 0 s) := by
  unfold g_trialFunc_5 at h
  refine WP.iload d47_5 rfl ?_
  refine WP.bipush (32 : Int32) d47_7 rfl ?_
  rcases ite_e h with ⟨hc1, h⟩ | ⟨hc1, h⟩
  ·
    refine WP.icmpN d47_9 (XT.ii_ge_f hc1) ?_
    refine WP.aloadN d47_12 rfl ?_
    refine WP.getfield (i := 0) (j := 2) d47_13 (hw _ m_12) rfl rfl rfl ?_
    refine WP.iload d47_16 rfl ?_
    obtain ⟨x2, hx2, h⟩ := Option.bind_eq_some_iff.mp h
    refine WP.baload (i := 1) d47_18 rfl hx2 ?_
    rcases ite_e h with ⟨hc3, h⟩ | ⟨hc3, h⟩
    ·
      refine WP.ifY (pc' := 37) d47_19 (XT.i0_eq_t hc3) (by decide) rfl ?_
      exact WP.weak (L' := [.val (.ref 0), .val (.int v1), .val (.long v2), .second, .val (.int v4)]) ⟨rfl, rfl, rfl, rfl, rfl, trivial⟩ (ok47_37 l Z a0 hw n0 _ hk5 n v1 v2 v4 s _ h)
    ·
      refine WP.ifN d47_19 (XT.i0_eq_f hc3) ?_
      refine WP.lloadN d47_22 rfl ?_
      refine WP.aloadN d47_23 rfl ?_
      refine WP.getfield (i := 0) (j := 9) d47_24 (hw _ m_28) rfl rfl rfl ?_
      refine WP.aloadN d47_27 rfl ?_
      refine WP.iload d47_28 rfl ?_
      refine WP.iloadN d47_30 rfl ?_
      obtain ⟨c4, hc4, h⟩ := Option.bind_eq_some_iff.mp h
      refine WP.callP (i := 0) (y := y12) (as := [.int v4, .int v1]) (S := [.ref 8, .long v2]) d47_31 (hw _ m_109) (hw _ m_111) (hw _ m_3) (hw _ m_110) (hw _ m_112) (hw _ m_4) hy12 rfl (ok12 l Z a0 hw v4 v1 s _ hc4) rfl (lenOf pd12 rfl) (leb rfl) (leb rfl) (leb rfl) (leb rfl) ?_
      rintro _ _ ⟨rfl, rfl⟩
      show W47 l Z n0 (P47 s r) 0 0 34 [.val (.ref 0), .val (.int v1), .val (.long v2), .second, .val (.int v4)] [.int c4, .ref 8, .long v2] (Hb 0 s)
      obtain ⟨x5, hx5, h⟩ := Option.bind_eq_some_iff.mp h
      refine WP.laload (i := 8) d47_34 rfl hx5 ?_
      refine WP.ladd d47_35 ?_
      obtain ⟨x6, ex6, h⟩ := lt_e h
      refine WP.lstoreN (L' := [.val (.ref 0), .val (.int v1), .val (.long x6), .second, .val (.int v4)]) d47_36 (leb rfl) (by subst ex6; rfl) ?_
      exact WP.weak (L' := [.val (.ref 0), .val (.int v1), .val (.long x6), .second, .val (.int v4)]) ⟨rfl, rfl, rfl, rfl, rfl, trivial⟩ (ok47_37 l Z a0 hw n0 _ hk5 n v1 x6 v4 s _ h)
  ·
    refine WP.icmpY (pc' := 43) d47_9 (XT.ii_ge_t hc1) (by decide) rfl ?_
    refine WP.lloadN d47_43 rfl ?_
    cases h
    exact WP.lreturn d47_44 rfl (leb rfl) (leb rfl) ⟨rfl, rfl⟩
def f_trialFunc_5 : Nat → Int32 → Int64 → Int32 → St → Option (Int64)
  | 0 => fun _ _ _ _ => none
  | n + 1 => g_trialFunc_5 (f_trialFunc_5 n) n
theorem ok47_5 (l : Launch) (Z : State) (a0 : Array Value) (hw : HW a0 Z) (n0 : Nat) : ∀ (n : Nat) (v1 : Int32) (v2 : Int64) (v4 : Int32) (s : St) (r : Int64), f_trialFunc_5 n v1 v2 v4 s = some r → W47 l Z n0 (P47 s r) 0 0 5 [.val (.ref 0), .val (.int v1), .val (.long v2), .second, .val (.int v4)] [] (Hb 0 s)
  | 0, v1, v2, v4, s, r, h => nomatch (show none = some r from h)
  | n + 1, v1, v2, v4, s, r, h => okg47_5 l Z a0 hw n0 _ (ok47_5 l Z a0 hw n0 n) n v1 v2 v4 s r h
def f_trialFunc (n : Nat) (p1 : Int32) (s : St) : Option (Int64) :=
  f_trialFunc_5 n p1 (0 : Int64) (0 : Int32) s
set_option maxRecDepth 65536 in
set_option maxHeartbeats 4000000 in
theorem ok47 (l : Launch) (Z : State) (a0 : Array Value) (hw : HW a0 Z) (n : Nat) (p1 : Int32) (s : St) (r : Int64) (h : f_trialFunc n p1 s = some r) : CS l Z CN lay y47 prog_1_method_40_code 5 (some FieldType.long) R47 0 [.ref 0, .int p1] (Hb 0 s) (P47 s r) := by
  refine CS.of_wp pn_cls (leb rfl) fun n0 => ?_
  show W47 l Z n0 (P47 s r) 0 0 0 [.val (.ref 0), .val (.int p1), .unset, .unset, .unset] [] (Hb 0 s)
  unfold f_trialFunc at h
  refine WP.lconst (0 : Int64) d47_0 rfl ?_
  refine WP.lstoreN (L' := [.val (.ref 0), .val (.int p1), .val (.long (0 : Int64)), .second, .unset]) d47_1 (leb rfl) rfl ?_
  refine WP.iconst (0 : Int32) d47_2 rfl ?_
  refine WP.istore (L' := [.val (.ref 0), .val (.int p1), .val (.long (0 : Int64)), .second, .val (.int (0 : Int32))]) d47_3 (leb rfl) rfl ?_
  exact WP.weak (L' := [.val (.ref 0), .val (.int p1), .val (.long (0 : Int64)), .second, .val (.int (0 : Int32))]) ⟨rfl, rfl, rfl, rfl, rfl, trivial⟩ (ok47_5 l Z a0 hw n0 n p1 (0 : Int64) (0 : Int32) s _ h)
theorem d48_0 : dc prog_1_method_41_code 0 (.lconst 0) 1 := by decide +kernel
theorem d48_1 : dc prog_1_method_41_code 1 (.lstore_n 3) 1 := by decide +kernel
theorem d48_2 : dc prog_1_method_41_code 2 (.iconst 0) 1 := by decide +kernel
theorem d48_3 : dc prog_1_method_41_code 3 (.istore 5) 2 := by decide +kernel
theorem d48_5 : dc prog_1_method_41_code 5 (.iload 5) 2 := by decide +kernel
theorem d48_7 : dc prog_1_method_41_code 7 (.bipush 32) 2 := by decide +kernel
theorem d48_9 : dc prog_1_method_41_code 9 (.if_icmp .ge 45) 3 := by decide +kernel
theorem d48_12 : dc prog_1_method_41_code 12 (.aload_n 0) 1 := by decide +kernel
theorem d48_13 : dc prog_1_method_41_code 13 (.getfield 7) 3 := by decide +kernel
theorem d48_16 : dc prog_1_method_41_code 16 (.iload 5) 2 := by decide +kernel
theorem d48_18 : dc prog_1_method_41_code 18 (.baload) 1 := by decide +kernel
theorem d48_19 : dc prog_1_method_41_code 19 (.ifCond .eq 29) 3 := by decide +kernel
theorem d48_22 : dc prog_1_method_41_code 22 (.aload_n 0) 1 := by decide +kernel
theorem d48_23 : dc prog_1_method_41_code 23 (.getfield 20) 3 := by decide +kernel
theorem d48_26 : dc prog_1_method_41_code 26 (.iload 5) 2 := by decide +kernel
theorem d48_28 : dc prog_1_method_41_code 28 (.iaload) 1 := by decide +kernel
theorem d48_29 : dc prog_1_method_41_code 29 (.iload_n 2) 1 := by decide +kernel
theorem d48_30 : dc prog_1_method_41_code 30 (.if_icmp .ne 18) 3 := by decide +kernel
theorem d48_33 : dc prog_1_method_41_code 33 (.lload_n 3) 1 := by decide +kernel
theorem d48_34 : dc prog_1_method_41_code 34 (.aload_n 0) 1 := by decide +kernel
theorem d48_35 : dc prog_1_method_41_code 35 (.getfield 36) 3 := by decide +kernel
theorem d48_38 : dc prog_1_method_41_code 38 (.aload_n 0) 1 := by decide +kernel
theorem d48_39 : dc prog_1_method_41_code 39 (.iload 5) 2 := by decide +kernel
theorem d48_41 : dc prog_1_method_41_code 41 (.iload_n 1) 1 := by decide +kernel
theorem d48_42 : dc prog_1_method_41_code 42 (.invokevirtual 132) 3 := by decide +kernel
theorem d48_45 : dc prog_1_method_41_code 45 (.laload) 1 := by decide +kernel
theorem d48_46 : dc prog_1_method_41_code 46 (.ladd) 1 := by decide +kernel
theorem d48_47 : dc prog_1_method_41_code 47 (.lstore_n 3) 1 := by decide +kernel
theorem d48_48 : dc prog_1_method_41_code 48 (.iinc 5 1) 3 := by decide +kernel
theorem d48_51 : dc prog_1_method_41_code 51 (.goto (-46)) 3 := by decide +kernel
theorem d48_54 : dc prog_1_method_41_code 54 (.lload_n 3) 1 := by decide +kernel
theorem d48_55 : dc prog_1_method_41_code 55 (.lreturn) 1 := by decide +kernel
abbrev y48 : MethodName := ⟨"GeneralLedger", "trialTxn", "(II)J"⟩
theorem hy48 : y48.cls ≠ "java/lang/invoke/MethodHandle" ∧ y48.cls ≠ "java/lang/invoke/VarHandle" := by decide
theorem pd48 : parseMethodDescriptor y48.desc = some ⟨[.int, .int], some .long⟩ := by decide +kernel
abbrev R48 : Room := { frames := 1, cells := 0, slots := 0, locals := 17 }
abbrev P48 (s : St) (r : Int64) : Option Value → List OwnC → Prop := fun v H' => v = some (.long r) ∧ H' = (Hb 0 s)
abbrev W48 (l : Launch) (Z : State) (n0 : Nat) (Q : Option Value → List OwnC → Prop) (k n pc : Nat) (L : List Slot) (S : List Value) (H : List OwnC) : Prop := WP l Z CN lay "GeneralLedger" "trialTxn" prog_1_method_41_code 6 (some FieldType.long) R48 n0 0 Q k n pc L S H
def f_trialTxn_48 (k5 : Int32 → Int32 → Int64 → Int32 → St → Option (Int64)) (n : Nat) (v1 : Int32) (v2 : Int32) (v3 : Int64) (v5 : Int32) (s : St) : Option (Int64) :=
  lt (v5 + (1 : Int32)) fun x1 =>
  k5 v1 v2 v3 x1 s
set_option maxRecDepth 65536 in
set_option maxHeartbeats 4000000 in
theorem ok48_48 (l : Launch) (Z : State) (a0 : Array Value) (hw : HW a0 Z) (n0 : Nat) (k5 : Int32 → Int32 → Int64 → Int32 → St → Option (Int64)) (hk5 : ∀ (v1 : Int32) (v2 : Int32) (v3 : Int64) (v5 : Int32) (s : St) (r : Int64), k5 v1 v2 v3 v5 s = some r → W48 l Z n0 (P48 s r) 0 0 5 [.val (.ref 0), .val (.int v1), .val (.int v2), .val (.long v3), .second, .val (.int v5)] [] (Hb 0 s)) (n : Nat) (v1 : Int32) (v2 : Int32) (v3 : Int64) (v5 : Int32) (s : St) (r : Int64) (h : f_trialTxn_48 k5 n v1 v2 v3 v5 s = some r) : W48 l Z n0 (P48 s r) 0 0 48 [.val (.ref 0), .val (.int v1), .val (.int v2), .val (.long v3), .second, .val (.int v5)] [] (Hb 0 s) := by
  unfold f_trialTxn_48 at h
  obtain ⟨x1, ex1, h⟩ := lt_e h
  refine WP.iinc (L' := [.val (.ref 0), .val (.int v1), .val (.int v2), .val (.long v3), .second, .val (.int x1)]) (1 : Int32) d48_48 rfl rfl (by subst ex1; rfl) ?_
  refine WP.goto (pc' := 5) d48_51 (by decide) rfl ?_
  exact WP.weak (L' := [.val (.ref 0), .val (.int v1), .val (.int v2), .val (.long v3), .second, .val (.int x1)]) ⟨rfl, rfl, rfl, rfl, rfl, rfl, trivial⟩ (hk5 v1 v2 v3 x1 s _ h)
def g_trialTxn_5 (k5 : Int32 → Int32 → Int64 → Int32 → St → Option (Int64)) (n : Nat) (v1 : Int32) (v2 : Int32) (v3 : Int64) (v5 : Int32) (s : St) : Option (Int64) :=
  if v5 < (32 : Int32) then
    (rd (gA s 0) v5).bind fun x2 =>
    if x2 = 0 then
      f_trialTxn_48 k5 n v1 v2 v3 v5 s
    else
      (rd (gA s 3) v5).bind fun x4 =>
      if x4 = v2 then
        (f_cell v5 v1 s).bind fun c6 =>
        (rd (gB s 1) c6).bind fun x7 =>
        lt (v3 + x7) fun x8 =>
        f_trialTxn_48 k5 n v1 v2 x8 v5 s
      else
        f_trialTxn_48 k5 n v1 v2 v3 v5 s
  else
    some v3
set_option maxRecDepth 65536 in
set_option maxHeartbeats 4000000 in
theorem okg48_5 (l : Launch) (Z : State) (a0 : Array Value) (hw : HW a0 Z) (n0 : Nat) (k5 : Int32 → Int32 → Int64 → Int32 → St → Option (Int64)) (hk5 : ∀ (v1 : Int32) (v2 : Int32) (v3 : Int64) (v5 : Int32) (s : St) (r : Int64), k5 v1 v2 v3 v5 s = some r → W48 l Z n0 (P48 s r) 0 0 5 [.val (.ref 0), .val (.int v1), .val (.int v2), .val (.long v3), .second, .val (.int v5)] [] (Hb 0 s)) (n : Nat) (v1 : Int32) (v2 : Int32) (v3 : Int64) (v5 : Int32) (s : St) (r : Int64) (h : g_trialTxn_5 k5 n v1 v2 v3 v5 s = some r) : W48 l Z n0 (P48 s r) 0 0 5 [.val (.ref 0), .val (.int v1), .val (.int v2), .val (.long v3), .second, .val (.int v5)] [] (Hb 0 s) := by
  unfold g_trialTxn_5 at h
  refine WP.iload d48_5 rfl ?_
  refine WP.bipush (32 : Int32) d48_7 rfl ?_
  rcases ite_e h with ⟨hc1, h⟩ | ⟨hc1, h⟩
  ·
    refine WP.icmpN d48_9 (XT.ii_ge_f hc1) ?_
    refine WP.aloadN d48_12 rfl ?_
    refine WP.getfield (i := 0) (j := 2) d48_13 (hw _ m_12) rfl rfl rfl ?_
    refine WP.iload d48_16 rfl ?_
    obtain ⟨x2, hx2, h⟩ := Option.bind_eq_some_iff.mp h
    refine WP.baload (i := 1) d48_18 rfl hx2 ?_
    rcases ite_e h with ⟨hc3, h⟩ | ⟨hc3, h⟩
    ·
      refine WP.ifY (pc' := 48) d48_19 (XT.i0_eq_t hc3) (by decide) rfl ?_
      exact WP.weak (L' := [.val (.ref 0), .val (.int v1), .val (.int v2), .val (.long v3), .second, .val (.int v5)]) ⟨rfl, rfl, rfl, rfl, rfl, rfl, trivial⟩ (ok48_48 l Z a0 hw n0 _ hk5 n v1 v2 v3 v5 s _ h)
    ·
      refine WP.ifN d48_19 (XT.i0_eq_f hc3) ?_
      refine WP.aloadN d48_22 rfl ?_
      refine WP.getfield (i := 0) (j := 5) d48_23 (hw _ m_19) rfl rfl rfl ?_
      refine WP.iload d48_26 rfl ?_
      obtain ⟨x4, hx4, h⟩ := Option.bind_eq_some_iff.mp h
      refine WP.iaload (i := 4) d48_28 rfl hx4 ?_
      refine WP.iloadN d48_29 rfl ?_
      rcases ite_e h with ⟨hc5, h⟩ | ⟨hc5, h⟩
      ·
        refine WP.icmpN d48_30 (XT.ii_ne_f hc5) ?_
        refine WP.lloadN d48_33 rfl ?_
        refine WP.aloadN d48_34 rfl ?_
        refine WP.getfield (i := 0) (j := 10) d48_35 (hw _ m_30) rfl rfl rfl ?_
        refine WP.aloadN d48_38 rfl ?_
        refine WP.iload d48_39 rfl ?_
        refine WP.iloadN d48_41 rfl ?_
        obtain ⟨c6, hc6, h⟩ := Option.bind_eq_some_iff.mp h
        refine WP.callP (i := 0) (y := y12) (as := [.int v5, .int v1]) (S := [.ref 9, .long v3]) d48_42 (hw _ m_109) (hw _ m_111) (hw _ m_3) (hw _ m_110) (hw _ m_112) (hw _ m_4) hy12 rfl (ok12 l Z a0 hw v5 v1 s _ hc6) rfl (lenOf pd12 rfl) (leb rfl) (leb rfl) (leb rfl) (leb rfl) ?_
        rintro _ _ ⟨rfl, rfl⟩
        show W48 l Z n0 (P48 s r) 0 0 45 [.val (.ref 0), .val (.int v1), .val (.int v2), .val (.long v3), .second, .val (.int v5)] [.int c6, .ref 9, .long v3] (Hb 0 s)
        obtain ⟨x7, hx7, h⟩ := Option.bind_eq_some_iff.mp h
        refine WP.laload (i := 9) d48_45 rfl hx7 ?_
        refine WP.ladd d48_46 ?_
        obtain ⟨x8, ex8, h⟩ := lt_e h
        refine WP.lstoreN (L' := [.val (.ref 0), .val (.int v1), .val (.int v2), .val (.long x8), .second, .val (.int v5)]) d48_47 (leb rfl) (by subst ex8; rfl) ?_
        exact WP.weak (L' := [.val (.ref 0), .val (.int v1), .val (.int v2), .val (.long x8), .second, .val (.int v5)]) ⟨rfl, rfl, rfl, rfl, rfl, rfl, trivial⟩ (ok48_48 l Z a0 hw n0 _ hk5 n v1 v2 x8 v5 s _ h)
      ·
        refine WP.icmpY (pc' := 48) d48_30 (XT.ii_ne_t hc5) (by decide) rfl ?_
        exact WP.weak (L' := [.val (.ref 0), .val (.int v1), .val (.int v2), .val (.long v3), .second, .val (.int v5)]) ⟨rfl, rfl, rfl, rfl, rfl, rfl, trivial⟩ (ok48_48 l Z a0 hw n0 _ hk5 n v1 v2 v3 v5 s _ h)
  ·
    refine WP.icmpY (pc' := 54) d48_9 (XT.ii_ge_t hc1) (by decide) rfl ?_
    refine WP.lloadN d48_54 rfl ?_
    cases h
    exact WP.lreturn d48_55 rfl (leb rfl) (leb rfl) ⟨rfl, rfl⟩
def f_trialTxn_5 : Nat → Int32 → Int32 → Int64 → Int32 → St → Option (Int64)
  | 0 => fun _ _ _ _ _ => none
  | n + 1 => g_trialTxn_5 (f_trialTxn_5 n) n
theorem ok48_5 (l : Launch) (Z : State) (a0 : Array Value) (hw : HW a0 Z) (n0 : Nat) : ∀ (n : Nat) (v1 : Int32) (v2 : Int32) (v3 : Int64) (v5 : Int32) (s : St) (r : Int64), f_trialTxn_5 n v1 v2 v3 v5 s = some r → W48 l Z n0 (P48 s r) 0 0 5 [.val (.ref 0), .val (.int v1), .val (.int v2), .val (.long v3), .second, .val (.int v5)] [] (Hb 0 s)
  | 0, v1, v2, v3, v5, s, r, h => nomatch (show none = some r from h)
  | n + 1, v1, v2, v3, v5, s, r, h => okg48_5 l Z a0 hw n0 _ (ok48_5 l Z a0 hw n0 n) n v1 v2 v3 v5 s r h
def f_trialTxn (n : Nat) (p1 : Int32) (p2 : Int32) (s : St) : Option (Int64) :=
  f_trialTxn_5 n p1 p2 (0 : Int64) (0 : Int32) s
set_option maxRecDepth 65536 in
set_option maxHeartbeats 4000000 in
theorem ok48 (l : Launch) (Z : State) (a0 : Array Value) (hw : HW a0 Z) (n : Nat) (p1 : Int32) (p2 : Int32) (s : St) (r : Int64) (h : f_trialTxn n p1 p2 s = some r) : CS l Z CN lay y48 prog_1_method_41_code 6 (some FieldType.long) R48 0 [.ref 0, .int p1, .int p2] (Hb 0 s) (P48 s r) := by
  refine CS.of_wp pn_cls (leb rfl) fun n0 => ?_
  show W48 l Z n0 (P48 s r) 0 0 0 [.val (.ref 0), .val (.int p1), .val (.int p2), .unset, .unset, .unset] [] (Hb 0 s)
  unfold f_trialTxn at h
  refine WP.lconst (0 : Int64) d48_0 rfl ?_
  refine WP.lstoreN (L' := [.val (.ref 0), .val (.int p1), .val (.int p2), .val (.long (0 : Int64)), .second, .unset]) d48_1 (leb rfl) rfl ?_
  refine WP.iconst (0 : Int32) d48_2 rfl ?_
  refine WP.istore (L' := [.val (.ref 0), .val (.int p1), .val (.int p2), .val (.long (0 : Int64)), .second, .val (.int (0 : Int32))]) d48_3 (leb rfl) rfl ?_
  exact WP.weak (L' := [.val (.ref 0), .val (.int p1), .val (.int p2), .val (.long (0 : Int64)), .second, .val (.int (0 : Int32))]) ⟨rfl, rfl, rfl, rfl, rfl, rfl, trivial⟩ (ok48_5 l Z a0 hw n0 n p1 p2 (0 : Int64) (0 : Int32) s _ h)
theorem d46_0 : dc prog_1_method_39_code 0 (.aload_n 0) 1 := by decide +kernel
theorem d46_1 : dc prog_1_method_39_code 1 (.iload_n 1) 1 := by decide +kernel
theorem d46_2 : dc prog_1_method_39_code 2 (.invokevirtual 152) 3 := by decide +kernel
theorem d46_5 : dc prog_1_method_39_code 5 (.ifCond .ne 5) 3 := by decide +kernel
theorem d46_8 : dc prog_1_method_39_code 8 (.lconst 0) 1 := by decide +kernel
theorem d46_9 : dc prog_1_method_39_code 9 (.lreturn) 1 := by decide +kernel
theorem d46_10 : dc prog_1_method_39_code 10 (.iload_n 2) 1 := by decide +kernel
theorem d46_11 : dc prog_1_method_39_code 11 (.iconst (-1)) 1 := by decide +kernel
theorem d46_12 : dc prog_1_method_39_code 12 (.if_icmp .ne 9) 3 := by decide +kernel
theorem d46_15 : dc prog_1_method_39_code 15 (.aload_n 0) 1 := by decide +kernel
theorem d46_16 : dc prog_1_method_39_code 16 (.iload_n 1) 1 := by decide +kernel
theorem d46_17 : dc prog_1_method_39_code 17 (.invokevirtual 238) 3 := by decide +kernel
theorem d46_20 : dc prog_1_method_39_code 20 (.lreturn) 1 := by decide +kernel
theorem d46_21 : dc prog_1_method_39_code 21 (.aload_n 0) 1 := by decide +kernel
theorem d46_22 : dc prog_1_method_39_code 22 (.iload_n 2) 1 := by decide +kernel
theorem d46_23 : dc prog_1_method_39_code 23 (.invokevirtual 119) 3 := by decide +kernel
theorem d46_26 : dc prog_1_method_39_code 26 (.ifCond .eq 10) 3 := by decide +kernel
theorem d46_29 : dc prog_1_method_39_code 29 (.aload_n 0) 1 := by decide +kernel
theorem d46_30 : dc prog_1_method_39_code 30 (.iload_n 1) 1 := by decide +kernel
theorem d46_31 : dc prog_1_method_39_code 31 (.iload_n 2) 1 := by decide +kernel
theorem d46_32 : dc prog_1_method_39_code 32 (.invokevirtual 241) 3 := by decide +kernel
theorem d46_35 : dc prog_1_method_39_code 35 (.lreturn) 1 := by decide +kernel
theorem d46_36 : dc prog_1_method_39_code 36 (.lconst 0) 1 := by decide +kernel
theorem d46_37 : dc prog_1_method_39_code 37 (.lreturn) 1 := by decide +kernel
abbrev y46 : MethodName := ⟨"GeneralLedger", "trialBalance", "(II)J"⟩
theorem hy46 : y46.cls ≠ "java/lang/invoke/MethodHandle" ∧ y46.cls ≠ "java/lang/invoke/VarHandle" := by decide
theorem pd46 : parseMethodDescriptor y46.desc = some ⟨[.int, .int], some .long⟩ := by decide +kernel
abbrev R46 : Room := { frames := 2, cells := 0, slots := 0, locals := 34 }
abbrev P46 (s : St) (r : Int64) : Option Value → List OwnC → Prop := fun v H' => v = some (.long r) ∧ H' = (Hb 0 s)
abbrev W46 (l : Launch) (Z : State) (n0 : Nat) (Q : Option Value → List OwnC → Prop) (k n pc : Nat) (L : List Slot) (S : List Value) (H : List OwnC) : Prop := WP l Z CN lay "GeneralLedger" "trialBalance" prog_1_method_39_code 3 (some FieldType.long) R46 n0 0 Q k n pc L S H
def f_trialBalance (n : Nat) (p1 : Int32) (p2 : Int32) (s : St) : Option (Int64) :=
  (f_isPeriod p1 s).bind fun c1 =>
  if c1 = 0 then
    some (0 : Int64)
  else
    if p2 = (-1 : Int32) then
      (f_trialFunc n p1 s).bind fun c4 =>
      some c4
    else
      (f_isCurrency p2 s).bind fun c5 =>
      if c5 = 0 then
        some (0 : Int64)
      else
        (f_trialTxn n p1 p2 s).bind fun c7 =>
        some c7
set_option maxRecDepth 65536 in
set_option maxHeartbeats 4000000 in
theorem ok46 (l : Launch) (Z : State) (a0 : Array Value) (hw : HW a0 Z) (n : Nat) (p1 : Int32) (p2 : Int32) (s : St) (r : Int64) (h : f_trialBalance n p1 p2 s = some r) : CS l Z CN lay y46 prog_1_method_39_code 3 (some FieldType.long) R46 0 [.ref 0, .int p1, .int p2] (Hb 0 s) (P46 s r) := by
  refine CS.of_wp pn_cls (leb rfl) fun n0 => ?_
  show W46 l Z n0 (P46 s r) 0 0 0 [.val (.ref 0), .val (.int p1), .val (.int p2)] [] (Hb 0 s)
  unfold f_trialBalance at h
  refine WP.aloadN d46_0 rfl ?_
  refine WP.iloadN d46_1 rfl ?_
  obtain ⟨c1, hc1, h⟩ := Option.bind_eq_some_iff.mp h
  refine WP.callP (i := 0) (y := y23) (as := [.int p1]) (S := []) d46_2 (hw _ m_157) (hw _ m_159) (hw _ m_3) (hw _ m_158) (hw _ m_160) (hw _ m_4) hy23 rfl (ok23 l Z a0 hw p1 s _ hc1) rfl (lenOf pd23 rfl) (leb rfl) (leb rfl) (leb rfl) (leb rfl) ?_
  rintro _ _ ⟨rfl, rfl⟩
  show W46 l Z n0 (P46 s r) 0 0 5 [.val (.ref 0), .val (.int p1), .val (.int p2)] [.int c1] (Hb 0 s)
  rcases ite_e h with ⟨hc2, h⟩ | ⟨hc2, h⟩
  ·
    refine WP.ifN d46_5 (XT.i0_ne_f hc2) ?_
    refine WP.lconst (0 : Int64) d46_8 rfl ?_
    cases h
    exact WP.lreturn d46_9 rfl (leb rfl) (leb rfl) ⟨rfl, rfl⟩
  ·
    refine WP.ifY (pc' := 10) d46_5 (XT.i0_ne_t hc2) (by decide) rfl ?_
    refine WP.iloadN d46_10 rfl ?_
    refine WP.iconst (-1 : Int32) d46_11 rfl ?_
    rcases ite_e h with ⟨hc3, h⟩ | ⟨hc3, h⟩
    ·
      refine WP.icmpN d46_12 (XT.ii_ne_f hc3) ?_
      refine WP.aloadN d46_15 rfl ?_
      refine WP.iloadN d46_16 rfl ?_
      obtain ⟨c4, hc4, h⟩ := Option.bind_eq_some_iff.mp h
      refine WP.callP (i := 0) (y := y47) (as := [.int p1]) (S := []) d46_17 (hw _ m_264) (hw _ m_266) (hw _ m_3) (hw _ m_265) (hw _ m_267) (hw _ m_4) hy47 rfl (ok47 l Z a0 hw n p1 s _ hc4) rfl (lenOf pd47 rfl) (leb rfl) (leb rfl) (leb rfl) (leb rfl) ?_
      rintro _ _ ⟨rfl, rfl⟩
      show W46 l Z n0 (P46 s r) 0 0 20 [.val (.ref 0), .val (.int p1), .val (.int p2)] [.long c4] (Hb 0 s)
      cases h
      exact WP.lreturn d46_20 rfl (leb rfl) (leb rfl) ⟨rfl, rfl⟩
    ·
      refine WP.icmpY (pc' := 21) d46_12 (XT.ii_ne_t hc3) (by decide) rfl ?_
      refine WP.aloadN d46_21 rfl ?_
      refine WP.iloadN d46_22 rfl ?_
      obtain ⟨c5, hc5, h⟩ := Option.bind_eq_some_iff.mp h
      refine WP.callP (i := 0) (y := y9) (as := [.int p2]) (S := []) d46_23 (hw _ m_97) (hw _ m_99) (hw _ m_3) (hw _ m_98) (hw _ m_100) (hw _ m_4) hy9 rfl (ok9 l Z a0 hw p2 s _ hc5) rfl (lenOf pd9 rfl) (leb rfl) (leb rfl) (leb rfl) (leb rfl) ?_
      rintro _ _ ⟨rfl, rfl⟩
      show W46 l Z n0 (P46 s r) 0 0 26 [.val (.ref 0), .val (.int p1), .val (.int p2)] [.int c5] (Hb 0 s)
      rcases ite_e h with ⟨hc6, h⟩ | ⟨hc6, h⟩
      ·
        refine WP.ifY (pc' := 36) d46_26 (XT.i0_eq_t hc6) (by decide) rfl ?_
        refine WP.lconst (0 : Int64) d46_36 rfl ?_
        cases h
        exact WP.lreturn d46_37 rfl (leb rfl) (leb rfl) ⟨rfl, rfl⟩
      ·
        refine WP.ifN d46_26 (XT.i0_eq_f hc6) ?_
        refine WP.aloadN d46_29 rfl ?_
        refine WP.iloadN d46_30 rfl ?_
        refine WP.iloadN d46_31 rfl ?_
        obtain ⟨c7, hc7, h⟩ := Option.bind_eq_some_iff.mp h
        refine WP.callP (i := 0) (y := y48) (as := [.int p1, .int p2]) (S := []) d46_32 (hw _ m_268) (hw _ m_270) (hw _ m_3) (hw _ m_269) (hw _ m_271) (hw _ m_4) hy48 rfl (ok48 l Z a0 hw n p1 p2 s _ hc7) rfl (lenOf pd48 rfl) (leb rfl) (leb rfl) (leb rfl) (leb rfl) ?_
        rintro _ _ ⟨rfl, rfl⟩
        show W46 l Z n0 (P46 s r) 0 0 35 [.val (.ref 0), .val (.int p1), .val (.int p2)] [.long c7] (Hb 0 s)
        cases h
        exact WP.lreturn d46_35 rfl (leb rfl) (leb rfl) ⟨rfl, rfl⟩
theorem d49_0 : dc prog_1_method_46_code 0 (.iload_n 1) 1 := by decide +kernel
theorem d49_1 : dc prog_1_method_46_code 1 (.ifCond .ne 9) 3 := by decide +kernel
theorem d49_4 : dc prog_1_method_46_code 4 (.aload_n 0) 1 := by decide +kernel
theorem d49_5 : dc prog_1_method_46_code 5 (.getfield 89) 3 := by decide +kernel
theorem d49_8 : dc prog_1_method_46_code 8 (.i2l) 1 := by decide +kernel
theorem d49_9 : dc prog_1_method_46_code 9 (.lreturn) 1 := by decide +kernel
theorem d49_10 : dc prog_1_method_46_code 10 (.iload_n 1) 1 := by decide +kernel
theorem d49_11 : dc prog_1_method_46_code 11 (.iconst 1) 1 := by decide +kernel
theorem d49_12 : dc prog_1_method_46_code 12 (.if_icmp .ne 23) 3 := by decide +kernel
theorem d49_15 : dc prog_1_method_46_code 15 (.aload_n 0) 1 := by decide +kernel
theorem d49_16 : dc prog_1_method_46_code 16 (.iload_n 2) 1 := by decide +kernel
theorem d49_17 : dc prog_1_method_46_code 17 (.invokevirtual 119) 3 := by decide +kernel
theorem d49_20 : dc prog_1_method_46_code 20 (.ifCond .ne 7) 3 := by decide +kernel
theorem d49_23 : dc prog_1_method_46_code 23 (.ldc2_w 254) 3 := by decide +kernel
theorem d49_26 : dc prog_1_method_46_code 26 (.lreturn) 1 := by decide +kernel
theorem d49_27 : dc prog_1_method_46_code 27 (.aload_n 0) 1 := by decide +kernel
theorem d49_28 : dc prog_1_method_46_code 28 (.getfield 39) 3 := by decide +kernel
theorem d49_31 : dc prog_1_method_46_code 31 (.iload_n 2) 1 := by decide +kernel
theorem d49_32 : dc prog_1_method_46_code 32 (.iaload) 1 := by decide +kernel
theorem d49_33 : dc prog_1_method_46_code 33 (.i2l) 1 := by decide +kernel
theorem d49_34 : dc prog_1_method_46_code 34 (.lreturn) 1 := by decide +kernel
theorem d49_35 : dc prog_1_method_46_code 35 (.iload_n 1) 1 := by decide +kernel
theorem d49_36 : dc prog_1_method_46_code 36 (.iconst 2) 1 := by decide +kernel
theorem d49_37 : dc prog_1_method_46_code 37 (.if_icmp .ne 8) 3 := by decide +kernel
theorem d49_40 : dc prog_1_method_46_code 40 (.aload_n 0) 1 := by decide +kernel
theorem d49_41 : dc prog_1_method_46_code 41 (.getfield 92) 3 := by decide +kernel
theorem d49_44 : dc prog_1_method_46_code 44 (.lreturn) 1 := by decide +kernel
theorem d49_45 : dc prog_1_method_46_code 45 (.iload_n 1) 1 := by decide +kernel
theorem d49_46 : dc prog_1_method_46_code 46 (.iconst 3) 1 := by decide +kernel
theorem d49_47 : dc prog_1_method_46_code 47 (.if_icmp .ne 8) 3 := by decide +kernel
theorem d49_50 : dc prog_1_method_46_code 50 (.aload_n 0) 1 := by decide +kernel
theorem d49_51 : dc prog_1_method_46_code 51 (.getfield 96) 3 := by decide +kernel
theorem d49_54 : dc prog_1_method_46_code 54 (.lreturn) 1 := by decide +kernel
theorem d49_55 : dc prog_1_method_46_code 55 (.iload_n 1) 1 := by decide +kernel
theorem d49_56 : dc prog_1_method_46_code 56 (.iconst 4) 1 := by decide +kernel
theorem d49_57 : dc prog_1_method_46_code 57 (.if_icmp .ne 8) 3 := by decide +kernel
theorem d49_60 : dc prog_1_method_46_code 60 (.aload_n 0) 1 := by decide +kernel
theorem d49_61 : dc prog_1_method_46_code 61 (.getfield 99) 3 := by decide +kernel
theorem d49_64 : dc prog_1_method_46_code 64 (.lreturn) 1 := by decide +kernel
theorem d49_65 : dc prog_1_method_46_code 65 (.aload_n 0) 1 := by decide +kernel
theorem d49_66 : dc prog_1_method_46_code 66 (.iload_n 1) 1 := by decide +kernel
theorem d49_67 : dc prog_1_method_46_code 67 (.invokevirtual 256) 3 := by decide +kernel
abbrev y49 : MethodName := ⟨"GeneralLedger", "ledgerInfo", "(II)J"⟩
theorem hy49 : y49.cls ≠ "java/lang/invoke/MethodHandle" ∧ y49.cls ≠ "java/lang/invoke/VarHandle" := by decide
theorem pd49 : parseMethodDescriptor y49.desc = some ⟨[.int, .int], some .long⟩ := by decide +kernel
abbrev R49 : Room := { frames := 1, cells := 0, slots := 0, locals := 13 }
abbrev P49 (s : St) (r : Int64) : Option Value → List OwnC → Prop := fun v H' => v = some (.long r) ∧ H' = (Hb 0 s)
abbrev W49 (l : Launch) (Z : State) (n0 : Nat) (Q : Option Value → List OwnC → Prop) (k n pc : Nat) (L : List Slot) (S : List Value) (H : List OwnC) : Prop := WP l Z CN lay "GeneralLedger" "ledgerInfo" prog_1_method_46_code 3 (some FieldType.long) R49 n0 0 Q k n pc L S H
def f_ledgerInfo (p1 : Int32) (p2 : Int32) (s : St) : Option (Int64) :=
  if p1 = 0 then
    some ((gI s 2).toInt64)
  else
    if p1 = (1 : Int32) then
      (f_isCurrency p2 s).bind fun c3 =>
      if c3 = 0 then
        some (-1 : Int64)
      else
        (rd (gA s 7) p2).bind fun x5 =>
        some x5.toInt64
    else
      if p1 = (2 : Int32) then
        some (gJ s 0)
      else
        if p1 = (3 : Int32) then
          some (gJ s 1)
        else
          if p1 = (4 : Int32) then
            some (gJ s 2)
          else
            none
set_option maxRecDepth 65536 in
set_option maxHeartbeats 4000000 in
theorem ok49 (l : Launch) (Z : State) (a0 : Array Value) (hw : HW a0 Z) (p1 : Int32) (p2 : Int32) (s : St) (r : Int64) (h : f_ledgerInfo p1 p2 s = some r) : CS l Z CN lay y49 prog_1_method_46_code 3 (some FieldType.long) R49 0 [.ref 0, .int p1, .int p2] (Hb 0 s) (P49 s r) := by
  refine CS.of_wp pn_cls (leb rfl) fun n0 => ?_
  show W49 l Z n0 (P49 s r) 0 0 0 [.val (.ref 0), .val (.int p1), .val (.int p2)] [] (Hb 0 s)
  unfold f_ledgerInfo at h
  refine WP.iloadN d49_0 rfl ?_
  rcases ite_e h with ⟨hc1, h⟩ | ⟨hc1, h⟩
  ·
    refine WP.ifN d49_1 (XT.i0_ne_f hc1) ?_
    refine WP.aloadN d49_4 rfl ?_
    refine WP.getfield (i := 0) (j := 19) d49_5 (hw _ m_76) rfl rfl rfl ?_
    refine WP.i2l d49_8 ?_
    cases h
    exact WP.lreturn d49_9 rfl (leb rfl) (leb rfl) ⟨rfl, rfl⟩
  ·
    refine WP.ifY (pc' := 10) d49_1 (XT.i0_ne_t hc1) (by decide) rfl ?_
    refine WP.iloadN d49_10 rfl ?_
    refine WP.iconst (1 : Int32) d49_11 rfl ?_
    rcases ite_e h with ⟨hc2, h⟩ | ⟨hc2, h⟩
    ·
      refine WP.icmpN d49_12 (XT.ii_ne_f hc2) ?_
      refine WP.aloadN d49_15 rfl ?_
      refine WP.iloadN d49_16 rfl ?_
      obtain ⟨c3, hc3, h⟩ := Option.bind_eq_some_iff.mp h
      refine WP.callP (i := 0) (y := y9) (as := [.int p2]) (S := []) d49_17 (hw _ m_97) (hw _ m_99) (hw _ m_3) (hw _ m_98) (hw _ m_100) (hw _ m_4) hy9 rfl (ok9 l Z a0 hw p2 s _ hc3) rfl (lenOf pd9 rfl) (leb rfl) (leb rfl) (leb rfl) (leb rfl) ?_
      rintro _ _ ⟨rfl, rfl⟩
      show W49 l Z n0 (P49 s r) 0 0 20 [.val (.ref 0), .val (.int p1), .val (.int p2)] [.int c3] (Hb 0 s)
      rcases ite_e h with ⟨hc4, h⟩ | ⟨hc4, h⟩
      ·
        refine WP.ifN d49_20 (XT.i0_ne_f hc4) ?_
        refine WP.ldc2 d49_23 (hw _ m_296) ?_
        cases h
        exact WP.lreturn d49_26 rfl (leb rfl) (leb rfl) ⟨rfl, rfl⟩
      ·
        refine WP.ifY (pc' := 27) d49_20 (XT.i0_ne_t hc4) (by decide) rfl ?_
        refine WP.aloadN d49_27 rfl ?_
        refine WP.getfield (i := 0) (j := 11) d49_28 (hw _ m_32) rfl rfl rfl ?_
        refine WP.iloadN d49_31 rfl ?_
        obtain ⟨x5, hx5, h⟩ := Option.bind_eq_some_iff.mp h
        refine WP.iaload (i := 10) d49_32 rfl hx5 ?_
        refine WP.i2l d49_33 ?_
        cases h
        exact WP.lreturn d49_34 rfl (leb rfl) (leb rfl) ⟨rfl, rfl⟩
    ·
      refine WP.icmpY (pc' := 35) d49_12 (XT.ii_ne_t hc2) (by decide) rfl ?_
      refine WP.iloadN d49_35 rfl ?_
      refine WP.iconst (2 : Int32) d49_36 rfl ?_
      rcases ite_e h with ⟨hc6, h⟩ | ⟨hc6, h⟩
      ·
        refine WP.icmpN d49_37 (XT.ii_ne_f hc6) ?_
        refine WP.aloadN d49_40 rfl ?_
        refine WP.getfield (i := 0) (j := 20) d49_41 (hw _ m_78) rfl rfl rfl ?_
        cases h
        exact WP.lreturn d49_44 rfl (leb rfl) (leb rfl) ⟨rfl, rfl⟩
      ·
        refine WP.icmpY (pc' := 45) d49_37 (XT.ii_ne_t hc6) (by decide) rfl ?_
        refine WP.iloadN d49_45 rfl ?_
        refine WP.iconst (3 : Int32) d49_46 rfl ?_
        rcases ite_e h with ⟨hc7, h⟩ | ⟨hc7, h⟩
        ·
          refine WP.icmpN d49_47 (XT.ii_ne_f hc7) ?_
          refine WP.aloadN d49_50 rfl ?_
          refine WP.getfield (i := 0) (j := 21) d49_51 (hw _ m_80) rfl rfl rfl ?_
          cases h
          exact WP.lreturn d49_54 rfl (leb rfl) (leb rfl) ⟨rfl, rfl⟩
        ·
          refine WP.icmpY (pc' := 55) d49_47 (XT.ii_ne_t hc7) (by decide) rfl ?_
          refine WP.iloadN d49_55 rfl ?_
          refine WP.iconst (4 : Int32) d49_56 rfl ?_
          rcases ite_e h with ⟨hc8, h⟩ | ⟨hc8, h⟩
          ·
            refine WP.icmpN d49_57 (XT.ii_ne_f hc8) ?_
            refine WP.aloadN d49_60 rfl ?_
            refine WP.getfield (i := 0) (j := 22) d49_61 (hw _ m_82) rfl rfl rfl ?_
            cases h
            exact WP.lreturn d49_64 rfl (leb rfl) (leb rfl) ⟨rfl, rfl⟩
          ·
            refine WP.icmpY (pc' := 65) d49_57 (XT.ii_ne_t hc8) (by decide) rfl ?_
            refine WP.aloadN d49_65 rfl ?_
            refine WP.iloadN d49_66 rfl ?_
            cases h
theorem d52_0 : dc prog_1_method_55_code 0 (.iload_n 1) 1 := by decide +kernel
theorem d52_1 : dc prog_1_method_55_code 1 (.ifCond .eq 5) 3 := by decide +kernel
theorem d52_4 : dc prog_1_method_55_code 4 (.iconst 1) 1 := by decide +kernel
theorem d52_5 : dc prog_1_method_55_code 5 (.ireturn) 1 := by decide +kernel
theorem d52_6 : dc prog_1_method_55_code 6 (.iconst 0) 1 := by decide +kernel
theorem d52_7 : dc prog_1_method_55_code 7 (.ireturn) 1 := by decide +kernel
abbrev y52 : MethodName := ⟨"GeneralLedger", "boolToInt", "(Z)I"⟩
theorem hy52 : y52.cls ≠ "java/lang/invoke/MethodHandle" ∧ y52.cls ≠ "java/lang/invoke/VarHandle" := by decide
theorem pd52 : parseMethodDescriptor y52.desc = some ⟨[.boolean], some .int⟩ := by decide +kernel
abbrev R52 : Room := { frames := 0, cells := 0, slots := 0, locals := 0 }
abbrev P52 (s : St) (r : Int32) : Option Value → List OwnC → Prop := fun v H' => v = some (.int r) ∧ H' = (Hb 0 s)
abbrev W52 (l : Launch) (Z : State) (n0 : Nat) (Q : Option Value → List OwnC → Prop) (k n pc : Nat) (L : List Slot) (S : List Value) (H : List OwnC) : Prop := WP l Z CN lay "GeneralLedger" "boolToInt" prog_1_method_55_code 2 (some FieldType.int) R52 n0 0 Q k n pc L S H
def f_boolToInt (p1 : Int32) (s : St) : Option (Int32) :=
  if p1 = 0 then
    some (0 : Int32)
  else
    some (1 : Int32)
set_option maxRecDepth 65536 in
set_option maxHeartbeats 4000000 in
theorem ok52 (l : Launch) (Z : State) (a0 : Array Value) (hw : HW a0 Z) (p1 : Int32) (s : St) (r : Int32) (h : f_boolToInt p1 s = some r) : CS l Z CN lay y52 prog_1_method_55_code 2 (some FieldType.int) R52 0 [.ref 0, .int p1] (Hb 0 s) (P52 s r) := by
  refine CS.of_wp pn_cls (leb rfl) fun n0 => ?_
  show W52 l Z n0 (P52 s r) 0 0 0 [.val (.ref 0), .val (.int p1)] [] (Hb 0 s)
  unfold f_boolToInt at h
  refine WP.iloadN d52_0 rfl ?_
  rcases ite_e h with ⟨hc1, h⟩ | ⟨hc1, h⟩
  ·
    refine WP.ifY (pc' := 6) d52_1 (XT.i0_eq_t hc1) (by decide) rfl ?_
    refine WP.iconst (0 : Int32) d52_6 rfl ?_
    cases h
    exact WP.ireturn d52_7 rfl (leb rfl) (leb rfl) ⟨rfl, rfl⟩
  ·
    refine WP.ifN d52_1 (XT.i0_eq_f hc1) ?_
    refine WP.iconst (1 : Int32) d52_4 rfl ?_
    cases h
    exact WP.ireturn d52_5 rfl (leb rfl) (leb rfl) ⟨rfl, rfl⟩
theorem d51_0 : dc prog_1_method_43_code 0 (.iload_n 2) 1 := by decide +kernel
theorem d51_1 : dc prog_1_method_43_code 1 (.iconst 1) 1 := by decide +kernel
theorem d51_2 : dc prog_1_method_43_code 2 (.if_icmp .ne 10) 3 := by decide +kernel
theorem d51_5 : dc prog_1_method_43_code 5 (.aload_n 0) 1 := by decide +kernel
theorem d51_6 : dc prog_1_method_43_code 6 (.getfield 13) 3 := by decide +kernel
theorem d51_9 : dc prog_1_method_43_code 9 (.iload_n 1) 1 := by decide +kernel
theorem d51_10 : dc prog_1_method_43_code 10 (.iaload) 1 := by decide +kernel
theorem d51_11 : dc prog_1_method_43_code 11 (.ireturn) 1 := by decide +kernel
theorem d51_12 : dc prog_1_method_43_code 12 (.iload_n 2) 1 := by decide +kernel
theorem d51_13 : dc prog_1_method_43_code 13 (.iconst 2) 1 := by decide +kernel
theorem d51_14 : dc prog_1_method_43_code 14 (.if_icmp .ne 10) 3 := by decide +kernel
theorem d51_17 : dc prog_1_method_43_code 17 (.aload_n 0) 1 := by decide +kernel
theorem d51_18 : dc prog_1_method_43_code 18 (.getfield 17) 3 := by decide +kernel
theorem d51_21 : dc prog_1_method_43_code 21 (.iload_n 1) 1 := by decide +kernel
theorem d51_22 : dc prog_1_method_43_code 22 (.iaload) 1 := by decide +kernel
theorem d51_23 : dc prog_1_method_43_code 23 (.ireturn) 1 := by decide +kernel
theorem d51_24 : dc prog_1_method_43_code 24 (.iload_n 2) 1 := by decide +kernel
theorem d51_25 : dc prog_1_method_43_code 25 (.iconst 3) 1 := by decide +kernel
theorem d51_26 : dc prog_1_method_43_code 26 (.if_icmp .ne 10) 3 := by decide +kernel
theorem d51_29 : dc prog_1_method_43_code 29 (.aload_n 0) 1 := by decide +kernel
theorem d51_30 : dc prog_1_method_43_code 30 (.getfield 20) 3 := by decide +kernel
theorem d51_33 : dc prog_1_method_43_code 33 (.iload_n 1) 1 := by decide +kernel
theorem d51_34 : dc prog_1_method_43_code 34 (.iaload) 1 := by decide +kernel
theorem d51_35 : dc prog_1_method_43_code 35 (.ireturn) 1 := by decide +kernel
theorem d51_36 : dc prog_1_method_43_code 36 (.iload_n 2) 1 := by decide +kernel
theorem d51_37 : dc prog_1_method_43_code 37 (.iconst 4) 1 := by decide +kernel
theorem d51_38 : dc prog_1_method_43_code 38 (.if_icmp .ne 10) 3 := by decide +kernel
theorem d51_41 : dc prog_1_method_43_code 41 (.aload_n 0) 1 := by decide +kernel
theorem d51_42 : dc prog_1_method_43_code 42 (.getfield 23) 3 := by decide +kernel
theorem d51_45 : dc prog_1_method_43_code 45 (.iload_n 1) 1 := by decide +kernel
theorem d51_46 : dc prog_1_method_43_code 46 (.iaload) 1 := by decide +kernel
theorem d51_47 : dc prog_1_method_43_code 47 (.ireturn) 1 := by decide +kernel
theorem d51_48 : dc prog_1_method_43_code 48 (.iload_n 2) 1 := by decide +kernel
theorem d51_49 : dc prog_1_method_43_code 49 (.iconst 5) 1 := by decide +kernel
theorem d51_50 : dc prog_1_method_43_code 50 (.if_icmp .ne 14) 3 := by decide +kernel
theorem d51_53 : dc prog_1_method_43_code 53 (.aload_n 0) 1 := by decide +kernel
theorem d51_54 : dc prog_1_method_43_code 54 (.aload_n 0) 1 := by decide +kernel
theorem d51_55 : dc prog_1_method_43_code 55 (.getfield 29) 3 := by decide +kernel
theorem d51_58 : dc prog_1_method_43_code 58 (.iload_n 1) 1 := by decide +kernel
theorem d51_59 : dc prog_1_method_43_code 59 (.baload) 1 := by decide +kernel
theorem d51_60 : dc prog_1_method_43_code 60 (.invokevirtual 244) 3 := by decide +kernel
theorem d51_63 : dc prog_1_method_43_code 63 (.ireturn) 1 := by decide +kernel
theorem d51_64 : dc prog_1_method_43_code 64 (.iload_n 2) 1 := by decide +kernel
theorem d51_65 : dc prog_1_method_43_code 65 (.bipush 6) 2 := by decide +kernel
theorem d51_67 : dc prog_1_method_43_code 67 (.if_icmp .ne 10) 3 := by decide +kernel
theorem d51_70 : dc prog_1_method_43_code 70 (.aload_n 0) 1 := by decide +kernel
theorem d51_71 : dc prog_1_method_43_code 71 (.getfield 26) 3 := by decide +kernel
theorem d51_74 : dc prog_1_method_43_code 74 (.iload_n 1) 1 := by decide +kernel
theorem d51_75 : dc prog_1_method_43_code 75 (.iaload) 1 := by decide +kernel
theorem d51_76 : dc prog_1_method_43_code 76 (.ireturn) 1 := by decide +kernel
theorem d51_77 : dc prog_1_method_43_code 77 (.iconst (-1)) 1 := by decide +kernel
theorem d51_78 : dc prog_1_method_43_code 78 (.ireturn) 1 := by decide +kernel
abbrev y51 : MethodName := ⟨"GeneralLedger", "openAccountField", "(II)I"⟩
theorem hy51 : y51.cls ≠ "java/lang/invoke/MethodHandle" ∧ y51.cls ≠ "java/lang/invoke/VarHandle" := by decide
theorem pd51 : parseMethodDescriptor y51.desc = some ⟨[.int, .int], some .int⟩ := by decide +kernel
abbrev R51 : Room := { frames := 1, cells := 0, slots := 0, locals := 13 }
abbrev P51 (s : St) (r : Int32) : Option Value → List OwnC → Prop := fun v H' => v = some (.int r) ∧ H' = (Hb 0 s)
abbrev W51 (l : Launch) (Z : State) (n0 : Nat) (Q : Option Value → List OwnC → Prop) (k n pc : Nat) (L : List Slot) (S : List Value) (H : List OwnC) : Prop := WP l Z CN lay "GeneralLedger" "openAccountField" prog_1_method_43_code 3 (some FieldType.int) R51 n0 0 Q k n pc L S H
def f_openAccountField (p1 : Int32) (p2 : Int32) (s : St) : Option (Int32) :=
  if p2 = (1 : Int32) then
    (rd (gA s 1) p1).bind fun x2 =>
    some x2
  else
    if p2 = (2 : Int32) then
      (rd (gA s 2) p1).bind fun x4 =>
      some x4
    else
      if p2 = (3 : Int32) then
        (rd (gA s 3) p1).bind fun x6 =>
        some x6
      else
        if p2 = (4 : Int32) then
          (rd (gA s 4) p1).bind fun x8 =>
          some x8
        else
          if p2 = (5 : Int32) then
            (rd (gA s 6) p1).bind fun x10 =>
            (f_boolToInt x10 s).bind fun c11 =>
            some c11
          else
            if p2 = (6 : Int32) then
              (rd (gA s 5) p1).bind fun x13 =>
              some x13
            else
              some (-1 : Int32)
set_option maxRecDepth 65536 in
set_option maxHeartbeats 4000000 in
theorem ok51 (l : Launch) (Z : State) (a0 : Array Value) (hw : HW a0 Z) (p1 : Int32) (p2 : Int32) (s : St) (r : Int32) (h : f_openAccountField p1 p2 s = some r) : CS l Z CN lay y51 prog_1_method_43_code 3 (some FieldType.int) R51 0 [.ref 0, .int p1, .int p2] (Hb 0 s) (P51 s r) := by
  refine CS.of_wp pn_cls (leb rfl) fun n0 => ?_
  show W51 l Z n0 (P51 s r) 0 0 0 [.val (.ref 0), .val (.int p1), .val (.int p2)] [] (Hb 0 s)
  unfold f_openAccountField at h
  refine WP.iloadN d51_0 rfl ?_
  refine WP.iconst (1 : Int32) d51_1 rfl ?_
  rcases ite_e h with ⟨hc1, h⟩ | ⟨hc1, h⟩
  ·
    refine WP.icmpN d51_2 (XT.ii_ne_f hc1) ?_
    refine WP.aloadN d51_5 rfl ?_
    refine WP.getfield (i := 0) (j := 3) d51_6 (hw _ m_15) rfl rfl rfl ?_
    refine WP.iloadN d51_9 rfl ?_
    obtain ⟨x2, hx2, h⟩ := Option.bind_eq_some_iff.mp h
    refine WP.iaload (i := 2) d51_10 rfl hx2 ?_
    cases h
    exact WP.ireturn d51_11 rfl (leb rfl) (leb rfl) ⟨rfl, rfl⟩
  ·
    refine WP.icmpY (pc' := 12) d51_2 (XT.ii_ne_t hc1) (by decide) rfl ?_
    refine WP.iloadN d51_12 rfl ?_
    refine WP.iconst (2 : Int32) d51_13 rfl ?_
    rcases ite_e h with ⟨hc3, h⟩ | ⟨hc3, h⟩
    ·
      refine WP.icmpN d51_14 (XT.ii_ne_f hc3) ?_
      refine WP.aloadN d51_17 rfl ?_
      refine WP.getfield (i := 0) (j := 4) d51_18 (hw _ m_17) rfl rfl rfl ?_
      refine WP.iloadN d51_21 rfl ?_
      obtain ⟨x4, hx4, h⟩ := Option.bind_eq_some_iff.mp h
      refine WP.iaload (i := 3) d51_22 rfl hx4 ?_
      cases h
      exact WP.ireturn d51_23 rfl (leb rfl) (leb rfl) ⟨rfl, rfl⟩
    ·
      refine WP.icmpY (pc' := 24) d51_14 (XT.ii_ne_t hc3) (by decide) rfl ?_
      refine WP.iloadN d51_24 rfl ?_
      refine WP.iconst (3 : Int32) d51_25 rfl ?_
      rcases ite_e h with ⟨hc5, h⟩ | ⟨hc5, h⟩
      ·
        refine WP.icmpN d51_26 (XT.ii_ne_f hc5) ?_
        refine WP.aloadN d51_29 rfl ?_
        refine WP.getfield (i := 0) (j := 5) d51_30 (hw _ m_19) rfl rfl rfl ?_
        refine WP.iloadN d51_33 rfl ?_
        obtain ⟨x6, hx6, h⟩ := Option.bind_eq_some_iff.mp h
        refine WP.iaload (i := 4) d51_34 rfl hx6 ?_
        cases h
        exact WP.ireturn d51_35 rfl (leb rfl) (leb rfl) ⟨rfl, rfl⟩
      ·
        refine WP.icmpY (pc' := 36) d51_26 (XT.ii_ne_t hc5) (by decide) rfl ?_
        refine WP.iloadN d51_36 rfl ?_
        refine WP.iconst (4 : Int32) d51_37 rfl ?_
        rcases ite_e h with ⟨hc7, h⟩ | ⟨hc7, h⟩
        ·
          refine WP.icmpN d51_38 (XT.ii_ne_f hc7) ?_
          refine WP.aloadN d51_41 rfl ?_
          refine WP.getfield (i := 0) (j := 6) d51_42 (hw _ m_21) rfl rfl rfl ?_
          refine WP.iloadN d51_45 rfl ?_
          obtain ⟨x8, hx8, h⟩ := Option.bind_eq_some_iff.mp h
          refine WP.iaload (i := 5) d51_46 rfl hx8 ?_
          cases h
          exact WP.ireturn d51_47 rfl (leb rfl) (leb rfl) ⟨rfl, rfl⟩
        ·
          refine WP.icmpY (pc' := 48) d51_38 (XT.ii_ne_t hc7) (by decide) rfl ?_
          refine WP.iloadN d51_48 rfl ?_
          refine WP.iconst (5 : Int32) d51_49 rfl ?_
          rcases ite_e h with ⟨hc9, h⟩ | ⟨hc9, h⟩
          ·
            refine WP.icmpN d51_50 (XT.ii_ne_f hc9) ?_
            refine WP.aloadN d51_53 rfl ?_
            refine WP.aloadN d51_54 rfl ?_
            refine WP.getfield (i := 0) (j := 8) d51_55 (hw _ m_25) rfl rfl rfl ?_
            refine WP.iloadN d51_58 rfl ?_
            obtain ⟨x10, hx10, h⟩ := Option.bind_eq_some_iff.mp h
            refine WP.baload (i := 7) d51_59 rfl hx10 ?_
            obtain ⟨c11, hc11, h⟩ := Option.bind_eq_some_iff.mp h
            refine WP.callP (i := 0) (y := y52) (as := [.int x10]) (S := []) d51_60 (hw _ m_286) (hw _ m_288) (hw _ m_3) (hw _ m_287) (hw _ m_289) (hw _ m_4) hy52 rfl (ok52 l Z a0 hw x10 s _ hc11) rfl (lenOf pd52 rfl) (leb rfl) (leb rfl) (leb rfl) (leb rfl) ?_
            rintro _ _ ⟨rfl, rfl⟩
            show W51 l Z n0 (P51 s r) 0 0 63 [.val (.ref 0), .val (.int p1), .val (.int p2)] [.int c11] (Hb 0 s)
            cases h
            exact WP.ireturn d51_63 rfl (leb rfl) (leb rfl) ⟨rfl, rfl⟩
          ·
            refine WP.icmpY (pc' := 64) d51_50 (XT.ii_ne_t hc9) (by decide) rfl ?_
            refine WP.iloadN d51_64 rfl ?_
            refine WP.bipush (6 : Int32) d51_65 rfl ?_
            rcases ite_e h with ⟨hc12, h⟩ | ⟨hc12, h⟩
            ·
              refine WP.icmpN d51_67 (XT.ii_ne_f hc12) ?_
              refine WP.aloadN d51_70 rfl ?_
              refine WP.getfield (i := 0) (j := 7) d51_71 (hw _ m_23) rfl rfl rfl ?_
              refine WP.iloadN d51_74 rfl ?_
              obtain ⟨x13, hx13, h⟩ := Option.bind_eq_some_iff.mp h
              refine WP.iaload (i := 6) d51_75 rfl hx13 ?_
              cases h
              exact WP.ireturn d51_76 rfl (leb rfl) (leb rfl) ⟨rfl, rfl⟩
            ·
              refine WP.icmpY (pc' := 77) d51_67 (XT.ii_ne_t hc12) (by decide) rfl ?_
              refine WP.iconst (-1 : Int32) d51_77 rfl ?_
              cases h
              exact WP.ireturn d51_78 rfl (leb rfl) (leb rfl) ⟨rfl, rfl⟩
theorem d50_0 : dc prog_1_method_42_code 0 (.aload_n 0) 1 := by decide +kernel
theorem d50_1 : dc prog_1_method_42_code 1 (.iload_n 1) 1 := by decide +kernel
theorem d50_2 : dc prog_1_method_42_code 2 (.invokevirtual 106) 3 := by decide +kernel
theorem d50_5 : dc prog_1_method_42_code 5 (.ifCond .ne 5) 3 := by decide +kernel
theorem d50_8 : dc prog_1_method_42_code 8 (.iconst (-1)) 1 := by decide +kernel
theorem d50_9 : dc prog_1_method_42_code 9 (.ireturn) 1 := by decide +kernel
theorem d50_10 : dc prog_1_method_42_code 10 (.iload_n 2) 1 := by decide +kernel
theorem d50_11 : dc prog_1_method_42_code 11 (.ifCond .ne 14) 3 := by decide +kernel
theorem d50_14 : dc prog_1_method_42_code 14 (.aload_n 0) 1 := by decide +kernel
theorem d50_15 : dc prog_1_method_42_code 15 (.aload_n 0) 1 := by decide +kernel
theorem d50_16 : dc prog_1_method_42_code 16 (.getfield 7) 3 := by decide +kernel
theorem d50_19 : dc prog_1_method_42_code 19 (.iload_n 1) 1 := by decide +kernel
theorem d50_20 : dc prog_1_method_42_code 20 (.baload) 1 := by decide +kernel
theorem d50_21 : dc prog_1_method_42_code 21 (.invokevirtual 244) 3 := by decide +kernel
theorem d50_24 : dc prog_1_method_42_code 24 (.ireturn) 1 := by decide +kernel
theorem d50_25 : dc prog_1_method_42_code 25 (.aload_n 0) 1 := by decide +kernel
theorem d50_26 : dc prog_1_method_42_code 26 (.getfield 7) 3 := by decide +kernel
theorem d50_29 : dc prog_1_method_42_code 29 (.iload_n 1) 1 := by decide +kernel
theorem d50_30 : dc prog_1_method_42_code 30 (.baload) 1 := by decide +kernel
theorem d50_31 : dc prog_1_method_42_code 31 (.ifCond .ne 5) 3 := by decide +kernel
theorem d50_34 : dc prog_1_method_42_code 34 (.iconst (-1)) 1 := by decide +kernel
theorem d50_35 : dc prog_1_method_42_code 35 (.ireturn) 1 := by decide +kernel
theorem d50_36 : dc prog_1_method_42_code 36 (.aload_n 0) 1 := by decide +kernel
theorem d50_37 : dc prog_1_method_42_code 37 (.iload_n 1) 1 := by decide +kernel
theorem d50_38 : dc prog_1_method_42_code 38 (.iload_n 2) 1 := by decide +kernel
theorem d50_39 : dc prog_1_method_42_code 39 (.invokevirtual 248) 3 := by decide +kernel
theorem d50_42 : dc prog_1_method_42_code 42 (.ireturn) 1 := by decide +kernel
abbrev y50 : MethodName := ⟨"GeneralLedger", "accountInfo", "(II)I"⟩
theorem hy50 : y50.cls ≠ "java/lang/invoke/MethodHandle" ∧ y50.cls ≠ "java/lang/invoke/VarHandle" := by decide
theorem pd50 : parseMethodDescriptor y50.desc = some ⟨[.int, .int], some .int⟩ := by decide +kernel
abbrev R50 : Room := { frames := 2, cells := 0, slots := 0, locals := 27 }
abbrev P50 (s : St) (r : Int32) : Option Value → List OwnC → Prop := fun v H' => v = some (.int r) ∧ H' = (Hb 0 s)
abbrev W50 (l : Launch) (Z : State) (n0 : Nat) (Q : Option Value → List OwnC → Prop) (k n pc : Nat) (L : List Slot) (S : List Value) (H : List OwnC) : Prop := WP l Z CN lay "GeneralLedger" "accountInfo" prog_1_method_42_code 3 (some FieldType.int) R50 n0 0 Q k n pc L S H
def f_accountInfo (p1 : Int32) (p2 : Int32) (s : St) : Option (Int32) :=
  (f_isAccountId p1 s).bind fun c1 =>
  if c1 = 0 then
    some (-1 : Int32)
  else
    if p2 = 0 then
      (rd (gA s 0) p1).bind fun x4 =>
      (f_boolToInt x4 s).bind fun c5 =>
      some c5
    else
      (rd (gA s 0) p1).bind fun x6 =>
      if x6 = 0 then
        some (-1 : Int32)
      else
        (f_openAccountField p1 p2 s).bind fun c8 =>
        some c8
set_option maxRecDepth 65536 in
set_option maxHeartbeats 4000000 in
theorem ok50 (l : Launch) (Z : State) (a0 : Array Value) (hw : HW a0 Z) (p1 : Int32) (p2 : Int32) (s : St) (r : Int32) (h : f_accountInfo p1 p2 s = some r) : CS l Z CN lay y50 prog_1_method_42_code 3 (some FieldType.int) R50 0 [.ref 0, .int p1, .int p2] (Hb 0 s) (P50 s r) := by
  refine CS.of_wp pn_cls (leb rfl) fun n0 => ?_
  show W50 l Z n0 (P50 s r) 0 0 0 [.val (.ref 0), .val (.int p1), .val (.int p2)] [] (Hb 0 s)
  unfold f_accountInfo at h
  refine WP.aloadN d50_0 rfl ?_
  refine WP.iloadN d50_1 rfl ?_
  obtain ⟨c1, hc1, h⟩ := Option.bind_eq_some_iff.mp h
  refine WP.callP (i := 0) (y := y7) (as := [.int p1]) (S := []) d50_2 (hw _ m_89) (hw _ m_91) (hw _ m_3) (hw _ m_90) (hw _ m_92) (hw _ m_4) hy7 rfl (ok7 l Z a0 hw p1 s _ hc1) rfl (lenOf pd7 rfl) (leb rfl) (leb rfl) (leb rfl) (leb rfl) ?_
  rintro _ _ ⟨rfl, rfl⟩
  show W50 l Z n0 (P50 s r) 0 0 5 [.val (.ref 0), .val (.int p1), .val (.int p2)] [.int c1] (Hb 0 s)
  rcases ite_e h with ⟨hc2, h⟩ | ⟨hc2, h⟩
  ·
    refine WP.ifN d50_5 (XT.i0_ne_f hc2) ?_
    refine WP.iconst (-1 : Int32) d50_8 rfl ?_
    cases h
    exact WP.ireturn d50_9 rfl (leb rfl) (leb rfl) ⟨rfl, rfl⟩
  ·
    refine WP.ifY (pc' := 10) d50_5 (XT.i0_ne_t hc2) (by decide) rfl ?_
    refine WP.iloadN d50_10 rfl ?_
    rcases ite_e h with ⟨hc3, h⟩ | ⟨hc3, h⟩
    ·
      refine WP.ifN d50_11 (XT.i0_ne_f hc3) ?_
      refine WP.aloadN d50_14 rfl ?_
      refine WP.aloadN d50_15 rfl ?_
      refine WP.getfield (i := 0) (j := 2) d50_16 (hw _ m_12) rfl rfl rfl ?_
      refine WP.iloadN d50_19 rfl ?_
      obtain ⟨x4, hx4, h⟩ := Option.bind_eq_some_iff.mp h
      refine WP.baload (i := 1) d50_20 rfl hx4 ?_
      obtain ⟨c5, hc5, h⟩ := Option.bind_eq_some_iff.mp h
      refine WP.callP (i := 0) (y := y52) (as := [.int x4]) (S := []) d50_21 (hw _ m_286) (hw _ m_288) (hw _ m_3) (hw _ m_287) (hw _ m_289) (hw _ m_4) hy52 rfl (ok52 l Z a0 hw x4 s _ hc5) rfl (lenOf pd52 rfl) (leb rfl) (leb rfl) (leb rfl) (leb rfl) ?_
      rintro _ _ ⟨rfl, rfl⟩
      show W50 l Z n0 (P50 s r) 0 0 24 [.val (.ref 0), .val (.int p1), .val (.int p2)] [.int c5] (Hb 0 s)
      cases h
      exact WP.ireturn d50_24 rfl (leb rfl) (leb rfl) ⟨rfl, rfl⟩
    ·
      refine WP.ifY (pc' := 25) d50_11 (XT.i0_ne_t hc3) (by decide) rfl ?_
      refine WP.aloadN d50_25 rfl ?_
      refine WP.getfield (i := 0) (j := 2) d50_26 (hw _ m_12) rfl rfl rfl ?_
      refine WP.iloadN d50_29 rfl ?_
      obtain ⟨x6, hx6, h⟩ := Option.bind_eq_some_iff.mp h
      refine WP.baload (i := 1) d50_30 rfl hx6 ?_
      rcases ite_e h with ⟨hc7, h⟩ | ⟨hc7, h⟩
      ·
        refine WP.ifN d50_31 (XT.i0_ne_f hc7) ?_
        refine WP.iconst (-1 : Int32) d50_34 rfl ?_
        cases h
        exact WP.ireturn d50_35 rfl (leb rfl) (leb rfl) ⟨rfl, rfl⟩
      ·
        refine WP.ifY (pc' := 36) d50_31 (XT.i0_ne_t hc7) (by decide) rfl ?_
        refine WP.aloadN d50_36 rfl ?_
        refine WP.iloadN d50_37 rfl ?_
        refine WP.iloadN d50_38 rfl ?_
        obtain ⟨c8, hc8, h⟩ := Option.bind_eq_some_iff.mp h
        refine WP.callP (i := 0) (y := y51) (as := [.int p1, .int p2]) (S := []) d50_39 (hw _ m_282) (hw _ m_284) (hw _ m_3) (hw _ m_283) (hw _ m_285) (hw _ m_4) hy51 rfl (ok51 l Z a0 hw p1 p2 s _ hc8) rfl (lenOf pd51 rfl) (leb rfl) (leb rfl) (leb rfl) (leb rfl) ?_
        rintro _ _ ⟨rfl, rfl⟩
        show W50 l Z n0 (P50 s r) 0 0 42 [.val (.ref 0), .val (.int p1), .val (.int p2)] [.int c8] (Hb 0 s)
        cases h
        exact WP.ireturn d50_42 rfl (leb rfl) (leb rfl) ⟨rfl, rfl⟩
theorem d53_0 : dc prog_1_method_44_code 0 (.aload_n 0) 1 := by decide +kernel
theorem d53_1 : dc prog_1_method_44_code 1 (.iload_n 1) 1 := by decide +kernel
theorem d53_2 : dc prog_1_method_44_code 2 (.invokevirtual 149) 3 := by decide +kernel
theorem d53_5 : dc prog_1_method_44_code 5 (.ifCond .ne 5) 3 := by decide +kernel
theorem d53_8 : dc prog_1_method_44_code 8 (.iconst (-1)) 1 := by decide +kernel
theorem d53_9 : dc prog_1_method_44_code 9 (.ireturn) 1 := by decide +kernel
theorem d53_10 : dc prog_1_method_44_code 10 (.iload_n 2) 1 := by decide +kernel
theorem d53_11 : dc prog_1_method_44_code 11 (.ifCond .ne 14) 3 := by decide +kernel
theorem d53_14 : dc prog_1_method_44_code 14 (.aload_n 0) 1 := by decide +kernel
theorem d53_15 : dc prog_1_method_44_code 15 (.aload_n 0) 1 := by decide +kernel
theorem d53_16 : dc prog_1_method_44_code 16 (.getfield 45) 3 := by decide +kernel
theorem d53_19 : dc prog_1_method_44_code 19 (.iload_n 1) 1 := by decide +kernel
theorem d53_20 : dc prog_1_method_44_code 20 (.baload) 1 := by decide +kernel
theorem d53_21 : dc prog_1_method_44_code 21 (.invokevirtual 244) 3 := by decide +kernel
theorem d53_24 : dc prog_1_method_44_code 24 (.ireturn) 1 := by decide +kernel
theorem d53_25 : dc prog_1_method_44_code 25 (.aload_n 0) 1 := by decide +kernel
theorem d53_26 : dc prog_1_method_44_code 26 (.getfield 45) 3 := by decide +kernel
theorem d53_29 : dc prog_1_method_44_code 29 (.iload_n 1) 1 := by decide +kernel
theorem d53_30 : dc prog_1_method_44_code 30 (.baload) 1 := by decide +kernel
theorem d53_31 : dc prog_1_method_44_code 31 (.ifCond .ne 5) 3 := by decide +kernel
theorem d53_34 : dc prog_1_method_44_code 34 (.iconst (-1)) 1 := by decide +kernel
theorem d53_35 : dc prog_1_method_44_code 35 (.ireturn) 1 := by decide +kernel
theorem d53_36 : dc prog_1_method_44_code 36 (.iload_n 2) 1 := by decide +kernel
theorem d53_37 : dc prog_1_method_44_code 37 (.iconst 1) 1 := by decide +kernel
theorem d53_38 : dc prog_1_method_44_code 38 (.if_icmp .ne 10) 3 := by decide +kernel
theorem d53_41 : dc prog_1_method_44_code 41 (.aload_n 0) 1 := by decide +kernel
theorem d53_42 : dc prog_1_method_44_code 42 (.getfield 48) 3 := by decide +kernel
theorem d53_45 : dc prog_1_method_44_code 45 (.iload_n 1) 1 := by decide +kernel
theorem d53_46 : dc prog_1_method_44_code 46 (.iaload) 1 := by decide +kernel
theorem d53_47 : dc prog_1_method_44_code 47 (.ireturn) 1 := by decide +kernel
theorem d53_48 : dc prog_1_method_44_code 48 (.iload_n 2) 1 := by decide +kernel
theorem d53_49 : dc prog_1_method_44_code 49 (.iconst 2) 1 := by decide +kernel
theorem d53_50 : dc prog_1_method_44_code 50 (.if_icmp .ne 14) 3 := by decide +kernel
theorem d53_53 : dc prog_1_method_44_code 53 (.aload_n 0) 1 := by decide +kernel
theorem d53_54 : dc prog_1_method_44_code 54 (.aload_n 0) 1 := by decide +kernel
theorem d53_55 : dc prog_1_method_44_code 55 (.getfield 51) 3 := by decide +kernel
theorem d53_58 : dc prog_1_method_44_code 58 (.iload_n 1) 1 := by decide +kernel
theorem d53_59 : dc prog_1_method_44_code 59 (.baload) 1 := by decide +kernel
theorem d53_60 : dc prog_1_method_44_code 60 (.invokevirtual 244) 3 := by decide +kernel
theorem d53_63 : dc prog_1_method_44_code 63 (.ireturn) 1 := by decide +kernel
theorem d53_64 : dc prog_1_method_44_code 64 (.iload_n 2) 1 := by decide +kernel
theorem d53_65 : dc prog_1_method_44_code 65 (.iconst 3) 1 := by decide +kernel
theorem d53_66 : dc prog_1_method_44_code 66 (.if_icmp .ne 10) 3 := by decide +kernel
theorem d53_69 : dc prog_1_method_44_code 69 (.aload_n 0) 1 := by decide +kernel
theorem d53_70 : dc prog_1_method_44_code 70 (.getfield 54) 3 := by decide +kernel
theorem d53_73 : dc prog_1_method_44_code 73 (.iload_n 1) 1 := by decide +kernel
theorem d53_74 : dc prog_1_method_44_code 74 (.iaload) 1 := by decide +kernel
theorem d53_75 : dc prog_1_method_44_code 75 (.ireturn) 1 := by decide +kernel
theorem d53_76 : dc prog_1_method_44_code 76 (.iload_n 2) 1 := by decide +kernel
theorem d53_77 : dc prog_1_method_44_code 77 (.iconst 4) 1 := by decide +kernel
theorem d53_78 : dc prog_1_method_44_code 78 (.if_icmp .eq 8) 3 := by decide +kernel
theorem d53_81 : dc prog_1_method_44_code 81 (.iload_n 2) 1 := by decide +kernel
theorem d53_82 : dc prog_1_method_44_code 82 (.iconst 5) 1 := by decide +kernel
theorem d53_83 : dc prog_1_method_44_code 83 (.if_icmp .ne 11) 3 := by decide +kernel
theorem d53_86 : dc prog_1_method_44_code 86 (.aload_n 0) 1 := by decide +kernel
theorem d53_87 : dc prog_1_method_44_code 87 (.iload_n 1) 1 := by decide +kernel
theorem d53_88 : dc prog_1_method_44_code 88 (.iload_n 2) 1 := by decide +kernel
theorem d53_89 : dc prog_1_method_44_code 89 (.iload_n 3) 1 := by decide +kernel
theorem d53_90 : dc prog_1_method_44_code 90 (.invokevirtual 251) 3 := by decide +kernel
theorem d53_94 : dc prog_1_method_44_code 94 (.iconst (-1)) 1 := by decide +kernel
theorem d53_95 : dc prog_1_method_44_code 95 (.ireturn) 1 := by decide +kernel
abbrev y53 : MethodName := ⟨"GeneralLedger", "slotInfo", "(III)I"⟩
theorem hy53 : y53.cls ≠ "java/lang/invoke/MethodHandle" ∧ y53.cls ≠ "java/lang/invoke/VarHandle" := by decide
theorem pd53 : parseMethodDescriptor y53.desc = some ⟨[.int, .int, .int], some .int⟩ := by decide +kernel
abbrev R53 : Room := { frames := 1, cells := 0, slots := 0, locals := 13 }
abbrev P53 (s : St) (r : Int32) : Option Value → List OwnC → Prop := fun v H' => v = some (.int r) ∧ H' = (Hb 0 s)
abbrev W53 (l : Launch) (Z : State) (n0 : Nat) (Q : Option Value → List OwnC → Prop) (k n pc : Nat) (L : List Slot) (S : List Value) (H : List OwnC) : Prop := WP l Z CN lay "GeneralLedger" "slotInfo" prog_1_method_44_code 4 (some FieldType.int) R53 n0 0 Q k n pc L S H
def f_slotInfo_86 (v1 : Int32) (v2 : Int32) (v3 : Int32) (s : St) : Option (Int32) :=
  none
set_option maxRecDepth 65536 in
set_option maxHeartbeats 4000000 in
theorem ok53_86 (l : Launch) (Z : State) (a0 : Array Value) (hw : HW a0 Z) (n0 : Nat) (v1 : Int32) (v2 : Int32) (v3 : Int32) (s : St) (r : Int32) (h : f_slotInfo_86 v1 v2 v3 s = some r) : W53 l Z n0 (P53 s r) 0 0 86 [.val (.ref 0), .val (.int v1), .val (.int v2), .val (.int v3)] [] (Hb 0 s) := by
  unfold f_slotInfo_86 at h
  refine WP.aloadN d53_86 rfl ?_
  refine WP.iloadN d53_87 rfl ?_
  refine WP.iloadN d53_88 rfl ?_
  refine WP.iloadN d53_89 rfl ?_
  cases h
def f_slotInfo (p1 : Int32) (p2 : Int32) (p3 : Int32) (s : St) : Option (Int32) :=
  (f_isSlot p1 s).bind fun c1 =>
  if c1 = 0 then
    some (-1 : Int32)
  else
    if p2 = 0 then
      (rd (gA s 8) p1).bind fun x4 =>
      (f_boolToInt x4 s).bind fun c5 =>
      some c5
    else
      (rd (gA s 8) p1).bind fun x6 =>
      if x6 = 0 then
        some (-1 : Int32)
      else
        if p2 = (1 : Int32) then
          (rd (gA s 9) p1).bind fun x9 =>
          some x9
        else
          if p2 = (2 : Int32) then
            (rd (gA s 10) p1).bind fun x11 =>
            (f_boolToInt x11 s).bind fun c12 =>
            some c12
          else
            if p2 = (3 : Int32) then
              (rd (gA s 11) p1).bind fun x14 =>
              some x14
            else
              if p2 = (4 : Int32) then
                f_slotInfo_86 p1 p2 p3 s
              else
                if p2 = (5 : Int32) then
                  f_slotInfo_86 p1 p2 p3 s
                else
                  some (-1 : Int32)
set_option maxRecDepth 65536 in
set_option maxHeartbeats 4000000 in
theorem ok53 (l : Launch) (Z : State) (a0 : Array Value) (hw : HW a0 Z) (p1 : Int32) (p2 : Int32) (p3 : Int32) (s : St) (r : Int32) (h : f_slotInfo p1 p2 p3 s = some r) : CS l Z CN lay y53 prog_1_method_44_code 4 (some FieldType.int) R53 0 [.ref 0, .int p1, .int p2, .int p3] (Hb 0 s) (P53 s r) := by
  refine CS.of_wp pn_cls (leb rfl) fun n0 => ?_
  show W53 l Z n0 (P53 s r) 0 0 0 [.val (.ref 0), .val (.int p1), .val (.int p2), .val (.int p3)] [] (Hb 0 s)
  unfold f_slotInfo at h
  refine WP.aloadN d53_0 rfl ?_
  refine WP.iloadN d53_1 rfl ?_
  obtain ⟨c1, hc1, h⟩ := Option.bind_eq_some_iff.mp h
  refine WP.callP (i := 0) (y := y22) (as := [.int p1]) (S := []) d53_2 (hw _ m_153) (hw _ m_155) (hw _ m_3) (hw _ m_154) (hw _ m_156) (hw _ m_4) hy22 rfl (ok22 l Z a0 hw p1 s _ hc1) rfl (lenOf pd22 rfl) (leb rfl) (leb rfl) (leb rfl) (leb rfl) ?_
  rintro _ _ ⟨rfl, rfl⟩
  show W53 l Z n0 (P53 s r) 0 0 5 [.val (.ref 0), .val (.int p1), .val (.int p2), .val (.int p3)] [.int c1] (Hb 0 s)
  rcases ite_e h with ⟨hc2, h⟩ | ⟨hc2, h⟩
  ·
    refine WP.ifN d53_5 (XT.i0_ne_f hc2) ?_
    refine WP.iconst (-1 : Int32) d53_8 rfl ?_
    cases h
    exact WP.ireturn d53_9 rfl (leb rfl) (leb rfl) ⟨rfl, rfl⟩
  ·
    refine WP.ifY (pc' := 10) d53_5 (XT.i0_ne_t hc2) (by decide) rfl ?_
    refine WP.iloadN d53_10 rfl ?_
    rcases ite_e h with ⟨hc3, h⟩ | ⟨hc3, h⟩
    ·
      refine WP.ifN d53_11 (XT.i0_ne_f hc3) ?_
      refine WP.aloadN d53_14 rfl ?_
      refine WP.aloadN d53_15 rfl ?_
      refine WP.getfield (i := 0) (j := 13) d53_16 (hw _ m_36) rfl rfl rfl ?_
      refine WP.iloadN d53_19 rfl ?_
      obtain ⟨x4, hx4, h⟩ := Option.bind_eq_some_iff.mp h
      refine WP.baload (i := 12) d53_20 rfl hx4 ?_
      obtain ⟨c5, hc5, h⟩ := Option.bind_eq_some_iff.mp h
      refine WP.callP (i := 0) (y := y52) (as := [.int x4]) (S := []) d53_21 (hw _ m_286) (hw _ m_288) (hw _ m_3) (hw _ m_287) (hw _ m_289) (hw _ m_4) hy52 rfl (ok52 l Z a0 hw x4 s _ hc5) rfl (lenOf pd52 rfl) (leb rfl) (leb rfl) (leb rfl) (leb rfl) ?_
      rintro _ _ ⟨rfl, rfl⟩
      show W53 l Z n0 (P53 s r) 0 0 24 [.val (.ref 0), .val (.int p1), .val (.int p2), .val (.int p3)] [.int c5] (Hb 0 s)
      cases h
      exact WP.ireturn d53_24 rfl (leb rfl) (leb rfl) ⟨rfl, rfl⟩
    ·
      refine WP.ifY (pc' := 25) d53_11 (XT.i0_ne_t hc3) (by decide) rfl ?_
      refine WP.aloadN d53_25 rfl ?_
      refine WP.getfield (i := 0) (j := 13) d53_26 (hw _ m_36) rfl rfl rfl ?_
      refine WP.iloadN d53_29 rfl ?_
      obtain ⟨x6, hx6, h⟩ := Option.bind_eq_some_iff.mp h
      refine WP.baload (i := 12) d53_30 rfl hx6 ?_
      rcases ite_e h with ⟨hc7, h⟩ | ⟨hc7, h⟩
      ·
        refine WP.ifN d53_31 (XT.i0_ne_f hc7) ?_
        refine WP.iconst (-1 : Int32) d53_34 rfl ?_
        cases h
        exact WP.ireturn d53_35 rfl (leb rfl) (leb rfl) ⟨rfl, rfl⟩
      ·
        refine WP.ifY (pc' := 36) d53_31 (XT.i0_ne_t hc7) (by decide) rfl ?_
        refine WP.iloadN d53_36 rfl ?_
        refine WP.iconst (1 : Int32) d53_37 rfl ?_
        rcases ite_e h with ⟨hc8, h⟩ | ⟨hc8, h⟩
        ·
          refine WP.icmpN d53_38 (XT.ii_ne_f hc8) ?_
          refine WP.aloadN d53_41 rfl ?_
          refine WP.getfield (i := 0) (j := 14) d53_42 (hw _ m_38) rfl rfl rfl ?_
          refine WP.iloadN d53_45 rfl ?_
          obtain ⟨x9, hx9, h⟩ := Option.bind_eq_some_iff.mp h
          refine WP.iaload (i := 13) d53_46 rfl hx9 ?_
          cases h
          exact WP.ireturn d53_47 rfl (leb rfl) (leb rfl) ⟨rfl, rfl⟩
        ·
          refine WP.icmpY (pc' := 48) d53_38 (XT.ii_ne_t hc8) (by decide) rfl ?_
          refine WP.iloadN d53_48 rfl ?_
          refine WP.iconst (2 : Int32) d53_49 rfl ?_
          rcases ite_e h with ⟨hc10, h⟩ | ⟨hc10, h⟩
          ·
            refine WP.icmpN d53_50 (XT.ii_ne_f hc10) ?_
            refine WP.aloadN d53_53 rfl ?_
            refine WP.aloadN d53_54 rfl ?_
            refine WP.getfield (i := 0) (j := 15) d53_55 (hw _ m_40) rfl rfl rfl ?_
            refine WP.iloadN d53_58 rfl ?_
            obtain ⟨x11, hx11, h⟩ := Option.bind_eq_some_iff.mp h
            refine WP.baload (i := 14) d53_59 rfl hx11 ?_
            obtain ⟨c12, hc12, h⟩ := Option.bind_eq_some_iff.mp h
            refine WP.callP (i := 0) (y := y52) (as := [.int x11]) (S := []) d53_60 (hw _ m_286) (hw _ m_288) (hw _ m_3) (hw _ m_287) (hw _ m_289) (hw _ m_4) hy52 rfl (ok52 l Z a0 hw x11 s _ hc12) rfl (lenOf pd52 rfl) (leb rfl) (leb rfl) (leb rfl) (leb rfl) ?_
            rintro _ _ ⟨rfl, rfl⟩
            show W53 l Z n0 (P53 s r) 0 0 63 [.val (.ref 0), .val (.int p1), .val (.int p2), .val (.int p3)] [.int c12] (Hb 0 s)
            cases h
            exact WP.ireturn d53_63 rfl (leb rfl) (leb rfl) ⟨rfl, rfl⟩
          ·
            refine WP.icmpY (pc' := 64) d53_50 (XT.ii_ne_t hc10) (by decide) rfl ?_
            refine WP.iloadN d53_64 rfl ?_
            refine WP.iconst (3 : Int32) d53_65 rfl ?_
            rcases ite_e h with ⟨hc13, h⟩ | ⟨hc13, h⟩
            ·
              refine WP.icmpN d53_66 (XT.ii_ne_f hc13) ?_
              refine WP.aloadN d53_69 rfl ?_
              refine WP.getfield (i := 0) (j := 16) d53_70 (hw _ m_42) rfl rfl rfl ?_
              refine WP.iloadN d53_73 rfl ?_
              obtain ⟨x14, hx14, h⟩ := Option.bind_eq_some_iff.mp h
              refine WP.iaload (i := 15) d53_74 rfl hx14 ?_
              cases h
              exact WP.ireturn d53_75 rfl (leb rfl) (leb rfl) ⟨rfl, rfl⟩
            ·
              refine WP.icmpY (pc' := 76) d53_66 (XT.ii_ne_t hc13) (by decide) rfl ?_
              refine WP.iloadN d53_76 rfl ?_
              refine WP.iconst (4 : Int32) d53_77 rfl ?_
              rcases ite_e h with ⟨hc15, h⟩ | ⟨hc15, h⟩
              ·
                refine WP.icmpY (pc' := 86) d53_78 (XT.ii_eq_t hc15) (by decide) rfl ?_
                exact WP.weak (L' := [.val (.ref 0), .val (.int p1), .val (.int p2), .val (.int p3)]) ⟨rfl, rfl, rfl, rfl, trivial⟩ (ok53_86 l Z a0 hw n0 p1 p2 p3 s _ h)
              ·
                refine WP.icmpN d53_78 (XT.ii_eq_f hc15) ?_
                refine WP.iloadN d53_81 rfl ?_
                refine WP.iconst (5 : Int32) d53_82 rfl ?_
                rcases ite_e h with ⟨hc16, h⟩ | ⟨hc16, h⟩
                ·
                  refine WP.icmpN d53_83 (XT.ii_ne_f hc16) ?_
                  exact WP.weak (L' := [.val (.ref 0), .val (.int p1), .val (.int p2), .val (.int p3)]) ⟨rfl, rfl, rfl, rfl, trivial⟩ (ok53_86 l Z a0 hw n0 p1 p2 p3 s _ h)
                ·
                  refine WP.icmpY (pc' := 94) d53_83 (XT.ii_ne_t hc16) (by decide) rfl ?_
                  refine WP.iconst (-1 : Int32) d53_94 rfl ?_
                  cases h
                  exact WP.ireturn d53_95 rfl (leb rfl) (leb rfl) ⟨rfl, rfl⟩
def fr0_f : List Nat := []
theorem fr0_c (x0 : St) : fr0_f.map (fun i => (Hb 0 x0)[i]?) = ([] : List OwnC).map (fun c => some (rnC (ro1 fr0_f (Hb 0 x0).length) c)) := rfl
theorem fr0_l (x0 : St) : ∀ x ∈ fr0_f, x < (Hb 0 x0).length := by show ∀ x ∈ fr0_f, x < 18; decide
theorem fr0_p (x0 : St) : patch (ro1 fr0_f (Hb 0 x0).length) fr0_f ([] : List OwnC) (Hb 0 x0) = (Hb 0 x0) := rfl
abbrev PLAW (r : Int32) : Option Value → List OwnC → Prop := fun v _ => v = some (.int r)
abbrev WLAW (l : Launch) (Z : State) (n0 : Nat) (Q : Option Value → List OwnC → Prop) (k n pc : Nat) (L : List Slot) (S : List Value) (H : List OwnC) : Prop := WP l Z CN lay "GeneralLedgerL3" "law" code maxLocals ret room_1 n0 0 Q k n pc L S H
def f_law_511 (n : Nat) (t0 : Int32) (s0 : St) : Option (Int32) :=
  some (t0 &&& 1)
set_option maxRecDepth 65536 in
set_option maxHeartbeats 4000000 in
theorem okLAW_511 (l : Launch) (Z : State) (a0 : Array Value) (hw : HW a0 Z) (n0 : Nat) (n : Nat) (t0 : Int32) (s0 : St) (r : Int32) (h : f_law_511 n t0 s0 = some r) : WLAW l Z n0 (PLAW r) 18 1169 511 [.unset, .unset, .unset, .unset, .unset, .unset, .unset, .unset, .unset, .unset, .unset, .unset, .unset, .unset, .unset, .unset, .unset, .unset, .unset, .unset, .unset] [.int t0] (Hb 0 s0) := by
  unfold f_law_511 at h
  cases h
  exact WP.zreturn at_511 rfl (leb rfl) (leb rfl) rfl
def f_law_510 (n : Nat) (s0 : St) : Option (Int32) :=
  f_law_511 n (0 : Int32) s0
set_option maxRecDepth 65536 in
set_option maxHeartbeats 4000000 in
theorem okLAW_510 (l : Launch) (Z : State) (a0 : Array Value) (hw : HW a0 Z) (n0 : Nat) (n : Nat) (s0 : St) (r : Int32) (h : f_law_510 n s0 = some r) : WLAW l Z n0 (PLAW r) 18 1169 510 [.unset, .unset, .unset, .unset, .unset, .unset, .unset, .unset, .unset, .unset, .unset, .unset, .unset, .unset, .unset, .unset, .unset, .unset, .unset, .unset, .unset] [] (Hb 0 s0) := by
  unfold f_law_510 at h
  refine WP.iconst (0 : Int32) at_510 rfl ?_
  exact WP.weak (L' := [.unset, .unset, .unset, .unset, .unset, .unset, .unset, .unset, .unset, .unset, .unset, .unset, .unset, .unset, .unset, .unset, .unset, .unset, .unset, .unset, .unset]) trivial (okLAW_511 l Z a0 hw n0 n (0 : Int32) s0 _ h)
def f_law_291 (n : Nat) (v4 : Int32) (v5 : Int32) (v6 : Int32) (v8 : Int32) (v10 : Int64) (v12 : Int64) (v14 : Int64) (v16 : Int64) (v18 : Int64) (t0 : Int32) (s0 : St) : Option (Int32) :=
  (f_balance n (1 : Int32) v8 (0 : Int32) s0).bind fun c1 =>
  if c1 = v10 then
    (f_balance n (2 : Int32) v8 (0 : Int32) s0).bind fun c3 =>
    if c3 = v12 then
      (f_balance n (3 : Int32) v8 (0 : Int32) s0).bind fun c5 =>
      if c5 = v14 then
        (f_balance n (0 : Int32) v8 (0 : Int32) s0).bind fun c7 =>
        if c7 = (-v16) then
          (f_balance n (1 : Int32) v8 (1 : Int32) s0).bind fun c9 =>
          if c9 = v4.toInt64 then
            (f_balance n (2 : Int32) v8 (1 : Int32) s0).bind fun c11 =>
            if c11 = v5.toInt64 then
              (f_balance n (3 : Int32) v8 (1 : Int32) s0).bind fun c13 =>
              if c13 = v6.toInt64 then
                (f_balance n (0 : Int32) v8 (1 : Int32) s0).bind fun c15 =>
                if c15 = (-v16) then
                  (f_trialBalance n v8 (-1 : Int32) s0).bind fun c17 =>
                  if c17 = (0 : Int64) then
                    (f_trialBalance n v8 (1 : Int32) s0).bind fun c19 =>
                    if c19 = (0 : Int64) then
                      (f_ledgerInfo (2 : Int32) (0 : Int32) s0).bind fun c21 =>
                      if c21 = (1 : Int64) then
                        (f_ledgerInfo (3 : Int32) (0 : Int32) s0).bind fun c23 =>
                        if c23 = v18 then
                          (f_ledgerInfo (4 : Int32) (0 : Int32) s0).bind fun c25 =>
                          if c25 = (-v16) then
                            (f_accountInfo (0 : Int32) (5 : Int32) s0).bind fun c27 =>
                            if c27 = t0 then
                              (f_slotInfo (0 : Int32) (0 : Int32) (0 : Int32) s0).bind fun c29 =>
                              if c29 = 0 then
                                f_law_511 n (1 : Int32) s0
                              else
                                f_law_510 n s0
                            else
                              f_law_510 n s0
                          else
                            f_law_510 n s0
                        else
                          f_law_510 n s0
                      else
                        f_law_510 n s0
                    else
                      f_law_510 n s0
                  else
                    f_law_510 n s0
                else
                  f_law_510 n s0
              else
                f_law_510 n s0
            else
              f_law_510 n s0
          else
            f_law_510 n s0
        else
          f_law_510 n s0
      else
        f_law_510 n s0
    else
      f_law_510 n s0
  else
    f_law_510 n s0
set_option maxRecDepth 65536 in
set_option maxHeartbeats 4000000 in
theorem okLAW_291 (l : Launch) (Z : State) (a0 : Array Value) (hw : HW a0 Z) (n0 : Nat) (n : Nat) (v4 : Int32) (v5 : Int32) (v6 : Int32) (v8 : Int32) (v10 : Int64) (v12 : Int64) (v14 : Int64) (v16 : Int64) (v18 : Int64) (t0 : Int32) (s0 : St) (r : Int32) (h : f_law_291 n v4 v5 v6 v8 v10 v12 v14 v16 v18 t0 s0 = some r) : WLAW l Z n0 (PLAW r) 18 1169 291 [.unset, .unset, .unset, .unset, .val (.int v4), .val (.int v5), .val (.int v6), .unset, .val (.int v8), .val (.ref 0), .val (.long v10), .second, .val (.long v12), .second, .val (.long v14), .second, .val (.long v16), .second, .val (.long v18), .second, .unset] [.int t0] (Hb 0 s0) := by
  unfold f_law_291 at h
  refine WP.istore (L' := [.unset, .unset, .unset, .unset, .val (.int v4), .val (.int v5), .val (.int v6), .unset, .val (.int v8), .val (.ref 0), .val (.long v10), .second, .val (.long v12), .second, .val (.long v14), .second, .val (.long v16), .second, .val (.long v18), .second, .val (.int t0)]) at_291 (leb rfl) rfl ?_
  refine WP.aload at_293 rfl ?_
  refine WP.iconst (1 : Int32) at_295 rfl ?_
  refine WP.iload at_296 rfl ?_
  refine WP.iconst (0 : Int32) at_298 rfl ?_
  obtain ⟨c1, hc1, h⟩ := Option.bind_eq_some_iff.mp h
  refine WP.callV (i := 0) (y := y43) (as := [.int (1 : Int32), .int v8, .int (0 : Int32)]) (S := []) at_299 (hw _ m_246) (hw _ m_247) (hw _ m_249) (hw _ m_248) (hw _ m_250) (hw _ m_4) hy43 rfl (ok43 l Z a0 hw n (1 : Int32) v8 (0 : Int32) s0 _ hc1) rfl (lenOf pd43 rfl) (leb rfl) (leb rfl) (leb rfl) (leb rfl) ?_
  rintro _ _ ⟨rfl, rfl⟩
  show WLAW l Z n0 (PLAW r) 18 1169 302 [.unset, .unset, .unset, .unset, .val (.int v4), .val (.int v5), .val (.int v6), .unset, .val (.int v8), .val (.ref 0), .val (.long v10), .second, .val (.long v12), .second, .val (.long v14), .second, .val (.long v16), .second, .val (.long v18), .second, .val (.int t0)] [.long c1] (Hb 0 s0)
  refine WP.lload at_302 rfl ?_
  refine WP.lcmp at_304 ?_
  rcases ite_e h with ⟨hc2, h⟩ | ⟨hc2, h⟩
  ·
    refine WP.ifN at_305 (XT.ll_ne_f hc2) ?_
    refine WP.aload at_308 rfl ?_
    refine WP.iconst (2 : Int32) at_310 rfl ?_
    refine WP.iload at_311 rfl ?_
    refine WP.iconst (0 : Int32) at_313 rfl ?_
    obtain ⟨c3, hc3, h⟩ := Option.bind_eq_some_iff.mp h
    refine WP.callV (i := 0) (y := y43) (as := [.int (2 : Int32), .int v8, .int (0 : Int32)]) (S := []) at_314 (hw _ m_246) (hw _ m_247) (hw _ m_249) (hw _ m_248) (hw _ m_250) (hw _ m_4) hy43 rfl (ok43 l Z a0 hw n (2 : Int32) v8 (0 : Int32) s0 _ hc3) rfl (lenOf pd43 rfl) (leb rfl) (leb rfl) (leb rfl) (leb rfl) ?_
    rintro _ _ ⟨rfl, rfl⟩
    show WLAW l Z n0 (PLAW r) 18 1169 317 [.unset, .unset, .unset, .unset, .val (.int v4), .val (.int v5), .val (.int v6), .unset, .val (.int v8), .val (.ref 0), .val (.long v10), .second, .val (.long v12), .second, .val (.long v14), .second, .val (.long v16), .second, .val (.long v18), .second, .val (.int t0)] [.long c3] (Hb 0 s0)
    refine WP.lload at_317 rfl ?_
    refine WP.lcmp at_319 ?_
    rcases ite_e h with ⟨hc4, h⟩ | ⟨hc4, h⟩
    ·
      refine WP.ifN at_320 (XT.ll_ne_f hc4) ?_
      refine WP.aload at_323 rfl ?_
      refine WP.iconst (3 : Int32) at_325 rfl ?_
      refine WP.iload at_326 rfl ?_
      refine WP.iconst (0 : Int32) at_328 rfl ?_
      obtain ⟨c5, hc5, h⟩ := Option.bind_eq_some_iff.mp h
      refine WP.callV (i := 0) (y := y43) (as := [.int (3 : Int32), .int v8, .int (0 : Int32)]) (S := []) at_329 (hw _ m_246) (hw _ m_247) (hw _ m_249) (hw _ m_248) (hw _ m_250) (hw _ m_4) hy43 rfl (ok43 l Z a0 hw n (3 : Int32) v8 (0 : Int32) s0 _ hc5) rfl (lenOf pd43 rfl) (leb rfl) (leb rfl) (leb rfl) (leb rfl) ?_
      rintro _ _ ⟨rfl, rfl⟩
      show WLAW l Z n0 (PLAW r) 18 1169 332 [.unset, .unset, .unset, .unset, .val (.int v4), .val (.int v5), .val (.int v6), .unset, .val (.int v8), .val (.ref 0), .val (.long v10), .second, .val (.long v12), .second, .val (.long v14), .second, .val (.long v16), .second, .val (.long v18), .second, .val (.int t0)] [.long c5] (Hb 0 s0)
      refine WP.lload at_332 rfl ?_
      refine WP.lcmp at_334 ?_
      rcases ite_e h with ⟨hc6, h⟩ | ⟨hc6, h⟩
      ·
        refine WP.ifN at_335 (XT.ll_ne_f hc6) ?_
        refine WP.aload at_338 rfl ?_
        refine WP.iconst (0 : Int32) at_340 rfl ?_
        refine WP.iload at_341 rfl ?_
        refine WP.iconst (0 : Int32) at_343 rfl ?_
        obtain ⟨c7, hc7, h⟩ := Option.bind_eq_some_iff.mp h
        refine WP.callV (i := 0) (y := y43) (as := [.int (0 : Int32), .int v8, .int (0 : Int32)]) (S := []) at_344 (hw _ m_246) (hw _ m_247) (hw _ m_249) (hw _ m_248) (hw _ m_250) (hw _ m_4) hy43 rfl (ok43 l Z a0 hw n (0 : Int32) v8 (0 : Int32) s0 _ hc7) rfl (lenOf pd43 rfl) (leb rfl) (leb rfl) (leb rfl) (leb rfl) ?_
        rintro _ _ ⟨rfl, rfl⟩
        show WLAW l Z n0 (PLAW r) 18 1169 347 [.unset, .unset, .unset, .unset, .val (.int v4), .val (.int v5), .val (.int v6), .unset, .val (.int v8), .val (.ref 0), .val (.long v10), .second, .val (.long v12), .second, .val (.long v14), .second, .val (.long v16), .second, .val (.long v18), .second, .val (.int t0)] [.long c7] (Hb 0 s0)
        refine WP.lload at_347 rfl ?_
        refine WP.lneg at_349 ?_
        refine WP.lcmp at_350 ?_
        rcases ite_e h with ⟨hc8, h⟩ | ⟨hc8, h⟩
        ·
          refine WP.ifN at_351 (XT.ll_ne_f hc8) ?_
          refine WP.aload at_354 rfl ?_
          refine WP.iconst (1 : Int32) at_356 rfl ?_
          refine WP.iload at_357 rfl ?_
          refine WP.iconst (1 : Int32) at_359 rfl ?_
          obtain ⟨c9, hc9, h⟩ := Option.bind_eq_some_iff.mp h
          refine WP.callV (i := 0) (y := y43) (as := [.int (1 : Int32), .int v8, .int (1 : Int32)]) (S := []) at_360 (hw _ m_246) (hw _ m_247) (hw _ m_249) (hw _ m_248) (hw _ m_250) (hw _ m_4) hy43 rfl (ok43 l Z a0 hw n (1 : Int32) v8 (1 : Int32) s0 _ hc9) rfl (lenOf pd43 rfl) (leb rfl) (leb rfl) (leb rfl) (leb rfl) ?_
          rintro _ _ ⟨rfl, rfl⟩
          show WLAW l Z n0 (PLAW r) 18 1169 363 [.unset, .unset, .unset, .unset, .val (.int v4), .val (.int v5), .val (.int v6), .unset, .val (.int v8), .val (.ref 0), .val (.long v10), .second, .val (.long v12), .second, .val (.long v14), .second, .val (.long v16), .second, .val (.long v18), .second, .val (.int t0)] [.long c9] (Hb 0 s0)
          refine WP.iload at_363 rfl ?_
          refine WP.i2l at_365 ?_
          refine WP.lcmp at_366 ?_
          rcases ite_e h with ⟨hc10, h⟩ | ⟨hc10, h⟩
          ·
            refine WP.ifN at_367 (XT.ll_ne_f hc10) ?_
            refine WP.aload at_370 rfl ?_
            refine WP.iconst (2 : Int32) at_372 rfl ?_
            refine WP.iload at_373 rfl ?_
            refine WP.iconst (1 : Int32) at_375 rfl ?_
            obtain ⟨c11, hc11, h⟩ := Option.bind_eq_some_iff.mp h
            refine WP.callV (i := 0) (y := y43) (as := [.int (2 : Int32), .int v8, .int (1 : Int32)]) (S := []) at_376 (hw _ m_246) (hw _ m_247) (hw _ m_249) (hw _ m_248) (hw _ m_250) (hw _ m_4) hy43 rfl (ok43 l Z a0 hw n (2 : Int32) v8 (1 : Int32) s0 _ hc11) rfl (lenOf pd43 rfl) (leb rfl) (leb rfl) (leb rfl) (leb rfl) ?_
            rintro _ _ ⟨rfl, rfl⟩
            show WLAW l Z n0 (PLAW r) 18 1169 379 [.unset, .unset, .unset, .unset, .val (.int v4), .val (.int v5), .val (.int v6), .unset, .val (.int v8), .val (.ref 0), .val (.long v10), .second, .val (.long v12), .second, .val (.long v14), .second, .val (.long v16), .second, .val (.long v18), .second, .val (.int t0)] [.long c11] (Hb 0 s0)
            refine WP.iload at_379 rfl ?_
            refine WP.i2l at_381 ?_
            refine WP.lcmp at_382 ?_
            rcases ite_e h with ⟨hc12, h⟩ | ⟨hc12, h⟩
            ·
              refine WP.ifN at_383 (XT.ll_ne_f hc12) ?_
              refine WP.aload at_386 rfl ?_
              refine WP.iconst (3 : Int32) at_388 rfl ?_
              refine WP.iload at_389 rfl ?_
              refine WP.iconst (1 : Int32) at_391 rfl ?_
              obtain ⟨c13, hc13, h⟩ := Option.bind_eq_some_iff.mp h
              refine WP.callV (i := 0) (y := y43) (as := [.int (3 : Int32), .int v8, .int (1 : Int32)]) (S := []) at_392 (hw _ m_246) (hw _ m_247) (hw _ m_249) (hw _ m_248) (hw _ m_250) (hw _ m_4) hy43 rfl (ok43 l Z a0 hw n (3 : Int32) v8 (1 : Int32) s0 _ hc13) rfl (lenOf pd43 rfl) (leb rfl) (leb rfl) (leb rfl) (leb rfl) ?_
              rintro _ _ ⟨rfl, rfl⟩
              show WLAW l Z n0 (PLAW r) 18 1169 395 [.unset, .unset, .unset, .unset, .val (.int v4), .val (.int v5), .val (.int v6), .unset, .val (.int v8), .val (.ref 0), .val (.long v10), .second, .val (.long v12), .second, .val (.long v14), .second, .val (.long v16), .second, .val (.long v18), .second, .val (.int t0)] [.long c13] (Hb 0 s0)
              refine WP.iload at_395 rfl ?_
              refine WP.i2l at_397 ?_
              refine WP.lcmp at_398 ?_
              rcases ite_e h with ⟨hc14, h⟩ | ⟨hc14, h⟩
              ·
                refine WP.ifN at_399 (XT.ll_ne_f hc14) ?_
                refine WP.aload at_402 rfl ?_
                refine WP.iconst (0 : Int32) at_404 rfl ?_
                refine WP.iload at_405 rfl ?_
                refine WP.iconst (1 : Int32) at_407 rfl ?_
                obtain ⟨c15, hc15, h⟩ := Option.bind_eq_some_iff.mp h
                refine WP.callV (i := 0) (y := y43) (as := [.int (0 : Int32), .int v8, .int (1 : Int32)]) (S := []) at_408 (hw _ m_246) (hw _ m_247) (hw _ m_249) (hw _ m_248) (hw _ m_250) (hw _ m_4) hy43 rfl (ok43 l Z a0 hw n (0 : Int32) v8 (1 : Int32) s0 _ hc15) rfl (lenOf pd43 rfl) (leb rfl) (leb rfl) (leb rfl) (leb rfl) ?_
                rintro _ _ ⟨rfl, rfl⟩
                show WLAW l Z n0 (PLAW r) 18 1169 411 [.unset, .unset, .unset, .unset, .val (.int v4), .val (.int v5), .val (.int v6), .unset, .val (.int v8), .val (.ref 0), .val (.long v10), .second, .val (.long v12), .second, .val (.long v14), .second, .val (.long v16), .second, .val (.long v18), .second, .val (.int t0)] [.long c15] (Hb 0 s0)
                refine WP.lload at_411 rfl ?_
                refine WP.lneg at_413 ?_
                refine WP.lcmp at_414 ?_
                rcases ite_e h with ⟨hc16, h⟩ | ⟨hc16, h⟩
                ·
                  refine WP.ifN at_415 (XT.ll_ne_f hc16) ?_
                  refine WP.aload at_418 rfl ?_
                  refine WP.iload at_420 rfl ?_
                  refine WP.iconst (-1 : Int32) at_422 rfl ?_
                  obtain ⟨c17, hc17, h⟩ := Option.bind_eq_some_iff.mp h
                  refine WP.callV (i := 0) (y := y46) (as := [.int v8, .int (-1 : Int32)]) (S := []) at_423 (hw _ m_259) (hw _ m_260) (hw _ m_262) (hw _ m_261) (hw _ m_263) (hw _ m_4) hy46 rfl (ok46 l Z a0 hw n v8 (-1 : Int32) s0 _ hc17) rfl (lenOf pd46 rfl) (leb rfl) (leb rfl) (leb rfl) (leb rfl) ?_
                  rintro _ _ ⟨rfl, rfl⟩
                  show WLAW l Z n0 (PLAW r) 18 1169 426 [.unset, .unset, .unset, .unset, .val (.int v4), .val (.int v5), .val (.int v6), .unset, .val (.int v8), .val (.ref 0), .val (.long v10), .second, .val (.long v12), .second, .val (.long v14), .second, .val (.long v16), .second, .val (.long v18), .second, .val (.int t0)] [.long c17] (Hb 0 s0)
                  refine WP.lconst (0 : Int64) at_426 rfl ?_
                  refine WP.lcmp at_427 ?_
                  rcases ite_e h with ⟨hc18, h⟩ | ⟨hc18, h⟩
                  ·
                    refine WP.ifN at_428 (XT.ll_ne_f hc18) ?_
                    refine WP.aload at_431 rfl ?_
                    refine WP.iload at_433 rfl ?_
                    refine WP.iconst (1 : Int32) at_435 rfl ?_
                    obtain ⟨c19, hc19, h⟩ := Option.bind_eq_some_iff.mp h
                    refine WP.callV (i := 0) (y := y46) (as := [.int v8, .int (1 : Int32)]) (S := []) at_436 (hw _ m_259) (hw _ m_260) (hw _ m_262) (hw _ m_261) (hw _ m_263) (hw _ m_4) hy46 rfl (ok46 l Z a0 hw n v8 (1 : Int32) s0 _ hc19) rfl (lenOf pd46 rfl) (leb rfl) (leb rfl) (leb rfl) (leb rfl) ?_
                    rintro _ _ ⟨rfl, rfl⟩
                    show WLAW l Z n0 (PLAW r) 18 1169 439 [.unset, .unset, .unset, .unset, .val (.int v4), .val (.int v5), .val (.int v6), .unset, .val (.int v8), .val (.ref 0), .val (.long v10), .second, .val (.long v12), .second, .val (.long v14), .second, .val (.long v16), .second, .val (.long v18), .second, .val (.int t0)] [.long c19] (Hb 0 s0)
                    refine WP.lconst (0 : Int64) at_439 rfl ?_
                    refine WP.lcmp at_440 ?_
                    rcases ite_e h with ⟨hc20, h⟩ | ⟨hc20, h⟩
                    ·
                      refine WP.ifN at_441 (XT.ll_ne_f hc20) ?_
                      refine WP.aload at_444 rfl ?_
                      refine WP.iconst (2 : Int32) at_446 rfl ?_
                      refine WP.iconst (0 : Int32) at_447 rfl ?_
                      obtain ⟨c21, hc21, h⟩ := Option.bind_eq_some_iff.mp h
                      refine WP.callV (i := 0) (y := y49) (as := [.int (2 : Int32), .int (0 : Int32)]) (S := []) at_448 (hw _ m_272) (hw _ m_273) (hw _ m_275) (hw _ m_274) (hw _ m_276) (hw _ m_4) hy49 rfl (ok49 l Z a0 hw (2 : Int32) (0 : Int32) s0 _ hc21) rfl (lenOf pd49 rfl) (leb rfl) (leb rfl) (leb rfl) (leb rfl) ?_
                      rintro _ _ ⟨rfl, rfl⟩
                      show WLAW l Z n0 (PLAW r) 18 1169 451 [.unset, .unset, .unset, .unset, .val (.int v4), .val (.int v5), .val (.int v6), .unset, .val (.int v8), .val (.ref 0), .val (.long v10), .second, .val (.long v12), .second, .val (.long v14), .second, .val (.long v16), .second, .val (.long v18), .second, .val (.int t0)] [.long c21] (Hb 0 s0)
                      refine WP.lconst (1 : Int64) at_451 rfl ?_
                      refine WP.lcmp at_452 ?_
                      rcases ite_e h with ⟨hc22, h⟩ | ⟨hc22, h⟩
                      ·
                        refine WP.ifN at_453 (XT.ll_ne_f hc22) ?_
                        refine WP.aload at_456 rfl ?_
                        refine WP.iconst (3 : Int32) at_458 rfl ?_
                        refine WP.iconst (0 : Int32) at_459 rfl ?_
                        obtain ⟨c23, hc23, h⟩ := Option.bind_eq_some_iff.mp h
                        refine WP.callV (i := 0) (y := y49) (as := [.int (3 : Int32), .int (0 : Int32)]) (S := []) at_460 (hw _ m_272) (hw _ m_273) (hw _ m_275) (hw _ m_274) (hw _ m_276) (hw _ m_4) hy49 rfl (ok49 l Z a0 hw (3 : Int32) (0 : Int32) s0 _ hc23) rfl (lenOf pd49 rfl) (leb rfl) (leb rfl) (leb rfl) (leb rfl) ?_
                        rintro _ _ ⟨rfl, rfl⟩
                        show WLAW l Z n0 (PLAW r) 18 1169 463 [.unset, .unset, .unset, .unset, .val (.int v4), .val (.int v5), .val (.int v6), .unset, .val (.int v8), .val (.ref 0), .val (.long v10), .second, .val (.long v12), .second, .val (.long v14), .second, .val (.long v16), .second, .val (.long v18), .second, .val (.int t0)] [.long c23] (Hb 0 s0)
                        refine WP.lload at_463 rfl ?_
                        refine WP.lcmp at_465 ?_
                        rcases ite_e h with ⟨hc24, h⟩ | ⟨hc24, h⟩
                        ·
                          refine WP.ifN at_466 (XT.ll_ne_f hc24) ?_
                          refine WP.aload at_469 rfl ?_
                          refine WP.iconst (4 : Int32) at_471 rfl ?_
                          refine WP.iconst (0 : Int32) at_472 rfl ?_
                          obtain ⟨c25, hc25, h⟩ := Option.bind_eq_some_iff.mp h
                          refine WP.callV (i := 0) (y := y49) (as := [.int (4 : Int32), .int (0 : Int32)]) (S := []) at_473 (hw _ m_272) (hw _ m_273) (hw _ m_275) (hw _ m_274) (hw _ m_276) (hw _ m_4) hy49 rfl (ok49 l Z a0 hw (4 : Int32) (0 : Int32) s0 _ hc25) rfl (lenOf pd49 rfl) (leb rfl) (leb rfl) (leb rfl) (leb rfl) ?_
                          rintro _ _ ⟨rfl, rfl⟩
                          show WLAW l Z n0 (PLAW r) 18 1169 476 [.unset, .unset, .unset, .unset, .val (.int v4), .val (.int v5), .val (.int v6), .unset, .val (.int v8), .val (.ref 0), .val (.long v10), .second, .val (.long v12), .second, .val (.long v14), .second, .val (.long v16), .second, .val (.long v18), .second, .val (.int t0)] [.long c25] (Hb 0 s0)
                          refine WP.lload at_476 rfl ?_
                          refine WP.lneg at_478 ?_
                          refine WP.lcmp at_479 ?_
                          rcases ite_e h with ⟨hc26, h⟩ | ⟨hc26, h⟩
                          ·
                            refine WP.ifN at_480 (XT.ll_ne_f hc26) ?_
                            refine WP.aload at_483 rfl ?_
                            refine WP.iconst (0 : Int32) at_485 rfl ?_
                            refine WP.iconst (5 : Int32) at_486 rfl ?_
                            obtain ⟨c27, hc27, h⟩ := Option.bind_eq_some_iff.mp h
                            refine WP.callV (i := 0) (y := y50) (as := [.int (0 : Int32), .int (5 : Int32)]) (S := []) at_487 (hw _ m_277) (hw _ m_278) (hw _ m_280) (hw _ m_279) (hw _ m_281) (hw _ m_4) hy50 rfl (ok50 l Z a0 hw (0 : Int32) (5 : Int32) s0 _ hc27) rfl (lenOf pd50 rfl) (leb rfl) (leb rfl) (leb rfl) (leb rfl) ?_
                            rintro _ _ ⟨rfl, rfl⟩
                            show WLAW l Z n0 (PLAW r) 18 1169 490 [.unset, .unset, .unset, .unset, .val (.int v4), .val (.int v5), .val (.int v6), .unset, .val (.int v8), .val (.ref 0), .val (.long v10), .second, .val (.long v12), .second, .val (.long v14), .second, .val (.long v16), .second, .val (.long v18), .second, .val (.int t0)] [.int c27] (Hb 0 s0)
                            refine WP.iload at_490 rfl ?_
                            rcases ite_e h with ⟨hc28, h⟩ | ⟨hc28, h⟩
                            ·
                              refine WP.icmpN at_492 (XT.ii_ne_f hc28) ?_
                              refine WP.aload at_495 rfl ?_
                              refine WP.iconst (0 : Int32) at_497 rfl ?_
                              refine WP.iconst (0 : Int32) at_498 rfl ?_
                              refine WP.iconst (0 : Int32) at_499 rfl ?_
                              obtain ⟨c29, hc29, h⟩ := Option.bind_eq_some_iff.mp h
                              refine WP.callV (i := 0) (y := y53) (as := [.int (0 : Int32), .int (0 : Int32), .int (0 : Int32)]) (S := []) at_500 (hw _ m_290) (hw _ m_291) (hw _ m_293) (hw _ m_292) (hw _ m_294) (hw _ m_4) hy53 rfl (ok53 l Z a0 hw (0 : Int32) (0 : Int32) (0 : Int32) s0 _ hc29) rfl (lenOf pd53 rfl) (leb rfl) (leb rfl) (leb rfl) (leb rfl) ?_
                              rintro _ _ ⟨rfl, rfl⟩
                              show WLAW l Z n0 (PLAW r) 18 1169 503 [.unset, .unset, .unset, .unset, .val (.int v4), .val (.int v5), .val (.int v6), .unset, .val (.int v8), .val (.ref 0), .val (.long v10), .second, .val (.long v12), .second, .val (.long v14), .second, .val (.long v16), .second, .val (.long v18), .second, .val (.int t0)] [.int c29] (Hb 0 s0)
                              rcases ite_e h with ⟨hc30, h⟩ | ⟨hc30, h⟩
                              ·
                                refine WP.ifN at_503 (XT.i0_ne_f hc30) ?_
                                refine WP.iconst (1 : Int32) at_506 rfl ?_
                                refine WP.goto (pc' := 511) at_507 (by decide) rfl ?_
                                exact WP.weak (L' := [.unset, .unset, .unset, .unset, .unset, .unset, .unset, .unset, .unset, .unset, .unset, .unset, .unset, .unset, .unset, .unset, .unset, .unset, .unset, .unset, .unset]) trivial (okLAW_511 l Z a0 hw n0 n (1 : Int32) s0 _ h)
                              ·
                                refine WP.ifY (pc' := 510) at_503 (XT.i0_ne_t hc30) (by decide) rfl ?_
                                exact WP.weak (L' := [.unset, .unset, .unset, .unset, .unset, .unset, .unset, .unset, .unset, .unset, .unset, .unset, .unset, .unset, .unset, .unset, .unset, .unset, .unset, .unset, .unset]) trivial (okLAW_510 l Z a0 hw n0 n s0 _ h)
                            ·
                              refine WP.icmpY (pc' := 510) at_492 (XT.ii_ne_t hc28) (by decide) rfl ?_
                              exact WP.weak (L' := [.unset, .unset, .unset, .unset, .unset, .unset, .unset, .unset, .unset, .unset, .unset, .unset, .unset, .unset, .unset, .unset, .unset, .unset, .unset, .unset, .unset]) trivial (okLAW_510 l Z a0 hw n0 n s0 _ h)
                          ·
                            refine WP.ifY (pc' := 510) at_480 (XT.ll_ne_t hc26) (by decide) rfl ?_
                            exact WP.weak (L' := [.unset, .unset, .unset, .unset, .unset, .unset, .unset, .unset, .unset, .unset, .unset, .unset, .unset, .unset, .unset, .unset, .unset, .unset, .unset, .unset, .unset]) trivial (okLAW_510 l Z a0 hw n0 n s0 _ h)
                        ·
                          refine WP.ifY (pc' := 510) at_466 (XT.ll_ne_t hc24) (by decide) rfl ?_
                          exact WP.weak (L' := [.unset, .unset, .unset, .unset, .unset, .unset, .unset, .unset, .unset, .unset, .unset, .unset, .unset, .unset, .unset, .unset, .unset, .unset, .unset, .unset, .unset]) trivial (okLAW_510 l Z a0 hw n0 n s0 _ h)
                      ·
                        refine WP.ifY (pc' := 510) at_453 (XT.ll_ne_t hc22) (by decide) rfl ?_
                        exact WP.weak (L' := [.unset, .unset, .unset, .unset, .unset, .unset, .unset, .unset, .unset, .unset, .unset, .unset, .unset, .unset, .unset, .unset, .unset, .unset, .unset, .unset, .unset]) trivial (okLAW_510 l Z a0 hw n0 n s0 _ h)
                    ·
                      refine WP.ifY (pc' := 510) at_441 (XT.ll_ne_t hc20) (by decide) rfl ?_
                      exact WP.weak (L' := [.unset, .unset, .unset, .unset, .unset, .unset, .unset, .unset, .unset, .unset, .unset, .unset, .unset, .unset, .unset, .unset, .unset, .unset, .unset, .unset, .unset]) trivial (okLAW_510 l Z a0 hw n0 n s0 _ h)
                  ·
                    refine WP.ifY (pc' := 510) at_428 (XT.ll_ne_t hc18) (by decide) rfl ?_
                    exact WP.weak (L' := [.unset, .unset, .unset, .unset, .unset, .unset, .unset, .unset, .unset, .unset, .unset, .unset, .unset, .unset, .unset, .unset, .unset, .unset, .unset, .unset, .unset]) trivial (okLAW_510 l Z a0 hw n0 n s0 _ h)
                ·
                  refine WP.ifY (pc' := 510) at_415 (XT.ll_ne_t hc16) (by decide) rfl ?_
                  exact WP.weak (L' := [.unset, .unset, .unset, .unset, .unset, .unset, .unset, .unset, .unset, .unset, .unset, .unset, .unset, .unset, .unset, .unset, .unset, .unset, .unset, .unset, .unset]) trivial (okLAW_510 l Z a0 hw n0 n s0 _ h)
              ·
                refine WP.ifY (pc' := 510) at_399 (XT.ll_ne_t hc14) (by decide) rfl ?_
                exact WP.weak (L' := [.unset, .unset, .unset, .unset, .unset, .unset, .unset, .unset, .unset, .unset, .unset, .unset, .unset, .unset, .unset, .unset, .unset, .unset, .unset, .unset, .unset]) trivial (okLAW_510 l Z a0 hw n0 n s0 _ h)
            ·
              refine WP.ifY (pc' := 510) at_383 (XT.ll_ne_t hc12) (by decide) rfl ?_
              exact WP.weak (L' := [.unset, .unset, .unset, .unset, .unset, .unset, .unset, .unset, .unset, .unset, .unset, .unset, .unset, .unset, .unset, .unset, .unset, .unset, .unset, .unset, .unset]) trivial (okLAW_510 l Z a0 hw n0 n s0 _ h)
          ·
            refine WP.ifY (pc' := 510) at_367 (XT.ll_ne_t hc10) (by decide) rfl ?_
            exact WP.weak (L' := [.unset, .unset, .unset, .unset, .unset, .unset, .unset, .unset, .unset, .unset, .unset, .unset, .unset, .unset, .unset, .unset, .unset, .unset, .unset, .unset, .unset]) trivial (okLAW_510 l Z a0 hw n0 n s0 _ h)
        ·
          refine WP.ifY (pc' := 510) at_351 (XT.ll_ne_t hc8) (by decide) rfl ?_
          exact WP.weak (L' := [.unset, .unset, .unset, .unset, .unset, .unset, .unset, .unset, .unset, .unset, .unset, .unset, .unset, .unset, .unset, .unset, .unset, .unset, .unset, .unset, .unset]) trivial (okLAW_510 l Z a0 hw n0 n s0 _ h)
      ·
        refine WP.ifY (pc' := 510) at_335 (XT.ll_ne_t hc6) (by decide) rfl ?_
        exact WP.weak (L' := [.unset, .unset, .unset, .unset, .unset, .unset, .unset, .unset, .unset, .unset, .unset, .unset, .unset, .unset, .unset, .unset, .unset, .unset, .unset, .unset, .unset]) trivial (okLAW_510 l Z a0 hw n0 n s0 _ h)
    ·
      refine WP.ifY (pc' := 510) at_320 (XT.ll_ne_t hc4) (by decide) rfl ?_
      exact WP.weak (L' := [.unset, .unset, .unset, .unset, .unset, .unset, .unset, .unset, .unset, .unset, .unset, .unset, .unset, .unset, .unset, .unset, .unset, .unset, .unset, .unset, .unset]) trivial (okLAW_510 l Z a0 hw n0 n s0 _ h)
  ·
    refine WP.ifY (pc' := 510) at_305 (XT.ll_ne_t hc2) (by decide) rfl ?_
    exact WP.weak (L' := [.unset, .unset, .unset, .unset, .unset, .unset, .unset, .unset, .unset, .unset, .unset, .unset, .unset, .unset, .unset, .unset, .unset, .unset, .unset, .unset, .unset]) trivial (okLAW_510 l Z a0 hw n0 n s0 _ h)
def f_law_277 (n : Nat) (v4 : Int32) (v5 : Int32) (v6 : Int32) (v8 : Int32) (v10 : Int64) (v12 : Int64) (v14 : Int64) (v16 : Int64) (t0 : Int64) (s0 : St) : Option (Int32) :=
  if v16 = (0 : Int64) then
    f_law_291 n v4 v5 v6 v8 v10 v12 v14 v16 t0 (0 : Int32) s0
  else
    f_law_291 n v4 v5 v6 v8 v10 v12 v14 v16 t0 (1 : Int32) s0
set_option maxRecDepth 65536 in
set_option maxHeartbeats 4000000 in
theorem okLAW_277 (l : Launch) (Z : State) (a0 : Array Value) (hw : HW a0 Z) (n0 : Nat) (n : Nat) (v4 : Int32) (v5 : Int32) (v6 : Int32) (v8 : Int32) (v10 : Int64) (v12 : Int64) (v14 : Int64) (v16 : Int64) (t0 : Int64) (s0 : St) (r : Int32) (h : f_law_277 n v4 v5 v6 v8 v10 v12 v14 v16 t0 s0 = some r) : WLAW l Z n0 (PLAW r) 18 1169 277 [.unset, .unset, .unset, .unset, .val (.int v4), .val (.int v5), .val (.int v6), .unset, .val (.int v8), .val (.ref 0), .val (.long v10), .second, .val (.long v12), .second, .val (.long v14), .second, .val (.long v16), .second, .unset, .unset, .unset] [.long t0] (Hb 0 s0) := by
  unfold f_law_277 at h
  refine WP.lstore (L' := [.unset, .unset, .unset, .unset, .val (.int v4), .val (.int v5), .val (.int v6), .unset, .val (.int v8), .val (.ref 0), .val (.long v10), .second, .val (.long v12), .second, .val (.long v14), .second, .val (.long v16), .second, .val (.long t0), .second, .unset]) at_277 (leb rfl) rfl ?_
  refine WP.lload at_279 rfl ?_
  refine WP.lconst (0 : Int64) at_281 rfl ?_
  refine WP.lcmp at_282 ?_
  rcases ite_e h with ⟨hc1, h⟩ | ⟨hc1, h⟩
  ·
    refine WP.ifY (pc' := 290) at_283 (XT.ll_eq_t hc1) (by decide) rfl ?_
    refine WP.iconst (0 : Int32) at_290 rfl ?_
    exact WP.weak (L' := [.unset, .unset, .unset, .unset, .val (.int v4), .val (.int v5), .val (.int v6), .unset, .val (.int v8), .val (.ref 0), .val (.long v10), .second, .val (.long v12), .second, .val (.long v14), .second, .val (.long v16), .second, .val (.long t0), .second, .unset]) ⟨rfl, rfl, rfl, rfl, rfl, rfl, rfl, rfl, rfl, rfl, rfl, rfl, rfl, rfl, rfl, trivial⟩ (okLAW_291 l Z a0 hw n0 n v4 v5 v6 v8 v10 v12 v14 v16 t0 (0 : Int32) s0 _ h)
  ·
    refine WP.ifN at_283 (XT.ll_eq_f hc1) ?_
    refine WP.iconst (1 : Int32) at_286 rfl ?_
    refine WP.goto (pc' := 291) at_287 (by decide) rfl ?_
    exact WP.weak (L' := [.unset, .unset, .unset, .unset, .val (.int v4), .val (.int v5), .val (.int v6), .unset, .val (.int v8), .val (.ref 0), .val (.long v10), .second, .val (.long v12), .second, .val (.long v14), .second, .val (.long v16), .second, .val (.long t0), .second, .unset]) ⟨rfl, rfl, rfl, rfl, rfl, rfl, rfl, rfl, rfl, rfl, rfl, rfl, rfl, rfl, rfl, trivial⟩ (okLAW_291 l Z a0 hw n0 n v4 v5 v6 v8 v10 v12 v14 v16 t0 (1 : Int32) s0 _ h)
def f_law (n : Nat) (p0 : Int32) (p1 : Int32) (p2 : Int32) (p3 : Int32) : Option (Int32) :=
  lt ((((p0 % (500000 : Int32)) + (500000 : Int32)) % (500000 : Int32)) + (1 : Int32)) fun x1 =>
  lt ((((p1 % (500000 : Int32)) + (500000 : Int32)) % (500000 : Int32)) + (1 : Int32)) fun x2 =>
  lt (-(x1 + x2)) fun x3 =>
  lt ((((p2 % (100000 : Int32)) + (100000 : Int32)) % (100000 : Int32)) + (1 : Int32)) fun x4 =>
  lt (((p3 % (12 : Int32)) + (12 : Int32)) % (12 : Int32)) fun x5 =>
  (f_init n (2 : Int32) (4 : Int32)).bind fun c6 =>
  (f_openAccount n (0 : Int32) (-1 : Int32) (4 : Int32) (0 : Int32) c6).bind fun c7 =>
  if c7.1 = 0 then
    (f_openAccount n (1 : Int32) (-1 : Int32) (0 : Int32) (1 : Int32) c7.2).bind fun c9 =>
    if c9.1 = 0 then
      (f_openAccount n (2 : Int32) (-1 : Int32) (0 : Int32) (1 : Int32) c9.2).bind fun c11 =>
      if c11.1 = 0 then
        (f_openAccount n (3 : Int32) (-1 : Int32) (1 : Int32) (1 : Int32) c11.2).bind fun c13 =>
        if c13.1 = 0 then
          (f_setSpecial (0 : Int32) (0 : Int32) c13.2).bind fun c15 =>
          if c15.1 = 0 then
            (f_setRate (1 : Int32) x4 c15.2).bind fun c17 =>
            if c17.1 = 0 then
              (f_beginJournal (0 : Int32) x5 (0 : Int32) c17.2).bind fun c19 =>
              if c19.1 = 0 then
                (f_addLine (0 : Int32) (1 : Int32) x1 c19.2).bind fun c21 =>
                if c21.1 = 0 then
                  (f_addLine (0 : Int32) (2 : Int32) x2 c21.2).bind fun c23 =>
                  if c23.1 = 0 then
                    (f_addLine (0 : Int32) (3 : Int32) x3 c23.2).bind fun c25 =>
                    if c25.1 = 0 then
                      (f_post n (0 : Int32) c25.2).bind fun c27 =>
                      if c27.1 = 0 then
                        (f_L_round x1.toInt64 x4).bind fun c29 =>
                        (f_L_round x2.toInt64 x4).bind fun c30 =>
                        (f_L_round x3.toInt64 x4).bind fun c31 =>
                        lt ((c29 + c30) + c31) fun x32 =>
                        if x32 = (0 : Int64) then
                          f_law_277 n x1 x2 x3 x5 c29 c30 c31 x32 (3 : Int64) c27.2
                        else
                          f_law_277 n x1 x2 x3 x5 c29 c30 c31 x32 (4 : Int64) c27.2
                      else
                        some (0 : Int32)
                    else
                      some (0 : Int32)
                  else
                    some (0 : Int32)
                else
                  some (0 : Int32)
              else
                some (0 : Int32)
            else
              some (0 : Int32)
          else
            some (0 : Int32)
        else
          some (0 : Int32)
      else
        some (0 : Int32)
    else
      some (0 : Int32)
  else
    some (0 : Int32)
set_option maxRecDepth 65536 in
set_option maxHeartbeats 4000000 in
theorem okLAW (l : Launch) (Z : State) (a0 : Array Value) (hw : HW a0 Z) (n : Nat) (p0 : Int32) (p1 : Int32) (p2 : Int32) (p3 : Int32) (r : Int32) (h : f_law n p0 p1 p2 p3 = some r) : CS l Z CN lay x code maxLocals ret room_1 0 [.int p0, .int p1, .int p2, .int p3] ([] : List OwnC) (PLAW r) := by
  refine CS.of_wp pn_law (leb rfl) fun n0 => ?_
  show WLAW l Z n0 (PLAW r) 0 0 0 [.val (.int p0), .val (.int p1), .val (.int p2), .val (.int p3), .unset, .unset, .unset, .unset, .unset, .unset, .unset, .unset, .unset, .unset, .unset, .unset, .unset, .unset, .unset, .unset, .unset] [] ([] : List OwnC)
  unfold f_law at h
  refine WP.iloadN at_0 rfl ?_
  refine WP.ldc at_1 (hw _ m_0) ?_
  refine WP.irem at_3 (by decide) ?_
  refine WP.ldc at_4 (hw _ m_0) ?_
  refine WP.iadd at_6 ?_
  refine WP.ldc at_7 (hw _ m_0) ?_
  refine WP.irem at_9 (by decide) ?_
  refine WP.iconst (1 : Int32) at_10 rfl ?_
  refine WP.iadd at_11 ?_
  obtain ⟨x1, ex1, h⟩ := lt_e h
  refine WP.istore (L' := [.val (.int p0), .val (.int p1), .val (.int p2), .val (.int p3), .val (.int x1), .unset, .unset, .unset, .unset, .unset, .unset, .unset, .unset, .unset, .unset, .unset, .unset, .unset, .unset, .unset, .unset]) at_12 (leb rfl) (by subst ex1; rfl) ?_
  refine WP.iloadN at_14 rfl ?_
  refine WP.ldc at_15 (hw _ m_0) ?_
  refine WP.irem at_17 (by decide) ?_
  refine WP.ldc at_18 (hw _ m_0) ?_
  refine WP.iadd at_20 ?_
  refine WP.ldc at_21 (hw _ m_0) ?_
  refine WP.irem at_23 (by decide) ?_
  refine WP.iconst (1 : Int32) at_24 rfl ?_
  refine WP.iadd at_25 ?_
  obtain ⟨x2, ex2, h⟩ := lt_e h
  refine WP.istore (L' := [.val (.int p0), .val (.int p1), .val (.int p2), .val (.int p3), .val (.int x1), .val (.int x2), .unset, .unset, .unset, .unset, .unset, .unset, .unset, .unset, .unset, .unset, .unset, .unset, .unset, .unset, .unset]) at_26 (leb rfl) (by subst ex2; rfl) ?_
  refine WP.iload at_28 rfl ?_
  refine WP.iload at_30 rfl ?_
  refine WP.iadd at_32 ?_
  refine WP.ineg at_33 ?_
  obtain ⟨x3, ex3, h⟩ := lt_e h
  refine WP.istore (L' := [.val (.int p0), .val (.int p1), .val (.int p2), .val (.int p3), .val (.int x1), .val (.int x2), .val (.int x3), .unset, .unset, .unset, .unset, .unset, .unset, .unset, .unset, .unset, .unset, .unset, .unset, .unset, .unset]) at_34 (leb rfl) (by subst ex3; rfl) ?_
  refine WP.iloadN at_36 rfl ?_
  refine WP.ldc at_37 (hw _ m_1) ?_
  refine WP.irem at_39 (by decide) ?_
  refine WP.ldc at_40 (hw _ m_1) ?_
  refine WP.iadd at_42 ?_
  refine WP.ldc at_43 (hw _ m_1) ?_
  refine WP.irem at_45 (by decide) ?_
  refine WP.iconst (1 : Int32) at_46 rfl ?_
  refine WP.iadd at_47 ?_
  obtain ⟨x4, ex4, h⟩ := lt_e h
  refine WP.istore (L' := [.val (.int p0), .val (.int p1), .val (.int p2), .val (.int p3), .val (.int x1), .val (.int x2), .val (.int x3), .val (.int x4), .unset, .unset, .unset, .unset, .unset, .unset, .unset, .unset, .unset, .unset, .unset, .unset, .unset]) at_48 (leb rfl) (by subst ex4; rfl) ?_
  refine WP.iloadN at_50 rfl ?_
  refine WP.bipush (12 : Int32) at_51 rfl ?_
  refine WP.irem at_53 (by decide) ?_
  refine WP.bipush (12 : Int32) at_54 rfl ?_
  refine WP.iadd at_56 ?_
  refine WP.bipush (12 : Int32) at_57 rfl ?_
  refine WP.irem at_59 (by decide) ?_
  obtain ⟨x5, ex5, h⟩ := lt_e h
  refine WP.istore (L' := [.val (.int p0), .val (.int p1), .val (.int p2), .val (.int p3), .val (.int x1), .val (.int x2), .val (.int x3), .val (.int x4), .val (.int x5), .unset, .unset, .unset, .unset, .unset, .unset, .unset, .unset, .unset, .unset, .unset, .unset]) at_60 (leb rfl) (by subst ex5; rfl) ?_
  refine WP.new (vs := vs0) at_62 (hw _ m_2) (hw _ m_3) (hw _ m_4) (leb rfl) (leb rfl) (vs0_ok hw) ?_
  show WLAW l Z n0 (PLAW r) 1 25 65 [.val (.int p0), .val (.int p1), .val (.int p2), .val (.int p3), .val (.int x1), .val (.int x2), .val (.int x3), .val (.int x4), .val (.int x5), .unset, .unset, .unset, .unset, .unset, .unset, .unset, .unset, .unset, .unset, .unset, .unset] [.ref 0] ([cO vs0])
  refine WP.dup at_65 rfl ?_
  refine WP.iconst (2 : Int32) at_66 rfl ?_
  refine WP.iconst (4 : Int32) at_67 rfl ?_
  obtain ⟨c6, hc6, h⟩ := Option.bind_eq_some_iff.mp h
  refine WP.callI (i := 0) (y := y0) (as := [.int (2 : Int32), .int (4 : Int32)]) (S := [.ref 0]) at_68 rfl (hw _ m_5) (hw _ m_6) (hw _ m_7) (hw _ m_4) hy0 (ok0 l Z a0 hw n (2 : Int32) (4 : Int32) _ hc6) rfl (lenOf pd0 rfl) (leb rfl) (leb rfl) (leb rfl) (leb rfl) ?_
  rintro _ _ ⟨rfl, rfl⟩
  show WLAW l Z n0 (PLAW r) 18 1169 71 [.val (.int p0), .val (.int p1), .val (.int p2), .val (.int p3), .val (.int x1), .val (.int x2), .val (.int x3), .val (.int x4), .val (.int x5), .unset, .unset, .unset, .unset, .unset, .unset, .unset, .unset, .unset, .unset, .unset, .unset] [.ref 0] (Hb 0 c6)
  refine WP.astore (L' := [.val (.int p0), .val (.int p1), .val (.int p2), .val (.int p3), .val (.int x1), .val (.int x2), .val (.int x3), .val (.int x4), .val (.int x5), .val (.ref 0), .unset, .unset, .unset, .unset, .unset, .unset, .unset, .unset, .unset, .unset, .unset]) at_71 (leb rfl) rfl ?_
  refine WP.aload at_73 rfl ?_
  refine WP.iconst (0 : Int32) at_75 rfl ?_
  refine WP.iconst (-1 : Int32) at_76 rfl ?_
  refine WP.iconst (4 : Int32) at_77 rfl ?_
  refine WP.iconst (0 : Int32) at_78 rfl ?_
  obtain ⟨c7, hc7, h⟩ := Option.bind_eq_some_iff.mp h
  refine WP.callV (i := 0) (y := y6) (as := [.int (0 : Int32), .int (-1 : Int32), .int (4 : Int32), .int (0 : Int32)]) (S := []) at_79 (hw _ m_84) (hw _ m_85) (hw _ m_87) (hw _ m_86) (hw _ m_88) (hw _ m_4) hy6 rfl (ok6 l Z a0 hw n (0 : Int32) (-1 : Int32) (4 : Int32) (0 : Int32) c6 _ hc7) rfl (lenOf pd6 rfl) (leb rfl) (leb rfl) (leb rfl) (leb rfl) ?_
  rintro _ _ ⟨rfl, rfl⟩
  show WLAW l Z n0 (PLAW r) 18 1169 82 [.val (.int p0), .val (.int p1), .val (.int p2), .val (.int p3), .val (.int x1), .val (.int x2), .val (.int x3), .val (.int x4), .val (.int x5), .val (.ref 0), .unset, .unset, .unset, .unset, .unset, .unset, .unset, .unset, .unset, .unset, .unset] [.int c7.1] (Hb 0 c7.2)
  rcases ite_e h with ⟨hc8, h⟩ | ⟨hc8, h⟩
  ·
    refine WP.ifY (pc' := 87) at_82 (XT.i0_eq_t hc8) (by decide) rfl ?_
    refine WP.aload at_87 rfl ?_
    refine WP.iconst (1 : Int32) at_89 rfl ?_
    refine WP.iconst (-1 : Int32) at_90 rfl ?_
    refine WP.iconst (0 : Int32) at_91 rfl ?_
    refine WP.iconst (1 : Int32) at_92 rfl ?_
    obtain ⟨c9, hc9, h⟩ := Option.bind_eq_some_iff.mp h
    refine WP.callV (i := 0) (y := y6) (as := [.int (1 : Int32), .int (-1 : Int32), .int (0 : Int32), .int (1 : Int32)]) (S := []) at_93 (hw _ m_84) (hw _ m_85) (hw _ m_87) (hw _ m_86) (hw _ m_88) (hw _ m_4) hy6 rfl (ok6 l Z a0 hw n (1 : Int32) (-1 : Int32) (0 : Int32) (1 : Int32) c7.2 _ hc9) rfl (lenOf pd6 rfl) (leb rfl) (leb rfl) (leb rfl) (leb rfl) ?_
    rintro _ _ ⟨rfl, rfl⟩
    show WLAW l Z n0 (PLAW r) 18 1169 96 [.val (.int p0), .val (.int p1), .val (.int p2), .val (.int p3), .val (.int x1), .val (.int x2), .val (.int x3), .val (.int x4), .val (.int x5), .val (.ref 0), .unset, .unset, .unset, .unset, .unset, .unset, .unset, .unset, .unset, .unset, .unset] [.int c9.1] (Hb 0 c9.2)
    rcases ite_e h with ⟨hc10, h⟩ | ⟨hc10, h⟩
    ·
      refine WP.ifY (pc' := 101) at_96 (XT.i0_eq_t hc10) (by decide) rfl ?_
      refine WP.aload at_101 rfl ?_
      refine WP.iconst (2 : Int32) at_103 rfl ?_
      refine WP.iconst (-1 : Int32) at_104 rfl ?_
      refine WP.iconst (0 : Int32) at_105 rfl ?_
      refine WP.iconst (1 : Int32) at_106 rfl ?_
      obtain ⟨c11, hc11, h⟩ := Option.bind_eq_some_iff.mp h
      refine WP.callV (i := 0) (y := y6) (as := [.int (2 : Int32), .int (-1 : Int32), .int (0 : Int32), .int (1 : Int32)]) (S := []) at_107 (hw _ m_84) (hw _ m_85) (hw _ m_87) (hw _ m_86) (hw _ m_88) (hw _ m_4) hy6 rfl (ok6 l Z a0 hw n (2 : Int32) (-1 : Int32) (0 : Int32) (1 : Int32) c9.2 _ hc11) rfl (lenOf pd6 rfl) (leb rfl) (leb rfl) (leb rfl) (leb rfl) ?_
      rintro _ _ ⟨rfl, rfl⟩
      show WLAW l Z n0 (PLAW r) 18 1169 110 [.val (.int p0), .val (.int p1), .val (.int p2), .val (.int p3), .val (.int x1), .val (.int x2), .val (.int x3), .val (.int x4), .val (.int x5), .val (.ref 0), .unset, .unset, .unset, .unset, .unset, .unset, .unset, .unset, .unset, .unset, .unset] [.int c11.1] (Hb 0 c11.2)
      rcases ite_e h with ⟨hc12, h⟩ | ⟨hc12, h⟩
      ·
        refine WP.ifY (pc' := 115) at_110 (XT.i0_eq_t hc12) (by decide) rfl ?_
        refine WP.aload at_115 rfl ?_
        refine WP.iconst (3 : Int32) at_117 rfl ?_
        refine WP.iconst (-1 : Int32) at_118 rfl ?_
        refine WP.iconst (1 : Int32) at_119 rfl ?_
        refine WP.iconst (1 : Int32) at_120 rfl ?_
        obtain ⟨c13, hc13, h⟩ := Option.bind_eq_some_iff.mp h
        refine WP.callV (i := 0) (y := y6) (as := [.int (3 : Int32), .int (-1 : Int32), .int (1 : Int32), .int (1 : Int32)]) (S := []) at_121 (hw _ m_84) (hw _ m_85) (hw _ m_87) (hw _ m_86) (hw _ m_88) (hw _ m_4) hy6 rfl (ok6 l Z a0 hw n (3 : Int32) (-1 : Int32) (1 : Int32) (1 : Int32) c11.2 _ hc13) rfl (lenOf pd6 rfl) (leb rfl) (leb rfl) (leb rfl) (leb rfl) ?_
        rintro _ _ ⟨rfl, rfl⟩
        show WLAW l Z n0 (PLAW r) 18 1169 124 [.val (.int p0), .val (.int p1), .val (.int p2), .val (.int p3), .val (.int x1), .val (.int x2), .val (.int x3), .val (.int x4), .val (.int x5), .val (.ref 0), .unset, .unset, .unset, .unset, .unset, .unset, .unset, .unset, .unset, .unset, .unset] [.int c13.1] (Hb 0 c13.2)
        rcases ite_e h with ⟨hc14, h⟩ | ⟨hc14, h⟩
        ·
          refine WP.ifY (pc' := 129) at_124 (XT.i0_eq_t hc14) (by decide) rfl ?_
          refine WP.aload at_129 rfl ?_
          refine WP.iconst (0 : Int32) at_131 rfl ?_
          refine WP.iconst (0 : Int32) at_132 rfl ?_
          obtain ⟨c15, hc15, h⟩ := Option.bind_eq_some_iff.mp h
          refine WP.callV (i := 0) (y := y14) (as := [.int (0 : Int32), .int (0 : Int32)]) (S := []) at_133 (hw _ m_117) (hw _ m_118) (hw _ m_120) (hw _ m_119) (hw _ m_121) (hw _ m_4) hy14 rfl (ok14 l Z a0 hw (0 : Int32) (0 : Int32) c13.2 _ hc15) rfl (lenOf pd14 rfl) (leb rfl) (leb rfl) (leb rfl) (leb rfl) ?_
          rintro _ _ ⟨rfl, rfl⟩
          show WLAW l Z n0 (PLAW r) 18 1169 136 [.val (.int p0), .val (.int p1), .val (.int p2), .val (.int p3), .val (.int x1), .val (.int x2), .val (.int x3), .val (.int x4), .val (.int x5), .val (.ref 0), .unset, .unset, .unset, .unset, .unset, .unset, .unset, .unset, .unset, .unset, .unset] [.int c15.1] (Hb 0 c15.2)
          rcases ite_e h with ⟨hc16, h⟩ | ⟨hc16, h⟩
          ·
            refine WP.ifY (pc' := 141) at_136 (XT.i0_eq_t hc16) (by decide) rfl ?_
            refine WP.aload at_141 rfl ?_
            refine WP.iconst (1 : Int32) at_143 rfl ?_
            refine WP.iload at_144 rfl ?_
            obtain ⟨c17, hc17, h⟩ := Option.bind_eq_some_iff.mp h
            refine WP.callV (i := 0) (y := y18) (as := [.int (1 : Int32), .int x4]) (S := []) at_146 (hw _ m_134) (hw _ m_135) (hw _ m_137) (hw _ m_136) (hw _ m_138) (hw _ m_4) hy18 rfl (ok18 l Z a0 hw (1 : Int32) x4 c15.2 _ hc17) rfl (lenOf pd18 rfl) (leb rfl) (leb rfl) (leb rfl) (leb rfl) ?_
            rintro _ _ ⟨rfl, rfl⟩
            show WLAW l Z n0 (PLAW r) 18 1169 149 [.val (.int p0), .val (.int p1), .val (.int p2), .val (.int p3), .val (.int x1), .val (.int x2), .val (.int x3), .val (.int x4), .val (.int x5), .val (.ref 0), .unset, .unset, .unset, .unset, .unset, .unset, .unset, .unset, .unset, .unset, .unset] [.int c17.1] (Hb 0 c17.2)
            rcases ite_e h with ⟨hc18, h⟩ | ⟨hc18, h⟩
            ·
              refine WP.ifY (pc' := 154) at_149 (XT.i0_eq_t hc18) (by decide) rfl ?_
              refine WP.aload at_154 rfl ?_
              refine WP.iconst (0 : Int32) at_156 rfl ?_
              refine WP.iload at_157 rfl ?_
              refine WP.iconst (0 : Int32) at_159 rfl ?_
              obtain ⟨c19, hc19, h⟩ := Option.bind_eq_some_iff.mp h
              refine WP.callV (i := 0) (y := y21) (as := [.int (0 : Int32), .int x5, .int (0 : Int32)]) (S := []) at_160 (hw _ m_148) (hw _ m_149) (hw _ m_151) (hw _ m_150) (hw _ m_152) (hw _ m_4) hy21 rfl (ok21 l Z a0 hw (0 : Int32) x5 (0 : Int32) c17.2 _ hc19) rfl (lenOf pd21 rfl) (leb rfl) (leb rfl) (leb rfl) (leb rfl) ?_
              rintro _ _ ⟨rfl, rfl⟩
              show WLAW l Z n0 (PLAW r) 18 1169 163 [.val (.int p0), .val (.int p1), .val (.int p2), .val (.int p3), .val (.int x1), .val (.int x2), .val (.int x3), .val (.int x4), .val (.int x5), .val (.ref 0), .unset, .unset, .unset, .unset, .unset, .unset, .unset, .unset, .unset, .unset, .unset] [.int c19.1] (Hb 0 c19.2)
              rcases ite_e h with ⟨hc20, h⟩ | ⟨hc20, h⟩
              ·
                refine WP.ifY (pc' := 168) at_163 (XT.i0_eq_t hc20) (by decide) rfl ?_
                refine WP.aload at_168 rfl ?_
                refine WP.iconst (0 : Int32) at_170 rfl ?_
                refine WP.iconst (1 : Int32) at_171 rfl ?_
                refine WP.iload at_172 rfl ?_
                obtain ⟨c21, hc21, h⟩ := Option.bind_eq_some_iff.mp h
                refine WP.callV (i := 0) (y := y24) (as := [.int (0 : Int32), .int (1 : Int32), .int x1]) (S := []) at_174 (hw _ m_161) (hw _ m_162) (hw _ m_164) (hw _ m_163) (hw _ m_165) (hw _ m_4) hy24 rfl (ok24 l Z a0 hw (0 : Int32) (1 : Int32) x1 c19.2 _ hc21) rfl (lenOf pd24 rfl) (leb rfl) (leb rfl) (leb rfl) (leb rfl) ?_
                rintro _ _ ⟨rfl, rfl⟩
                show WLAW l Z n0 (PLAW r) 18 1169 177 [.val (.int p0), .val (.int p1), .val (.int p2), .val (.int p3), .val (.int x1), .val (.int x2), .val (.int x3), .val (.int x4), .val (.int x5), .val (.ref 0), .unset, .unset, .unset, .unset, .unset, .unset, .unset, .unset, .unset, .unset, .unset] [.int c21.1] (Hb 0 c21.2)
                rcases ite_e h with ⟨hc22, h⟩ | ⟨hc22, h⟩
                ·
                  refine WP.ifY (pc' := 182) at_177 (XT.i0_eq_t hc22) (by decide) rfl ?_
                  refine WP.aload at_182 rfl ?_
                  refine WP.iconst (0 : Int32) at_184 rfl ?_
                  refine WP.iconst (2 : Int32) at_185 rfl ?_
                  refine WP.iload at_186 rfl ?_
                  obtain ⟨c23, hc23, h⟩ := Option.bind_eq_some_iff.mp h
                  refine WP.callV (i := 0) (y := y24) (as := [.int (0 : Int32), .int (2 : Int32), .int x2]) (S := []) at_188 (hw _ m_161) (hw _ m_162) (hw _ m_164) (hw _ m_163) (hw _ m_165) (hw _ m_4) hy24 rfl (ok24 l Z a0 hw (0 : Int32) (2 : Int32) x2 c21.2 _ hc23) rfl (lenOf pd24 rfl) (leb rfl) (leb rfl) (leb rfl) (leb rfl) ?_
                  rintro _ _ ⟨rfl, rfl⟩
                  show WLAW l Z n0 (PLAW r) 18 1169 191 [.val (.int p0), .val (.int p1), .val (.int p2), .val (.int p3), .val (.int x1), .val (.int x2), .val (.int x3), .val (.int x4), .val (.int x5), .val (.ref 0), .unset, .unset, .unset, .unset, .unset, .unset, .unset, .unset, .unset, .unset, .unset] [.int c23.1] (Hb 0 c23.2)
                  rcases ite_e h with ⟨hc24, h⟩ | ⟨hc24, h⟩
                  ·
                    refine WP.ifY (pc' := 196) at_191 (XT.i0_eq_t hc24) (by decide) rfl ?_
                    refine WP.aload at_196 rfl ?_
                    refine WP.iconst (0 : Int32) at_198 rfl ?_
                    refine WP.iconst (3 : Int32) at_199 rfl ?_
                    refine WP.iload at_200 rfl ?_
                    obtain ⟨c25, hc25, h⟩ := Option.bind_eq_some_iff.mp h
                    refine WP.callV (i := 0) (y := y24) (as := [.int (0 : Int32), .int (3 : Int32), .int x3]) (S := []) at_202 (hw _ m_161) (hw _ m_162) (hw _ m_164) (hw _ m_163) (hw _ m_165) (hw _ m_4) hy24 rfl (ok24 l Z a0 hw (0 : Int32) (3 : Int32) x3 c23.2 _ hc25) rfl (lenOf pd24 rfl) (leb rfl) (leb rfl) (leb rfl) (leb rfl) ?_
                    rintro _ _ ⟨rfl, rfl⟩
                    show WLAW l Z n0 (PLAW r) 18 1169 205 [.val (.int p0), .val (.int p1), .val (.int p2), .val (.int p3), .val (.int x1), .val (.int x2), .val (.int x3), .val (.int x4), .val (.int x5), .val (.ref 0), .unset, .unset, .unset, .unset, .unset, .unset, .unset, .unset, .unset, .unset, .unset] [.int c25.1] (Hb 0 c25.2)
                    rcases ite_e h with ⟨hc26, h⟩ | ⟨hc26, h⟩
                    ·
                      refine WP.ifY (pc' := 210) at_205 (XT.i0_eq_t hc26) (by decide) rfl ?_
                      refine WP.aload at_210 rfl ?_
                      refine WP.iconst (0 : Int32) at_212 rfl ?_
                      obtain ⟨c27, hc27, h⟩ := Option.bind_eq_some_iff.mp h
                      refine WP.callV (i := 0) (y := y28) (as := [.int (0 : Int32)]) (S := []) at_213 (hw _ m_180) (hw _ m_181) (hw _ m_183) (hw _ m_182) (hw _ m_184) (hw _ m_4) hy28 rfl (ok28 l Z a0 hw n (0 : Int32) c25.2 _ hc27) rfl (lenOf pd28 rfl) (leb rfl) (leb rfl) (leb rfl) (leb rfl) ?_
                      rintro _ _ ⟨rfl, rfl⟩
                      show WLAW l Z n0 (PLAW r) 18 1169 216 [.val (.int p0), .val (.int p1), .val (.int p2), .val (.int p3), .val (.int x1), .val (.int x2), .val (.int x3), .val (.int x4), .val (.int x5), .val (.ref 0), .unset, .unset, .unset, .unset, .unset, .unset, .unset, .unset, .unset, .unset, .unset] [.int c27.1] (Hb 0 c27.2)
                      rcases ite_e h with ⟨hc28, h⟩ | ⟨hc28, h⟩
                      ·
                        refine WP.ifY (pc' := 221) at_216 (XT.i0_eq_t hc28) (by decide) rfl ?_
                        refine WP.iload at_221 rfl ?_
                        refine WP.i2l at_223 ?_
                        refine WP.iload at_224 rfl ?_
                        obtain ⟨c29, hc29, h⟩ := Option.bind_eq_some_iff.mp h
                        refine WP.callS (y := y42) (as := [.long x1.toInt64, .int x4]) (S := []) at_226 (hw _ m_239) (hw _ m_240) (hw _ m_241) (hw _ m_242) hy42 (CS.frame (ro := 0) (H := (Hb 0 c27.2)) (as := [.long x1.toInt64, .int x4]) fr0_f (ok42 l Z a0 hw x1.toInt64 x4 _ hc29) rfl (by decide) (fr0_l c27.2) (fr0_c c27.2) (by decide) rfl) rfl (lenOf pd42 rfl) (leb rfl) (leb rfl) (leb rfl) (leb rfl) ?_
                        rintro _ _ ⟨_, _, ⟨rfl, rfl⟩, rfl, rfl⟩
                        rw [fr0_p c27.2]
                        show WLAW l Z n0 (PLAW r) 18 1169 229 [.val (.int p0), .val (.int p1), .val (.int p2), .val (.int p3), .val (.int x1), .val (.int x2), .val (.int x3), .val (.int x4), .val (.int x5), .val (.ref 0), .unset, .unset, .unset, .unset, .unset, .unset, .unset, .unset, .unset, .unset, .unset] [.long c29] (Hb 0 c27.2)
                        refine WP.lstore (L' := [.val (.int p0), .val (.int p1), .val (.int p2), .val (.int p3), .val (.int x1), .val (.int x2), .val (.int x3), .val (.int x4), .val (.int x5), .val (.ref 0), .val (.long c29), .second, .unset, .unset, .unset, .unset, .unset, .unset, .unset, .unset, .unset]) at_229 (leb rfl) rfl ?_
                        refine WP.iload at_231 rfl ?_
                        refine WP.i2l at_233 ?_
                        refine WP.iload at_234 rfl ?_
                        obtain ⟨c30, hc30, h⟩ := Option.bind_eq_some_iff.mp h
                        refine WP.callS (y := y42) (as := [.long x2.toInt64, .int x4]) (S := []) at_236 (hw _ m_239) (hw _ m_240) (hw _ m_241) (hw _ m_242) hy42 (CS.frame (ro := 0) (H := (Hb 0 c27.2)) (as := [.long x2.toInt64, .int x4]) fr0_f (ok42 l Z a0 hw x2.toInt64 x4 _ hc30) rfl (by decide) (fr0_l c27.2) (fr0_c c27.2) (by decide) rfl) rfl (lenOf pd42 rfl) (leb rfl) (leb rfl) (leb rfl) (leb rfl) ?_
                        rintro _ _ ⟨_, _, ⟨rfl, rfl⟩, rfl, rfl⟩
                        rw [fr0_p c27.2]
                        show WLAW l Z n0 (PLAW r) 18 1169 239 [.val (.int p0), .val (.int p1), .val (.int p2), .val (.int p3), .val (.int x1), .val (.int x2), .val (.int x3), .val (.int x4), .val (.int x5), .val (.ref 0), .val (.long c29), .second, .unset, .unset, .unset, .unset, .unset, .unset, .unset, .unset, .unset] [.long c30] (Hb 0 c27.2)
                        refine WP.lstore (L' := [.val (.int p0), .val (.int p1), .val (.int p2), .val (.int p3), .val (.int x1), .val (.int x2), .val (.int x3), .val (.int x4), .val (.int x5), .val (.ref 0), .val (.long c29), .second, .val (.long c30), .second, .unset, .unset, .unset, .unset, .unset, .unset, .unset]) at_239 (leb rfl) rfl ?_
                        refine WP.iload at_241 rfl ?_
                        refine WP.i2l at_243 ?_
                        refine WP.iload at_244 rfl ?_
                        obtain ⟨c31, hc31, h⟩ := Option.bind_eq_some_iff.mp h
                        refine WP.callS (y := y42) (as := [.long x3.toInt64, .int x4]) (S := []) at_246 (hw _ m_239) (hw _ m_240) (hw _ m_241) (hw _ m_242) hy42 (CS.frame (ro := 0) (H := (Hb 0 c27.2)) (as := [.long x3.toInt64, .int x4]) fr0_f (ok42 l Z a0 hw x3.toInt64 x4 _ hc31) rfl (by decide) (fr0_l c27.2) (fr0_c c27.2) (by decide) rfl) rfl (lenOf pd42 rfl) (leb rfl) (leb rfl) (leb rfl) (leb rfl) ?_
                        rintro _ _ ⟨_, _, ⟨rfl, rfl⟩, rfl, rfl⟩
                        rw [fr0_p c27.2]
                        show WLAW l Z n0 (PLAW r) 18 1169 249 [.val (.int p0), .val (.int p1), .val (.int p2), .val (.int p3), .val (.int x1), .val (.int x2), .val (.int x3), .val (.int x4), .val (.int x5), .val (.ref 0), .val (.long c29), .second, .val (.long c30), .second, .unset, .unset, .unset, .unset, .unset, .unset, .unset] [.long c31] (Hb 0 c27.2)
                        refine WP.lstore (L' := [.val (.int p0), .val (.int p1), .val (.int p2), .val (.int p3), .val (.int x1), .val (.int x2), .val (.int x3), .val (.int x4), .val (.int x5), .val (.ref 0), .val (.long c29), .second, .val (.long c30), .second, .val (.long c31), .second, .unset, .unset, .unset, .unset, .unset]) at_249 (leb rfl) rfl ?_
                        refine WP.lload at_251 rfl ?_
                        refine WP.lload at_253 rfl ?_
                        refine WP.ladd at_255 ?_
                        refine WP.lload at_256 rfl ?_
                        refine WP.ladd at_258 ?_
                        obtain ⟨x32, ex32, h⟩ := lt_e h
                        refine WP.lstore (L' := [.val (.int p0), .val (.int p1), .val (.int p2), .val (.int p3), .val (.int x1), .val (.int x2), .val (.int x3), .val (.int x4), .val (.int x5), .val (.ref 0), .val (.long c29), .second, .val (.long c30), .second, .val (.long c31), .second, .val (.long x32), .second, .unset, .unset, .unset]) at_259 (leb rfl) (by subst ex32; rfl) ?_
                        refine WP.lload at_261 rfl ?_
                        refine WP.lconst (0 : Int64) at_263 rfl ?_
                        refine WP.lcmp at_264 ?_
                        rcases ite_e h with ⟨hc33, h⟩ | ⟨hc33, h⟩
                        ·
                          refine WP.ifY (pc' := 274) at_265 (XT.ll_eq_t hc33) (by decide) rfl ?_
                          refine WP.ldc2 at_274 (hw _ m_245) ?_
                          exact WP.weak (L' := [.unset, .unset, .unset, .unset, .val (.int x1), .val (.int x2), .val (.int x3), .unset, .val (.int x5), .val (.ref 0), .val (.long c29), .second, .val (.long c30), .second, .val (.long c31), .second, .val (.long x32), .second, .unset, .unset, .unset]) ⟨rfl, rfl, rfl, rfl, rfl, rfl, rfl, rfl, rfl, rfl, rfl, rfl, rfl, trivial⟩ (okLAW_277 l Z a0 hw n0 n x1 x2 x3 x5 c29 c30 c31 x32 (3 : Int64) c27.2 _ h)
                        ·
                          refine WP.ifN at_265 (XT.ll_eq_f hc33) ?_
                          refine WP.ldc2 at_268 (hw _ m_295) ?_
                          refine WP.goto (pc' := 277) at_271 (by decide) rfl ?_
                          exact WP.weak (L' := [.unset, .unset, .unset, .unset, .val (.int x1), .val (.int x2), .val (.int x3), .unset, .val (.int x5), .val (.ref 0), .val (.long c29), .second, .val (.long c30), .second, .val (.long c31), .second, .val (.long x32), .second, .unset, .unset, .unset]) ⟨rfl, rfl, rfl, rfl, rfl, rfl, rfl, rfl, rfl, rfl, rfl, rfl, rfl, trivial⟩ (okLAW_277 l Z a0 hw n0 n x1 x2 x3 x5 c29 c30 c31 x32 (4 : Int64) c27.2 _ h)
                      ·
                        refine WP.ifN at_216 (XT.i0_eq_f hc28) ?_
                        refine WP.iconst (0 : Int32) at_219 rfl ?_
                        cases h
                        exact WP.zreturn at_220 rfl (leb rfl) (leb rfl) rfl
                    ·
                      refine WP.ifN at_205 (XT.i0_eq_f hc26) ?_
                      refine WP.iconst (0 : Int32) at_208 rfl ?_
                      cases h
                      exact WP.zreturn at_209 rfl (leb rfl) (leb rfl) rfl
                  ·
                    refine WP.ifN at_191 (XT.i0_eq_f hc24) ?_
                    refine WP.iconst (0 : Int32) at_194 rfl ?_
                    cases h
                    exact WP.zreturn at_195 rfl (leb rfl) (leb rfl) rfl
                ·
                  refine WP.ifN at_177 (XT.i0_eq_f hc22) ?_
                  refine WP.iconst (0 : Int32) at_180 rfl ?_
                  cases h
                  exact WP.zreturn at_181 rfl (leb rfl) (leb rfl) rfl
              ·
                refine WP.ifN at_163 (XT.i0_eq_f hc20) ?_
                refine WP.iconst (0 : Int32) at_166 rfl ?_
                cases h
                exact WP.zreturn at_167 rfl (leb rfl) (leb rfl) rfl
            ·
              refine WP.ifN at_149 (XT.i0_eq_f hc18) ?_
              refine WP.iconst (0 : Int32) at_152 rfl ?_
              cases h
              exact WP.zreturn at_153 rfl (leb rfl) (leb rfl) rfl
          ·
            refine WP.ifN at_136 (XT.i0_eq_f hc16) ?_
            refine WP.iconst (0 : Int32) at_139 rfl ?_
            cases h
            exact WP.zreturn at_140 rfl (leb rfl) (leb rfl) rfl
        ·
          refine WP.ifN at_124 (XT.i0_eq_f hc14) ?_
          refine WP.iconst (0 : Int32) at_127 rfl ?_
          cases h
          exact WP.zreturn at_128 rfl (leb rfl) (leb rfl) rfl
      ·
        refine WP.ifN at_110 (XT.i0_eq_f hc12) ?_
        refine WP.iconst (0 : Int32) at_113 rfl ?_
        cases h
        exact WP.zreturn at_114 rfl (leb rfl) (leb rfl) rfl
    ·
      refine WP.ifN at_96 (XT.i0_eq_f hc10) ?_
      refine WP.iconst (0 : Int32) at_99 rfl ?_
      cases h
      exact WP.zreturn at_100 rfl (leb rfl) (leb rfl) rfl
  ·
    refine WP.ifN at_82 (XT.i0_eq_f hc8) ?_
    refine WP.iconst (0 : Int32) at_85 rfl ?_
    cases h
    exact WP.zreturn at_86 rfl (leb rfl) (leb rfl) rfl
/-! steps of a walk over an open state -/
theorem own_bex {α β : Type} {o : Option α} {g : α → Option β} {b : β} (h : o.bind g = some b) : ∃ c, o = some c ∧ g c = some b := by
  cases o with
  | none => cases h
  | some c => exact ⟨c, rfl, h⟩
theorem own_sa {β : Type} {t : St} {f : Nat} {i : Int32} {k : Nat} {x : Int32} {G : St → Option β} {r : Option β} (hi : i.toInt = k) (h : k < (gA t f).length) (e : G (sA t f ((gA t f).set k x)) = r) : (wrA t f i x).bind G = r := by
  rw [wrA_of x hi h]; exact e
theorem own_sb {β : Type} {t : St} {f : Nat} {i : Int32} {k : Nat} {x : Int64} {G : St → Option β} {r : Option β} (hi : i.toInt = k) (h : k < (gB t f).length) (e : G (sB t f ((gB t f).set k x)) = r) : (wrB t f i x).bind G = r := by
  rw [wrB_of x hi h]; exact e
theorem own_rr {α β : Type} {xs : List α} {i : Int32} {k : Nat} {x : α} {G : α → Option β} {r : Option β} (hi : i.toInt = k) (h : xs[k]? = some x) (e : G x = r) : (rd xs i).bind G = r := by
  rw [rd_of hi h]; exact e
theorem own_bs {α β : Type} {o : Option α} {x : α} {G : α → Option β} {r : Option β} (h : o = some x) (e : G x = r) : o.bind G = r := by
  rw [h]; exact e

set_option maxRecDepth 100000
set_option maxHeartbeats 0
def own_vw (l : List Int32) (s : St) : List (List Int32) × List (List Int64) := ([l, [gI s 0, gI s 1, gI s 2, gI s 3], gA s 0, gA s 1, gA s 2, gA s 3, gA s 4, gA s 6, gA s 7, gA s 8, gA s 9, gA s 10, gA s 11, gA s 12, gA s 13], [[gJ s 0, gJ s 1, gJ s 2], gB s 0, gB s 1, gB s 2])
def own_pre : Option (List (List Int32) × List (List Int64)) := (f_init 600 2 4).bind fun c6 => (f_openAccount 600 0 (-1) 4 0 c6).bind fun c7 => (f_openAccount 600 1 (-1) 0 1 c7.2).bind fun c9 => (f_openAccount 600 2 (-1) 0 1 c9.2).bind fun c11 => (f_openAccount 600 3 (-1) 1 1 c11.2).bind fun c13 => (f_setSpecial 0 0 c13.2).bind fun c15 => some (own_vw [c7.1, c9.1, c11.1, c13.1, c15.1] c15.2)
theorem own_pre_e : own_pre = some ([[0, 0, 0, 0, 0], [2, 4, 0, 0], List.replicate 4 1 ++ List.replicate 28 0, List.replicate 32 (-1), [4, 0, 0, 1] ++ List.replicate 28 0, [0, 1, 1, 1] ++ List.replicate 28 0, List.replicate 32 0, List.replicate 32 0, List.replicate 4 100, List.replicate 4 0, List.replicate 4 0, List.replicate 4 0, List.replicate 4 0, List.replicate 64 0, List.replicate 64 0], [[0, 0, 0], List.replicate 384 0, List.replicate 384 0, List.replicate 4 0]) := by decide +kernel
abbrev own_Ba (s : St) : Prop := gA s 0 = List.replicate 4 1 ++ List.replicate 28 0 ∧ gA s 1 = List.replicate 32 (-1) ∧ gA s 2 = [4, 0, 0, 1] ++ List.replicate 28 0 ∧ gA s 3 = [0, 1, 1, 1] ++ List.replicate 28 0 ∧ gA s 4 = List.replicate 32 0 ∧ gA s 6 = List.replicate 32 0 ∧ gA s 7 = List.replicate 4 100 ∧ gA s 8 = List.replicate 4 0 ∧ gA s 9 = List.replicate 4 0 ∧ gA s 10 = List.replicate 4 0 ∧ gA s 11 = List.replicate 4 0 ∧ gA s 12 = List.replicate 64 0 ∧ gA s 13 = List.replicate 64 0 ∧ gB s 0 = List.replicate 384 0 ∧ gB s 1 = List.replicate 384 0 ∧ gB s 2 = List.replicate 4 0 ∧ gI s 0 = 2 ∧ gI s 1 = 4 ∧ gI s 2 = 0 ∧ gI s 3 = 0 ∧ gJ s 0 = 0 ∧ gJ s 1 = 0 ∧ gJ s 2 = 0
theorem own_pre_x : ∃ c6 c7 c9 c11 c13 c15, f_init 600 2 4 = some c6 ∧ f_openAccount 600 0 (-1) 4 0 c6 = some (0, c7) ∧ f_openAccount 600 1 (-1) 0 1 c7 = some (0, c9) ∧ f_openAccount 600 2 (-1) 0 1 c9 = some (0, c11) ∧ f_openAccount 600 3 (-1) 1 1 c11 = some (0, c13) ∧ f_setSpecial 0 0 c13 = some (0, c15) ∧ own_Ba c15 := by
  have h := own_pre_e
  unfold own_pre at h
  obtain ⟨c6, e6, h⟩ := own_bex h
  obtain ⟨c7, e7, h⟩ := own_bex h
  obtain ⟨c9, e9, h⟩ := own_bex h
  obtain ⟨c11, e11, h⟩ := own_bex h
  obtain ⟨c13, e13, h⟩ := own_bex h
  obtain ⟨c15, e15, h⟩ := own_bex h
  obtain ⟨a7, s7⟩ := c7
  obtain ⟨a9, s9⟩ := c9
  obtain ⟨a11, s11⟩ := c11
  obtain ⟨a13, s13⟩ := c13
  obtain ⟨a15, s15⟩ := c15
  have h := Option.some.inj h
  unfold own_vw at h
  simp only [Prod.mk.injEq, List.cons.injEq, and_true] at h
  obtain ⟨⟨⟨h7, h9, h11, h13, h15⟩, ⟨i0, i1, i2, i3⟩, k0, k1, k2, k3, k4, k6, k7, k8, k9, k10, k11, k12, k13⟩, ⟨j0, j1, j2⟩, m0, m1, m2⟩ := h
  subst h7 h9 h11 h13 h15
  exact ⟨c6, s7, s9, s11, s13, s15, e6, e7, e9, e11, e13, e15, k0, k1, k2, k3, k4, k6, k7, k8, k9, k10, k11, k12, k13, m0, m1, m2, i0, i1, i2, i3, j0, j1, j2⟩
theorem own_sr (r : Int32) (s : St) (h0 : gI s 0 = 2) (h7 : (gA s 7).length = 4) (r1 : ¬ r < 1) (r2 : ¬ 100000 < r) : f_setRate 1 r s = some (0, sA s 7 ((gA s 7).set 1 r)) := by
  unfold f_setRate
  refine own_bs (x := 1) ?_ ?_
  · unfold f_isForeignCurrency f_isForeignCurrency_18
    rw [h0]; rfl
  rw [if_neg (by decide)]
  refine own_bs (x := 1) ?_ ?_
  · unfold f_isValidRate f_isValidRate_17
    rw [if_neg r1, if_neg r2]; rfl
  rw [if_neg (by decide)]
  exact own_sa (k := 1) (by decide) (by omega) rfl
theorem own_pd (p : Nat) (hp : p < 12) (s : St) : f_isPeriod (Int32.ofNat p) s = some 1 := by
  unfold f_isPeriod f_isPeriod_15
  rw [if_neg (ofN_nn (by omega)), if_pos ((ofN_ltL (m := 12) (by omega) (by decide)).mpr hp)]; rfl
theorem own_bj (p : Nat) (hp : p < 12) (s : St) (h2 : gI s 2 = 0) (h8 : gA s 8 = List.replicate 4 0) (h9 : (gA s 9).length = 4) (h10 : (gA s 10).length = 4) (h11 : (gA s 11).length = 4) : f_beginJournal 0 (Int32.ofNat p) 0 s = some (0, sA (sA (sA (sA s 8 ((gA s 8).set 0 1)) 9 ((gA s 9).set 0 (Int32.ofNat p))) 10 ((gA s 10).set 0 0)) 11 ((gA s 11).set 0 0)) := by
  unfold f_beginJournal
  refine own_bs (x := 1) rfl ?_
  rw [if_neg (by decide)]
  refine own_rr (k := 0) (by decide) (by rw [h8]; rfl) ?_
  rw [if_pos rfl, own_pd p hp, Option.bind_some, if_neg (by decide), h2, if_neg (ofN_nn (by omega)), if_pos rfl]
  unfold f_beginJournal_57 f_beginJournal_85
  refine own_sa (k := 0) (by decide) (by rw [h8]; decide) ?_
  refine own_sa (k := 0) (by decide) (show 0 < (gA s 9).length by omega) ?_
  rw [if_pos rfl]
  refine own_sa (k := 0) (by decide) (show 0 < (gA s 10).length by omega) ?_
  exact own_sa (k := 0) (by decide) (show 0 < (gA s 11).length by omega) rfl
theorem own_al (k a : Nat) (hk : k < 4) (ha : a < 4) (x : Int32) (s : St) (h1 : gI s 1 = 4) (h8 : (gA s 8)[0]? = some 1) (h0 : gA s 0 = List.replicate 4 1 ++ List.replicate 28 0) (h4 : gA s 4 = List.replicate 32 0) (h11 : (gA s 11)[0]? = some (Int32.ofNat k)) (l12 : (gA s 12).length = 64) (l13 : (gA s 13).length = 64) (x0 : ¬ x = 0) (x1 : ¬ x < -1000000) (x2 : ¬ 1000000 < x) :
    f_addLine 0 (Int32.ofNat a) x s = some (0, sA (sA (sA s 12 ((gA s 12).set k (Int32.ofNat a))) 13 ((gA s 13).set k x)) 11 ((gA s 11).set 0 (Int32.ofNat (k + 1)))) := by
  have l11 := (List.getElem?_eq_some_iff.mp h11).1
  have ia : (Int32.ofNat a).toInt = a := ofN_int (by omega)
  unfold f_addLine
  refine own_bs (x := 1) rfl ?_
  rw [if_neg (by decide)]
  refine own_rr (k := 0) (by decide) h8 ?_
  rw [if_neg (by decide)]
  refine own_bs (x := 1) ?_ ?_
  · unfold f_isOpenAccount f_isOpenAccount_22
    refine own_bs (x := 1) ?_ ?_
    · unfold f_isAccountId f_isAccountId_15
      rw [if_neg (ofN_nn (by omega)), if_pos ((ofN_ltL (m := 32) (by omega) (by decide)).mpr (by omega))]; rfl
    rw [if_neg (by decide)]
    refine own_rr ia (x := 1) ?_ ?_
    · rw [h0, List.getElem?_append_left (by rw [List.length_replicate]; exact ha)]; exact rep_get 1 ha
    rw [if_neg (by decide)]; rfl
  rw [if_neg (by decide)]
  refine own_bs (x := 1) ?_ ?_
  · unfold f_isLeaf f_isLeaf_14
    refine own_rr ia (x := 0) ?_ ?_
    · rw [h4]; exact rep_get 0 (by omega)
    rw [if_pos rfl]; rfl
  rw [if_neg (by decide)]
  refine own_bs (x := 1) ?_ ?_
  · unfold f_isValidAmount f_isValidAmount_23
    rw [if_neg x0, if_neg x1, if_neg x2]; rfl
  rw [if_neg (by decide)]
  refine own_rr (k := 0) (by decide) h11 ?_
  rw [h1, if_pos ((ofN_ltL (m := 4) (by omega) (by decide)).mpr hk)]
  refine own_bs ?_ rfl
  unfold f_appendLine
  refine own_rr (k := 0) (by decide) h11 ?_
  rw [if_neg (ofN_nn (by omega)), if_pos ((ofN_ltL (m := 16) (by omega) (by decide)).mpr (by omega))]
  have ik : ((0 : Int32) * 16 + Int32.ofNat k).toInt = k := by
    rw [show (0 : Int32) * 16 = 0 from by decide, Int32.zero_add]; exact ofN_int (by omega)
  refine own_bs (x := (0 : Int32) * 16 + Int32.ofNat k) rfl ?_
  refine own_sa ik (by omega) ?_
  refine own_sa ik (show k < (gA s 13).length by omega) ?_
  refine own_sa (k := 0) (by decide) (show 0 < (gA s 11).length by omega) ?_
  rw [ofN_succ]; rfl
/-- staged -/
abbrev own_Sg (s : St) (x y z r : Int32) (p : Nat) : Prop := gA s 0 = List.replicate 4 1 ++ List.replicate 28 0 ∧ gA s 1 = List.replicate 32 (-1) ∧ gA s 3 = [0, 1, 1, 1] ++ List.replicate 28 0 ∧ gA s 4 = List.replicate 32 0 ∧ gA s 6 = List.replicate 32 0 ∧ (gA s 7)[1]? = some r ∧ gA s 8 = (List.replicate 4 0).set 0 1 ∧ gA s 9 = (List.replicate 4 0).set 0 (Int32.ofNat p) ∧ gA s 10 = List.replicate 4 0 ∧ gA s 11 = [3, 0, 0, 0] ∧ (gA s 12)[0]? = some 1 ∧ (gA s 12)[1]? = some 2 ∧ (gA s 12)[2]? = some 3 ∧ (gA s 13)[0]? = some x ∧ (gA s 13)[1]? = some y ∧ (gA s 13)[2]? = some z ∧ gB s 0 = List.replicate 384 0 ∧ gB s 1 = List.replicate 384 0 ∧ gB s 2 = List.replicate 4 0 ∧ gI s 0 = 2 ∧ gI s 2 = 0 ∧ gI s 3 = 0 ∧ gJ s 0 = 0 ∧ gJ s 1 = 0
theorem own_stage (s : St) (x y z r : Int32) (p : Nat) (hp : p < 12) (h : own_Ba s) (r1 : ¬ r < 1) (r2 : ¬ 100000 < r) (x0 : ¬ x = 0) (x1 : ¬ x < -1000000) (x2 : ¬ 1000000 < x) (y0 : ¬ y = 0) (y1 : ¬ y < -1000000) (y2 : ¬ 1000000 < y) (z0 : ¬ z = 0) (z1 : ¬ z < -1000000) (z2 : ¬ 1000000 < z) :
    ∃ c17 c19 c21 c23 c25, f_setRate 1 r s = some (0, c17) ∧ f_beginJournal 0 (Int32.ofNat p) 0 c17 = some (0, c19) ∧ f_addLine 0 1 x c19 = some (0, c21) ∧ f_addLine 0 2 y c21 = some (0, c23) ∧ f_addLine 0 3 z c23 = some (0, c25) ∧ own_Sg c25 x y z r p := by
  obtain ⟨k0, k1, k2, k3, k4, k6, k7, k8, k9, k10, k11, k12, k13, m0, m1, m2, i0, i1, i2, i3, j0, j1, j2⟩ := h
  have e17 := own_sr r s i0 (by rw [k7]; rfl) r1 r2
  obtain ⟨c17, h17⟩ : ∃ c, c = sA s 7 ((gA s 7).set 1 r) := ⟨_, rfl⟩
  rw [← h17] at e17
  have A17 : ∀ j, gA c17 j = if j = 7 then (gA s 7).set 1 r else gA s j := fun j => by rw [h17, gA_sA]
  have B17 : ∀ j, gB c17 j = gB s j := fun j => by rw [h17, gB_sA]
  have I17 : ∀ j, gI c17 j = gI s j := fun j => by rw [h17, gI_sA]
  have J17 : ∀ j, gJ c17 j = gJ s j := fun j => by rw [h17]; rfl
  clear h17
  have e19 := own_bj p hp c17 (by rw [I17]; exact i2) ((A17 8).trans k8) (by rw [show gA c17 9 = gA s 9 from A17 9, k9]; rfl) (by rw [show gA c17 10 = gA s 10 from A17 10, k10]; rfl) (by rw [show gA c17 11 = gA s 11 from A17 11, k11]; rfl)
  obtain ⟨c19, h19⟩ : ∃ c, c = sA (sA (sA (sA c17 8 ((gA c17 8).set 0 1)) 9 ((gA c17 9).set 0 (Int32.ofNat p))) 10 ((gA c17 10).set 0 0)) 11 ((gA c17 11).set 0 0) := ⟨_, rfl⟩
  rw [← h19] at e19
  have A19 : ∀ j, gA c19 j = if j = 11 then (gA c17 11).set 0 0 else if j = 10 then (gA c17 10).set 0 0 else if j = 9 then (gA c17 9).set 0 (Int32.ofNat p) else if j = 8 then (gA c17 8).set 0 1 else gA c17 j := fun j => by rw [h19, gA_sA, gA_sA, gA_sA, gA_sA]
  have B19 : ∀ j, gB c19 j = gB s j := fun j => by rw [h19, gB_sA, gB_sA, gB_sA, gB_sA, B17]
  have I19 : ∀ j, gI c19 j = gI s j := fun j => by rw [h19, gI_sA, gI_sA, gI_sA, gI_sA, I17]
  have J19 : ∀ j, gJ c19 j = gJ s j := fun j => by rw [h19, ← J17 j]; rfl
  clear h19
  have q0 : gA c19 0 = gA s 0 := (A19 0).trans (A17 0)
  have q1 : gA c19 1 = gA s 1 := (A19 1).trans (A17 1)
  have q3 : gA c19 3 = gA s 3 := (A19 3).trans (A17 3)
  have q4 : gA c19 4 = gA s 4 := (A19 4).trans (A17 4)
  have q6 : gA c19 6 = gA s 6 := (A19 6).trans (A17 6)
  have q7 : gA c19 7 = (gA s 7).set 1 r := (A19 7).trans (A17 7)
  have q8 : gA c19 8 = (List.replicate 4 0).set 0 1 := (A19 8).trans (by rw [if_neg (by decide), if_neg (by decide), if_neg (by decide), if_pos rfl, show gA c17 8 = gA s 8 from A17 8, k8])
  have q9 : gA c19 9 = (List.replicate 4 0).set 0 (Int32.ofNat p) := (A19 9).trans (by rw [if_neg (by decide), if_neg (by decide), if_pos rfl, show gA c17 9 = gA s 9 from A17 9, k9])
  have q10 : gA c19 10 = List.replicate 4 0 := (A19 10).trans (by rw [if_neg (by decide), if_pos rfl, show gA c17 10 = gA s 10 from A17 10, k10]; rfl)
  have q11 : gA c19 11 = List.replicate 4 0 := (A19 11).trans (by rw [if_pos rfl, show gA c17 11 = gA s 11 from A17 11, k11]; rfl)
  have q12 : gA c19 12 = List.replicate 64 0 := ((A19 12).trans (A17 12)).trans k12
  have q13 : gA c19 13 = List.replicate 64 0 := ((A19 13).trans (A17 13)).trans k13
  -- three lines
  have e21 := own_al 0 1 (by decide) (by decide) x c19 (by rw [I19]; exact i1) (by rw [q8]; rfl) (by rw [q0]; exact k0) (by rw [q4]; exact k4) (by rw [q11]; rfl) (by rw [q12, List.length_replicate]) (by rw [q13, List.length_replicate]) x0 x1 x2
  obtain ⟨c21, h21⟩ : ∃ c, c = sA (sA (sA c19 12 ((gA c19 12).set 0 (Int32.ofNat 1))) 13 ((gA c19 13).set 0 x)) 11 ((gA c19 11).set 0 (Int32.ofNat (0 + 1))) := ⟨_, rfl⟩
  rw [← h21] at e21
  have A21 : ∀ j, gA c21 j = if j = 11 then (gA c19 11).set 0 (Int32.ofNat (0 + 1)) else if j = 13 then (gA c19 13).set 0 x else if j = 12 then (gA c19 12).set 0 (Int32.ofNat 1) else gA c19 j := fun j => by rw [h21, gA_sA, gA_sA, gA_sA]
  have B21 : ∀ j, gB c21 j = gB s j := fun j => by rw [h21, gB_sA, gB_sA, gB_sA, B19]
  have I21 : ∀ j, gI c21 j = gI s j := fun j => by rw [h21, gI_sA, gI_sA, gI_sA, I19]
  have J21 : ∀ j, gJ c21 j = gJ s j := fun j => by rw [h21, ← J19 j]; rfl
  clear h21
  have r11 : gA c21 11 = [1, 0, 0, 0] := (A21 11).trans (by rw [if_pos rfl, q11]; rfl)
  have r12 : gA c21 12 = (List.replicate 64 0).set 0 1 := (A21 12).trans (by rw [if_neg (by decide), if_neg (by decide), if_pos rfl, q12]; rfl)
  have r13 : gA c21 13 = (List.replicate 64 0).set 0 x := (A21 13).trans (by rw [if_neg (by decide), if_pos rfl, q13])
  have e23 := own_al 1 2 (by decide) (by decide) y c21 (by rw [I21]; exact i1) (by rw [show gA c21 8 = gA c19 8 from A21 8, q8]; rfl) (by rw [show gA c21 0 = gA c19 0 from A21 0, q0]; exact k0) (by rw [show gA c21 4 = gA c19 4 from A21 4, q4]; exact k4) (by rw [r11]; rfl) (by rw [r12, List.length_set, List.length_replicate]) (by rw [r13, List.length_set, List.length_replicate]) y0 y1 y2
  obtain ⟨c23, h23⟩ : ∃ c, c = sA (sA (sA c21 12 ((gA c21 12).set 1 (Int32.ofNat 2))) 13 ((gA c21 13).set 1 y)) 11 ((gA c21 11).set 0 (Int32.ofNat (1 + 1))) := ⟨_, rfl⟩
  rw [← h23] at e23
  have A23 : ∀ j, gA c23 j = if j = 11 then (gA c21 11).set 0 (Int32.ofNat (1 + 1)) else if j = 13 then (gA c21 13).set 1 y else if j = 12 then (gA c21 12).set 1 (Int32.ofNat 2) else gA c21 j := fun j => by rw [h23, gA_sA, gA_sA, gA_sA]
  have B23 : ∀ j, gB c23 j = gB s j := fun j => by rw [h23, gB_sA, gB_sA, gB_sA, B21]
  have I23 : ∀ j, gI c23 j = gI s j := fun j => by rw [h23, gI_sA, gI_sA, gI_sA, I21]
  have J23 : ∀ j, gJ c23 j = gJ s j := fun j => by rw [h23, ← J21 j]; rfl
  clear h23
  have t11 : gA c23 11 = [2, 0, 0, 0] := (A23 11).trans (by rw [if_pos rfl, r11]; rfl)
  have t12 : gA c23 12 = ((List.replicate 64 0).set 0 1).set 1 2 := (A23 12).trans (by rw [if_neg (by decide), if_neg (by decide), if_pos rfl, r12]; rfl)
  have t13 : gA c23 13 = ((List.replicate 64 0).set 0 x).set 1 y := (A23 13).trans (by rw [if_neg (by decide), if_pos rfl, r13])
  have o23 : ∀ j, j ≠ 11 → j ≠ 13 → j ≠ 12 → gA c23 j = gA c19 j := fun j n1 n2 n3 => by rw [A23, if_neg n1, if_neg n2, if_neg n3, A21, if_neg n1, if_neg n2, if_neg n3]
  have e25 := own_al 2 3 (by decide) (by decide) z c23 (by rw [I23]; exact i1) (by rw [o23 8 (by decide) (by decide) (by decide), q8]; rfl) (by rw [o23 0 (by decide) (by decide) (by decide), q0]; exact k0) (by rw [o23 4 (by decide) (by decide) (by decide), q4]; exact k4) (by rw [t11]; rfl) (by rw [t12, List.length_set, List.length_set, List.length_replicate]) (by rw [t13, List.length_set, List.length_set, List.length_replicate]) z0 z1 z2
  obtain ⟨c25, h25⟩ : ∃ c, c = sA (sA (sA c23 12 ((gA c23 12).set 2 (Int32.ofNat 3))) 13 ((gA c23 13).set 2 z)) 11 ((gA c23 11).set 0 (Int32.ofNat (2 + 1))) := ⟨_, rfl⟩
  rw [← h25] at e25
  have A25 : ∀ j, gA c25 j = if j = 11 then (gA c23 11).set 0 (Int32.ofNat (2 + 1)) else if j = 13 then (gA c23 13).set 2 z else if j = 12 then (gA c23 12).set 2 (Int32.ofNat 3) else gA c23 j := fun j => by rw [h25, gA_sA, gA_sA, gA_sA]
  have B25 : ∀ j, gB c25 j = gB s j := fun j => by rw [h25, gB_sA, gB_sA, gB_sA, B23]
  have I25 : ∀ j, gI c25 j = gI s j := fun j => by rw [h25, gI_sA, gI_sA, gI_sA, I23]
  have J25 : ∀ j, gJ c25 j = gJ s j := fun j => by rw [h25, ← J23 j]; rfl
  clear h25
  have o25 : ∀ j, j ≠ 11 → j ≠ 13 → j ≠ 12 → gA c25 j = gA c19 j := fun j n1 n2 n3 => by rw [A25, if_neg n1, if_neg n2, if_neg n3, o23 j n1 n2 n3]
  have u12 : gA c25 12 = (((List.replicate 64 0).set 0 1).set 1 2).set 2 3 := (A25 12).trans (by rw [if_neg (by decide), if_neg (by decide), if_pos rfl, t12]; rfl)
  have u13 : gA c25 13 = (((List.replicate 64 0).set 0 x).set 1 y).set 2 z := (A25 13).trans (by rw [if_neg (by decide), if_pos rfl, t13])
  refine ⟨c17, c19, c21, c23, c25, e17, e19, e21, e23, e25, ?_, ?_, ?_, ?_, ?_, ?_, ?_, ?_, ?_, ?_, ?_, ?_, ?_, ?_, ?_, ?_, ?_, ?_, ?_, ?_, ?_, ?_, ?_, ?_⟩
  · rw [o25 0 (by decide) (by decide) (by decide), q0]; exact k0
  · rw [o25 1 (by decide) (by decide) (by decide), q1]; exact k1
  · rw [o25 3 (by decide) (by decide) (by decide), q3]; exact k3
  · rw [o25 4 (by decide) (by decide) (by decide), q4]; exact k4
  · rw [o25 6 (by decide) (by decide) (by decide), q6]; exact k6
  · rw [o25 7 (by decide) (by decide) (by decide), q7, k7]; rfl
  · rw [o25 8 (by decide) (by decide) (by decide), q8]
  · rw [o25 9 (by decide) (by decide) (by decide), q9]
  · rw [o25 10 (by decide) (by decide) (by decide), q10]
  · exact (A25 11).trans (by rw [if_pos rfl, t11]; rfl)
  · rw [u12]; rfl
  · rw [u12]; rfl
  · rw [u12]; rfl
  · rw [u13]; rfl
  · rw [u13]; rfl
  · rw [u13]; rfl
  · rw [B25]; exact m0
  · rw [B25]; exact m1
  · rw [B25]; exact m2
  · rw [I25]; exact i0
  · rw [I25]; exact i2
  · rw [I25]; exact i3
  · rw [J25]; exact j0
  · rw [J25]; exact j1
/-! posting -/
def own_rnd (x : Int64) (r : Int32) : Int64 := if x * r.toInt64 < 0 then -((-(x * r.toInt64) + 50) / 100) else (x * r.toInt64 + 50) / 100
theorem own_rr1 (x : Int64) (r : Int32) (s : St) : f_roundRate x r s = some (own_rnd x r) := by
  unfold f_roundRate own_rnd lt
  dsimp only
  split <;> rfl
theorem own_rr2 (x : Int64) (r : Int32) : f_L_round x r = some (own_rnd x r) := by
  unfold f_L_round own_rnd lt
  dsimp only
  split <;> rfl
/-- a staged line -/
theorem own_lf (s : St) (k a : Nat) (x r : Int32) (hk : k < 4) (ha : 1 ≤ a ∧ a ≤ 3) (h12 : (gA s 12)[k]? = some (Int32.ofNat a)) (h3 : gA s 3 = [0, 1, 1, 1] ++ List.replicate 28 0) (h7 : (gA s 7)[1]? = some r) (h13 : (gA s 13)[k]? = some x) : f_lineFunc 0 (Int32.ofNat k) s = some (own_rnd x.toInt64 r) := by
  have ik : ((0 : Int32) * 16 + Int32.ofNat k).toInt = k := by
    rw [show (0 : Int32) * 16 = 0 from by decide, Int32.zero_add]; exact ofN_int (by omega)
  have c1 : (gA s 3)[a]? = some 1 := by
    rw [h3]
    rcases (by omega : a = 1 ∨ a = 2 ∨ a = 3) with rfl | rfl | rfl <;> rfl
  unfold f_lineFunc
  refine own_bs (x := (0 : Int32) * 16 + Int32.ofNat k) rfl ?_
  refine own_rr ik h12 ?_
  refine own_rr (ofN_int (by omega)) c1 ?_
  refine own_bs (x := r) ?_ ?_
  · unfold f_rateOf
    rw [if_neg (by decide), if_pos (by decide)]
    exact own_rr (k := 1) (by decide) h7 rfl
  refine own_rr ik h13 ?_
  rw [own_rr1]; rfl
theorem own_jr (n : Nat) (s : St) (x y z r : Int32) (p : Nat) (h11 : gA s 11 = [3, 0, 0, 0]) (a0 : (gA s 12)[0]? = some 1) (a1 : (gA s 12)[1]? = some 2) (a2 : (gA s 12)[2]? = some 3) (b0 : (gA s 13)[0]? = some x) (b1 : (gA s 13)[1]? = some y) (b2 : (gA s 13)[2]? = some z) (h3 : gA s 3 = [0, 1, 1, 1] ++ List.replicate 28 0) (h7 : (gA s 7)[1]? = some r) : f_journalRounding (n + 10) 0 s = some (0 + own_rnd x.toInt64 r + own_rnd y.toInt64 r + own_rnd z.toInt64 r) := by
  have l0 : f_lineFunc 0 0 s = _ := own_lf s 0 1 x r (by decide) (by decide) a0 h3 h7 b0
  have l1 : f_lineFunc 0 1 s = _ := own_lf s 1 2 y r (by decide) (by decide) a1 h3 h7 b1
  have l2 : f_lineFunc 0 2 s = _ := own_lf s 2 3 z r (by decide) (by decide) a2 h3 h7 b2
  have un : ∀ m v2 v5, f_journalRounding_12 (m + 1) 0 v2 3 v5 s = if v5 < 3 then (f_lineFunc 0 v5 s).bind fun c2 => f_journalRounding_12 m 0 (v2 + c2) 3 (v5 + 1) s else some v2 := fun _ _ _ => rfl
  unfold f_journalRounding f_stagedLines
  rw [rd_of (k := 0) (by decide) (show (gA s 11)[0]? = some 3 by rw [h11]; rfl), Option.bind_some, if_neg (by decide), if_neg (by decide), Option.bind_some]
  rw [un (n + 9), if_pos (by decide), l0, Option.bind_some, show (0 : Int32) + 1 = 1 from by decide, un (n + 8), if_pos (by decide), l1, Option.bind_some, show (1 : Int32) + 1 = 2 from by decide, un (n + 7), if_pos (by decide), l2, Option.bind_some, show (2 : Int32) + 1 = 3 from by decide, un (n + 6), if_neg (by decide)]
theorem own_hp (n : Nat) (s : St) (h11 : gA s 11 = [3, 0, 0, 0]) (a0 : (gA s 12)[0]? = some 1) (a1 : (gA s 12)[1]? = some 2) (a2 : (gA s 12)[2]? = some 3) (h4 : gA s 4 = List.replicate 32 0) : f_journalHasParent (n + 10) 0 s = some 0 := by
  have lf : ∀ a, a < 32 → f_isLeaf (Int32.ofNat a) s = some 1 := fun a ha => by
    unfold f_isLeaf f_isLeaf_14
    refine own_rr (ofN_int (by omega)) (x := 0) ?_ ?_
    · rw [h4]; exact rep_get 0 ha
    rw [if_pos rfl]; rfl
  have un : ∀ m v3, f_journalHasParent_8 (m + 1) 0 3 v3 s = if v3 < 3 then (rd (gA s 12) (0 * 16 + v3)).bind fun x3 => (f_isLeaf x3 s).bind fun c4 => if c4 = 0 then some 1 else f_journalHasParent_8 m 0 3 (v3 + 1) s else some 0 := fun _ _ => rfl
  unfold f_journalHasParent f_stagedLines
  rw [rd_of (k := 0) (by decide) (show (gA s 11)[0]? = some 3 by rw [h11]; rfl), Option.bind_some, if_neg (by decide), if_neg (by decide), Option.bind_some]
  rw [un (n + 9), if_pos (by decide), rd_of (k := 0) (by decide) a0, Option.bind_some, show f_isLeaf 1 s = some 1 from lf 1 (by decide), Option.bind_some, if_neg (by decide), show (0 : Int32) + 1 = 1 from by decide, un (n + 8), if_pos (by decide), rd_of (k := 1) (by decide) a1, Option.bind_some, show f_isLeaf 2 s = some 1 from lf 2 (by decide), Option.bind_some, if_neg (by decide), show (1 : Int32) + 1 = 2 from by decide, un (n + 7), if_pos (by decide), rd_of (k := 2) (by decide) a2, Option.bind_some, show f_isLeaf 3 s = some 1 from lf 3 (by decide), Option.bind_some, if_neg (by decide), show (2 : Int32) + 1 = 3 from by decide, un (n + 6), if_neg (by decide)]
theorem own_cc (n : Nat) (s : St) (h : gB s 2 = List.replicate 4 0) : f_clearCurrencyTotals (n + 10) s = some s := by
  have un : ∀ m v, f_clearCurrencyTotals_2 (m + 1) v s = if v < 4 then (wrB s 2 v 0).bind fun s2 => f_clearCurrencyTotals_2 m (v + 1) s2 else some s := fun _ _ => rfl
  have w : ∀ k, k < 4 → wrB s 2 (Int32.ofNat k) 0 = some s := fun k hk => wrB_nop h hk (by decide)
  unfold f_clearCurrencyTotals
  rw [un (n + 9), if_pos (by decide), show wrB s 2 0 0 = some s from w 0 (by decide), Option.bind_some, show (0 : Int32) + 1 = 1 from by decide, un (n + 8), if_pos (by decide), show wrB s 2 1 0 = some s from w 1 (by decide), Option.bind_some, show (1 : Int32) + 1 = 2 from by decide, un (n + 7), if_pos (by decide), show wrB s 2 2 0 = some s from w 2 (by decide), Option.bind_some, show (2 : Int32) + 1 = 3 from by decide, un (n + 6), if_pos (by decide), show wrB s 2 3 0 = some s from w 3 (by decide), Option.bind_some, show (3 : Int32) + 1 = 4 from by decide, un (n + 5), if_neg (by decide)]
theorem own_tz (n : Nat) (s : St) (v : Int64) (hv : v = 0) (h : gB s 2 = [0, v, 0, 0]) : f_currencyTotalsZero (n + 10) s = some 1 := by
  have un : ∀ m v, f_currencyTotalsZero_2 (m + 1) v s = if v < 4 then (rd (gB s 2) v).bind fun x2 => if x2 = 0 then f_currencyTotalsZero_2 m (v + 1) s else some 0 else some 1 := fun _ _ => rfl
  unfold f_currencyTotalsZero
  subst hv
  rw [h] at un
  rw [un (n + 9), if_pos (by decide), rd_of (k := 0) (x := 0) (by decide) rfl, Option.bind_some, if_pos rfl, show (0 : Int32) + 1 = 1 from by decide, un (n + 8), if_pos (by decide), rd_of (k := 1) (x := 0) (by decide) rfl, Option.bind_some, if_pos rfl, show (1 : Int32) + 1 = 2 from by decide, un (n + 7), if_pos (by decide), rd_of (k := 2) (x := 0) (by decide) rfl, Option.bind_some, if_pos rfl, show (2 : Int32) + 1 = 3 from by decide, un (n + 6), if_pos (by decide), rd_of (k := 3) (x := 0) (by decide) rfl, Option.bind_some, if_pos rfl, show (3 : Int32) + 1 = 4 from by decide, un (n + 5), if_neg (by decide)]
theorem own_jb1 (k12 : Int32 → Int32 → Int32 → St → Option (Int32 × St)) (m : Nat) (s : St) (k a : Nat) (x : Int32) (u : Int64) (hk : k < 3) (ha : 1 ≤ a ∧ a ≤ 3) (h12 : (gA s 12)[k]? = some (Int32.ofNat a)) (h3 : gA s 3 = [0, 1, 1, 1] ++ List.replicate 28 0) (h13 : (gA s 13)[k]? = some x) (h2 : gB s 2 = [0, u, 0, 0]) : g_journalBalanced_12 k12 m 0 3 (Int32.ofNat k) s = k12 0 3 (Int32.ofNat (k + 1)) (sB s 2 [0, u + x.toInt64, 0, 0]) := by
  have ik : ((0 : Int32) * 16 + Int32.ofNat k).toInt = k := by
    rw [show (0 : Int32) * 16 = 0 from by decide, Int32.zero_add]; exact ofN_int (by omega)
  have c1 : (gA s 3)[a]? = some 1 := by
    rw [h3]
    rcases (by omega : a = 1 ∨ a = 2 ∨ a = 3) with rfl | rfl | rfl <;> rfl
  unfold g_journalBalanced_12 f_journalBalanced_73 lt
  rw [if_pos ((ofN_ltL (m := 3) (by omega) (by decide)).mpr hk)]
  refine own_bs (x := (0 : Int32) * 16 + Int32.ofNat k) rfl ?_
  refine own_rr ik h12 ?_
  refine own_rr (ofN_int (by omega)) c1 ?_
  rw [if_neg (by decide), if_pos (by decide)]
  refine own_rr (k := 1) (by decide) (by rw [h2]; rfl) ?_
  refine own_rr ik h13 ?_
  refine own_sb (k := 1) (by decide) (by rw [h2]; show 1 < 4; decide) ?_
  rw [h2, ofN_succ]; rfl
theorem own_jb (n : Nat) (s : St) (x y z : Int32) (h11 : gA s 11 = [3, 0, 0, 0]) (a0 : (gA s 12)[0]? = some 1) (a1 : (gA s 12)[1]? = some 2) (a2 : (gA s 12)[2]? = some 3) (b0 : (gA s 13)[0]? = some x) (b1 : (gA s 13)[1]? = some y) (b2 : (gA s 13)[2]? = some z) (h3 : gA s 3 = [0, 1, 1, 1] ++ List.replicate 28 0) (h2 : gB s 2 = List.replicate 4 0) (hz : 0 + x.toInt64 + y.toInt64 + z.toInt64 = 0) : ∃ L, f_journalBalanced (n + 20) 0 s = some (1, sB s 2 L) := by
  refine ⟨[0, 0 + x.toInt64 + y.toInt64 + z.toInt64, 0, 0], ?_⟩
  have un : ∀ m v3 s, f_journalBalanced_12 (m + 1) 0 3 v3 s = g_journalBalanced_12 (f_journalBalanced_12 m) m 0 3 v3 s := fun _ _ _ => rfl
  have e0 := own_jb1 (f_journalBalanced_12 (n + 19)) (n + 19) s 0 1 x 0 (by decide) (by decide) a0 h3 b0 h2
  have e1 := own_jb1 (f_journalBalanced_12 (n + 18)) (n + 18) (sB s 2 [0, 0 + x.toInt64, 0, 0]) 1 2 y _ (by decide) (by decide) a1 h3 b1 rfl
  have e2 := own_jb1 (f_journalBalanced_12 (n + 17)) (n + 17) (sB s 2 [0, 0 + x.toInt64 + y.toInt64, 0, 0]) 2 3 z _ (by decide) (by decide) a2 h3 b2 rfl
  rw [sB_sB] at e1 e2
  have tz := own_tz (n + 6) (sB s 2 [0, 0 + x.toInt64 + y.toInt64 + z.toInt64, 0, 0]) _ hz rfl
  unfold f_journalBalanced f_stagedLines
  rw [own_cc (n + 10) s h2, Option.bind_some, rd_of (k := 0) (by decide) (show (gA s 11)[0]? = some 3 by rw [h11]; rfl), Option.bind_some, if_neg (by decide), if_neg (by decide), Option.bind_some]
  rw [un (n + 19)]
  refine e0.trans ?_
  rw [un (n + 18)]
  refine e1.trans ?_
  rw [un (n + 17)]
  refine e2.trans ?_
  rw [un (n + 16)]
  unfold g_journalBalanced_12
  rw [if_neg (by decide)]
  refine own_bs tz ?_
  rfl
theorem own_pr (n : Nat) (s : St) (x y z r : Int32) (p : Nat) (hp : p < 12) (h : own_Sg s x y z r p) (hz : 0 + x.toInt64 + y.toInt64 + z.toInt64 = 0) : ∃ L, f_postRefusal (n + 20) 0 s = some (0, sB s 2 L) := by
  obtain ⟨k0, k1, k3, k4, k6, k7, k8, k9, k10, k11, a0, a1, a2, b0, b1, b2, m0, m1, m2, i0, i2, i3, j0, j1⟩ := h
  obtain ⟨L, eb⟩ := own_jb n s x y z k11 a0 a1 a2 b0 b1 b2 k3 m2 hz
  refine ⟨L, ?_⟩
  have ej := own_jr (n + 10) (sB s 2 L) x y z r p k11 a0 a1 a2 b0 b1 b2 k3 k7
  unfold f_postRefusal f_postRefusal_95
  refine own_bs (x := 1) rfl ?_
  rw [if_neg (by decide)]
  refine own_rr (k := 0) (x := 1) (by decide) (by rw [k8]; rfl) ?_
  rw [if_neg (by decide)]
  refine own_rr (k := 0) (x := Int32.ofNat p) (by decide) (by rw [k9]; rfl) ?_
  rw [i2, if_neg (ofN_nn (by omega))]
  refine own_rr (k := 0) (x := 3) (by decide) (by rw [k11]; rfl) ?_
  rw [if_neg (by decide), own_hp (n + 10) s k11 a0 a1 a2 k4, Option.bind_some, if_pos rfl, eb, Option.bind_some]
  dsimp only
  rw [if_neg (by decide)]
  refine own_bs ej ?_
  rw [show gI (sB s 2 L) 3 = 0 from i3]
  split
  · rfl
  · rw [if_neg (by decide)]
theorem own_ap (a p : Nat) (ha : a < 32) (hp : p < 12) (t f u v : Int64) (s : St) (h1 : (gB s 1)[a * 12 + p]? = some u) (h0 : (gB s 0)[a * 12 + p]? = some v) (h6 : (gA s 6).length = 32) : f_apply (Int32.ofNat a) t f (Int32.ofNat p) s = some (sA (sB (sB s 1 ((gB s 1).set (a * 12 + p) (u + t))) 0 ((gB s 0).set (a * 12 + p) (v + f))) 6 ((gA s 6).set a 1)) := by
  have l1 := (List.getElem?_eq_some_iff.mp h1).1
  have l0 := (List.getElem?_eq_some_iff.mp h0).1
  have ic : (Int32.ofNat a * 12 + Int32.ofNat p).toInt = (a * 12 + p : Nat) := by
    have e : Int32.ofNat a * 12 + Int32.ofNat p = Int32.ofNat (a * 12 + p) := by rw [Int32.ofNat_add, Int32.ofNat_mul]; rfl
    rw [e]; exact ofN_int (by omega)
  unfold f_apply
  refine own_bs (x := 1) ?_ ?_
  · unfold f_isAccountId f_isAccountId_15
    rw [if_neg (ofN_nn (by omega)), if_pos ((ofN_ltL (m := 32) (by omega) (by decide)).mpr (by omega))]; rfl
  rw [if_neg (by decide), own_pd p hp, Option.bind_some, if_neg (by decide)]
  refine own_bs (x := Int32.ofNat a * 12 + Int32.ofNat p) rfl ?_
  refine own_rr ic h1 ?_
  refine own_sb ic l1 ?_
  refine own_rr ic h0 ?_
  refine own_sb ic l0 ?_
  exact own_sa (ofN_int (by omega)) (show a < (gA s 6).length by omega) rfl
/-- s' is s with (t, f) moved on account a -/
abbrev own_Mv (s s' : St) (a p : Nat) (t f u v : Int64) : Prop := (∀ j, j ≠ 6 → gA s' j = gA s j) ∧ gA s' 6 = (gA s 6).set a 1 ∧ gB s' 1 = (gB s 1).set (a * 12 + p) (u + t) ∧ gB s' 0 = (gB s 0).set (a * 12 + p) (v + f) ∧ (∀ j, gI s' j = gI s j) ∧ (∀ j, gJ s' j = gJ s j)
theorem own_ap2 (a p : Nat) (ha : a < 32) (hp : p < 12) (t f u v : Int64) (s : St) (h1 : (gB s 1)[a * 12 + p]? = some u) (h0 : (gB s 0)[a * 12 + p]? = some v) (h6 : (gA s 6).length = 32) : ∃ s', own_Mv s s' a p t f u v ∧ f_apply (Int32.ofNat a) t f (Int32.ofNat p) s = some s' := by
  refine ⟨sA (sB (sB s 1 ((gB s 1).set (a * 12 + p) (u + t))) 0 ((gB s 0).set (a * 12 + p) (v + f))) 6 ((gA s 6).set a 1), ⟨?_, rfl, rfl, rfl, fun _ => rfl, fun _ => rfl⟩, own_ap a p ha hp t f u v s h1 h0 h6⟩
  intro j hj
  rw [gA_sA, if_neg hj]; rfl
theorem own_aj1 (s : St) (k a p : Nat) (hk : k < 3) (ha : 1 ≤ a ∧ a ≤ 3) (hp : p < 12) (x r : Int32) (d u v : Int64) (h12 : (gA s 12)[k]? = some (Int32.ofNat a)) (h3 : gA s 3 = [0, 1, 1, 1] ++ List.replicate 28 0) (h7 : (gA s 7)[1]? = some r) (h13 : (gA s 13)[k]? = some x) (h1 : (gB s 1)[a * 12 + p]? = some u) (h0 : (gB s 0)[a * 12 + p]? = some v) (h6 : (gA s 6).length = 32) :
    ∃ s', own_Mv s s' a p x.toInt64 (own_rnd x.toInt64 r) u v ∧ ∀ k10 m, g_applyJournal_10 k10 m 0 (Int32.ofNat p) d 0 3 (Int32.ofNat k) s = k10 0 (Int32.ofNat p) d 0 3 (Int32.ofNat (k + 1)) s' := by
  obtain ⟨s', hm, e⟩ := own_ap2 a p (by omega) hp x.toInt64 (own_rnd x.toInt64 r) u v s h1 h0 h6
  refine ⟨s', hm, fun k10 m => ?_⟩
  have ik : ((0 : Int32) * 16 + Int32.ofNat k).toInt = k := by
    rw [show (0 : Int32) * 16 = 0 from by decide, Int32.zero_add]; exact ofN_int (by omega)
  unfold g_applyJournal_10 f_applyJournal_60 lt
  rw [if_pos ((ofN_ltL (m := 3) (by omega) (by decide)).mpr hk)]
  refine own_bs (x := (0 : Int32) * 16 + Int32.ofNat k) rfl ?_
  refine own_rr ik h13 ?_
  dsimp only
  rw [own_lf s k a x r (by omega) ha h12 h3 h7 h13, Option.bind_some, if_pos rfl]
  refine own_rr ik h12 ?_
  rw [e, Option.bind_some, ofN_succ]
/-- the ledger after the post -/
abbrev own_Po (s R : St) (p : Nat) (x y z : Int32) (f1 f2 f3 g0 count d : Int64) (us : Int32) : Prop := (∀ j, j ≠ 6 → j ≠ 8 → j ≠ 9 → j ≠ 10 → j ≠ 11 → gA R j = gA s j) ∧ (gA R 6)[0]? = some us ∧ (gA R 8)[0]? = some 0 ∧ (gB R 0)[0 * 12 + p]? = some g0 ∧ (gB R 0)[1 * 12 + p]? = some f1 ∧ (gB R 0)[2 * 12 + p]? = some f2 ∧ (gB R 0)[3 * 12 + p]? = some f3 ∧ (gB R 1)[0 * 12 + p]? = some g0 ∧ (gB R 1)[1 * 12 + p]? = some x.toInt64 ∧ (gB R 1)[2 * 12 + p]? = some y.toInt64 ∧ (gB R 1)[3 * 12 + p]? = some z.toInt64 ∧ gJ R 0 = 1 ∧ gJ R 1 = count ∧ gJ R 2 = -d ∧ gI R 0 = 2
theorem own_aj (n : Nat) (s : St) (x y z r : Int32) (p : Nat) (hp : p < 12) (d : Int64) (k3 : gA s 3 = [0, 1, 1, 1] ++ List.replicate 28 0) (k6 : gA s 6 = List.replicate 32 0) (k7 : (gA s 7)[1]? = some r) (k11 : gA s 11 = [3, 0, 0, 0]) (a0 : (gA s 12)[0]? = some 1) (a1 : (gA s 12)[1]? = some 2) (a2 : (gA s 12)[2]? = some 3) (b0 : (gA s 13)[0]? = some x) (b1 : (gA s 13)[1]? = some y) (b2 : (gA s 13)[2]? = some z) (m0 : gB s 0 = List.replicate 384 0) (m1 : gB s 1 = List.replicate 384 0) (i3 : gI s 3 = 0) :
    ∃ s', f_applyJournal (n + 20) 0 (Int32.ofNat p) d 0 s = some s' ∧ (∀ j, j ≠ 6 → gA s' j = gA s j) ∧ (∀ j, gI s' j = gI s j) ∧ (∀ j, gJ s' j = gJ s j) ∧ (gA s' 6)[0]? = some (if d = 0 then 0 else 1) ∧ (gB s' 0)[0 * 12 + p]? = some (if d = 0 then 0 else 0 + -d) ∧ (gB s' 0)[1 * 12 + p]? = some (0 + own_rnd x.toInt64 r) ∧ (gB s' 0)[2 * 12 + p]? = some (0 + own_rnd y.toInt64 r) ∧ (gB s' 0)[3 * 12 + p]? = some (0 + own_rnd z.toInt64 r) ∧ (gB s' 1)[0 * 12 + p]? = some (if d = 0 then 0 else 0 + -d) ∧ (gB s' 1)[1 * 12 + p]? = some (0 + x.toInt64) ∧ (gB s' 1)[2 * 12 + p]? = some (0 + y.toInt64) ∧ (gB s' 1)[3 * 12 + p]? = some (0 + z.toInt64) := by
  have z0 : ∀ c, c < 384 → (gB s 0)[c]? = some 0 := fun c hc => by rw [m0]; exact rep_get 0 hc
  have z1 : ∀ c, c < 384 → (gB s 1)[c]? = some 0 := fun c hc => by rw [m1]; exact rep_get 0 hc
  obtain ⟨t1, ⟨A1, s1, p1, q1, I1, J1⟩, e1⟩ := own_aj1 s 0 1 p (by decide) (by decide) hp x r d 0 0 a0 k3 k7 b0 (z1 _ (by omega)) (z0 _ (by omega)) (by rw [k6, List.length_replicate])
  obtain ⟨t2, ⟨A2, s2, p2, q2, I2, J2⟩, e2⟩ := own_aj1 t1 1 2 p (by decide) (by decide) hp y r d 0 0 (by rw [A1 12 (by decide)]; exact a1) (by rw [A1 3 (by decide)]; exact k3) (by rw [A1 7 (by decide)]; exact k7) (by rw [A1 13 (by decide)]; exact b1) (by rw [p1, get_set_ne _ (by omega)]; exact z1 _ (by omega)) (by rw [q1, get_set_ne _ (by omega)]; exact z0 _ (by omega)) (by rw [s1, List.length_set, k6, List.length_replicate])
  obtain ⟨t3, ⟨A3, s3, p3, q3, I3, J3⟩, e3⟩ := own_aj1 t2 2 3 p (by decide) (by decide) hp z r d 0 0 (by rw [A2 12 (by decide), A1 12 (by decide)]; exact a2) (by rw [A2 3 (by decide), A1 3 (by decide)]; exact k3) (by rw [A2 7 (by decide), A1 7 (by decide)]; exact k7) (by rw [A2 13 (by decide), A1 13 (by decide)]; exact b2) (by rw [p2, get_set_ne _ (by omega), p1, get_set_ne _ (by omega)]; exact z1 _ (by omega)) (by rw [q2, get_set_ne _ (by omega), q1, get_set_ne _ (by omega)]; exact z0 _ (by omega)) (by rw [s2, List.length_set, s1, List.length_set, k6, List.length_replicate])
  have un : ∀ m v7 s, f_applyJournal_10 (m + 1) 0 (Int32.ofNat p) d 0 3 v7 s = g_applyJournal_10 (f_applyJournal_10 m) m 0 (Int32.ofNat p) d 0 3 v7 s := fun _ _ _ => rfl
  have l0 : (gB s 0).length = 384 := by rw [m0, List.length_replicate]
  have l1 : (gB s 1).length = 384 := by rw [m1, List.length_replicate]
  have f01 : (gB t3 0)[1 * 12 + p]? = some (0 + own_rnd x.toInt64 r) := by rw [q3, get_set_ne _ (by omega), q2, get_set_ne _ (by omega), q1, get_set_self _ (by omega)]
  have f02 : (gB t3 0)[2 * 12 + p]? = some (0 + own_rnd y.toInt64 r) := by rw [q3, get_set_ne _ (by omega), q2, get_set_self _ (by rw [q1, List.length_set]; omega)]
  have f03 : (gB t3 0)[3 * 12 + p]? = some (0 + own_rnd z.toInt64 r) := by rw [q3, get_set_self _ (by rw [q2, List.length_set, q1, List.length_set]; omega)]
  have f00 : (gB t3 0)[0 * 12 + p]? = some 0 := by rw [q3, get_set_ne _ (by omega), q2, get_set_ne _ (by omega), q1, get_set_ne _ (by omega)]; exact z0 _ (by omega)
  have f11 : (gB t3 1)[1 * 12 + p]? = some (0 + x.toInt64) := by rw [p3, get_set_ne _ (by omega), p2, get_set_ne _ (by omega), p1, get_set_self _ (by omega)]
  have f12 : (gB t3 1)[2 * 12 + p]? = some (0 + y.toInt64) := by rw [p3, get_set_ne _ (by omega), p2, get_set_self _ (by rw [p1, List.length_set]; omega)]
  have f13 : (gB t3 1)[3 * 12 + p]? = some (0 + z.toInt64) := by rw [p3, get_set_self _ (by rw [p2, List.length_set, p1, List.length_set]; omega)]
  have f10 : (gB t3 1)[0 * 12 + p]? = some 0 := by rw [p3, get_set_ne _ (by omega), p2, get_set_ne _ (by omega), p1, get_set_ne _ (by omega)]; exact z1 _ (by omega)
  have f6 : (gA t3 6)[0]? = some 0 := by rw [s3, get_set_ne _ (by decide), s2, get_set_ne _ (by decide), s1, get_set_ne _ (by decide), k6]; rfl
  have f6l : (gA t3 6).length = 32 := by rw [s3, List.length_set, s2, List.length_set, s1, List.length_set, k6, List.length_replicate]
  have head : f_applyJournal (n + 20) 0 (Int32.ofNat p) d 0 s = g_applyJournal_10 (f_applyJournal_10 (n + 16)) (n + 16) 0 (Int32.ofNat p) d 0 3 3 t3 := by
    unfold f_applyJournal f_stagedLines
    rw [rd_of (k := 0) (by decide) (show (gA s 11)[0]? = some 3 by rw [k11]; rfl), Option.bind_some, if_neg (by decide), if_neg (by decide), Option.bind_some, un (n + 19)]
    refine (e1 _ _).trans ?_
    rw [un (n + 18)]
    refine (e2 _ _).trans ?_
    rw [un (n + 17)]
    refine (e3 _ _).trans ?_
    rw [un (n + 16)]; rfl
  have un2 : ∀ k10 m s, g_applyJournal_10 k10 m 0 (Int32.ofNat p) d 0 3 3 s = if d = 0 then some s else (f_apply (gI s 3) (-d) (-d) (Int32.ofNat p) s).bind fun c1 => some c1 := fun _ _ _ => rfl
  by_cases c : d = 0
  · refine ⟨t3, ?_, ?_, ?_, ?_, ?_, ?_, f01, f02, f03, ?_, f11, f12, f13⟩
    · rw [head, un2, if_pos c]
    · intro j hj; rw [A3 j hj, A2 j hj, A1 j hj]
    · intro j; rw [I3, I2, I1]
    · intro j; rw [J3, J2, J1]
    · rw [if_pos c]; exact f6
    · rw [if_pos c]; exact f00
    · rw [if_pos c]; exact f10
  · obtain ⟨t4, ⟨A4, s4, p4, q4, I4, J4⟩, e4⟩ := own_ap2 0 p (by decide) hp (-d) (-d) 0 0 t3 f10 f00 f6l
    refine ⟨t4, ?_, ?_, ?_, ?_, ?_, ?_, ?_, ?_, ?_, ?_, ?_, ?_, ?_⟩
    · rw [head, un2, if_neg c, I3, I2, I1, i3, show f_apply 0 (-d) (-d) (Int32.ofNat p) t3 = some t4 from e4]; rfl
    · intro j hj; rw [A4 j hj, A3 j hj, A2 j hj, A1 j hj]
    · intro j; rw [I4, I3, I2, I1]
    · intro j; rw [J4, J3, J2, J1]
    · rw [if_neg c, s4, get_set_self _ (by omega)]
    · rw [if_neg c, q4, get_set_self _ (List.getElem?_eq_some_iff.mp f00).1]
    · rw [q4, get_set_ne _ (by omega)]; exact f01
    · rw [q4, get_set_ne _ (by omega)]; exact f02
    · rw [q4, get_set_ne _ (by omega)]; exact f03
    · rw [if_neg c, p4, get_set_self _ (List.getElem?_eq_some_iff.mp f10).1]
    · rw [p4, get_set_ne _ (by omega)]; exact f11
    · rw [p4, get_set_ne _ (by omega)]; exact f12
    · rw [p4, get_set_ne _ (by omega)]; exact f13
theorem own_post (n : Nat) (s : St) (x y z r : Int32) (p : Nat) (hp : p < 12) (h : own_Sg s x y z r p) (hz : 0 + x.toInt64 + y.toInt64 + z.toInt64 = 0) (d : Int64) (hd : d = 0 + own_rnd x.toInt64 r + own_rnd y.toInt64 r + own_rnd z.toInt64 r) :
    ∃ R, f_post (n + 20) 0 s = some (0, R) ∧ own_Po s R p x y z (own_rnd x.toInt64 r) (own_rnd y.toInt64 r) (own_rnd z.toInt64 r) (-d) (if d = 0 then 3 else 4) d (if d = 0 then 0 else 1) := by
  obtain ⟨L, e1⟩ := own_pr n s x y z r p hp h hz
  obtain ⟨k0, k1, k3, k4, k6, k7, k8, k9, k10, k11, a0, a1, a2, b0, b1, b2, m0, m1, m2, i0, i2, i3, j0, j1⟩ := h
  have e2 := own_jr (n + 10) (sB s 2 L) x y z r p k11 a0 a1 a2 b0 b1 b2 k3 k7
  rw [← hd] at e2
  obtain ⟨s', e3, A3, I3, J3, f6, f00, f01, f02, f03, f10, f11, f12, f13⟩ := own_aj n (sB s 2 L) x y z r p hp d k3 k6 k7 k11 a0 a1 a2 b0 b1 b2 m0 m1 i3
  have dz : (if d = 0 then 0 else 0 + -d) = -d := by
    by_cases c : d = 0
    · rw [if_pos c, c]; decide
    · rw [if_neg c, Int64.zero_add]
  rw [dz] at f00 f10
  rw [Int64.zero_add] at f01 f02 f03 f11 f12 f13
  have g8 : gA s' 8 = (List.replicate 4 0).set 0 1 := (A3 8 (by decide)).trans k8
  have g9 : gA s' 9 = (List.replicate 4 0).set 0 (Int32.ofNat p) := (A3 9 (by decide)).trans k9
  have g10 : gA s' 10 = List.replicate 4 0 := (A3 10 (by decide)).trans k10
  have g11 : gA s' 11 = [3, 0, 0, 0] := (A3 11 (by decide)).trans k11
  have v48 : ∀ v6 : Int64, ∃ R, f_post_48 (n + 20) 0 (Int32.ofNat p) d v6 (sB s 2 L) = some (0, R) ∧ own_Po s R p x y z (own_rnd x.toInt64 r) (own_rnd y.toInt64 r) (own_rnd z.toInt64 r) (-d) v6 d (if d = 0 then 0 else 1) := fun v6 => by
    obtain ⟨R, hR⟩ : ∃ R, R = sA (sA (sA (sA (sJ (sJ (sJ s' 0 (gJ s' 0 + 1)) 1 (gJ s' 1 + v6)) 2 (-d)) 8 ((gA s' 8).set 0 0)) 9 ((gA s' 9).set 0 0)) 10 ((gA s' 10).set 0 0)) 11 ((gA s' 11).set 0 0) := ⟨_, rfl⟩
    refine ⟨R, ?_, ?_⟩
    · have un : ∀ m s, f_post_48 m 0 (Int32.ofNat p) d v6 s = (f_applyJournal m 0 (Int32.ofNat p) d 0 s).bind fun c1 => (rd (gA c1 10) 0).bind fun x3 => if x3 = 0 then f_post_97 m 0 d (sJ (sJ c1 0 (gJ c1 0 + 1)) 1 (gJ c1 1 + v6)) else if Int32.ofNat p + 1 < 12 then (f_applyJournal m 0 (Int32.ofNat p + 1) d 1 (sJ (sJ c1 0 (gJ c1 0 + 1)) 1 (gJ c1 1 + v6))).bind fun c6 => (f_countJournal v6 c6).bind fun c7 => f_post_97 m 0 d c7 else f_post_97 m 0 d (sJ (sJ c1 0 (gJ c1 0 + 1)) 1 (gJ c1 1 + v6)) := fun _ _ => rfl
      rw [un, e3, Option.bind_some]
      refine own_rr (k := 0) (x := 0) (by decide) (by rw [g10]; rfl) ?_
      rw [if_pos rfl]
      unfold f_post_97 f_freeSlot lt
      dsimp only
      refine own_bs (x := R) ?_ rfl
      refine own_sa (k := 0) (by decide) (show 0 < (gA s' 8).length by rw [g8]; decide) ?_
      refine own_sa (k := 0) (by decide) (show 0 < (gA s' 9).length by rw [g9, List.length_set]; decide) ?_
      refine own_sa (k := 0) (by decide) (show 0 < (gA s' 10).length by rw [g10]; decide) ?_
      refine own_sa (k := 0) (by decide) (show 0 < (gA s' 11).length by rw [g11]; decide) ?_
      rw [hR]; rfl
    · have AR : ∀ j, j ≠ 8 → j ≠ 9 → j ≠ 10 → j ≠ 11 → gA R j = gA s' j := fun j n8 n9 n10 n11 => by
        rw [hR, gA_sA, if_neg n11, gA_sA, if_neg n10, gA_sA, if_neg n9, gA_sA, if_neg n8]; rfl
      have BR : ∀ j, gB R j = gB s' j := fun j => by rw [hR]; rfl
      refine ⟨fun j n6 n8 n9 n10 n11 => (AR j n8 n9 n10 n11).trans (A3 j n6), ?_, ?_, ?_, ?_, ?_, ?_, ?_, ?_, ?_, ?_, ?_, ?_, ?_, ?_⟩
      · rw [AR 6 (by decide) (by decide) (by decide) (by decide)]; exact f6
      · rw [hR, gA_sA, if_neg (by decide), gA_sA, if_neg (by decide), gA_sA, if_neg (by decide), gA_sA, if_pos rfl, g8]; rfl
      · rw [BR]; exact f00
      · rw [BR]; exact f01
      · rw [BR]; exact f02
      · rw [BR]; exact f03
      · rw [BR]; exact f10
      · rw [BR]; exact f11
      · rw [BR]; exact f12
      · rw [BR]; exact f13
      · rw [hR]; show gJ s' 0 + 1 = 1; rw [J3 0]; show gJ s 0 + 1 = 1; rw [j0]; decide
      · rw [hR]; show gJ s' 1 + v6 = v6; rw [J3 1]; show gJ s 1 + v6 = v6; rw [j1, Int64.zero_add]
      · rw [hR]; rfl
      · rw [hR]; show gI s' 0 = 2; rw [I3 0]; exact i0
  obtain ⟨R, eR, hP⟩ := v48 (if d = 0 then 3 else 4)
  refine ⟨R, ?_, hP⟩
  have un : ∀ m s, f_post m 0 s = (f_postRefusal m 0 s).bind fun c1 => if c1.1 = 0 then (rd (gA c1.2 9) 0).bind fun x3 => (f_journalRounding m 0 c1.2).bind fun c4 => (rd (gA c1.2 11) 0).bind fun x5 => if c4 = 0 then f_post_48 m 0 x3 c4 x5.toInt64 c1.2 else f_post_48 m 0 x3 c4 (x5.toInt64 + 1) c1.2 else some (c1.1, c1.2) := fun _ _ => rfl
  rw [un, e1, Option.bind_some]
  dsimp only
  rw [if_pos rfl]
  refine own_rr (k := 0) (x := Int32.ofNat p) (by decide) (by show (gA s 9)[0]? = _; rw [k9]; rfl) ?_
  refine own_bs (x := d) e2 ?_
  refine own_rr (k := 0) (x := 3) (by decide) (by show (gA s 11)[0]? = _; rw [k11]; rfl) ?_
  rw [show (3 : Int32).toInt64 = 3 from by decide]
  by_cases c : d = 0
  · rw [if_pos c] at eR ⊢; exact eR
  · rw [if_neg c] at eR ⊢; exact eR
/-! asking -/
theorem own_op (R : St) (h0 : gA R 0 = List.replicate 4 1 ++ List.replicate 28 0) (k : Nat) (hk : k < 32) : (gA R 0)[k]? = some (if k < 4 then 1 else 0) := by
  rw [h0]
  by_cases c : k < 4
  · rw [if_pos c, List.getElem?_append_left (by rw [List.length_replicate]; exact c)]; exact rep_get 1 c
  · rw [if_neg c, List.getElem?_append_right (by rw [List.length_replicate]; omega), List.length_replicate]; exact rep_get 0 (by omega)
theorem own_is (n : Nat) (R : St) (h1 : gA R 1 = List.replicate 32 (-1)) (k a : Nat) (hk : k < 4) (ha : a < 4) : f_inSubtree (n + 2) (Int32.ofNat k) (Int32.ofNat a) R = some (if k = a then 1 else 0) := by
  have un : ∀ m v3 v4, f_inSubtree_5 (m + 1) (Int32.ofNat a) v3 v4 R = if v4 < 33 then (if v3 = Int32.ofNat a then some 1 else if v3 < 0 then some 0 else if v3 < 32 then (rd (gA R 1) v3).bind fun x5 => f_inSubtree_5 m (Int32.ofNat a) x5 (v4 + 1) R else some 0) else some 0 := fun _ _ _ => rfl
  unfold f_inSubtree
  rw [un (n + 1), if_pos (by decide)]
  by_cases c : k = a
  · rw [if_pos c, if_pos (by rw [c])]
  · have c' : ¬ Int32.ofNat k = Int32.ofNat a := fun q => c ((ofN_eq (by omega) (by omega)).mp q)
    rw [if_neg c, if_neg c', if_neg (ofN_nn (by omega)), if_pos ((ofN_ltL (m := 32) (by omega) (by decide)).mpr (by omega)), rd_of (x := (-1 : Int32)) (ofN_int (by omega)) (by rw [h1]; exact rep_get _ (by omega)), Option.bind_some, un n, if_pos (by decide)]
    have m1 : ¬ (-1 : Int32) = Int32.ofNat a := fun q => by
      have := congrArg Int32.toInt q
      rw [ofN_int (by omega)] at this
      have e : (-1 : Int32).toInt = -1 := by decide
      omega
    rw [if_neg m1, if_pos (by decide)]
theorem own_ct (R : St) (h3 : gA R 3 = [0, 1, 1, 1] ++ List.replicate 28 0) (a p : Nat) (ha : a < 4) (hp : p < 12) (b : Nat) (hb : b = 0 ∨ b = 1) (v : Int64) (hv : (gB R b)[a * 12 + p]? = some v) : f_contribution (Int32.ofNat a) (Int32.ofNat a) (Int32.ofNat p) (Int32.ofNat b) R = some v := by
  have ic : (Int32.ofNat a * 12 + Int32.ofNat p).toInt = (a * 12 + p : Nat) := by
    have e : Int32.ofNat a * 12 + Int32.ofNat p = Int32.ofNat (a * 12 + p) := by rw [Int32.ofNat_add, Int32.ofNat_mul]; rfl
    rw [e]; exact ofN_int (by omega)
  have l3 : a < (gA R 3).length := by rw [h3]; exact Nat.lt_of_lt_of_le ha (by decide)
  unfold f_contribution
  rcases hb with rfl | rfl
  · rw [if_pos (by decide)]
    refine own_bs (x := Int32.ofNat a * 12 + Int32.ofNat p) rfl ?_
    exact own_rr ic hv rfl
  · rw [if_neg (by decide), if_neg (by decide)]
    refine own_rr (ofN_int (by omega)) (List.getElem?_eq_getElem l3) ?_
    refine own_rr (ofN_int (by omega)) (List.getElem?_eq_getElem l3) ?_
    rw [if_pos rfl, if_pos (by decide)]
    refine own_bs (x := Int32.ofNat a * 12 + Int32.ofNat p) rfl ?_
    exact own_rr ic hv rfl
theorem own_bal (n : Nat) (R : St) (h0 : gA R 0 = List.replicate 4 1 ++ List.replicate 28 0) (h1 : gA R 1 = List.replicate 32 (-1)) (h3 : gA R 3 = [0, 1, 1, 1] ++ List.replicate 28 0) (a p : Nat) (ha : a < 4) (hp : p < 12) (b : Nat) (hb : b = 0 ∨ b = 1) (v : Int64) (hv : (gB R b)[a * 12 + p]? = some v) : f_balance (n + 40) (Int32.ofNat a) (Int32.ofNat p) (Int32.ofNat b) R = some v := by
  have un : ∀ m v4 v6, f_balance_37 (m + 1) (Int32.ofNat a) (Int32.ofNat p) (Int32.ofNat b) v4 v6 R = if v6 < 32 then (rd (gA R 0) v6).bind fun x2 => if x2 = 0 then f_balance_37 m (Int32.ofNat a) (Int32.ofNat p) (Int32.ofNat b) v4 (v6 + 1) R else (f_inSubtree m v6 (Int32.ofNat a) R).bind fun c4 => if c4 = 0 then f_balance_37 m (Int32.ofNat a) (Int32.ofNat p) (Int32.ofNat b) v4 (v6 + 1) R else (f_contribution v6 (Int32.ofNat a) (Int32.ofNat p) (Int32.ofNat b) R).bind fun c6 => f_balance_37 m (Int32.ofNat a) (Int32.ofNat p) (Int32.ofNat b) (v4 + c6) (v6 + 1) R else some v4 := fun _ _ _ => rfl
  have skip : ∀ m v4 j k, k + j = 32 → 4 ≤ k → f_balance_37 (m + 1 + j) (Int32.ofNat a) (Int32.ofNat p) (Int32.ofNat b) v4 (Int32.ofNat k) R = some v4 := by
    intro m v4 j
    induction j with
    | zero =>
      intro k hk _
      obtain rfl : k = 32 := by omega
      rw [un, if_neg (by decide)]
    | succ j ih =>
      intro k hk h4
      rw [show m + 1 + (j + 1) = (m + 1 + j) + 1 from rfl, un, if_pos ((ofN_ltL (m := 32) (by omega) (by decide)).mpr (by omega)), rd_of (ofN_int (by omega)) (own_op R h0 k (by omega)), Option.bind_some, if_neg (show ¬ k < 4 by omega), if_pos rfl, ofN_succ]
      exact ih (k + 1) (by omega) (by omega)
  have step : ∀ m v4 k, k < 4 → f_balance_37 (m + 3) (Int32.ofNat a) (Int32.ofNat p) (Int32.ofNat b) v4 (Int32.ofNat k) R = f_balance_37 (m + 2) (Int32.ofNat a) (Int32.ofNat p) (Int32.ofNat b) (if k = a then v4 + v else v4) (Int32.ofNat (k + 1)) R := fun m v4 k hk => by
    rw [un (m + 2), if_pos ((ofN_ltL (m := 32) (by omega) (by decide)).mpr (by omega)), rd_of (ofN_int (by omega)) (own_op R h0 k (by omega)), Option.bind_some, if_pos hk, if_neg (by decide), own_is m R h1 k a hk ha, Option.bind_some, ofN_succ]
    by_cases c : k = a
    · subst c
      rw [if_pos rfl, if_neg (by decide), own_ct R h3 k p hk hp b hb v hv, Option.bind_some, if_pos rfl]
    · rw [if_neg c, if_pos rfl, if_neg c]
  unfold f_balance
  refine own_bs (x := 1) ?_ ?_
  · unfold f_isOpenAccount f_isOpenAccount_22
    refine own_bs (x := 1) ?_ ?_
    · unfold f_isAccountId f_isAccountId_15
      rw [if_neg (ofN_nn (by omega)), if_pos ((ofN_ltL (m := 32) (by omega) (by decide)).mpr (by omega))]; rfl
    rw [if_neg (by decide)]
    refine own_rr (ofN_int (by omega)) (own_op R h0 a (by omega)) ?_
    rw [if_pos ha, if_neg (by decide)]; rfl
  rw [if_neg (by decide), own_pd p hp, Option.bind_some, if_neg (by decide), if_neg (ofN_nn (by omega)), if_neg (fun q => by have := (ofN_gtL (m := 3) (by omega) (by decide)).mp q; omega)]
  refine (step (n + 37) 0 0 (by decide)).trans ?_
  refine (step (n + 36) _ 1 (by decide)).trans ?_
  refine (step (n + 35) _ 2 (by decide)).trans ?_
  refine (step (n + 34) _ 3 (by decide)).trans ?_
  refine (skip (n + 7) _ 28 4 rfl (by decide)).trans ?_
  rcases (by omega : a = 0 ∨ a = 1 ∨ a = 2 ∨ a = 3) with rfl | rfl | rfl | rfl <;> (congr 1; simp only [if_true, show ¬ (0 : Nat) = 1 by decide, show ¬ (0 : Nat) = 2 by decide, show ¬ (0 : Nat) = 3 by decide, show ¬ (1 : Nat) = 0 by decide, show ¬ (1 : Nat) = 2 by decide, show ¬ (1 : Nat) = 3 by decide, show ¬ (2 : Nat) = 0 by decide, show ¬ (2 : Nat) = 1 by decide, show ¬ (2 : Nat) = 3 by decide, show ¬ (3 : Nat) = 0 by decide, show ¬ (3 : Nat) = 1 by decide, show ¬ (3 : Nat) = 2 by decide, if_false, Int64.zero_add])
theorem own_tf (n : Nat) (R : St) (h0 : gA R 0 = List.replicate 4 1 ++ List.replicate 28 0) (p : Nat) (hp : p < 12) (v0 v1 v2 v3 : Int64) (g0 : (gB R 0)[0 * 12 + p]? = some v0) (g1 : (gB R 0)[1 * 12 + p]? = some v1) (g2 : (gB R 0)[2 * 12 + p]? = some v2) (g3 : (gB R 0)[3 * 12 + p]? = some v3) : f_trialBalance (n + 40) (Int32.ofNat p) (-1) R = some (0 + v0 + v1 + v2 + v3) := by
  have un : ∀ m v2 v4, f_trialFunc_5 (m + 1) (Int32.ofNat p) v2 v4 R = if v4 < 32 then (rd (gA R 0) v4).bind fun x2 => if x2 = 0 then f_trialFunc_5 m (Int32.ofNat p) v2 (v4 + 1) R else (rd (gB R 0) (v4 * 12 + Int32.ofNat p)).bind fun x5 => f_trialFunc_5 m (Int32.ofNat p) (v2 + x5) (v4 + 1) R else some v2 := fun _ _ _ => rfl
  have skip : ∀ m v2 j k, k + j = 32 → 4 ≤ k → f_trialFunc_5 (m + 1 + j) (Int32.ofNat p) v2 (Int32.ofNat k) R = some v2 := by
    intro m v2 j
    induction j with
    | zero =>
      intro k hk _
      obtain rfl : k = 32 := by omega
      rw [un, if_neg (by decide)]
    | succ j ih =>
      intro k hk h4
      rw [show m + 1 + (j + 1) = (m + 1 + j) + 1 from rfl, un, if_pos ((ofN_ltL (m := 32) (by omega) (by decide)).mpr (by omega)), rd_of (ofN_int (by omega)) (own_op R h0 k (by omega)), Option.bind_some, if_neg (show ¬ k < 4 by omega), if_pos rfl, ofN_succ]
      exact ih (k + 1) (by omega) (by omega)
  have step : ∀ m v2 k v, k < 4 → (gB R 0)[k * 12 + p]? = some v → f_trialFunc_5 (m + 1) (Int32.ofNat p) v2 (Int32.ofNat k) R = f_trialFunc_5 m (Int32.ofNat p) (v2 + v) (Int32.ofNat (k + 1)) R := fun m v2 k v hk hv => by
    have ic : (Int32.ofNat k * 12 + Int32.ofNat p).toInt = (k * 12 + p : Nat) := by
      have e : Int32.ofNat k * 12 + Int32.ofNat p = Int32.ofNat (k * 12 + p) := by rw [Int32.ofNat_add, Int32.ofNat_mul]; rfl
      rw [e]; exact ofN_int (by omega)
    rw [un m, if_pos ((ofN_ltL (m := 32) (by omega) (by decide)).mpr (by omega)), rd_of (ofN_int (by omega)) (own_op R h0 k (by omega)), Option.bind_some, if_pos hk, if_neg (by decide), rd_of ic hv, Option.bind_some, ofN_succ]
  unfold f_trialBalance
  rw [own_pd p hp, Option.bind_some, if_neg (by decide), if_pos rfl]
  refine own_bs ?_ rfl
  unfold f_trialFunc
  refine (step (n + 39) 0 0 v0 (by decide) g0).trans ?_
  refine (step (n + 38) _ 1 v1 (by decide) g1).trans ?_
  refine (step (n + 37) _ 2 v2 (by decide) g2).trans ?_
  refine (step (n + 36) _ 3 v3 (by decide) g3).trans ?_
  exact skip (n + 7) _ 28 4 rfl (by decide)
theorem own_tt (n : Nat) (R : St) (h0 : gA R 0 = List.replicate 4 1 ++ List.replicate 28 0) (h3 : gA R 3 = [0, 1, 1, 1] ++ List.replicate 28 0) (i0 : gI R 0 = 2) (p : Nat) (hp : p < 12) (v1 v2 v3 : Int64) (g1 : (gB R 1)[1 * 12 + p]? = some v1) (g2 : (gB R 1)[2 * 12 + p]? = some v2) (g3 : (gB R 1)[3 * 12 + p]? = some v3) : f_trialBalance (n + 40) (Int32.ofNat p) 1 R = some (0 + v1 + v2 + v3) := by
  have un : ∀ m v3 v5, f_trialTxn_5 (m + 1) (Int32.ofNat p) 1 v3 v5 R = if v5 < 32 then (rd (gA R 0) v5).bind fun x2 => if x2 = 0 then f_trialTxn_5 m (Int32.ofNat p) 1 v3 (v5 + 1) R else (rd (gA R 3) v5).bind fun x4 => if x4 = 1 then (rd (gB R 1) (v5 * 12 + Int32.ofNat p)).bind fun x7 => f_trialTxn_5 m (Int32.ofNat p) 1 (v3 + x7) (v5 + 1) R else f_trialTxn_5 m (Int32.ofNat p) 1 v3 (v5 + 1) R else some v3 := fun _ _ _ => rfl
  have skip : ∀ m v2 j k, k + j = 32 → 4 ≤ k → f_trialTxn_5 (m + 1 + j) (Int32.ofNat p) 1 v2 (Int32.ofNat k) R = some v2 := by
    intro m v2 j
    induction j with
    | zero =>
      intro k hk _
      obtain rfl : k = 32 := by omega
      rw [un, if_neg (by decide)]
    | succ j ih =>
      intro k hk h4
      rw [show m + 1 + (j + 1) = (m + 1 + j) + 1 from rfl, un, if_pos ((ofN_ltL (m := 32) (by omega) (by decide)).mpr (by omega)), rd_of (ofN_int (by omega)) (own_op R h0 k (by omega)), Option.bind_some, if_neg (show ¬ k < 4 by omega), if_pos rfl, ofN_succ]
      exact ih (k + 1) (by omega) (by omega)
  have step : ∀ m v2 k v, 1 ≤ k → k < 4 → (gB R 1)[k * 12 + p]? = some v → f_trialTxn_5 (m + 1) (Int32.ofNat p) 1 v2 (Int32.ofNat k) R = f_trialTxn_5 m (Int32.ofNat p) 1 (v2 + v) (Int32.ofNat (k + 1)) R := fun m v2 k v h1 hk hv => by
    have ic : (Int32.ofNat k * 12 + Int32.ofNat p).toInt = (k * 12 + p : Nat) := by
      have e : Int32.ofNat k * 12 + Int32.ofNat p = Int32.ofNat (k * 12 + p) := by rw [Int32.ofNat_add, Int32.ofNat_mul]; rfl
      rw [e]; exact ofN_int (by omega)
    have c1 : (gA R 3)[k]? = some 1 := by
      rw [h3]
      rcases (by omega : k = 1 ∨ k = 2 ∨ k = 3) with rfl | rfl | rfl <;> rfl
    rw [un m, if_pos ((ofN_ltL (m := 32) (by omega) (by decide)).mpr (by omega)), rd_of (ofN_int (by omega)) (own_op R h0 k (by omega)), Option.bind_some, if_pos hk, if_neg (by decide), rd_of (ofN_int (by omega)) c1, Option.bind_some, if_pos rfl, rd_of ic hv, Option.bind_some, ofN_succ]
  have z0t : ∀ m v2, f_trialTxn_5 (m + 1) (Int32.ofNat p) 1 v2 (Int32.ofNat 0) R = f_trialTxn_5 m (Int32.ofNat p) 1 v2 (Int32.ofNat (0 + 1)) R := fun m v2 => by
    rw [un m, if_pos (by decide), rd_of (ofN_int (by decide)) (own_op R h0 0 (by decide)), Option.bind_some, if_neg (by decide), rd_of (x := (0 : Int32)) (ofN_int (by decide)) (by rw [h3]; rfl), Option.bind_some, if_neg (by decide), ofN_succ]
  unfold f_trialBalance
  rw [own_pd p hp, Option.bind_some, if_neg (by decide), if_neg (by decide)]
  refine own_bs (x := 1) ?_ ?_
  · unfold f_isCurrency f_isCurrency_17
    rw [i0]; rfl
  rw [if_neg (by decide)]
  refine own_bs ?_ rfl
  unfold f_trialTxn
  refine (z0t (n + 39) 0).trans ?_
  refine (step (n + 38) _ 1 v1 (by decide) (by decide) g1).trans ?_
  refine (step (n + 37) _ 2 v2 (by decide) (by decide) g2).trans ?_
  refine (step (n + 36) _ 3 v3 (by decide) (by decide) g3).trans ?_
  exact skip (n + 7) _ 28 4 rfl (by decide)
theorem own_291 (n : Nat) (s R : St) (p : Nat) (hp : p < 12) (x y z r : Int32) (f1 f2 f3 count d : Int64) (us : Int32) (hus : us = 0 ∨ us = 1) (hs0 : gA s 0 = List.replicate 4 1 ++ List.replicate 28 0) (hs1 : gA s 1 = List.replicate 32 (-1)) (hs3 : gA s 3 = [0, 1, 1, 1] ++ List.replicate 28 0) (hz : 0 + x.toInt64 + y.toInt64 + z.toInt64 = 0) (hd : d = f1 + f2 + f3) (h : own_Po s R p x y z f1 f2 f3 (-d) count d us) : f_law_291 (n + 40) x y z (Int32.ofNat p) f1 f2 f3 d count us R = some 1 := by
  obtain ⟨hA, q6, q8, g0, g1, g2, g3, t0, t1, t2, t3, j0, j1, j2, i0⟩ := h
  have k0 : gA R 0 = List.replicate 4 1 ++ List.replicate 28 0 := (hA 0 (by decide) (by decide) (by decide) (by decide) (by decide)).trans hs0
  have k1 : gA R 1 = List.replicate 32 (-1) := (hA 1 (by decide) (by decide) (by decide) (by decide) (by decide)).trans hs1
  have k3 : gA R 3 = [0, 1, 1, 1] ++ List.replicate 28 0 := (hA 3 (by decide) (by decide) (by decide) (by decide) (by decide)).trans hs3
  have b10 : f_balance (n + 40) 1 (Int32.ofNat p) 0 R = some f1 := own_bal n R k0 k1 k3 1 p (by decide) hp 0 (Or.inl rfl) _ g1
  have b20 : f_balance (n + 40) 2 (Int32.ofNat p) 0 R = some f2 := own_bal n R k0 k1 k3 2 p (by decide) hp 0 (Or.inl rfl) _ g2
  have b30 : f_balance (n + 40) 3 (Int32.ofNat p) 0 R = some f3 := own_bal n R k0 k1 k3 3 p (by decide) hp 0 (Or.inl rfl) _ g3
  have b00 : f_balance (n + 40) 0 (Int32.ofNat p) 0 R = some (-d) := own_bal n R k0 k1 k3 0 p (by decide) hp 0 (Or.inl rfl) _ g0
  have b11 : f_balance (n + 40) 1 (Int32.ofNat p) 1 R = some x.toInt64 := own_bal n R k0 k1 k3 1 p (by decide) hp 1 (Or.inr rfl) _ t1
  have b21 : f_balance (n + 40) 2 (Int32.ofNat p) 1 R = some y.toInt64 := own_bal n R k0 k1 k3 2 p (by decide) hp 1 (Or.inr rfl) _ t2
  have b31 : f_balance (n + 40) 3 (Int32.ofNat p) 1 R = some z.toInt64 := own_bal n R k0 k1 k3 3 p (by decide) hp 1 (Or.inr rfl) _ t3
  have b01 : f_balance (n + 40) 0 (Int32.ofNat p) 1 R = some (-d) := own_bal n R k0 k1 k3 0 p (by decide) hp 1 (Or.inr rfl) _ t0
  have tb : f_trialBalance (n + 40) (Int32.ofNat p) (-1) R = some 0 := by
    rw [own_tf n R k0 p hp _ _ _ _ g0 g1 g2 g3, Int64.zero_add, Int64.add_assoc, Int64.add_assoc, ← Int64.add_assoc f1, ← hd, Int64.add_left_neg]
  have tc : f_trialBalance (n + 40) (Int32.ofNat p) 1 R = some 0 := by
    rw [own_tt n R k0 k3 i0 p hp _ _ _ t1 t2 t3, hz]
  have l2 : f_ledgerInfo 2 0 R = some 1 := by
    unfold f_ledgerInfo; rw [if_neg (by decide), if_neg (by decide), if_pos rfl, j0]
  have l3 : f_ledgerInfo 3 0 R = some count := by
    unfold f_ledgerInfo; rw [if_neg (by decide), if_neg (by decide), if_neg (by decide), if_pos rfl, j1]
  have l4 : f_ledgerInfo 4 0 R = some (-d) := by
    unfold f_ledgerInfo; rw [if_neg (by decide), if_neg (by decide), if_neg (by decide), if_neg (by decide), if_pos rfl, j2]
  have ai : f_accountInfo 0 5 R = some us := by
    unfold f_accountInfo
    refine own_bs (x := 1) rfl ?_
    rw [if_neg (by decide), if_neg (by decide)]
    refine own_rr (k := 0) (x := 1) (by decide) (by rw [k0]; rfl) ?_
    rw [if_neg (by decide)]
    refine own_bs ?_ rfl
    unfold f_openAccountField
    rw [if_neg (by decide), if_neg (by decide), if_neg (by decide), if_neg (by decide), if_pos rfl]
    refine own_rr (k := 0) (by decide) q6 ?_
    unfold f_boolToInt
    rcases hus with rfl | rfl
    · rw [if_pos rfl]; rfl
    · rw [if_neg (by decide)]; rfl
  have si : f_slotInfo 0 0 0 R = some 0 := by
    unfold f_slotInfo
    refine own_bs (x := 1) rfl ?_
    rw [if_neg (by decide), if_pos rfl]
    refine own_rr (k := 0) (by decide) q8 ?_
    unfold f_boolToInt
    rw [if_pos rfl]; rfl
  unfold f_law_291 f_law_511
  rw [b10, Option.bind_some, if_pos rfl, b20, Option.bind_some, if_pos rfl, b30, Option.bind_some, if_pos rfl, b00, Option.bind_some, if_pos rfl, b11, Option.bind_some, if_pos rfl, b21, Option.bind_some, if_pos rfl, b31, Option.bind_some, if_pos rfl, b01, Option.bind_some, if_pos rfl, tb, Option.bind_some, if_pos rfl, tc, Option.bind_some, if_pos rfl, l2, Option.bind_some, if_pos rfl, l3, Option.bind_some, if_pos rfl, l4, Option.bind_some, if_pos rfl, ai, Option.bind_some, if_pos rfl, si, Option.bind_some, if_pos rfl]; rfl
theorem own_mod (x m : Int32) (M : Nat) (hm : m.toInt = M) (h0 : 0 < M) (h1 : M ≤ 500000) : 0 ≤ (((x % m) + m) % m).toInt ∧ (((x % m) + m) % m).toInt < M := by
  have e1 : (x % m).toInt = x.toInt.tmod M := by rw [Int32.toInt_mod, hm]
  have b1 := Int.tmod_lt_of_pos x.toInt (show (0 : Int) < M by omega)
  have b2 := Int.lt_tmod_of_pos x.toInt (show (0 : Int) < M by omega)
  have e2 : ((x % m) + m).toInt = x.toInt.tmod M + M := by rw [x32_add (by rw [e1, hm]; omega) (by rw [e1, hm]; omega), e1, hm]
  rw [Int32.toInt_mod, e2, hm, Int.tmod_eq_emod_of_nonneg (by omega)]
  exact ⟨Int.emod_nonneg _ (by omega), Int.emod_lt_of_pos _ (by omega)⟩
theorem own_main (n : Nat) (hn : n + 40 = 600) (x y z r : Int32) (p : Nat) (hp : p < 12) (hx : 1 ≤ x.toInt ∧ x.toInt ≤ 500000) (hy : 1 ≤ y.toInt ∧ y.toInt ≤ 500000) (hz : z = -(x + y)) (hr : 1 ≤ r.toInt ∧ r.toInt ≤ 100000) (c13 : St) :
    ∀ c15, own_Ba c15 → ((f_setRate 1 r c15).bind fun c17 => if c17.1 = 0 then (f_beginJournal 0 (Int32.ofNat p) 0 c17.2).bind fun c19 => if c19.1 = 0 then (f_addLine 0 1 x c19.2).bind fun c21 => if c21.1 = 0 then (f_addLine 0 2 y c21.2).bind fun c23 => if c23.1 = 0 then (f_addLine 0 3 z c23.2).bind fun c25 => if c25.1 = 0 then (f_post (n + 40) 0 c25.2).bind fun c27 => if c27.1 = 0 then (f_L_round x.toInt64 r).bind fun c29 => (f_L_round y.toInt64 r).bind fun c30 => (f_L_round z.toInt64 r).bind fun c31 => if c29 + c30 + c31 = 0 then f_law_277 (n + 40) x y z (Int32.ofNat p) c29 c30 c31 (c29 + c30 + c31) 3 c27.2 else f_law_277 (n + 40) x y z (Int32.ofNat p) c29 c30 c31 (c29 + c30 + c31) 4 c27.2 else some 0 else some 0 else some 0 else some 0 else some 0 else some 0) = some (1 : Int32) := by
  intro c15 hB
  have xy : (x + y).toInt = x.toInt + y.toInt := x32_add (by omega) (by omega)
  have zt : z.toInt = -(x.toInt + y.toInt) := by rw [hz, x32_neg (by omega), xy]
  have n0 : (0 : Int32).toInt = 0 := by decide
  have n1 : (1 : Int32).toInt = 1 := by decide
  have m6 : (-1000000 : Int32).toInt = -1000000 := by decide
  have p6 : (1000000 : Int32).toInt = 1000000 := by decide
  have p5 : (100000 : Int32).toInt = 100000 := by decide
  have nz : ∀ v : Int32, v.toInt ≠ 0 → ¬ v = 0 := fun v h e => h (by rw [e]; exact n0)
  obtain ⟨c17, c19, c21, c23, c25, e17, e19, e21, e23, e25, hS⟩ := own_stage c15 x y z r p hp hB (by rw [x32_lt]; omega) (by rw [x32_lt]; omega) (nz x (by omega)) (by rw [x32_lt]; omega) (by rw [x32_lt]; omega) (nz y (by omega)) (by rw [x32_lt]; omega) (by rw [x32_lt]; omega) (nz z (by omega)) (by rw [x32_lt]; omega) (by rw [x32_lt]; omega)
  have hz0 : 0 + x.toInt64 + y.toInt64 + z.toInt64 = 0 := by
    have X := Int32.toInt_toInt64 x
    have Y := Int32.toInt_toInt64 y
    have Z := Int32.toInt_toInt64 z
    have XY : (x.toInt64 + y.toInt64).toInt = x.toInt + y.toInt := by rw [x64_add (by omega) (by omega), X, Y]
    rw [Int64.zero_add, x64_eq, x64_add (by omega) (by omega), XY, Z, zt]
    have : (0 : Int64).toInt = 0 := by decide
    omega
  obtain ⟨d, hd⟩ : ∃ d, d = own_rnd x.toInt64 r + own_rnd y.toInt64 r + own_rnd z.toInt64 r := ⟨_, rfl⟩
  obtain ⟨R, eR, hP⟩ := own_post (n + 20) c25 x y z r p hp hS hz0 d (by rw [hd, Int64.zero_add])
  have fin := fun us hus count (h : own_Po c25 R p x y z (own_rnd x.toInt64 r) (own_rnd y.toInt64 r) (own_rnd z.toInt64 r) (-d) count d us) => own_291 n c25 R p hp x y z r _ _ _ count d us hus hS.1 hS.2.1 hS.2.2.1 hz0 hd h
  rw [e17, Option.bind_some]
  dsimp only
  rw [if_pos rfl, e19, Option.bind_some]
  dsimp only
  rw [if_pos rfl, e21, Option.bind_some]
  dsimp only
  rw [if_pos rfl, e23, Option.bind_some]
  dsimp only
  rw [if_pos rfl, e25, Option.bind_some]
  dsimp only
  rw [if_pos rfl, show f_post (n + 40) 0 c25 = some (0, R) from eR, Option.bind_some]
  dsimp only
  rw [if_pos rfl, own_rr2, Option.bind_some, own_rr2, Option.bind_some, own_rr2, Option.bind_some, ← hd]
  unfold f_law_277
  by_cases c : d = 0
  · rw [if_pos c, if_pos c] at hP
    rw [if_pos c, if_pos c]
    exact fin 0 (Or.inl rfl) 3 hP
  · rw [if_neg c, if_neg c] at hP
    rw [if_neg c, if_neg c]
    exact fin 1 (Or.inr rfl) 4 hP
theorem owed (p0 p1 p2 p3 : Int32) : ∃ fu, f_law fu p0 p1 p2 p3 = some 1 := by
  obtain ⟨c6, c7, c9, c11, c13, c15, e6, e7, e9, e11, e13, e15, hB⟩ := own_pre_x
  have hx := own_mod p0 500000 500000 (by decide) (by decide) (by decide)
  have hy := own_mod p1 500000 500000 (by decide) (by decide) (by decide)
  have hr := own_mod p2 100000 100000 (by decide) (by decide) (by decide)
  have hq := own_mod p3 12 12 (by decide) (by decide) (by decide)
  have n1 : (1 : Int32).toInt = 1 := by decide
  have plus1 : ∀ v : Int32, 0 ≤ v.toInt → v.toInt < 1000000 → (v + 1).toInt = v.toInt + 1 := fun v h1 h2 => by rw [x32_add (by omega) (by omega), n1]
  obtain ⟨p, ep⟩ : ∃ p : Nat, (((p3 % 12) + 12) % 12).toInt = p := ⟨(((p3 % 12) + 12) % 12).toInt.toNat, by omega⟩
  have ep2 : ((p3 % 12) + 12) % 12 = Int32.ofNat p := ofN_of ep
  have un : ∀ n x y z r q, ((f_init n 2 4).bind fun c6 => (f_openAccount n 0 (-1) 4 0 c6).bind fun c7 => if c7.1 = 0 then (f_openAccount n 1 (-1) 0 1 c7.2).bind fun c9 => if c9.1 = 0 then (f_openAccount n 2 (-1) 0 1 c9.2).bind fun c11 => if c11.1 = 0 then (f_openAccount n 3 (-1) 1 1 c11.2).bind fun c13 => if c13.1 = 0 then (f_setSpecial 0 0 c13.2).bind fun c15 => if c15.1 = 0 then (f_setRate 1 r c15.2).bind fun c17 => if c17.1 = 0 then (f_beginJournal 0 q 0 c17.2).bind fun c19 => if c19.1 = 0 then (f_addLine 0 1 x c19.2).bind fun c21 => if c21.1 = 0 then (f_addLine 0 2 y c21.2).bind fun c23 => if c23.1 = 0 then (f_addLine 0 3 z c23.2).bind fun c25 => if c25.1 = 0 then (f_post n 0 c25.2).bind fun c27 => if c27.1 = 0 then (f_L_round x.toInt64 r).bind fun c29 => (f_L_round y.toInt64 r).bind fun c30 => (f_L_round z.toInt64 r).bind fun c31 => if c29 + c30 + c31 = 0 then f_law_277 n x y z q c29 c30 c31 (c29 + c30 + c31) 3 c27.2 else f_law_277 n x y z q c29 c30 c31 (c29 + c30 + c31) 4 c27.2 else some 0 else some 0 else some 0 else some 0 else some 0 else some 0 else some 0 else some 0 else some 0 else some 0 else some 0) = some (1 : Int32) → x = ((p0 % 500000) + 500000) % 500000 + 1 → y = ((p1 % 500000) + 500000) % 500000 + 1 → z = -(x + y) → r = ((p2 % 100000) + 100000) % 100000 + 1 → q = ((p3 % 12) + 12) % 12 → f_law n p0 p1 p2 p3 = some 1 := fun n x y z r q h hx hy hz hr hq => by
    subst hz hx hy hr hq
    exact h
  refine ⟨600, un 600 _ _ _ _ _ ?_ rfl rfl rfl rfl ep2.symm⟩
  rw [e6, Option.bind_some, e7, Option.bind_some]
  dsimp only
  rw [if_pos rfl, e9, Option.bind_some]
  dsimp only
  rw [if_pos rfl, e11, Option.bind_some]
  dsimp only
  rw [if_pos rfl, e13, Option.bind_some]
  dsimp only
  rw [if_pos rfl, e15, Option.bind_some]
  dsimp only
  rw [if_pos rfl]
  exact own_main 560 rfl _ _ _ _ p (by omega) (by rw [plus1 _ (by omega) (by omega)]; omega) (by rw [plus1 _ (by omega) (by omega)]; omega) rfl (by rw [plus1 _ (by omega) (by omega)]; omega) c13 c15 hB

set_option maxRecDepth 65536 in
set_option maxHeartbeats 40000000 in
theorem comes_1 {Post : Tables → Env → Array Value → State → Outcome → State → Prop} (hpost : ∀ tb e args s v u, (limb_1_1.after args s (.returned v) u = true ∧ limb_1_2.after args s (.returned v) u = true ∧ True) → FrameEnd s (.returned v) u (Jvm.fieldLocs frame_1_writes args s ++ Jvm.arrayLocs frame_1_arrays args s ++ Jvm.staticLocs frame_1_statics s) 48 2432 → Post tb e args s (.returned v) u) :
    ArmFor flags0 classFile x code maxLocals ret World_1 tables_1 room_1 Calls_1 rest_1 Pre_1 Post := by
  intro l hfl _ _ p e ha hc hk s m args below hf hA hF happ hP
  obtain ⟨hcalls, hrest, hpre⟩ := hP
  obtain ⟨-, -, -, hnamed, -, -, -, hat⟩ := (Spec.applies_iff hf).mp happ
  obtain ⟨hg, hn⟩ := and_e (Cond.before_iff.mp (show (Jvm.Cond.and given_1 narrow_1).before args s = true from hpre))
  obtain ⟨g0, q0⟩ := and_e hg
  obtain ⟨w0, w1, w2, w3, rfl⟩ : ∃ w0 w1 w2 w3 : Value, args = #[w0, w1, w2, w3] := by
    have hs : args.size = 4 := by simpa [Cond.value, given_1] using g0
    obtain ⟨L⟩ := args
    match L, hs with
    | [w0, w1, w2, w3], _ => exact ⟨w0, w1, w2, w3, rfl⟩
  have hw := fun d (hd : d ∈ tables_1) => atoms_spec (ws := Jvm.Cond.code x code maxLocals ret :: tables_1) hat d (List.mem_cons_of_mem _ hd)
  obtain ⟨h0, q1⟩ := and_e q0
  obtain ⟨i0, e0⟩ := is_v h0
  obtain rfl : w0 = (.int i0) := Option.some.inj e0
  obtain ⟨h1, q2⟩ := and_e q1
  obtain ⟨i1, e1⟩ := is_v h1
  obtain rfl : w1 = (.int i1) := Option.some.inj e1
  obtain ⟨h2, q3⟩ := and_e q2
  obtain ⟨i2, e2⟩ := is_v h2
  obtain rfl : w2 = (.int i2) := Option.some.inj e2
  obtain ⟨i3, e3⟩ := is_v q3
  obtain rfl : w3 = (.int i3) := Option.some.inj e3
  obtain ⟨fu, hfu⟩ := owed i0 i1 i2 i3
  obtain ⟨n, o, h1, h2, h3, _, L, rfl, ⟨w, H', rfl, hv, -, -, N⟩, hq⟩ := okLAW l s _ hw fu i0 i1 i2 i3 1 hfu tables_1 s.heap.size _ s.heap (HR.start0 s CN lay) p e ha hc hk s m _ below hf ((Spec.applies_iff_loose hf).mp happ).1 ⟨rfl, State.Warmed39.refl s, rfl⟩ trivial
  obtain rfl : w = some (.int 1) := hv
  refine ⟨n, _, h1, h2, h3, hpost _ _ _ _ _ _ ⟨Cond.after_iff.mpr rfl, Cond.after_iff.mpr (eq_i res_at (Term.int_eval (1)) rfl), trivial⟩ ⟨hq.1, hq.2.1, (hq.2.2.sift fun y hy => Or.inr (N y hy)).mono (by decide) (by decide)⟩⟩
theorem main_1_1 : Claimed_1_1 := comes_1 fun _ _ _ _ _ _ h hF => ⟨h.1, hF⟩
theorem main_1_2 : Claimed_1_2 := comes_1 fun _ _ _ _ _ _ h hF => ⟨h.2.1, hF⟩

end Jvm.Pilot.@@N@@
namespace Jvm.Pilot.@@N@@
open Jvm Jvm.ClassFile Sem Op Lib Jvm.Free Jvm.Stand Jvm.Pilot.@@N@@.Jvm.D
/-! MADE BY PROGRAM (witnessworld.py) out of the Statement's table words and the real class files: 13 classes; the members and pool entries that the words name. The judged class is class 1, her method 2. -/
namespace start1
open Jvm.ClassFile
def u (s : String) : CpInfo := .utf8 (stringToUtf16 s)
/-- a pool by its gaps: so many unusable entries, then the entry; so many at the end -/
def gap : Nat → List CpInfo → List CpInfo
  | 0, r => r
  | n + 1, r => .unusable :: gap n r
def poolList (es : List (Nat × CpInfo)) (last : Nat) : List CpInfo := es.foldr (fun e r => gap e.1 (e.2 :: r)) (gap last [])
def pool (es : List (Nat × CpInfo)) (last : Nat) : Array CpInfo := ⟨poolList es last⟩
def fileOf (pool : Array CpInfo) (this : Nat) (attrs : Array Attribute := #[]) (ms : Array MethodInfo := #[]) (fl : Nat := 33) (sup : Nat := 0) (ifs : Array Nat := #[]) (fds : Array FieldInfo := #[]) : ClassFile where
  minorVersion := 0
  majorVersion := 65
  constantPool := pool
  accessFlags := fl
  thisClass := this
  superClass := sup
  interfaces := ifs
  fields := fds
  methods := ms
  attributes := attrs
def plain (name : String) (sup : Option ClassId) : Class where
  name := name
  kind := .ordinary
  loader := none
  accessFlags := 33
  super := sup
  interfaces := #[]
  cf := none
  fields := #[]
  methods := #[]
  instanceTypes := #[]
  staticTypes := #[]
  resolved := #[]
  callSites := []
  init := .initialized
  statics := none
  mirror := none

def pool0 : Array CpInfo := pool [(5, u "<init>"), (0, u "()V"), (1, .class_ 10), (1, u "java/lang/Object")] 113

def k0c0 : Code := { maxStack := 0, maxLocals := 1, code := object_method_1_code, exceptionTable := #[], attributes := #[] }
def k0m0 : Method := { name := "<init>", desc := "()V", sig := { parameters := [], returnType := none }, accessFlags := 1, code := some k0c0 }
/-- java/lang/Object -/
def k0 : Class := { plain "java/lang/Object" none with
  accessFlags := 33
  interfaces := #[]
  cf := some (fileOf pool0 8 #[] #[{ accessFlags := 1, nameIndex := 5, descriptorIndex := 6, attributes := #[] }] 33 0 #[] #[])
  fields := #[]
  methods := #[k0m0]
  instanceTypes := #[]
  staticTypes := #[]
  resolved := Array.replicate 124 none
  statics := none }

def pool1 : Array CpInfo := pool [(2, .class_ 4), (1, u "java/lang/Object"), (0, u "<init>"), (0, u "()V"), (0, .long 50), (1, .long 100), (1, .integer 500000), (0, .integer 100000), (0, .class_ 14), (0, u "GeneralLedger"), (0, .methodref 13 16), (0, .nameAndType 5 17), (0, u "(II)V"), (0, .methodref 13 19), (0, .nameAndType 20 21), (0, u "openAccount"), (0, u "(IIII)I"), (0, .methodref 13 23), (0, .nameAndType 24 25), (0, u "setSpecial"), (0, u "(II)I"), (0, .methodref 13 27), (0, .nameAndType 28 25), (0, u "setRate"), (0, .methodref 13 30), (0, .nameAndType 31 32), (0, u "beginJournal"), (0, u "(III)I"), (0, .methodref 13 34), (0, .nameAndType 35 32), (0, u "addLine"), (0, .methodref 13 37), (0, .nameAndType 38 39), (0, u "post"), (0, u "(I)I"), (0, .methodref 41 42), (0, .class_ 43), (0, .nameAndType 44 45), (0, u "GeneralLedgerL3"), (0, u "round"), (0, u "(JI)J"), (0, .long 4), (1, .long 3), (1, .methodref 13 51), (0, .nameAndType 52 53), (0, u "balance"), (0, u "(III)J"), (0, .methodref 13 55), (0, .nameAndType 56 57), (0, u "trialBalance"), (0, u "(II)J"), (0, .methodref 13 59), (0, .nameAndType 60 57), (0, u "ledgerInfo"), (0, .methodref 13 62), (0, .nameAndType 63 25), (0, u "accountInfo"), (0, .methodref 13 65), (0, .nameAndType 66 32), (0, u "slotInfo"), (3, u "law"), (0, u "(IIII)Z")] 2

def k1m0 : Method := { name := "<init>", desc := "()V", sig := { parameters := [], returnType := none }, accessFlags := 1, code := none }
def k1c1 : Code := { maxStack := 4, maxLocals := 5, code := method_2_code, exceptionTable := #[], attributes := #[] }
def k1m1 : Method := { name := "round", desc := "(JI)J", sig := { parameters := [.long, .int], returnType := some .long }, accessFlags := 10, code := some k1c1 }
def k1c2 : Code := { maxStack := 5, maxLocals := 21, code := code, exceptionTable := #[], attributes := #[] }
def k1m2 : Method := { name := "law", desc := "(IIII)Z", sig := { parameters := [.int, .int, .int, .int], returnType := some .boolean }, accessFlags := 9, code := some k1c2 }
/-- GeneralLedgerL3 -/
def k1 : Class := { plain "GeneralLedgerL3" (some 0) with
  accessFlags := 49
  interfaces := #[]
  cf := some (fileOf pool1 41 #[] #[{ accessFlags := 1, nameIndex := 5, descriptorIndex := 6, attributes := #[] }, { accessFlags := 10, nameIndex := 44, descriptorIndex := 45, attributes := #[] }, { accessFlags := 9, nameIndex := 70, descriptorIndex := 71, attributes := #[] }] 49 2 #[] #[])
  fields := #[]
  methods := #[k1m0, k1m1, k1m2]
  instanceTypes := #[]
  staticTypes := #[]
  resolved := Array.replicate 74 none
  statics := none }

def pool2 : Array CpInfo := pool [(1, .methodref 2 3), (0, .class_ 4), (0, .nameAndType 5 6), (0, u "java/lang/Object"), (0, u "<init>"), (0, u "()V"), (0, .fieldref 8 9), (0, .class_ 10), (0, .nameAndType 11 12), (0, u "GeneralLedger"), (0, u "accOpen"), (0, u "[Z"), (0, .fieldref 8 14), (0, .nameAndType 15 16), (0, u "accParent"), (0, u "[I"), (0, .fieldref 8 18), (0, .nameAndType 19 16), (0, u "accType"), (0, .fieldref 8 21), (0, .nameAndType 22 16), (0, u "accCurrency"), (0, .fieldref 8 24), (0, .nameAndType 25 16), (0, u "accChildren"), (0, .fieldref 8 27), (0, .nameAndType 28 16), (0, u "accDepth"), (0, .fieldref 8 30), (0, .nameAndType 31 12), (0, u "accUsed"), (0, .fieldref 8 33), (0, .nameAndType 34 35), (0, u "funcMove"), (0, u "[J"), (0, .fieldref 8 37), (0, .nameAndType 38 35), (0, u "txnMove"), (0, .fieldref 8 40), (0, .nameAndType 41 16), (0, u "rates"), (0, .fieldref 8 43), (0, .nameAndType 44 35), (0, u "currencyTotals"), (0, .fieldref 8 46), (0, .nameAndType 47 12), (0, u "slotBusy"), (0, .fieldref 8 49), (0, .nameAndType 50 16), (0, u "slotPeriod"), (0, .fieldref 8 52), (0, .nameAndType 53 12), (0, u "slotReversing"), (0, .fieldref 8 55), (0, .nameAndType 56 16), (0, u "slotLineCount"), (0, .fieldref 8 58), (0, .nameAndType 59 16), (0, u "slotAccount"), (0, .fieldref 8 61), (0, .nameAndType 62 16), (0, u "slotAmount"), (0, .methodref 8 64), (0, .nameAndType 65 66), (0, u "clamp"), (0, u "(III)I"), (0, .fieldref 8 68), (0, .nameAndType 69 70), (0, u "currencyCount"), (0, u "I"), (0, .fieldref 8 72), (0, .nameAndType 73 70), (0, u "maxLines"), (0, .methodref 8 75), (0, .nameAndType 76 6), (0, u "resetRates"), (0, .methodref 8 78), (0, .nameAndType 79 6), (0, u "resetAccounts"), (0, .methodref 8 81), (0, .nameAndType 82 6), (0, u "resetSlots"), (0, .fieldref 8 84), (0, .nameAndType 85 70), (0, u "fxAccount"), (0, .fieldref 8 87), (0, .nameAndType 88 70), (0, u "retainedAccount"), (0, .fieldref 8 90), (0, .nameAndType 91 70), (0, u "closedCount"), (0, .fieldref 8 93), (0, .nameAndType 94 95), (0, u "journals"), (0, u "J"), (0, .fieldref 8 97), (0, .nameAndType 98 95), (0, u "lines"), (0, .fieldref 8 100), (0, .nameAndType 101 95), (0, u "lastAuto"), (0, .methodref 8 103), (0, .nameAndType 104 105), (0, u "freeSlot"), (0, u "(I)V"), (0, .methodref 8 107), (0, .nameAndType 108 109), (0, u "isAccountId"), (0, u "(I)Z"), (0, .methodref 8 111), (0, .nameAndType 112 109), (0, u "isOpenAccount"), (3, .methodref 8 117), (0, .nameAndType 118 109), (0, u "isValidType"), (0, .methodref 8 120), (0, .nameAndType 121 109), (0, u "isCurrency"), (0, .methodref 8 123), (0, .nameAndType 124 109), (0, u "allowsForeign"), (0, .methodref 8 126), (0, .nameAndType 127 128), (0, u "createAccount"), (0, u "(IIII)V"), (0, .methodref 8 130), (0, .nameAndType 131 105), (0, u "clearMovements"), (0, .methodref 8 133), (0, .nameAndType 134 135), (0, u "cell"), (0, u "(II)I"), (0, .methodref 8 137), (0, .nameAndType 138 109), (0, u "isLeaf"), (0, .methodref 8 140), (0, .nameAndType 141 142), (0, u "typeFitsKind"), (0, u "(II)Z"), (0, .methodref 8 144), (0, .nameAndType 145 109), (0, u "isForeignCurrency"), (0, .methodref 8 147), (0, .nameAndType 148 109), (0, u "isValidRate"), (0, .methodref 8 150), (0, .nameAndType 151 109), (0, u "isSlot"), (0, .methodref 8 153), (0, .nameAndType 154 109), (0, u "isPeriod"), (0, .methodref 8 156), (0, .nameAndType 157 109), (0, u "isValidAmount"), (0, .methodref 8 159), (0, .nameAndType 160 161), (0, u "appendLine"), (0, u "(III)V"), (0, .methodref 8 163), (0, .nameAndType 164 135), (0, u "lineCell"), (0, .methodref 8 166), (0, .nameAndType 167 168), (0, u "postRefusal"), (0, u "(I)I"), (0, .methodref 8 170), (0, .nameAndType 171 172), (0, u "journalRounding"), (0, u "(I)J"), (0, .methodref 8 174), (0, .nameAndType 175 176), (0, u "applyJournal"), (0, u "(IIJZ)V"), (0, .methodref 8 178), (0, .nameAndType 179 180), (0, u "countJournal"), (0, u "(J)V"), (0, .methodref 8 182), (0, .nameAndType 183 109), (0, u "journalHasParent"), (0, .methodref 8 185), (0, .nameAndType 186 109), (0, u "journalBalanced"), (0, .methodref 8 188), (0, .nameAndType 189 168), (0, u "stagedLines"), (0, .methodref 8 191), (0, .nameAndType 192 6), (0, u "clearCurrencyTotals"), (0, .methodref 8 194), (0, .nameAndType 195 196), (0, u "currencyTotalsZero"), (0, u "()Z"), (0, .methodref 8 198), (0, .nameAndType 199 200), (0, u "lineFunc"), (0, u "(II)J"), (0, .methodref 8 202), (0, .nameAndType 203 168), (0, u "rateOf"), (0, .methodref 8 205), (0, .nameAndType 206 207), (0, u "roundRate"), (0, u "(JI)J"), (0, .methodref 8 209), (0, .nameAndType 210 211), (0, u "apply"), (0, u "(IJJI)V"), (9, u "(III)J"), (9, .methodref 8 232), (0, .nameAndType 233 142), (0, u "inSubtree"), (0, .methodref 8 235), (0, .nameAndType 236 237), (0, u "contribution"), (0, u "(IIII)J"), (0, .methodref 8 239), (0, .nameAndType 240 172), (0, u "trialFunc"), (0, .methodref 8 242), (0, .nameAndType 243 200), (0, u "trialTxn"), (0, .methodref 8 245), (0, .nameAndType 246 247), (0, u "boolToInt"), (0, u "(Z)I"), (0, .methodref 8 249), (0, .nameAndType 250 135), (0, u "openAccountField"), (3, .long 18446744073709551615), (4, .long 50), (1, .long 100), (1, .integer 100000), (0, .integer 4293967296), (0, .integer 1000000), (0, u "OK"), (2, u "BAD_ACCOUNT"), (1, u "BAD_PARENT"), (1, u "BAD_TYPE"), (1, u "BAD_CURRENCY"), (1, u "BAD_PERIOD"), (1, u "CLOSED"), (1, u "BAD_SLOT"), (1, u "SLOT_BUSY"), (1, u "SLOT_EMPTY"), (1, u "FULL"), (1, u "BAD_AMOUNT"), (1, u "NOT_LEAF"), (1, u "UNBALANCED"), (1, u "NO_SPECIAL"), (1, u "BAD_RATE"), (1, u "TOO_LATE"), (1, u "OUT_OF_ORDER"), (1, u "BAD_KIND"), (1, u "ASSET"), (0, u "LIABILITY"), (0, u "EQUITY"), (0, u "INCOME"), (0, u "EXPENSE"), (0, u "FX_ACCOUNT"), (0, u "RETAINED_ACCOUNT"), (0, u "MOVE_FUNC"), (0, u "MOVE_TXN"), (0, u "CLOSE_FUNC"), (0, u "CLOSE_TXN"), (0, u "MAX_AMOUNT"), (0, u "MAX_RATE"), (0, u "(II)V"), (3, u "openAccount"), (0, u "(IIII)I"), (0, u "setSpecial"), (0, u "setRate"), (0, u "beginJournal"), (1, u "addLine"), (1, u "post"), (4, u "balance"), (0, u "trialBalance"), (0, u "accountInfo"), (0, u "slotInfo"), (0, u "ledgerInfo")] 2

def k2c0 : Code := { maxStack := 5, maxLocals := 3, code := prog_1_method_1_code, exceptionTable := #[], attributes := #[] }
def k2m0 : Method := { name := "<init>", desc := "(II)V", sig := { parameters := [.int, .int], returnType := none }, accessFlags := 1, code := some k2c0 }
def k2c1 : Code := { maxStack := 2, maxLocals := 4, code := prog_1_method_2_code, exceptionTable := #[], attributes := #[] }
def k2m1 : Method := { name := "clamp", desc := "(III)I", sig := { parameters := [.int, .int, .int], returnType := some .int }, accessFlags := 2, code := some k2c1 }
def k2c2 : Code := { maxStack := 4, maxLocals := 2, code := prog_1_method_3_code, exceptionTable := #[], attributes := #[] }
def k2m2 : Method := { name := "resetRates", desc := "()V", sig := { parameters := [], returnType := none }, accessFlags := 2, code := some k2c2 }
def k2c3 : Code := { maxStack := 4, maxLocals := 2, code := prog_1_method_4_code, exceptionTable := #[], attributes := #[] }
def k2m3 : Method := { name := "resetAccounts", desc := "()V", sig := { parameters := [], returnType := none }, accessFlags := 2, code := some k2c3 }
def k2c4 : Code := { maxStack := 3, maxLocals := 2, code := prog_1_method_5_code, exceptionTable := #[], attributes := #[] }
def k2m4 : Method := { name := "resetSlots", desc := "()V", sig := { parameters := [], returnType := none }, accessFlags := 2, code := some k2c4 }
def k2c5 : Code := { maxStack := 5, maxLocals := 5, code := prog_1_method_6_code, exceptionTable := #[], attributes := #[] }
def k2m5 : Method := { name := "openAccount", desc := "(IIII)I", sig := { parameters := [.int, .int, .int, .int], returnType := some .int }, accessFlags := 1, code := some k2c5 }
def k2c6 : Code := { maxStack := 4, maxLocals := 5, code := prog_1_method_8_code, exceptionTable := #[], attributes := #[] }
def k2m6 : Method := { name := "createAccount", desc := "(IIII)V", sig := { parameters := [.int, .int, .int, .int], returnType := none }, accessFlags := 2, code := some k2c6 }
def k2c7 : Code := { maxStack := 4, maxLocals := 4, code := prog_1_method_9_code, exceptionTable := #[], attributes := #[] }
def k2m7 : Method := { name := "clearMovements", desc := "(I)V", sig := { parameters := [.int], returnType := none }, accessFlags := 2, code := some k2c7 }
def k2c8 : Code := { maxStack := 4, maxLocals := 3, code := prog_1_method_10_code, exceptionTable := #[], attributes := #[] }
def k2m8 : Method := { name := "setSpecial", desc := "(II)I", sig := { parameters := [.int, .int], returnType := some .int }, accessFlags := 1, code := some k2c8 }
def k2c9 : Code := { maxStack := 2, maxLocals := 3, code := prog_1_method_11_code, exceptionTable := #[], attributes := #[] }
def k2m9 : Method := { name := "typeFitsKind", desc := "(II)Z", sig := { parameters := [.int, .int], returnType := some .boolean }, accessFlags := 2, code := some k2c9 }
def k2c10 : Code := { maxStack := 3, maxLocals := 3, code := prog_1_method_12_code, exceptionTable := #[], attributes := #[] }
def k2m10 : Method := { name := "setRate", desc := "(II)I", sig := { parameters := [.int, .int], returnType := some .int }, accessFlags := 1, code := some k2c10 }
def k2c11 : Code := { maxStack := 3, maxLocals := 4, code := prog_1_method_13_code, exceptionTable := #[], attributes := #[] }
def k2m11 : Method := { name := "beginJournal", desc := "(III)I", sig := { parameters := [.int, .int, .int], returnType := some .int }, accessFlags := 1, code := some k2c11 }
def k2c12 : Code := { maxStack := 4, maxLocals := 4, code := prog_1_method_14_code, exceptionTable := #[], attributes := #[] }
def k2m12 : Method := { name := "addLine", desc := "(III)I", sig := { parameters := [.int, .int, .int], returnType := some .int }, accessFlags := 1, code := some k2c12 }
def k2c13 : Code := { maxStack := 4, maxLocals := 6, code := prog_1_method_15_code, exceptionTable := #[], attributes := #[] }
def k2m13 : Method := { name := "appendLine", desc := "(III)V", sig := { parameters := [.int, .int, .int], returnType := none }, accessFlags := 2, code := some k2c13 }
def k2c14 : Code := { maxStack := 3, maxLocals := 2, code := prog_1_method_17_code, exceptionTable := #[], attributes := #[] }
def k2m14 : Method := { name := "freeSlot", desc := "(I)V", sig := { parameters := [.int], returnType := none }, accessFlags := 2, code := some k2c14 }
def k2c15 : Code := { maxStack := 6, maxLocals := 8, code := prog_1_method_18_code, exceptionTable := #[], attributes := #[] }
def k2m15 : Method := { name := "post", desc := "(I)I", sig := { parameters := [.int], returnType := some .int }, accessFlags := 1, code := some k2c15 }
def k2c16 : Code := { maxStack := 4, maxLocals := 4, code := prog_1_method_19_code, exceptionTable := #[], attributes := #[] }
def k2m16 : Method := { name := "postRefusal", desc := "(I)I", sig := { parameters := [.int], returnType := some .int }, accessFlags := 2, code := some k2c16 }
def k2c17 : Code := { maxStack := 2, maxLocals := 3, code := prog_1_method_20_code, exceptionTable := #[], attributes := #[] }
def k2m17 : Method := { name := "stagedLines", desc := "(I)I", sig := { parameters := [.int], returnType := some .int }, accessFlags := 2, code := some k2c17 }
def k2c18 : Code := { maxStack := 4, maxLocals := 5, code := prog_1_method_21_code, exceptionTable := #[], attributes := #[] }
def k2m18 : Method := { name := "journalHasParent", desc := "(I)Z", sig := { parameters := [.int], returnType := some .boolean }, accessFlags := 2, code := some k2c18 }
def k2c19 : Code := { maxStack := 6, maxLocals := 6, code := prog_1_method_22_code, exceptionTable := #[], attributes := #[] }
def k2m19 : Method := { name := "journalBalanced", desc := "(I)Z", sig := { parameters := [.int], returnType := some .boolean }, accessFlags := 2, code := some k2c19 }
def k2c20 : Code := { maxStack := 4, maxLocals := 2, code := prog_1_method_23_code, exceptionTable := #[], attributes := #[] }
def k2m20 : Method := { name := "clearCurrencyTotals", desc := "()V", sig := { parameters := [], returnType := none }, accessFlags := 2, code := some k2c20 }
def k2c21 : Code := { maxStack := 4, maxLocals := 2, code := prog_1_method_24_code, exceptionTable := #[], attributes := #[] }
def k2m21 : Method := { name := "currencyTotalsZero", desc := "()Z", sig := { parameters := [], returnType := some .boolean }, accessFlags := 2, code := some k2c21 }
def k2c22 : Code := { maxStack := 4, maxLocals := 8, code := prog_1_method_25_code, exceptionTable := #[], attributes := #[] }
def k2m22 : Method := { name := "journalRounding", desc := "(I)J", sig := { parameters := [.int], returnType := some .long }, accessFlags := 2, code := some k2c22 }
def k2c23 : Code := { maxStack := 4, maxLocals := 6, code := prog_1_method_26_code, exceptionTable := #[], attributes := #[] }
def k2m23 : Method := { name := "lineFunc", desc := "(II)J", sig := { parameters := [.int, .int], returnType := some .long }, accessFlags := 2, code := some k2c23 }
def k2c24 : Code := { maxStack := 7, maxLocals := 13, code := prog_1_method_27_code, exceptionTable := #[], attributes := #[] }
def k2m24 : Method := { name := "applyJournal", desc := "(IIJZ)V", sig := { parameters := [.int, .int, .long, .boolean], returnType := none }, accessFlags := 2, code := some k2c24 }
def k2c25 : Code := { maxStack := 5, maxLocals := 3, code := prog_1_method_28_code, exceptionTable := #[], attributes := #[] }
def k2m25 : Method := { name := "countJournal", desc := "(J)V", sig := { parameters := [.long], returnType := none }, accessFlags := 2, code := some k2c25 }
def k2c26 : Code := { maxStack := 5, maxLocals := 9, code := prog_1_method_36_code, exceptionTable := #[], attributes := #[] }
def k2m26 : Method := { name := "balance", desc := "(III)J", sig := { parameters := [.int, .int, .int], returnType := some .long }, accessFlags := 1, code := some k2c26 }
def k2c27 : Code := { maxStack := 2, maxLocals := 5, code := prog_1_method_37_code, exceptionTable := #[], attributes := #[] }
def k2m27 : Method := { name := "inSubtree", desc := "(II)Z", sig := { parameters := [.int, .int], returnType := some .boolean }, accessFlags := 2, code := some k2c27 }
def k2c28 : Code := { maxStack := 4, maxLocals := 5, code := prog_1_method_38_code, exceptionTable := #[], attributes := #[] }
def k2m28 : Method := { name := "contribution", desc := "(IIII)J", sig := { parameters := [.int, .int, .int, .int], returnType := some .long }, accessFlags := 2, code := some k2c28 }
def k2c29 : Code := { maxStack := 3, maxLocals := 3, code := prog_1_method_39_code, exceptionTable := #[], attributes := #[] }
def k2m29 : Method := { name := "trialBalance", desc := "(II)J", sig := { parameters := [.int, .int], returnType := some .long }, accessFlags := 1, code := some k2c29 }
def k2c30 : Code := { maxStack := 6, maxLocals := 5, code := prog_1_method_40_code, exceptionTable := #[], attributes := #[] }
def k2m30 : Method := { name := "trialFunc", desc := "(I)J", sig := { parameters := [.int], returnType := some .long }, accessFlags := 2, code := some k2c30 }
def k2c31 : Code := { maxStack := 6, maxLocals := 6, code := prog_1_method_41_code, exceptionTable := #[], attributes := #[] }
def k2m31 : Method := { name := "trialTxn", desc := "(II)J", sig := { parameters := [.int, .int], returnType := some .long }, accessFlags := 2, code := some k2c31 }
def k2c32 : Code := { maxStack := 3, maxLocals := 3, code := prog_1_method_42_code, exceptionTable := #[], attributes := #[] }
def k2m32 : Method := { name := "accountInfo", desc := "(II)I", sig := { parameters := [.int, .int], returnType := some .int }, accessFlags := 1, code := some k2c32 }
def k2c33 : Code := { maxStack := 3, maxLocals := 3, code := prog_1_method_43_code, exceptionTable := #[], attributes := #[] }
def k2m33 : Method := { name := "openAccountField", desc := "(II)I", sig := { parameters := [.int, .int], returnType := some .int }, accessFlags := 2, code := some k2c33 }
def k2c34 : Code := { maxStack := 4, maxLocals := 4, code := prog_1_method_44_code, exceptionTable := #[], attributes := #[] }
def k2m34 : Method := { name := "slotInfo", desc := "(III)I", sig := { parameters := [.int, .int, .int], returnType := some .int }, accessFlags := 1, code := some k2c34 }
def k2c35 : Code := { maxStack := 2, maxLocals := 3, code := prog_1_method_46_code, exceptionTable := #[], attributes := #[] }
def k2m35 : Method := { name := "ledgerInfo", desc := "(II)J", sig := { parameters := [.int, .int], returnType := some .long }, accessFlags := 1, code := some k2c35 }
def k2c36 : Code := { maxStack := 6, maxLocals := 8, code := prog_1_method_48_code, exceptionTable := #[], attributes := #[] }
def k2m36 : Method := { name := "apply", desc := "(IJJI)V", sig := { parameters := [.int, .long, .long, .int], returnType := none }, accessFlags := 2, code := some k2c36 }
def k2c37 : Code := { maxStack := 4, maxLocals := 8, code := prog_1_method_51_code, exceptionTable := #[], attributes := #[] }
def k2m37 : Method := { name := "roundRate", desc := "(JI)J", sig := { parameters := [.long, .int], returnType := some .long }, accessFlags := 2, code := some k2c37 }
def k2c38 : Code := { maxStack := 2, maxLocals := 2, code := prog_1_method_52_code, exceptionTable := #[], attributes := #[] }
def k2m38 : Method := { name := "rateOf", desc := "(I)I", sig := { parameters := [.int], returnType := some .int }, accessFlags := 2, code := some k2c38 }
def k2c39 : Code := { maxStack := 2, maxLocals := 3, code := prog_1_method_53_code, exceptionTable := #[], attributes := #[] }
def k2m39 : Method := { name := "cell", desc := "(II)I", sig := { parameters := [.int, .int], returnType := some .int }, accessFlags := 2, code := some k2c39 }
def k2c40 : Code := { maxStack := 2, maxLocals := 3, code := prog_1_method_54_code, exceptionTable := #[], attributes := #[] }
def k2m40 : Method := { name := "lineCell", desc := "(II)I", sig := { parameters := [.int, .int], returnType := some .int }, accessFlags := 2, code := some k2c40 }
def k2c41 : Code := { maxStack := 1, maxLocals := 2, code := prog_1_method_55_code, exceptionTable := #[], attributes := #[] }
def k2m41 : Method := { name := "boolToInt", desc := "(Z)I", sig := { parameters := [.boolean], returnType := some .int }, accessFlags := 2, code := some k2c41 }
def k2c42 : Code := { maxStack := 2, maxLocals := 2, code := prog_1_method_56_code, exceptionTable := #[], attributes := #[] }
def k2m42 : Method := { name := "isAccountId", desc := "(I)Z", sig := { parameters := [.int], returnType := some .boolean }, accessFlags := 2, code := some k2c42 }
def k2c43 : Code := { maxStack := 2, maxLocals := 2, code := prog_1_method_57_code, exceptionTable := #[], attributes := #[] }
def k2m43 : Method := { name := "isOpenAccount", desc := "(I)Z", sig := { parameters := [.int], returnType := some .boolean }, accessFlags := 2, code := some k2c43 }
def k2c44 : Code := { maxStack := 2, maxLocals := 2, code := prog_1_method_58_code, exceptionTable := #[], attributes := #[] }
def k2m44 : Method := { name := "isLeaf", desc := "(I)Z", sig := { parameters := [.int], returnType := some .boolean }, accessFlags := 2, code := some k2c44 }
def k2c45 : Code := { maxStack := 2, maxLocals := 2, code := prog_1_method_59_code, exceptionTable := #[], attributes := #[] }
def k2m45 : Method := { name := "isPeriod", desc := "(I)Z", sig := { parameters := [.int], returnType := some .boolean }, accessFlags := 2, code := some k2c45 }
def k2c46 : Code := { maxStack := 2, maxLocals := 2, code := prog_1_method_60_code, exceptionTable := #[], attributes := #[] }
def k2m46 : Method := { name := "isSlot", desc := "(I)Z", sig := { parameters := [.int], returnType := some .boolean }, accessFlags := 2, code := some k2c46 }
def k2c47 : Code := { maxStack := 2, maxLocals := 2, code := prog_1_method_61_code, exceptionTable := #[], attributes := #[] }
def k2m47 : Method := { name := "isCurrency", desc := "(I)Z", sig := { parameters := [.int], returnType := some .boolean }, accessFlags := 2, code := some k2c47 }
def k2c48 : Code := { maxStack := 2, maxLocals := 2, code := prog_1_method_62_code, exceptionTable := #[], attributes := #[] }
def k2m48 : Method := { name := "isForeignCurrency", desc := "(I)Z", sig := { parameters := [.int], returnType := some .boolean }, accessFlags := 2, code := some k2c48 }
def k2c49 : Code := { maxStack := 2, maxLocals := 2, code := prog_1_method_63_code, exceptionTable := #[], attributes := #[] }
def k2m49 : Method := { name := "isValidRate", desc := "(I)Z", sig := { parameters := [.int], returnType := some .boolean }, accessFlags := 2, code := some k2c49 }
def k2c50 : Code := { maxStack := 2, maxLocals := 2, code := prog_1_method_64_code, exceptionTable := #[], attributes := #[] }
def k2m50 : Method := { name := "isValidAmount", desc := "(I)Z", sig := { parameters := [.int], returnType := some .boolean }, accessFlags := 2, code := some k2c50 }
def k2c51 : Code := { maxStack := 2, maxLocals := 2, code := prog_1_method_65_code, exceptionTable := #[], attributes := #[] }
def k2m51 : Method := { name := "isValidType", desc := "(I)Z", sig := { parameters := [.int], returnType := some .boolean }, accessFlags := 2, code := some k2c51 }
def k2c52 : Code := { maxStack := 2, maxLocals := 2, code := prog_1_method_66_code, exceptionTable := #[], attributes := #[] }
def k2m52 : Method := { name := "allowsForeign", desc := "(I)Z", sig := { parameters := [.int], returnType := some .boolean }, accessFlags := 2, code := some k2c52 }
/-- GeneralLedger -/
def k2 : Class := { plain "GeneralLedger" (some 0) with
  accessFlags := 49
  interfaces := #[]
  cf := some (fileOf pool2 8 #[] #[{ accessFlags := 1, nameIndex := 5, descriptorIndex := 318, attributes := #[] }, { accessFlags := 2, nameIndex := 65, descriptorIndex := 66, attributes := #[] }, { accessFlags := 2, nameIndex := 76, descriptorIndex := 6, attributes := #[] }, { accessFlags := 2, nameIndex := 79, descriptorIndex := 6, attributes := #[] }, { accessFlags := 2, nameIndex := 82, descriptorIndex := 6, attributes := #[] }, { accessFlags := 1, nameIndex := 322, descriptorIndex := 323, attributes := #[] }, { accessFlags := 2, nameIndex := 127, descriptorIndex := 128, attributes := #[] }, { accessFlags := 2, nameIndex := 131, descriptorIndex := 105, attributes := #[] }, { accessFlags := 1, nameIndex := 324, descriptorIndex := 135, attributes := #[] }, { accessFlags := 2, nameIndex := 141, descriptorIndex := 142, attributes := #[] }, { accessFlags := 1, nameIndex := 325, descriptorIndex := 135, attributes := #[] }, { accessFlags := 1, nameIndex := 326, descriptorIndex := 66, attributes := #[] }, { accessFlags := 1, nameIndex := 328, descriptorIndex := 66, attributes := #[] }, { accessFlags := 2, nameIndex := 160, descriptorIndex := 161, attributes := #[] }, { accessFlags := 2, nameIndex := 104, descriptorIndex := 105, attributes := #[] }, { accessFlags := 1, nameIndex := 330, descriptorIndex := 168, attributes := #[] }, { accessFlags := 2, nameIndex := 167, descriptorIndex := 168, attributes := #[] }, { accessFlags := 2, nameIndex := 189, descriptorIndex := 168, attributes := #[] }, { accessFlags := 2, nameIndex := 183, descriptorIndex := 109, attributes := #[] }, { accessFlags := 2, nameIndex := 186, descriptorIndex := 109, attributes := #[] }, { accessFlags := 2, nameIndex := 192, descriptorIndex := 6, attributes := #[] }, { accessFlags := 2, nameIndex := 195, descriptorIndex := 196, attributes := #[] }, { accessFlags := 2, nameIndex := 171, descriptorIndex := 172, attributes := #[] }, { accessFlags := 2, nameIndex := 199, descriptorIndex := 200, attributes := #[] }, { accessFlags := 2, nameIndex := 175, descriptorIndex := 176, attributes := #[] }, { accessFlags := 2, nameIndex := 179, descriptorIndex := 180, attributes := #[] }, { accessFlags := 1, nameIndex := 335, descriptorIndex := 221, attributes := #[] }, { accessFlags := 2, nameIndex := 233, descriptorIndex := 142, attributes := #[] }, { accessFlags := 2, nameIndex := 236, descriptorIndex := 237, attributes := #[] }, { accessFlags := 1, nameIndex := 336, descriptorIndex := 200, attributes := #[] }, { accessFlags := 2, nameIndex := 240, descriptorIndex := 172, attributes := #[] }, { accessFlags := 2, nameIndex := 243, descriptorIndex := 200, attributes := #[] }, { accessFlags := 1, nameIndex := 337, descriptorIndex := 135, attributes := #[] }, { accessFlags := 2, nameIndex := 250, descriptorIndex := 135, attributes := #[] }, { accessFlags := 1, nameIndex := 338, descriptorIndex := 66, attributes := #[] }, { accessFlags := 1, nameIndex := 339, descriptorIndex := 200, attributes := #[] }, { accessFlags := 2, nameIndex := 210, descriptorIndex := 211, attributes := #[] }, { accessFlags := 2, nameIndex := 206, descriptorIndex := 207, attributes := #[] }, { accessFlags := 2, nameIndex := 203, descriptorIndex := 168, attributes := #[] }, { accessFlags := 2, nameIndex := 134, descriptorIndex := 135, attributes := #[] }, { accessFlags := 2, nameIndex := 164, descriptorIndex := 135, attributes := #[] }, { accessFlags := 2, nameIndex := 246, descriptorIndex := 247, attributes := #[] }, { accessFlags := 2, nameIndex := 108, descriptorIndex := 109, attributes := #[] }, { accessFlags := 2, nameIndex := 112, descriptorIndex := 109, attributes := #[] }, { accessFlags := 2, nameIndex := 138, descriptorIndex := 109, attributes := #[] }, { accessFlags := 2, nameIndex := 154, descriptorIndex := 109, attributes := #[] }, { accessFlags := 2, nameIndex := 151, descriptorIndex := 109, attributes := #[] }, { accessFlags := 2, nameIndex := 121, descriptorIndex := 109, attributes := #[] }, { accessFlags := 2, nameIndex := 145, descriptorIndex := 109, attributes := #[] }, { accessFlags := 2, nameIndex := 148, descriptorIndex := 109, attributes := #[] }, { accessFlags := 2, nameIndex := 157, descriptorIndex := 109, attributes := #[] }, { accessFlags := 2, nameIndex := 118, descriptorIndex := 109, attributes := #[] }, { accessFlags := 2, nameIndex := 124, descriptorIndex := 109, attributes := #[] }] 49 2 #[] #[{ accessFlags := 25, nameIndex := 266, descriptorIndex := 70, attributes := #[] }, { accessFlags := 25, nameIndex := 269, descriptorIndex := 70, attributes := #[] }, { accessFlags := 25, nameIndex := 271, descriptorIndex := 70, attributes := #[] }, { accessFlags := 25, nameIndex := 273, descriptorIndex := 70, attributes := #[] }, { accessFlags := 25, nameIndex := 275, descriptorIndex := 70, attributes := #[] }, { accessFlags := 25, nameIndex := 277, descriptorIndex := 70, attributes := #[] }, { accessFlags := 25, nameIndex := 279, descriptorIndex := 70, attributes := #[] }, { accessFlags := 25, nameIndex := 281, descriptorIndex := 70, attributes := #[] }, { accessFlags := 25, nameIndex := 283, descriptorIndex := 70, attributes := #[] }, { accessFlags := 25, nameIndex := 285, descriptorIndex := 70, attributes := #[] }, { accessFlags := 25, nameIndex := 287, descriptorIndex := 70, attributes := #[] }, { accessFlags := 25, nameIndex := 289, descriptorIndex := 70, attributes := #[] }, { accessFlags := 25, nameIndex := 291, descriptorIndex := 70, attributes := #[] }, { accessFlags := 25, nameIndex := 293, descriptorIndex := 70, attributes := #[] }, { accessFlags := 25, nameIndex := 295, descriptorIndex := 70, attributes := #[] }, { accessFlags := 25, nameIndex := 297, descriptorIndex := 70, attributes := #[] }, { accessFlags := 25, nameIndex := 299, descriptorIndex := 70, attributes := #[] }, { accessFlags := 25, nameIndex := 301, descriptorIndex := 70, attributes := #[] }, { accessFlags := 25, nameIndex := 303, descriptorIndex := 70, attributes := #[] }, { accessFlags := 25, nameIndex := 305, descriptorIndex := 70, attributes := #[] }, { accessFlags := 25, nameIndex := 306, descriptorIndex := 70, attributes := #[] }, { accessFlags := 25, nameIndex := 307, descriptorIndex := 70, attributes := #[] }, { accessFlags := 25, nameIndex := 308, descriptorIndex := 70, attributes := #[] }, { accessFlags := 25, nameIndex := 309, descriptorIndex := 70, attributes := #[] }, { accessFlags := 25, nameIndex := 310, descriptorIndex := 70, attributes := #[] }, { accessFlags := 25, nameIndex := 311, descriptorIndex := 70, attributes := #[] }, { accessFlags := 25, nameIndex := 312, descriptorIndex := 70, attributes := #[] }, { accessFlags := 25, nameIndex := 313, descriptorIndex := 70, attributes := #[] }, { accessFlags := 25, nameIndex := 314, descriptorIndex := 70, attributes := #[] }, { accessFlags := 25, nameIndex := 315, descriptorIndex := 70, attributes := #[] }, { accessFlags := 25, nameIndex := 316, descriptorIndex := 70, attributes := #[] }, { accessFlags := 25, nameIndex := 317, descriptorIndex := 70, attributes := #[] }, { accessFlags := 2, nameIndex := 69, descriptorIndex := 70, attributes := #[] }, { accessFlags := 2, nameIndex := 73, descriptorIndex := 70, attributes := #[] }, { accessFlags := 2, nameIndex := 11, descriptorIndex := 12, attributes := #[] }, { accessFlags := 2, nameIndex := 15, descriptorIndex := 16, attributes := #[] }, { accessFlags := 2, nameIndex := 19, descriptorIndex := 16, attributes := #[] }, { accessFlags := 2, nameIndex := 22, descriptorIndex := 16, attributes := #[] }, { accessFlags := 2, nameIndex := 25, descriptorIndex := 16, attributes := #[] }, { accessFlags := 2, nameIndex := 28, descriptorIndex := 16, attributes := #[] }, { accessFlags := 2, nameIndex := 31, descriptorIndex := 12, attributes := #[] }, { accessFlags := 2, nameIndex := 34, descriptorIndex := 35, attributes := #[] }, { accessFlags := 2, nameIndex := 38, descriptorIndex := 35, attributes := #[] }, { accessFlags := 2, nameIndex := 41, descriptorIndex := 16, attributes := #[] }, { accessFlags := 2, nameIndex := 44, descriptorIndex := 35, attributes := #[] }, { accessFlags := 2, nameIndex := 47, descriptorIndex := 12, attributes := #[] }, { accessFlags := 2, nameIndex := 50, descriptorIndex := 16, attributes := #[] }, { accessFlags := 2, nameIndex := 53, descriptorIndex := 12, attributes := #[] }, { accessFlags := 2, nameIndex := 56, descriptorIndex := 16, attributes := #[] }, { accessFlags := 2, nameIndex := 59, descriptorIndex := 16, attributes := #[] }, { accessFlags := 2, nameIndex := 62, descriptorIndex := 16, attributes := #[] }, { accessFlags := 2, nameIndex := 91, descriptorIndex := 70, attributes := #[] }, { accessFlags := 2, nameIndex := 94, descriptorIndex := 95, attributes := #[] }, { accessFlags := 2, nameIndex := 98, descriptorIndex := 95, attributes := #[] }, { accessFlags := 2, nameIndex := 101, descriptorIndex := 95, attributes := #[] }, { accessFlags := 2, nameIndex := 85, descriptorIndex := 70, attributes := #[] }, { accessFlags := 2, nameIndex := 88, descriptorIndex := 70, attributes := #[] }])
  fields := #[{ name := "OK", type := .int, accessFlags := 25, slot := 0, constantValue := 0 }, { name := "BAD_ACCOUNT", type := .int, accessFlags := 25, slot := 1, constantValue := 0 }, { name := "BAD_PARENT", type := .int, accessFlags := 25, slot := 2, constantValue := 0 }, { name := "BAD_TYPE", type := .int, accessFlags := 25, slot := 3, constantValue := 0 }, { name := "BAD_CURRENCY", type := .int, accessFlags := 25, slot := 4, constantValue := 0 }, { name := "BAD_PERIOD", type := .int, accessFlags := 25, slot := 5, constantValue := 0 }, { name := "CLOSED", type := .int, accessFlags := 25, slot := 6, constantValue := 0 }, { name := "BAD_SLOT", type := .int, accessFlags := 25, slot := 7, constantValue := 0 }, { name := "SLOT_BUSY", type := .int, accessFlags := 25, slot := 8, constantValue := 0 }, { name := "SLOT_EMPTY", type := .int, accessFlags := 25, slot := 9, constantValue := 0 }, { name := "FULL", type := .int, accessFlags := 25, slot := 10, constantValue := 0 }, { name := "BAD_AMOUNT", type := .int, accessFlags := 25, slot := 11, constantValue := 0 }, { name := "NOT_LEAF", type := .int, accessFlags := 25, slot := 12, constantValue := 0 }, { name := "UNBALANCED", type := .int, accessFlags := 25, slot := 13, constantValue := 0 }, { name := "NO_SPECIAL", type := .int, accessFlags := 25, slot := 14, constantValue := 0 }, { name := "BAD_RATE", type := .int, accessFlags := 25, slot := 15, constantValue := 0 }, { name := "TOO_LATE", type := .int, accessFlags := 25, slot := 16, constantValue := 0 }, { name := "OUT_OF_ORDER", type := .int, accessFlags := 25, slot := 17, constantValue := 0 }, { name := "BAD_KIND", type := .int, accessFlags := 25, slot := 18, constantValue := 0 }, { name := "ASSET", type := .int, accessFlags := 25, slot := 19, constantValue := 0 }, { name := "LIABILITY", type := .int, accessFlags := 25, slot := 20, constantValue := 0 }, { name := "EQUITY", type := .int, accessFlags := 25, slot := 21, constantValue := 0 }, { name := "INCOME", type := .int, accessFlags := 25, slot := 22, constantValue := 0 }, { name := "EXPENSE", type := .int, accessFlags := 25, slot := 23, constantValue := 0 }, { name := "FX_ACCOUNT", type := .int, accessFlags := 25, slot := 24, constantValue := 0 }, { name := "RETAINED_ACCOUNT", type := .int, accessFlags := 25, slot := 25, constantValue := 0 }, { name := "MOVE_FUNC", type := .int, accessFlags := 25, slot := 26, constantValue := 0 }, { name := "MOVE_TXN", type := .int, accessFlags := 25, slot := 27, constantValue := 0 }, { name := "CLOSE_FUNC", type := .int, accessFlags := 25, slot := 28, constantValue := 0 }, { name := "CLOSE_TXN", type := .int, accessFlags := 25, slot := 29, constantValue := 0 }, { name := "MAX_AMOUNT", type := .int, accessFlags := 25, slot := 30, constantValue := 0 }, { name := "MAX_RATE", type := .int, accessFlags := 25, slot := 31, constantValue := 0 }, { name := "currencyCount", type := .int, accessFlags := 2, slot := 0, constantValue := 0 }, { name := "maxLines", type := .int, accessFlags := 2, slot := 1, constantValue := 0 }, { name := "accOpen", type := (.array .boolean), accessFlags := 2, slot := 2, constantValue := 0 }, { name := "accParent", type := (.array .int), accessFlags := 2, slot := 3, constantValue := 0 }, { name := "accType", type := (.array .int), accessFlags := 2, slot := 4, constantValue := 0 }, { name := "accCurrency", type := (.array .int), accessFlags := 2, slot := 5, constantValue := 0 }, { name := "accChildren", type := (.array .int), accessFlags := 2, slot := 6, constantValue := 0 }, { name := "accDepth", type := (.array .int), accessFlags := 2, slot := 7, constantValue := 0 }, { name := "accUsed", type := (.array .boolean), accessFlags := 2, slot := 8, constantValue := 0 }, { name := "funcMove", type := (.array .long), accessFlags := 2, slot := 9, constantValue := 0 }, { name := "txnMove", type := (.array .long), accessFlags := 2, slot := 10, constantValue := 0 }, { name := "rates", type := (.array .int), accessFlags := 2, slot := 11, constantValue := 0 }, { name := "currencyTotals", type := (.array .long), accessFlags := 2, slot := 12, constantValue := 0 }, { name := "slotBusy", type := (.array .boolean), accessFlags := 2, slot := 13, constantValue := 0 }, { name := "slotPeriod", type := (.array .int), accessFlags := 2, slot := 14, constantValue := 0 }, { name := "slotReversing", type := (.array .boolean), accessFlags := 2, slot := 15, constantValue := 0 }, { name := "slotLineCount", type := (.array .int), accessFlags := 2, slot := 16, constantValue := 0 }, { name := "slotAccount", type := (.array .int), accessFlags := 2, slot := 17, constantValue := 0 }, { name := "slotAmount", type := (.array .int), accessFlags := 2, slot := 18, constantValue := 0 }, { name := "closedCount", type := .int, accessFlags := 2, slot := 19, constantValue := 0 }, { name := "journals", type := .long, accessFlags := 2, slot := 20, constantValue := 0 }, { name := "lines", type := .long, accessFlags := 2, slot := 21, constantValue := 0 }, { name := "lastAuto", type := .long, accessFlags := 2, slot := 22, constantValue := 0 }, { name := "fxAccount", type := .int, accessFlags := 2, slot := 23, constantValue := 0 }, { name := "retainedAccount", type := .int, accessFlags := 2, slot := 24, constantValue := 0 }]
  methods := #[k2m0, k2m1, k2m2, k2m3, k2m4, k2m5, k2m6, k2m7, k2m8, k2m9, k2m10, k2m11, k2m12, k2m13, k2m14, k2m15, k2m16, k2m17, k2m18, k2m19, k2m20, k2m21, k2m22, k2m23, k2m24, k2m25, k2m26, k2m27, k2m28, k2m29, k2m30, k2m31, k2m32, k2m33, k2m34, k2m35, k2m36, k2m37, k2m38, k2m39, k2m40, k2m41, k2m42, k2m43, k2m44, k2m45, k2m46, k2m47, k2m48, k2m49, k2m50, k2m51, k2m52]
  instanceTypes := #[.int, .int, (.array .boolean), (.array .int), (.array .int), (.array .int), (.array .int), (.array .int), (.array .boolean), (.array .long), (.array .long), (.array .int), (.array .long), (.array .boolean), (.array .int), (.array .boolean), (.array .int), (.array .int), (.array .int), .int, .long, .long, .long, .int, .int]
  staticTypes := #[.int, .int, .int, .int, .int, .int, .int, .int, .int, .int, .int, .int, .int, .int, .int, .int, .int, .int, .int, .int, .int, .int, .int, .int, .int, .int, .int, .int, .int, .int, .int, .int]
  resolved := Array.replicate 342 none
  statics := none }

def pool3 : Array CpInfo := pool [(1, u "java/lang/Cloneable"), (0, .class_ 1), (0, u "java/lang/Object"), (0, .class_ 3)] 3

/-- java/lang/Cloneable -/
def k3 : Class := { plain "java/lang/Cloneable" (some 0) with
  accessFlags := 1537
  interfaces := #[]
  cf := some (fileOf pool3 2 #[] #[] 1537 4 #[] #[])
  fields := #[]
  methods := #[]
  instanceTypes := #[]
  staticTypes := #[]
  resolved := Array.replicate 8 none
  statics := none }

def pool4 : Array CpInfo := pool [(1, u "java/io/Serializable"), (0, .class_ 1), (0, u "java/lang/Object"), (0, .class_ 3)] 3

/-- java/io/Serializable -/
def k4 : Class := { plain "java/io/Serializable" (some 0) with
  accessFlags := 1537
  interfaces := #[]
  cf := some (fileOf pool4 2 #[] #[] 1537 4 #[] #[])
  fields := #[]
  methods := #[]
  instanceTypes := #[]
  staticTypes := #[]
  resolved := Array.replicate 8 none
  statics := none }

/-- the primitive boolean -/
def k5 : Class := { plain "boolean" none with kind := .primitive 'Z', accessFlags := 0x411 }
/-- [Z -/
def k6 : Class := { plain "[Z" (some 0) with kind := .array 5 .boolean, interfaces := #[3, 4], accessFlags := 1041 }

/-- the primitive byte -/
def k7 : Class := { plain "byte" none with kind := .primitive 'B', accessFlags := 0x411 }
/-- [B -/
def k8 : Class := { plain "[B" (some 0) with kind := .array 7 .byte, interfaces := #[3, 4], accessFlags := 1041 }

/-- the primitive int -/
def k9 : Class := { plain "int" none with kind := .primitive 'I', accessFlags := 0x411 }
/-- [I -/
def k10 : Class := { plain "[I" (some 0) with kind := .array 9 .int, interfaces := #[3, 4], accessFlags := 1041 }

/-- the primitive long -/
def k11 : Class := { plain "long" none with kind := .primitive 'J', accessFlags := 0x411 }
/-- [J -/
def k12 : Class := { plain "[J" (some 0) with kind := .array 11 .long, interfaces := #[3, 4], accessFlags := 1041 }

def heap : Heap := #[]
def classes : Array Class := #[k0, k1, k2, k3, k4, k5, k6, k7, k8, k9, k10, k11, k12]
def interned : List (Array UInt16 × Addr) := []
def slotsUsed : Nat := 0
def theMethod : MethodId := ⟨1, 2⟩
def args0 : Array Value := #[.int 1, .int 1, .int 1, .int 1]
def aboutOver (below : List Frame) : State where
  vm := { classes := classes, interned := interned.toArray }
  heap := heap
  slotsUsed := slotsUsed
  threads := #[{ frames := .invoking theMethod args0 :: below }]
def below0 : List Frame := [.native { method := ⟨0, 0⟩, args := #[] }]
def about1 : State := aboutOver below0
def p0 : Program := .bare "" "" ""
def e0 : Env := launch0.env 0 0 0
theorem w_frames : about1.frames = Frame.invoking theMethod args0 :: below0 := rfl
set_option maxRecDepth 65536 in
theorem w_args : argsFit about1.vm theMethod args0 = true := by decide +kernel
set_option maxRecDepth 65536 in
theorem w_heap : heapFits about1 = true := by decide +kernel
set_option maxRecDepth 65536 in
theorem w_runnable : about1.curStatus? = some .runnable := by decide +kernel
set_option maxRecDepth 65536 in
theorem w_alone : about1.alone = true := by decide +kernel
set_option maxRecDepth 65536 in
theorem w_named : about1.methodNamed? x = some theMethod := by decide +kernel
set_option maxRecDepth 65536 in
theorem w_hears : about1.hears theMethod below0 = true := by decide +kernel
set_option maxRecDepth 65536 in
theorem w_ripe : about1.ripe theMethod args0 below0 = true := by decide +kernel
theorem w_running : about1.status = .running := rfl
set_option maxRecDepth 65536 in
theorem w_room : about1.hasRoom e0.platform room_1 = true :=
  launch0.hasRoom_least _ room_1 (by decide +kernel) (by decide +kernel) (by decide +kernel) (by decide +kernel) (by decide +kernel) (by decide +kernel)
theorem allAtoms_all (ts : List Jvm.Cond) (a : Array Jvm.Value) (st : Jvm.State) : (allAtoms ts).before a st = ts.all (fun c => c.before a st) := by
  induction ts with
  | nil => rfl
  | cons c t ih =>
    show (Jvm.Cond.and c (allAtoms t)).before a st = _
    rw [Jvm.Cond.before_and, ih, List.all_cons]
def words1 : List Jvm.Cond := Jvm.Cond.code x code maxLocals ret :: tables_1
/-- a 'code' word, met by the world's own term for the bytes: nothing is compared byte by byte -/
theorem code_word {y : MethodName} {bytes : ByteArray} {mx : Nat} {rt : Option FieldType} {a : Array Value} {s : State} {m : MethodId} {meth : Method} {c : Code} (h1 : s.methodNamed? y = some m) (h2 : s.vm.method? m = some meth) (h3 : meth.code = some c) (h4 : c.code = bytes)
    (h5 : (c.maxLocals == mx && c.exceptionTable.isEmpty && decide (c.maxStack ≤ mostOperands) && decide (meth.sig.returnType = rt) && !meth.locks && decide (parseMethodDescriptor y.desc = some meth.sig)) = true) : (Jvm.Cond.code y bytes mx rt).before a s = true := by
  simp only [Bool.and_eq_true, beq_iff_eq, Bool.not_eq_true', decide_eq_true_eq] at h5
  obtain ⟨⟨⟨⟨⟨g1, g2⟩, g3⟩, g4⟩, g5⟩, g6⟩ := h5
  simp [Cond.before, Cond.holds, Cond.value, h1, h2, h3, h4, g1, g2, g3, g4, g5, g6]
def isCode : Jvm.Cond → Bool
  | .code _ _ _ _ => true
  | _ => false
theorem all_split {L : List Jvm.Cond} {P : Jvm.Cond → Bool} (h1 : L.all (fun c => isCode c || P c) = true) (h2 : ∀ c ∈ L.filter isCode, P c = true) : L.all P = true := by
  refine List.all_eq_true.mpr fun c hc => ?_
  have h := List.all_eq_true.mp h1 c hc
  rcases Bool.eq_false_or_eq_true (isCode c) with hi | hi
  · exact h2 c (List.mem_filter.mpr ⟨hc, hi⟩)
  · simpa [hi] using h
set_option maxRecDepth 65536 in
theorem w_c0 : (Jvm.Cond.code x code maxLocals ret).before args0 about1 = true := code_word (m := ⟨1, 2⟩) (meth := k1m2) (c := k1c2) (by decide +kernel) rfl rfl rfl (by decide +kernel)
set_option maxRecDepth 65536 in
theorem w_c1 : (Jvm.Cond.code ({ cls := "GeneralLedger", name := "<init>", desc := "(II)V" } : Jvm.MethodName) prog_1_method_1_code (3 : Nat) (Option.none : Option Jvm.ClassFile.FieldType)).before args0 about1 = true := code_word (m := ⟨2, 0⟩) (meth := k2m0) (c := k2c0) (by decide +kernel) rfl rfl rfl (by decide +kernel)
set_option maxRecDepth 65536 in
theorem w_c2 : (Jvm.Cond.code ({ cls := "java/lang/Object", name := "<init>", desc := "()V" } : Jvm.MethodName) object_method_1_code (1 : Nat) (Option.none : Option Jvm.ClassFile.FieldType)).before args0 about1 = true := code_word (m := ⟨0, 0⟩) (meth := k0m0) (c := k0c0) (by decide +kernel) rfl rfl rfl (by decide +kernel)
set_option maxRecDepth 65536 in
theorem w_c3 : (Jvm.Cond.code ({ cls := "GeneralLedger", name := "clamp", desc := "(III)I" } : Jvm.MethodName) prog_1_method_2_code (4 : Nat) (Option.some Jvm.ClassFile.FieldType.int)).before args0 about1 = true := code_word (m := ⟨2, 1⟩) (meth := k2m1) (c := k2c1) (by decide +kernel) rfl rfl rfl (by decide +kernel)
set_option maxRecDepth 65536 in
theorem w_c4 : (Jvm.Cond.code ({ cls := "GeneralLedger", name := "resetRates", desc := "()V" } : Jvm.MethodName) prog_1_method_3_code (2 : Nat) (Option.none : Option Jvm.ClassFile.FieldType)).before args0 about1 = true := code_word (m := ⟨2, 2⟩) (meth := k2m2) (c := k2c2) (by decide +kernel) rfl rfl rfl (by decide +kernel)
set_option maxRecDepth 65536 in
theorem w_c5 : (Jvm.Cond.code ({ cls := "GeneralLedger", name := "resetAccounts", desc := "()V" } : Jvm.MethodName) prog_1_method_4_code (2 : Nat) (Option.none : Option Jvm.ClassFile.FieldType)).before args0 about1 = true := code_word (m := ⟨2, 3⟩) (meth := k2m3) (c := k2c3) (by decide +kernel) rfl rfl rfl (by decide +kernel)
set_option maxRecDepth 65536 in
theorem w_c6 : (Jvm.Cond.code ({ cls := "GeneralLedger", name := "resetSlots", desc := "()V" } : Jvm.MethodName) prog_1_method_5_code (2 : Nat) (Option.none : Option Jvm.ClassFile.FieldType)).before args0 about1 = true := code_word (m := ⟨2, 4⟩) (meth := k2m4) (c := k2c4) (by decide +kernel) rfl rfl rfl (by decide +kernel)
set_option maxRecDepth 65536 in
theorem w_c7 : (Jvm.Cond.code ({ cls := "GeneralLedger", name := "freeSlot", desc := "(I)V" } : Jvm.MethodName) prog_1_method_17_code (2 : Nat) (Option.none : Option Jvm.ClassFile.FieldType)).before args0 about1 = true := code_word (m := ⟨2, 14⟩) (meth := k2m14) (c := k2c14) (by decide +kernel) rfl rfl rfl (by decide +kernel)
set_option maxRecDepth 65536 in
theorem w_c8 : (Jvm.Cond.code ({ cls := "GeneralLedger", name := "openAccount", desc := "(IIII)I" } : Jvm.MethodName) prog_1_method_6_code (5 : Nat) (Option.some Jvm.ClassFile.FieldType.int)).before args0 about1 = true := code_word (m := ⟨2, 5⟩) (meth := k2m5) (c := k2c5) (by decide +kernel) rfl rfl rfl (by decide +kernel)
set_option maxRecDepth 65536 in
theorem w_c9 : (Jvm.Cond.code ({ cls := "GeneralLedger", name := "isAccountId", desc := "(I)Z" } : Jvm.MethodName) prog_1_method_56_code (2 : Nat) (Option.some Jvm.ClassFile.FieldType.boolean)).before args0 about1 = true := code_word (m := ⟨2, 42⟩) (meth := k2m42) (c := k2c42) (by decide +kernel) rfl rfl rfl (by decide +kernel)
set_option maxRecDepth 65536 in
theorem w_c10 : (Jvm.Cond.code ({ cls := "GeneralLedger", name := "isValidType", desc := "(I)Z" } : Jvm.MethodName) prog_1_method_65_code (2 : Nat) (Option.some Jvm.ClassFile.FieldType.boolean)).before args0 about1 = true := code_word (m := ⟨2, 51⟩) (meth := k2m51) (c := k2c51) (by decide +kernel) rfl rfl rfl (by decide +kernel)
set_option maxRecDepth 65536 in
theorem w_c11 : (Jvm.Cond.code ({ cls := "GeneralLedger", name := "isCurrency", desc := "(I)Z" } : Jvm.MethodName) prog_1_method_61_code (2 : Nat) (Option.some Jvm.ClassFile.FieldType.boolean)).before args0 about1 = true := code_word (m := ⟨2, 47⟩) (meth := k2m47) (c := k2c47) (by decide +kernel) rfl rfl rfl (by decide +kernel)
set_option maxRecDepth 65536 in
theorem w_c12 : (Jvm.Cond.code ({ cls := "GeneralLedger", name := "createAccount", desc := "(IIII)V" } : Jvm.MethodName) prog_1_method_8_code (5 : Nat) (Option.none : Option Jvm.ClassFile.FieldType)).before args0 about1 = true := code_word (m := ⟨2, 6⟩) (meth := k2m6) (c := k2c6) (by decide +kernel) rfl rfl rfl (by decide +kernel)
set_option maxRecDepth 65536 in
theorem w_c13 : (Jvm.Cond.code ({ cls := "GeneralLedger", name := "clearMovements", desc := "(I)V" } : Jvm.MethodName) prog_1_method_9_code (4 : Nat) (Option.none : Option Jvm.ClassFile.FieldType)).before args0 about1 = true := code_word (m := ⟨2, 7⟩) (meth := k2m7) (c := k2c7) (by decide +kernel) rfl rfl rfl (by decide +kernel)
set_option maxRecDepth 65536 in
theorem w_c14 : (Jvm.Cond.code ({ cls := "GeneralLedger", name := "cell", desc := "(II)I" } : Jvm.MethodName) prog_1_method_53_code (3 : Nat) (Option.some Jvm.ClassFile.FieldType.int)).before args0 about1 = true := code_word (m := ⟨2, 39⟩) (meth := k2m39) (c := k2c39) (by decide +kernel) rfl rfl rfl (by decide +kernel)
set_option maxRecDepth 65536 in
theorem w_c15 : (Jvm.Cond.code ({ cls := "GeneralLedger", name := "allowsForeign", desc := "(I)Z" } : Jvm.MethodName) prog_1_method_66_code (2 : Nat) (Option.some Jvm.ClassFile.FieldType.boolean)).before args0 about1 = true := code_word (m := ⟨2, 52⟩) (meth := k2m52) (c := k2c52) (by decide +kernel) rfl rfl rfl (by decide +kernel)
set_option maxRecDepth 65536 in
theorem w_c16 : (Jvm.Cond.code ({ cls := "GeneralLedger", name := "setSpecial", desc := "(II)I" } : Jvm.MethodName) prog_1_method_10_code (3 : Nat) (Option.some Jvm.ClassFile.FieldType.int)).before args0 about1 = true := code_word (m := ⟨2, 8⟩) (meth := k2m8) (c := k2c8) (by decide +kernel) rfl rfl rfl (by decide +kernel)
set_option maxRecDepth 65536 in
theorem w_c17 : (Jvm.Cond.code ({ cls := "GeneralLedger", name := "isOpenAccount", desc := "(I)Z" } : Jvm.MethodName) prog_1_method_57_code (2 : Nat) (Option.some Jvm.ClassFile.FieldType.boolean)).before args0 about1 = true := code_word (m := ⟨2, 43⟩) (meth := k2m43) (c := k2c43) (by decide +kernel) rfl rfl rfl (by decide +kernel)
set_option maxRecDepth 65536 in
theorem w_c18 : (Jvm.Cond.code ({ cls := "GeneralLedger", name := "isLeaf", desc := "(I)Z" } : Jvm.MethodName) prog_1_method_58_code (2 : Nat) (Option.some Jvm.ClassFile.FieldType.boolean)).before args0 about1 = true := code_word (m := ⟨2, 44⟩) (meth := k2m44) (c := k2c44) (by decide +kernel) rfl rfl rfl (by decide +kernel)
set_option maxRecDepth 65536 in
theorem w_c19 : (Jvm.Cond.code ({ cls := "GeneralLedger", name := "typeFitsKind", desc := "(II)Z" } : Jvm.MethodName) prog_1_method_11_code (3 : Nat) (Option.some Jvm.ClassFile.FieldType.boolean)).before args0 about1 = true := code_word (m := ⟨2, 9⟩) (meth := k2m9) (c := k2c9) (by decide +kernel) rfl rfl rfl (by decide +kernel)
set_option maxRecDepth 65536 in
theorem w_c20 : (Jvm.Cond.code ({ cls := "GeneralLedger", name := "setRate", desc := "(II)I" } : Jvm.MethodName) prog_1_method_12_code (3 : Nat) (Option.some Jvm.ClassFile.FieldType.int)).before args0 about1 = true := code_word (m := ⟨2, 10⟩) (meth := k2m10) (c := k2c10) (by decide +kernel) rfl rfl rfl (by decide +kernel)
set_option maxRecDepth 65536 in
theorem w_c21 : (Jvm.Cond.code ({ cls := "GeneralLedger", name := "isForeignCurrency", desc := "(I)Z" } : Jvm.MethodName) prog_1_method_62_code (2 : Nat) (Option.some Jvm.ClassFile.FieldType.boolean)).before args0 about1 = true := code_word (m := ⟨2, 48⟩) (meth := k2m48) (c := k2c48) (by decide +kernel) rfl rfl rfl (by decide +kernel)
set_option maxRecDepth 65536 in
theorem w_c22 : (Jvm.Cond.code ({ cls := "GeneralLedger", name := "isValidRate", desc := "(I)Z" } : Jvm.MethodName) prog_1_method_63_code (2 : Nat) (Option.some Jvm.ClassFile.FieldType.boolean)).before args0 about1 = true := code_word (m := ⟨2, 49⟩) (meth := k2m49) (c := k2c49) (by decide +kernel) rfl rfl rfl (by decide +kernel)
set_option maxRecDepth 65536 in
theorem w_c23 : (Jvm.Cond.code ({ cls := "GeneralLedger", name := "beginJournal", desc := "(III)I" } : Jvm.MethodName) prog_1_method_13_code (4 : Nat) (Option.some Jvm.ClassFile.FieldType.int)).before args0 about1 = true := code_word (m := ⟨2, 11⟩) (meth := k2m11) (c := k2c11) (by decide +kernel) rfl rfl rfl (by decide +kernel)
set_option maxRecDepth 65536 in
theorem w_c24 : (Jvm.Cond.code ({ cls := "GeneralLedger", name := "isSlot", desc := "(I)Z" } : Jvm.MethodName) prog_1_method_60_code (2 : Nat) (Option.some Jvm.ClassFile.FieldType.boolean)).before args0 about1 = true := code_word (m := ⟨2, 46⟩) (meth := k2m46) (c := k2c46) (by decide +kernel) rfl rfl rfl (by decide +kernel)
set_option maxRecDepth 65536 in
theorem w_c25 : (Jvm.Cond.code ({ cls := "GeneralLedger", name := "isPeriod", desc := "(I)Z" } : Jvm.MethodName) prog_1_method_59_code (2 : Nat) (Option.some Jvm.ClassFile.FieldType.boolean)).before args0 about1 = true := code_word (m := ⟨2, 45⟩) (meth := k2m45) (c := k2c45) (by decide +kernel) rfl rfl rfl (by decide +kernel)
set_option maxRecDepth 65536 in
theorem w_c26 : (Jvm.Cond.code ({ cls := "GeneralLedger", name := "addLine", desc := "(III)I" } : Jvm.MethodName) prog_1_method_14_code (4 : Nat) (Option.some Jvm.ClassFile.FieldType.int)).before args0 about1 = true := code_word (m := ⟨2, 12⟩) (meth := k2m12) (c := k2c12) (by decide +kernel) rfl rfl rfl (by decide +kernel)
set_option maxRecDepth 65536 in
theorem w_c27 : (Jvm.Cond.code ({ cls := "GeneralLedger", name := "isValidAmount", desc := "(I)Z" } : Jvm.MethodName) prog_1_method_64_code (2 : Nat) (Option.some Jvm.ClassFile.FieldType.boolean)).before args0 about1 = true := code_word (m := ⟨2, 50⟩) (meth := k2m50) (c := k2c50) (by decide +kernel) rfl rfl rfl (by decide +kernel)
set_option maxRecDepth 65536 in
theorem w_c28 : (Jvm.Cond.code ({ cls := "GeneralLedger", name := "appendLine", desc := "(III)V" } : Jvm.MethodName) prog_1_method_15_code (6 : Nat) (Option.none : Option Jvm.ClassFile.FieldType)).before args0 about1 = true := code_word (m := ⟨2, 13⟩) (meth := k2m13) (c := k2c13) (by decide +kernel) rfl rfl rfl (by decide +kernel)
set_option maxRecDepth 65536 in
theorem w_c29 : (Jvm.Cond.code ({ cls := "GeneralLedger", name := "lineCell", desc := "(II)I" } : Jvm.MethodName) prog_1_method_54_code (3 : Nat) (Option.some Jvm.ClassFile.FieldType.int)).before args0 about1 = true := code_word (m := ⟨2, 40⟩) (meth := k2m40) (c := k2c40) (by decide +kernel) rfl rfl rfl (by decide +kernel)
set_option maxRecDepth 65536 in
theorem w_c30 : (Jvm.Cond.code ({ cls := "GeneralLedger", name := "post", desc := "(I)I" } : Jvm.MethodName) prog_1_method_18_code (8 : Nat) (Option.some Jvm.ClassFile.FieldType.int)).before args0 about1 = true := code_word (m := ⟨2, 15⟩) (meth := k2m15) (c := k2c15) (by decide +kernel) rfl rfl rfl (by decide +kernel)
set_option maxRecDepth 65536 in
theorem w_c31 : (Jvm.Cond.code ({ cls := "GeneralLedger", name := "postRefusal", desc := "(I)I" } : Jvm.MethodName) prog_1_method_19_code (4 : Nat) (Option.some Jvm.ClassFile.FieldType.int)).before args0 about1 = true := code_word (m := ⟨2, 16⟩) (meth := k2m16) (c := k2c16) (by decide +kernel) rfl rfl rfl (by decide +kernel)
set_option maxRecDepth 65536 in
theorem w_c32 : (Jvm.Cond.code ({ cls := "GeneralLedger", name := "journalHasParent", desc := "(I)Z" } : Jvm.MethodName) prog_1_method_21_code (5 : Nat) (Option.some Jvm.ClassFile.FieldType.boolean)).before args0 about1 = true := code_word (m := ⟨2, 18⟩) (meth := k2m18) (c := k2c18) (by decide +kernel) rfl rfl rfl (by decide +kernel)
set_option maxRecDepth 65536 in
theorem w_c33 : (Jvm.Cond.code ({ cls := "GeneralLedger", name := "stagedLines", desc := "(I)I" } : Jvm.MethodName) prog_1_method_20_code (3 : Nat) (Option.some Jvm.ClassFile.FieldType.int)).before args0 about1 = true := code_word (m := ⟨2, 17⟩) (meth := k2m17) (c := k2c17) (by decide +kernel) rfl rfl rfl (by decide +kernel)
set_option maxRecDepth 65536 in
theorem w_c34 : (Jvm.Cond.code ({ cls := "GeneralLedger", name := "journalBalanced", desc := "(I)Z" } : Jvm.MethodName) prog_1_method_22_code (6 : Nat) (Option.some Jvm.ClassFile.FieldType.boolean)).before args0 about1 = true := code_word (m := ⟨2, 19⟩) (meth := k2m19) (c := k2c19) (by decide +kernel) rfl rfl rfl (by decide +kernel)
set_option maxRecDepth 65536 in
theorem w_c35 : (Jvm.Cond.code ({ cls := "GeneralLedger", name := "clearCurrencyTotals", desc := "()V" } : Jvm.MethodName) prog_1_method_23_code (2 : Nat) (Option.none : Option Jvm.ClassFile.FieldType)).before args0 about1 = true := code_word (m := ⟨2, 20⟩) (meth := k2m20) (c := k2c20) (by decide +kernel) rfl rfl rfl (by decide +kernel)
set_option maxRecDepth 65536 in
theorem w_c36 : (Jvm.Cond.code ({ cls := "GeneralLedger", name := "currencyTotalsZero", desc := "()Z" } : Jvm.MethodName) prog_1_method_24_code (2 : Nat) (Option.some Jvm.ClassFile.FieldType.boolean)).before args0 about1 = true := code_word (m := ⟨2, 21⟩) (meth := k2m21) (c := k2c21) (by decide +kernel) rfl rfl rfl (by decide +kernel)
set_option maxRecDepth 65536 in
theorem w_c37 : (Jvm.Cond.code ({ cls := "GeneralLedger", name := "journalRounding", desc := "(I)J" } : Jvm.MethodName) prog_1_method_25_code (8 : Nat) (Option.some Jvm.ClassFile.FieldType.long)).before args0 about1 = true := code_word (m := ⟨2, 22⟩) (meth := k2m22) (c := k2c22) (by decide +kernel) rfl rfl rfl (by decide +kernel)
set_option maxRecDepth 65536 in
theorem w_c38 : (Jvm.Cond.code ({ cls := "GeneralLedger", name := "lineFunc", desc := "(II)J" } : Jvm.MethodName) prog_1_method_26_code (6 : Nat) (Option.some Jvm.ClassFile.FieldType.long)).before args0 about1 = true := code_word (m := ⟨2, 23⟩) (meth := k2m23) (c := k2c23) (by decide +kernel) rfl rfl rfl (by decide +kernel)
set_option maxRecDepth 65536 in
theorem w_c39 : (Jvm.Cond.code ({ cls := "GeneralLedger", name := "rateOf", desc := "(I)I" } : Jvm.MethodName) prog_1_method_52_code (2 : Nat) (Option.some Jvm.ClassFile.FieldType.int)).before args0 about1 = true := code_word (m := ⟨2, 38⟩) (meth := k2m38) (c := k2c38) (by decide +kernel) rfl rfl rfl (by decide +kernel)
set_option maxRecDepth 65536 in
theorem w_c40 : (Jvm.Cond.code ({ cls := "GeneralLedger", name := "roundRate", desc := "(JI)J" } : Jvm.MethodName) prog_1_method_51_code (8 : Nat) (Option.some Jvm.ClassFile.FieldType.long)).before args0 about1 = true := code_word (m := ⟨2, 37⟩) (meth := k2m37) (c := k2c37) (by decide +kernel) rfl rfl rfl (by decide +kernel)
set_option maxRecDepth 65536 in
theorem w_c41 : (Jvm.Cond.code ({ cls := "GeneralLedger", name := "applyJournal", desc := "(IIJZ)V" } : Jvm.MethodName) prog_1_method_27_code (13 : Nat) (Option.none : Option Jvm.ClassFile.FieldType)).before args0 about1 = true := code_word (m := ⟨2, 24⟩) (meth := k2m24) (c := k2c24) (by decide +kernel) rfl rfl rfl (by decide +kernel)
set_option maxRecDepth 65536 in
theorem w_c42 : (Jvm.Cond.code ({ cls := "GeneralLedger", name := "apply", desc := "(IJJI)V" } : Jvm.MethodName) prog_1_method_48_code (8 : Nat) (Option.none : Option Jvm.ClassFile.FieldType)).before args0 about1 = true := code_word (m := ⟨2, 36⟩) (meth := k2m36) (c := k2c36) (by decide +kernel) rfl rfl rfl (by decide +kernel)
set_option maxRecDepth 65536 in
theorem w_c43 : (Jvm.Cond.code ({ cls := "GeneralLedger", name := "countJournal", desc := "(J)V" } : Jvm.MethodName) prog_1_method_28_code (3 : Nat) (Option.none : Option Jvm.ClassFile.FieldType)).before args0 about1 = true := code_word (m := ⟨2, 25⟩) (meth := k2m25) (c := k2c25) (by decide +kernel) rfl rfl rfl (by decide +kernel)
set_option maxRecDepth 65536 in
theorem w_c44 : (Jvm.Cond.code ({ cls := "GeneralLedgerL3", name := "round", desc := "(JI)J" } : Jvm.MethodName) method_2_code (5 : Nat) (Option.some Jvm.ClassFile.FieldType.long)).before args0 about1 = true := code_word (m := ⟨1, 1⟩) (meth := k1m1) (c := k1c1) (by decide +kernel) rfl rfl rfl (by decide +kernel)
set_option maxRecDepth 65536 in
theorem w_c45 : (Jvm.Cond.code ({ cls := "GeneralLedger", name := "balance", desc := "(III)J" } : Jvm.MethodName) prog_1_method_36_code (9 : Nat) (Option.some Jvm.ClassFile.FieldType.long)).before args0 about1 = true := code_word (m := ⟨2, 26⟩) (meth := k2m26) (c := k2c26) (by decide +kernel) rfl rfl rfl (by decide +kernel)
set_option maxRecDepth 65536 in
theorem w_c46 : (Jvm.Cond.code ({ cls := "GeneralLedger", name := "inSubtree", desc := "(II)Z" } : Jvm.MethodName) prog_1_method_37_code (5 : Nat) (Option.some Jvm.ClassFile.FieldType.boolean)).before args0 about1 = true := code_word (m := ⟨2, 27⟩) (meth := k2m27) (c := k2c27) (by decide +kernel) rfl rfl rfl (by decide +kernel)
set_option maxRecDepth 65536 in
theorem w_c47 : (Jvm.Cond.code ({ cls := "GeneralLedger", name := "contribution", desc := "(IIII)J" } : Jvm.MethodName) prog_1_method_38_code (5 : Nat) (Option.some Jvm.ClassFile.FieldType.long)).before args0 about1 = true := code_word (m := ⟨2, 28⟩) (meth := k2m28) (c := k2c28) (by decide +kernel) rfl rfl rfl (by decide +kernel)
set_option maxRecDepth 65536 in
theorem w_c48 : (Jvm.Cond.code ({ cls := "GeneralLedger", name := "trialBalance", desc := "(II)J" } : Jvm.MethodName) prog_1_method_39_code (3 : Nat) (Option.some Jvm.ClassFile.FieldType.long)).before args0 about1 = true := code_word (m := ⟨2, 29⟩) (meth := k2m29) (c := k2c29) (by decide +kernel) rfl rfl rfl (by decide +kernel)
set_option maxRecDepth 65536 in
theorem w_c49 : (Jvm.Cond.code ({ cls := "GeneralLedger", name := "trialFunc", desc := "(I)J" } : Jvm.MethodName) prog_1_method_40_code (5 : Nat) (Option.some Jvm.ClassFile.FieldType.long)).before args0 about1 = true := code_word (m := ⟨2, 30⟩) (meth := k2m30) (c := k2c30) (by decide +kernel) rfl rfl rfl (by decide +kernel)
set_option maxRecDepth 65536 in
theorem w_c50 : (Jvm.Cond.code ({ cls := "GeneralLedger", name := "trialTxn", desc := "(II)J" } : Jvm.MethodName) prog_1_method_41_code (6 : Nat) (Option.some Jvm.ClassFile.FieldType.long)).before args0 about1 = true := code_word (m := ⟨2, 31⟩) (meth := k2m31) (c := k2c31) (by decide +kernel) rfl rfl rfl (by decide +kernel)
set_option maxRecDepth 65536 in
theorem w_c51 : (Jvm.Cond.code ({ cls := "GeneralLedger", name := "ledgerInfo", desc := "(II)J" } : Jvm.MethodName) prog_1_method_46_code (3 : Nat) (Option.some Jvm.ClassFile.FieldType.long)).before args0 about1 = true := code_word (m := ⟨2, 35⟩) (meth := k2m35) (c := k2c35) (by decide +kernel) rfl rfl rfl (by decide +kernel)
set_option maxRecDepth 65536 in
theorem w_c52 : (Jvm.Cond.code ({ cls := "GeneralLedger", name := "accountInfo", desc := "(II)I" } : Jvm.MethodName) prog_1_method_42_code (3 : Nat) (Option.some Jvm.ClassFile.FieldType.int)).before args0 about1 = true := code_word (m := ⟨2, 32⟩) (meth := k2m32) (c := k2c32) (by decide +kernel) rfl rfl rfl (by decide +kernel)
set_option maxRecDepth 65536 in
theorem w_c53 : (Jvm.Cond.code ({ cls := "GeneralLedger", name := "openAccountField", desc := "(II)I" } : Jvm.MethodName) prog_1_method_43_code (3 : Nat) (Option.some Jvm.ClassFile.FieldType.int)).before args0 about1 = true := code_word (m := ⟨2, 33⟩) (meth := k2m33) (c := k2c33) (by decide +kernel) rfl rfl rfl (by decide +kernel)
set_option maxRecDepth 65536 in
theorem w_c54 : (Jvm.Cond.code ({ cls := "GeneralLedger", name := "boolToInt", desc := "(Z)I" } : Jvm.MethodName) prog_1_method_55_code (2 : Nat) (Option.some Jvm.ClassFile.FieldType.int)).before args0 about1 = true := code_word (m := ⟨2, 41⟩) (meth := k2m41) (c := k2c41) (by decide +kernel) rfl rfl rfl (by decide +kernel)
set_option maxRecDepth 65536 in
theorem w_c55 : (Jvm.Cond.code ({ cls := "GeneralLedger", name := "slotInfo", desc := "(III)I" } : Jvm.MethodName) prog_1_method_44_code (4 : Nat) (Option.some Jvm.ClassFile.FieldType.int)).before args0 about1 = true := code_word (m := ⟨2, 34⟩) (meth := k2m34) (c := k2c34) (by decide +kernel) rfl rfl rfl (by decide +kernel)
def codes1 : List Jvm.Cond := [Jvm.Cond.code x code maxLocals ret, Jvm.Cond.code ({ cls := "GeneralLedger", name := "<init>", desc := "(II)V" } : Jvm.MethodName) prog_1_method_1_code (3 : Nat) (Option.none : Option Jvm.ClassFile.FieldType), Jvm.Cond.code ({ cls := "java/lang/Object", name := "<init>", desc := "()V" } : Jvm.MethodName) object_method_1_code (1 : Nat) (Option.none : Option Jvm.ClassFile.FieldType), Jvm.Cond.code ({ cls := "GeneralLedger", name := "clamp", desc := "(III)I" } : Jvm.MethodName) prog_1_method_2_code (4 : Nat) (Option.some Jvm.ClassFile.FieldType.int), Jvm.Cond.code ({ cls := "GeneralLedger", name := "resetRates", desc := "()V" } : Jvm.MethodName) prog_1_method_3_code (2 : Nat) (Option.none : Option Jvm.ClassFile.FieldType), Jvm.Cond.code ({ cls := "GeneralLedger", name := "resetAccounts", desc := "()V" } : Jvm.MethodName) prog_1_method_4_code (2 : Nat) (Option.none : Option Jvm.ClassFile.FieldType), Jvm.Cond.code ({ cls := "GeneralLedger", name := "resetSlots", desc := "()V" } : Jvm.MethodName) prog_1_method_5_code (2 : Nat) (Option.none : Option Jvm.ClassFile.FieldType), Jvm.Cond.code ({ cls := "GeneralLedger", name := "freeSlot", desc := "(I)V" } : Jvm.MethodName) prog_1_method_17_code (2 : Nat) (Option.none : Option Jvm.ClassFile.FieldType), Jvm.Cond.code ({ cls := "GeneralLedger", name := "openAccount", desc := "(IIII)I" } : Jvm.MethodName) prog_1_method_6_code (5 : Nat) (Option.some Jvm.ClassFile.FieldType.int), Jvm.Cond.code ({ cls := "GeneralLedger", name := "isAccountId", desc := "(I)Z" } : Jvm.MethodName) prog_1_method_56_code (2 : Nat) (Option.some Jvm.ClassFile.FieldType.boolean), Jvm.Cond.code ({ cls := "GeneralLedger", name := "isValidType", desc := "(I)Z" } : Jvm.MethodName) prog_1_method_65_code (2 : Nat) (Option.some Jvm.ClassFile.FieldType.boolean), Jvm.Cond.code ({ cls := "GeneralLedger", name := "isCurrency", desc := "(I)Z" } : Jvm.MethodName) prog_1_method_61_code (2 : Nat) (Option.some Jvm.ClassFile.FieldType.boolean), Jvm.Cond.code ({ cls := "GeneralLedger", name := "createAccount", desc := "(IIII)V" } : Jvm.MethodName) prog_1_method_8_code (5 : Nat) (Option.none : Option Jvm.ClassFile.FieldType), Jvm.Cond.code ({ cls := "GeneralLedger", name := "clearMovements", desc := "(I)V" } : Jvm.MethodName) prog_1_method_9_code (4 : Nat) (Option.none : Option Jvm.ClassFile.FieldType), Jvm.Cond.code ({ cls := "GeneralLedger", name := "cell", desc := "(II)I" } : Jvm.MethodName) prog_1_method_53_code (3 : Nat) (Option.some Jvm.ClassFile.FieldType.int), Jvm.Cond.code ({ cls := "GeneralLedger", name := "allowsForeign", desc := "(I)Z" } : Jvm.MethodName) prog_1_method_66_code (2 : Nat) (Option.some Jvm.ClassFile.FieldType.boolean), Jvm.Cond.code ({ cls := "GeneralLedger", name := "setSpecial", desc := "(II)I" } : Jvm.MethodName) prog_1_method_10_code (3 : Nat) (Option.some Jvm.ClassFile.FieldType.int), Jvm.Cond.code ({ cls := "GeneralLedger", name := "isOpenAccount", desc := "(I)Z" } : Jvm.MethodName) prog_1_method_57_code (2 : Nat) (Option.some Jvm.ClassFile.FieldType.boolean), Jvm.Cond.code ({ cls := "GeneralLedger", name := "isLeaf", desc := "(I)Z" } : Jvm.MethodName) prog_1_method_58_code (2 : Nat) (Option.some Jvm.ClassFile.FieldType.boolean), Jvm.Cond.code ({ cls := "GeneralLedger", name := "typeFitsKind", desc := "(II)Z" } : Jvm.MethodName) prog_1_method_11_code (3 : Nat) (Option.some Jvm.ClassFile.FieldType.boolean), Jvm.Cond.code ({ cls := "GeneralLedger", name := "setRate", desc := "(II)I" } : Jvm.MethodName) prog_1_method_12_code (3 : Nat) (Option.some Jvm.ClassFile.FieldType.int), Jvm.Cond.code ({ cls := "GeneralLedger", name := "isForeignCurrency", desc := "(I)Z" } : Jvm.MethodName) prog_1_method_62_code (2 : Nat) (Option.some Jvm.ClassFile.FieldType.boolean), Jvm.Cond.code ({ cls := "GeneralLedger", name := "isValidRate", desc := "(I)Z" } : Jvm.MethodName) prog_1_method_63_code (2 : Nat) (Option.some Jvm.ClassFile.FieldType.boolean), Jvm.Cond.code ({ cls := "GeneralLedger", name := "beginJournal", desc := "(III)I" } : Jvm.MethodName) prog_1_method_13_code (4 : Nat) (Option.some Jvm.ClassFile.FieldType.int), Jvm.Cond.code ({ cls := "GeneralLedger", name := "isSlot", desc := "(I)Z" } : Jvm.MethodName) prog_1_method_60_code (2 : Nat) (Option.some Jvm.ClassFile.FieldType.boolean), Jvm.Cond.code ({ cls := "GeneralLedger", name := "isPeriod", desc := "(I)Z" } : Jvm.MethodName) prog_1_method_59_code (2 : Nat) (Option.some Jvm.ClassFile.FieldType.boolean), Jvm.Cond.code ({ cls := "GeneralLedger", name := "addLine", desc := "(III)I" } : Jvm.MethodName) prog_1_method_14_code (4 : Nat) (Option.some Jvm.ClassFile.FieldType.int), Jvm.Cond.code ({ cls := "GeneralLedger", name := "isValidAmount", desc := "(I)Z" } : Jvm.MethodName) prog_1_method_64_code (2 : Nat) (Option.some Jvm.ClassFile.FieldType.boolean), Jvm.Cond.code ({ cls := "GeneralLedger", name := "appendLine", desc := "(III)V" } : Jvm.MethodName) prog_1_method_15_code (6 : Nat) (Option.none : Option Jvm.ClassFile.FieldType), Jvm.Cond.code ({ cls := "GeneralLedger", name := "lineCell", desc := "(II)I" } : Jvm.MethodName) prog_1_method_54_code (3 : Nat) (Option.some Jvm.ClassFile.FieldType.int), Jvm.Cond.code ({ cls := "GeneralLedger", name := "post", desc := "(I)I" } : Jvm.MethodName) prog_1_method_18_code (8 : Nat) (Option.some Jvm.ClassFile.FieldType.int), Jvm.Cond.code ({ cls := "GeneralLedger", name := "postRefusal", desc := "(I)I" } : Jvm.MethodName) prog_1_method_19_code (4 : Nat) (Option.some Jvm.ClassFile.FieldType.int), Jvm.Cond.code ({ cls := "GeneralLedger", name := "journalHasParent", desc := "(I)Z" } : Jvm.MethodName) prog_1_method_21_code (5 : Nat) (Option.some Jvm.ClassFile.FieldType.boolean), Jvm.Cond.code ({ cls := "GeneralLedger", name := "stagedLines", desc := "(I)I" } : Jvm.MethodName) prog_1_method_20_code (3 : Nat) (Option.some Jvm.ClassFile.FieldType.int), Jvm.Cond.code ({ cls := "GeneralLedger", name := "journalBalanced", desc := "(I)Z" } : Jvm.MethodName) prog_1_method_22_code (6 : Nat) (Option.some Jvm.ClassFile.FieldType.boolean), Jvm.Cond.code ({ cls := "GeneralLedger", name := "clearCurrencyTotals", desc := "()V" } : Jvm.MethodName) prog_1_method_23_code (2 : Nat) (Option.none : Option Jvm.ClassFile.FieldType), Jvm.Cond.code ({ cls := "GeneralLedger", name := "currencyTotalsZero", desc := "()Z" } : Jvm.MethodName) prog_1_method_24_code (2 : Nat) (Option.some Jvm.ClassFile.FieldType.boolean), Jvm.Cond.code ({ cls := "GeneralLedger", name := "journalRounding", desc := "(I)J" } : Jvm.MethodName) prog_1_method_25_code (8 : Nat) (Option.some Jvm.ClassFile.FieldType.long), Jvm.Cond.code ({ cls := "GeneralLedger", name := "lineFunc", desc := "(II)J" } : Jvm.MethodName) prog_1_method_26_code (6 : Nat) (Option.some Jvm.ClassFile.FieldType.long), Jvm.Cond.code ({ cls := "GeneralLedger", name := "rateOf", desc := "(I)I" } : Jvm.MethodName) prog_1_method_52_code (2 : Nat) (Option.some Jvm.ClassFile.FieldType.int), Jvm.Cond.code ({ cls := "GeneralLedger", name := "roundRate", desc := "(JI)J" } : Jvm.MethodName) prog_1_method_51_code (8 : Nat) (Option.some Jvm.ClassFile.FieldType.long), Jvm.Cond.code ({ cls := "GeneralLedger", name := "applyJournal", desc := "(IIJZ)V" } : Jvm.MethodName) prog_1_method_27_code (13 : Nat) (Option.none : Option Jvm.ClassFile.FieldType), Jvm.Cond.code ({ cls := "GeneralLedger", name := "apply", desc := "(IJJI)V" } : Jvm.MethodName) prog_1_method_48_code (8 : Nat) (Option.none : Option Jvm.ClassFile.FieldType), Jvm.Cond.code ({ cls := "GeneralLedger", name := "countJournal", desc := "(J)V" } : Jvm.MethodName) prog_1_method_28_code (3 : Nat) (Option.none : Option Jvm.ClassFile.FieldType), Jvm.Cond.code ({ cls := "GeneralLedgerL3", name := "round", desc := "(JI)J" } : Jvm.MethodName) method_2_code (5 : Nat) (Option.some Jvm.ClassFile.FieldType.long), Jvm.Cond.code ({ cls := "GeneralLedger", name := "balance", desc := "(III)J" } : Jvm.MethodName) prog_1_method_36_code (9 : Nat) (Option.some Jvm.ClassFile.FieldType.long), Jvm.Cond.code ({ cls := "GeneralLedger", name := "inSubtree", desc := "(II)Z" } : Jvm.MethodName) prog_1_method_37_code (5 : Nat) (Option.some Jvm.ClassFile.FieldType.boolean), Jvm.Cond.code ({ cls := "GeneralLedger", name := "contribution", desc := "(IIII)J" } : Jvm.MethodName) prog_1_method_38_code (5 : Nat) (Option.some Jvm.ClassFile.FieldType.long), Jvm.Cond.code ({ cls := "GeneralLedger", name := "trialBalance", desc := "(II)J" } : Jvm.MethodName) prog_1_method_39_code (3 : Nat) (Option.some Jvm.ClassFile.FieldType.long), Jvm.Cond.code ({ cls := "GeneralLedger", name := "trialFunc", desc := "(I)J" } : Jvm.MethodName) prog_1_method_40_code (5 : Nat) (Option.some Jvm.ClassFile.FieldType.long), Jvm.Cond.code ({ cls := "GeneralLedger", name := "trialTxn", desc := "(II)J" } : Jvm.MethodName) prog_1_method_41_code (6 : Nat) (Option.some Jvm.ClassFile.FieldType.long), Jvm.Cond.code ({ cls := "GeneralLedger", name := "ledgerInfo", desc := "(II)J" } : Jvm.MethodName) prog_1_method_46_code (3 : Nat) (Option.some Jvm.ClassFile.FieldType.long), Jvm.Cond.code ({ cls := "GeneralLedger", name := "accountInfo", desc := "(II)I" } : Jvm.MethodName) prog_1_method_42_code (3 : Nat) (Option.some Jvm.ClassFile.FieldType.int), Jvm.Cond.code ({ cls := "GeneralLedger", name := "openAccountField", desc := "(II)I" } : Jvm.MethodName) prog_1_method_43_code (3 : Nat) (Option.some Jvm.ClassFile.FieldType.int), Jvm.Cond.code ({ cls := "GeneralLedger", name := "boolToInt", desc := "(Z)I" } : Jvm.MethodName) prog_1_method_55_code (2 : Nat) (Option.some Jvm.ClassFile.FieldType.int), Jvm.Cond.code ({ cls := "GeneralLedger", name := "slotInfo", desc := "(III)I" } : Jvm.MethodName) prog_1_method_44_code (4 : Nat) (Option.some Jvm.ClassFile.FieldType.int)]
set_option maxRecDepth 65536 in
theorem codes_eq : words1.filter isCode = codes1 := rfl
theorem w_codes : ∀ c ∈ words1.filter isCode, c.before args0 about1 = true := by
  rw [codes_eq]
  intro c hc
  simp only [codes1, List.mem_cons, List.not_mem_nil, or_false] at hc
  rcases hc with rfl | rfl | rfl | rfl | rfl | rfl | rfl | rfl | rfl | rfl | rfl | rfl | rfl | rfl | rfl | rfl | rfl | rfl | rfl | rfl | rfl | rfl | rfl | rfl | rfl | rfl | rfl | rfl | rfl | rfl | rfl | rfl | rfl | rfl | rfl | rfl | rfl | rfl | rfl | rfl | rfl | rfl | rfl | rfl | rfl | rfl | rfl | rfl | rfl | rfl | rfl | rfl | rfl | rfl | rfl | rfl
  · exact w_c0
  · exact w_c1
  · exact w_c2
  · exact w_c3
  · exact w_c4
  · exact w_c5
  · exact w_c6
  · exact w_c7
  · exact w_c8
  · exact w_c9
  · exact w_c10
  · exact w_c11
  · exact w_c12
  · exact w_c13
  · exact w_c14
  · exact w_c15
  · exact w_c16
  · exact w_c17
  · exact w_c18
  · exact w_c19
  · exact w_c20
  · exact w_c21
  · exact w_c22
  · exact w_c23
  · exact w_c24
  · exact w_c25
  · exact w_c26
  · exact w_c27
  · exact w_c28
  · exact w_c29
  · exact w_c30
  · exact w_c31
  · exact w_c32
  · exact w_c33
  · exact w_c34
  · exact w_c35
  · exact w_c36
  · exact w_c37
  · exact w_c38
  · exact w_c39
  · exact w_c40
  · exact w_c41
  · exact w_c42
  · exact w_c43
  · exact w_c44
  · exact w_c45
  · exact w_c46
  · exact w_c47
  · exact w_c48
  · exact w_c49
  · exact w_c50
  · exact w_c51
  · exact w_c52
  · exact w_c53
  · exact w_c54
  · exact w_c55
set_option maxRecDepth 65536 in
theorem w_t1 : (words1.take 24).all (fun c => isCode c || c.before args0 about1) = true := by decide +kernel
set_option maxRecDepth 65536 in
theorem w_t2 : ((words1.drop 24).take 24).all (fun c => isCode c || c.before args0 about1) = true := by decide +kernel
set_option maxRecDepth 65536 in
theorem w_t3 : (((words1.drop 24).drop 24).take 24).all (fun c => isCode c || c.before args0 about1) = true := by decide +kernel
set_option maxRecDepth 65536 in
theorem w_t4 : ((((words1.drop 24).drop 24).drop 24).take 24).all (fun c => isCode c || c.before args0 about1) = true := by decide +kernel
set_option maxRecDepth 65536 in
theorem w_t5 : (((((words1.drop 24).drop 24).drop 24).drop 24).take 24).all (fun c => isCode c || c.before args0 about1) = true := by decide +kernel
set_option maxRecDepth 65536 in
theorem w_t6 : ((((((words1.drop 24).drop 24).drop 24).drop 24).drop 24).take 24).all (fun c => isCode c || c.before args0 about1) = true := by decide +kernel
set_option maxRecDepth 65536 in
theorem w_t7 : (((((((words1.drop 24).drop 24).drop 24).drop 24).drop 24).drop 24).take 24).all (fun c => isCode c || c.before args0 about1) = true := by decide +kernel
set_option maxRecDepth 65536 in
theorem w_t8 : ((((((((words1.drop 24).drop 24).drop 24).drop 24).drop 24).drop 24).drop 24).take 24).all (fun c => isCode c || c.before args0 about1) = true := by decide +kernel
set_option maxRecDepth 65536 in
theorem w_t9 : (((((((((words1.drop 24).drop 24).drop 24).drop 24).drop 24).drop 24).drop 24).drop 24).take 24).all (fun c => isCode c || c.before args0 about1) = true := by decide +kernel
set_option maxRecDepth 65536 in
theorem w_t10 : ((((((((((words1.drop 24).drop 24).drop 24).drop 24).drop 24).drop 24).drop 24).drop 24).drop 24).take 24).all (fun c => isCode c || c.before args0 about1) = true := by decide +kernel
set_option maxRecDepth 65536 in
theorem w_t11 : (((((((((((words1.drop 24).drop 24).drop 24).drop 24).drop 24).drop 24).drop 24).drop 24).drop 24).drop 24).take 24).all (fun c => isCode c || c.before args0 about1) = true := by decide +kernel
set_option maxRecDepth 65536 in
theorem w_t12 : ((((((((((((words1.drop 24).drop 24).drop 24).drop 24).drop 24).drop 24).drop 24).drop 24).drop 24).drop 24).drop 24).take 24).all (fun c => isCode c || c.before args0 about1) = true := by decide +kernel
set_option maxRecDepth 65536 in
theorem w_t13 : ((((((((((((words1.drop 24).drop 24).drop 24).drop 24).drop 24).drop 24).drop 24).drop 24).drop 24).drop 24).drop 24).drop 24).all (fun c => isCode c || c.before args0 about1) = true := by decide +kernel
theorem w_tables : (allAtoms (Jvm.Cond.code x code maxLocals ret :: tables_1)).before args0 about1 = true := by
  rw [allAtoms_all]
  show words1.all (fun c => c.before args0 about1) = true
  refine all_split ?_ w_codes
  rw [← List.take_append_drop 24 words1, List.all_append, w_t1, ← List.take_append_drop 24 (words1.drop 24), List.all_append, w_t2, ← List.take_append_drop 24 ((words1.drop 24).drop 24), List.all_append, w_t3, ← List.take_append_drop 24 (((words1.drop 24).drop 24).drop 24), List.all_append, w_t4, ← List.take_append_drop 24 ((((words1.drop 24).drop 24).drop 24).drop 24), List.all_append, w_t5, ← List.take_append_drop 24 (((((words1.drop 24).drop 24).drop 24).drop 24).drop 24), List.all_append, w_t6, ← List.take_append_drop 24 ((((((words1.drop 24).drop 24).drop 24).drop 24).drop 24).drop 24), List.all_append, w_t7, ← List.take_append_drop 24 (((((((words1.drop 24).drop 24).drop 24).drop 24).drop 24).drop 24).drop 24), List.all_append, w_t8, ← List.take_append_drop 24 ((((((((words1.drop 24).drop 24).drop 24).drop 24).drop 24).drop 24).drop 24).drop 24), List.all_append, w_t9, ← List.take_append_drop 24 (((((((((words1.drop 24).drop 24).drop 24).drop 24).drop 24).drop 24).drop 24).drop 24).drop 24), List.all_append, w_t10, ← List.take_append_drop 24 ((((((((((words1.drop 24).drop 24).drop 24).drop 24).drop 24).drop 24).drop 24).drop 24).drop 24).drop 24), List.all_append, w_t11, ← List.take_append_drop 24 (((((((((((words1.drop 24).drop 24).drop 24).drop 24).drop 24).drop 24).drop 24).drop 24).drop 24).drop 24).drop 24), List.all_append, w_t12, w_t13]
  rfl
set_option maxRecDepth 65536 in
theorem w_case : (Jvm.Cond.and given_1 narrow_1).before args0 about1 = true := by decide +kernel
theorem w_applies : (headSpec (Jvm.Cond.code x code maxLocals ret :: tables_1) room_1).applies x e0.platform about1 = true :=
  (Spec.applies_iff w_frames).mpr ⟨w_running, w_runnable, w_alone, w_named, w_hears, w_ripe, w_room, w_tables⟩
theorem atStart : AtStart classFile x code maxLocals ret World_1 tables_1 room_1 Calls_1 rest_1 Pre_1 launch0 p0 e0 about1 theMethod args0 below0 :=
  ⟨lists_1, trivial, launch0.admits_env _ _ _, launch0.least_env, fairChoices_fair.cas, fairChoices_fair.clock, w_frames, w_args, w_heap, w_applies, trivial, trivial, w_case⟩
end start1
theorem witness_1 : WitnessClaimed_1 := ⟨start1.p0, start1.e0, start1.about1, start1.theMethod, start1.args0, start1.below0, start1.atStart⟩
end Jvm.Pilot.@@N@@
