import JvmDerived
import JvmDerived.Pilot.@@N@@Statement
import JvmDerived.Pilot.@@N@@Code
set_option linter.unusedVariables false
set_option linter.unusedSimpArgs false
namespace Jvm.Own
open Jvm Jvm.ClassFile Sem Op Lib Jvm.Free Jvm.Stand Jvm.LawKit Jvm.RoadKit Bundle
/-! ## values, cells, heaps of the small view -/
theorem leb {a b : Nat} (h : Nat.ble a b = true) : a ≤ b := Nat.le_of_ble_eq_true h
abbrev dc (b : ByteArray) (pc : Nat) (i : Instr) (n : Nat) : Prop := decode b pc = .ok (i, n)
abbrev OwnC : Type := Sum (List Value) (Sum (List Int32) (Sum (List Int64) (List Int32)))
abbrev cO (vs : List Value) : OwnC := .inl vs
abbrev cI (xs : List Int32) : OwnC := .inr (.inl xs)
abbrev cJ (xs : List Int64) : OwnC := .inr (.inr (.inl xs))
abbrev cZ (xs : List Int32) : OwnC := .inr (.inr (.inr xs))
def rf (ad : Nat → Addr) : Value → Value
  | .ref i => .ref (ad i)
  | .int x => .int x
  | .long x => .long x
  | .float x => .float x
  | .double x => .double x
  | .null => .null
  | .retAddr x => .retAddr x
theorem rf_cat (ad : Nat → Addr) (v : Value) : (rf ad v).category = v.category := by cases v <;> rfl
theorem rf_isRef (ad : Nat → Addr) (v : Value) : (rf ad v).isRef = v.isRef := by cases v <;> rfl
theorem rf_cats (ad : Nat → Addr) (S : List Value) : ((S.map (rf ad)).map fun v => v.category) = S.map fun v => v.category := by
  simp [List.map_map, Function.comp_def, rf_cat]
def CelOk (Z : State) (C : String) (lay : List (String × String)) (ad : Nat → Addr) (h : Heap) (a : Addr) : OwnC → Prop
  | .inl vs => Exa Z h a C ∧ ∀ (i : Nat) (f : String × String) (v : Value), lay[i]? = some f → vs[i]? = some v → Fld Z h a C f.1 f.2 (rf ad v)
  | .inr (.inl xs) => ∃ cl : Cell, Arr Z h a cl .int ∧ cl.slots.toList = xs.map Value.int
  | .inr (.inr (.inl xs)) => ∃ cl : Cell, Arr Z h a cl .long ∧ cl.slots.toList = xs.map Value.long
  | .inr (.inr (.inr xs)) => ∃ cl : Cell, Arr Z h a cl .boolean ∧ cl.slots.toList = xs.map Value.int
def HR (Z : State) (C : String) (lay : List (String × String)) (n0 ro : Nat) (ad : Nat → Addr) (H : List OwnC) (h : Heap) : Prop :=
  (∀ i c, H[i]? = some c → CelOk Z C lay ad h (ad i) c) ∧ (∀ i j, i < H.length → j < H.length → ad i = ad j → i = j) ∧ (∀ t, ad (H.length + t) = h.size + t) ∧ (∀ i, i < H.length → ro ≤ i → n0 ≤ ad i) ∧ n0 ≤ h.size
def Kp (ad : Nat → Addr) (N : Nat) (h h' : Heap) : Prop := h.size ≤ h'.size ∧ ∀ (a : Addr) (c : Cell), h[a]? = some c → (∀ i, i < N → ad i ≠ a) → h'[a]? = some c
theorem CelOk.keep {Z : State} {C : String} {lay : List (String × String)} {ad : Nat → Addr} {h h' : Heap} {a : Addr} {c : OwnC} (q : ∀ cz : Cell, h[a]? = some cz → h'[a]? = some cz) (F : CelOk Z C lay ad h a c) : CelOk Z C lay ad h' a c := by
  rcases c with vs | xs | xs | xs
  · obtain ⟨⟨cell, k, h1, r⟩, F2⟩ := F
    refine ⟨⟨cell, k, q _ h1, r⟩, fun i f v hf hv => ?_⟩
    obtain ⟨cell, cf, k, i, f, h1, r⟩ := F2 i f v hf hv
    exact ⟨cell, cf, k, i, f, q _ h1, r⟩
  all_goals
    obtain ⟨cl, ⟨h1, r⟩, h2⟩ := F
    exact ⟨cl, ⟨q _ h1, r⟩, h2⟩
theorem CelOk.lt {Z : State} {C : String} {lay : List (String × String)} {ad : Nat → Addr} {h : Heap} {a : Addr} {c : OwnC} (F : CelOk Z C lay ad h a c) : a < h.size := by
  rcases c with vs | xs | xs | xs
  · exact F.1.lt
  all_goals
    obtain ⟨cl, A, h2⟩ := F
    exact A.lt
theorem Kp.refl (ad : Nat → Addr) (N : Nat) (h : Heap) : Kp ad N h h := ⟨Nat.le_refl _, fun _ _ q _ => q⟩
theorem get_lt {α : Type} {L : List α} {i : Nat} {c : α} (h : L[i]? = some c) : i < L.length := (List.getElem?_eq_some_iff.mp h).1
section HRs
variable {Z : State} {C : String} {lay : List (String × String)} {n0 ro : Nat} {ad : Nat → Addr} {H H' : List OwnC} {h h' h'' : Heap}
/-- the addresses at or above H.length lie at or above the heap's size -/
theorem HR.new (R : HR Z C lay n0 ro ad H h) {i : Nat} (hi : H.length ≤ i) : h.size ≤ ad i := by
  obtain ⟨t, rfl⟩ := Nat.exists_eq_add_of_le hi
  rw [R.2.2.1 t]; exact Nat.le_add_right _ _
theorem Kp.trans (R : HR Z C lay n0 ro ad H h) (K : Kp ad H.length h h') {N : Nat} (K' : Kp ad N h' h'') : Kp ad H.length h h'' := by
  refine ⟨Nat.le_trans K.1 K'.1, fun a c hc hn => K'.2 a c (K.2 a c hc hn) fun i hi q => ?_⟩
  by_cases hl : i < H.length
  · exact hn i hl q
  · have h1 := R.new (Nat.le_of_not_lt hl)
    rw [q] at h1
    exact absurd (Array.getElem?_eq_some_iff.mp hc).1 (Nat.not_lt.mpr h1)
/-- one cell of the small heap is written anew, at its own address -/
theorem HR.put (R : HR Z C lay n0 ro ad H h) {i : Nat} {c : OwnC} (hi : i < H.length) (hs : h'.size = h.size) (ho : ∀ a cz, a ≠ ad i → h[a]? = some cz → h'[a]? = some cz) (hc : CelOk Z C lay ad h' (ad i) c) :
    HR Z C lay n0 ro ad (H.set i c) h' ∧ Kp ad H.length h h' := by
  refine ⟨⟨fun j c' hj => ?_, fun i' j' hi' hj' => ?_, fun t => ?_, fun i' hi' => ?_, by rw [hs]; exact R.2.2.2.2⟩, by rw [hs]; exact Nat.le_refl _, fun a cz hz hn => ho a cz (fun q => hn i hi q.symm) hz⟩
  · rw [List.getElem?_set] at hj
    by_cases e : i = j
    · subst e
      simp [hi] at hj
      subst hj; exact hc
    · rw [if_neg e] at hj
      exact (R.1 j c' hj).keep fun cz q => ho _ cz (fun q' => e (R.2.1 _ _ hi (get_lt hj) q'.symm)) q
  · simp only [List.length_set] at hi' hj'; exact R.2.1 _ _ hi' hj'
  · rw [List.length_set, hs]; exact R.2.2.1 t
  · simp only [List.length_set] at hi'; exact R.2.2.2.1 _ hi'
/-- a new cell behind all others -/
theorem HR.push (R : HR Z C lay n0 ro ad H h) {c : OwnC} (hs : h'.size = h.size + 1) (hE : Ext h h') (hc : CelOk Z C lay ad h' h.size c) :
    HR Z C lay n0 ro ad (H ++ [c]) h' ∧ Kp ad H.length h h' ∧ ad H.length = h.size := by
  have e0 : ad H.length = h.size := R.2.2.1 0
  refine ⟨⟨fun j c' hj => ?_, fun i j hi hj q => ?_, fun t => ?_, fun i hi hr => ?_, by rw [hs]; exact Nat.le_succ_of_le R.2.2.2.2⟩, ⟨hE.1, fun a cz hz _ => hE.2 _ _ hz⟩, e0⟩
  · by_cases hl : j < H.length
    · rw [List.getElem?_append_left hl] at hj
      exact (R.1 j c' hj).keep fun cz q => hE.2 _ _ q
    · have hl' := get_lt hj
      simp only [List.length_append, List.length_singleton] at hl'
      obtain rfl : j = H.length := by omega
      simp at hj
      subst hj; rw [e0]; exact hc
  · simp only [List.length_append, List.length_singleton] at hi hj
    by_cases h1 : i < H.length
    · by_cases h2 : j < H.length
      · exact R.2.1 _ _ h1 h2 q
      · have a1 := (R.1 i _ (List.getElem?_eq_getElem h1)).lt
        have a2 := R.new (Nat.le_of_not_lt h2)
        rw [q] at a1
        exact absurd a1 (Nat.not_lt.mpr a2)
    · by_cases h2 : j < H.length
      · have a1 := (R.1 j _ (List.getElem?_eq_getElem h2)).lt
        have a2 := R.new (Nat.le_of_not_lt h1)
        rw [q] at a2
        exact absurd a1 (Nat.not_lt.mpr a2)
      · omega
  · rw [hs]
    have := R.2.2.1 (1 + t)
    simp only [List.length_append, List.length_singleton]
    rw [Nat.add_assoc, this]; exact (Nat.add_assoc _ _ _).symm
  · simp only [List.length_append, List.length_singleton] at hi
    by_cases h1 : i < H.length
    · exact R.2.2.2.1 _ h1 hr
    · exact Nat.le_trans R.2.2.2.2 (R.new (Nat.le_of_not_lt h1))
end HRs
/-! ## local variables: 'unset' in the small view says nothing -/
def WFs (f : Nat → Option Slot) : Prop := (∀ i, f i = some .second → ∃ j v, i = j + 1 ∧ f j = some (.val v) ∧ v.category = 2) ∧ ∀ i v, f i = some (.val v) → v.category = 2 → f (i + 1) = some .second
def LR (ad : Nat → Addr) (L : List Slot) (Ls : Array Slot) : Prop :=
  L.length = Ls.size ∧ (∀ (i : Nat) (v : Value), L[i]? = some (.val v) → Ls[i]? = some (.val (rf ad v))) ∧ (∀ i : Nat, L[i]? = some .second → Ls[i]? = some .second) ∧ WFs fun i => Ls[i]?
def kill2 : Slot → Slot
  | .val (.long _) => .unset
  | .val (.double _) => .unset
  | s => s
def killS : Slot → Slot
  | .second => .unset
  | s => s
def hd1 (f : Slot → Slot) : List Slot → List Slot
  | [] => []
  | y :: t => f y :: t
def st1 : List Slot → Nat → Value → List Slot
  | [], _, _ => []
  | _ :: t, 0, v => .val v :: hd1 killS t
  | y :: t, n + 1, v => match n with
    | 0 => kill2 y :: st1 t 0 v
    | k + 1 => y :: st1 t (k + 1) v
def st2 : List Slot → Nat → Value → List Slot
  | [], _, _ => []
  | _ :: t, 0, v => .val v :: (match t with | [] => [] | _ :: t' => .second :: hd1 killS t')
  | y :: t, n + 1, v => match n with
    | 0 => kill2 y :: st2 t 0 v
    | k + 1 => y :: st2 t (k + 1) v
theorem st1_len (v : Value) : ∀ (L : List Slot) (i : Nat), (st1 L i v).length = L.length
  | [], _ => rfl
  | y :: [], 0 => rfl
  | y :: z :: t, 0 => rfl
  | y :: t, 1 => congrArg Nat.succ (st1_len v t 0)
  | y :: t, k + 2 => congrArg Nat.succ (st1_len v t (k + 1))
theorem st2_len (v : Value) : ∀ (L : List Slot) (i : Nat), (st2 L i v).length = L.length
  | [], _ => rfl
  | y :: [], 0 => rfl
  | y :: z :: [], 0 => rfl
  | y :: z :: w :: t, 0 => rfl
  | y :: t, 1 => congrArg Nat.succ (st2_len v t 0)
  | y :: t, k + 2 => congrArg Nat.succ (st2_len v t (k + 1))
theorem kill2_e {y s : Slot} (h : kill2 y = s) (hs : s ≠ .unset) : y = s ∧ ∀ w, s = .val w → w.category = 1 := by
  subst h
  rcases y with _ | _ | w
  · exact absurd rfl hs
  · exact ⟨rfl, fun w h => by cases h⟩
  · cases w <;> first | exact absurd rfl hs | exact ⟨rfl, fun w h => by cases h; rfl⟩
theorem killS_e {y s : Slot} (h : killS y = s) (hs : s ≠ .unset) : y = s ∧ s ≠ .second := by
  subst h
  rcases y with _ | _ | w
  · exact absurd rfl hs
  · exact absurd rfl hs
  · exact ⟨rfl, fun h => by cases h⟩
theorem hd1_e {t : List Slot} {j : Nat} {s : Slot} (h : (hd1 killS t)[j]? = some s) (hs : s ≠ .unset) : t[j]? = some s ∧ (j = 0 → s ≠ .second) := by
  cases t with
  | nil => simp [hd1] at h
  | cons y t =>
    cases j with
    | zero =>
      have h' : killS y = s := by simpa [hd1] using h
      obtain ⟨e1, e2⟩ := killS_e h' hs
      exact ⟨by simp [e1], fun _ => e2⟩
    | succ j => exact ⟨by simpa [hd1] using h, fun q => by cases q⟩
theorem st1_at (v : Value) : ∀ (L : List Slot) (i : Nat), i < L.length → (st1 L i v)[i]? = some (.val v)
  | [], _, h => absurd h (by simp)
  | y :: t, 0, _ => rfl
  | y :: t, 1, h => by simpa [st1] using st1_at v t 0 (by simp at h; omega)
  | y :: t, k + 2, h => by simpa [st1] using st1_at v t (k + 1) (by simp at h; omega)
theorem st1_else (v : Value) : ∀ (L : List Slot) (i j : Nat) (s : Slot), j ≠ i → (st1 L i v)[j]? = some s → s ≠ .unset → L[j]? = some s ∧ (j + 1 = i → ∀ w, s = .val w → w.category = 1) ∧ (j = i + 1 → s ≠ .second)
  | [], _, j, s, _, h, _ => by simp [st1] at h
  | y :: t, 0, 0, s, hj, _, _ => absurd rfl hj
  | y :: t, 0, j + 1, s, hj, h, hs => by
    obtain ⟨e1, e2⟩ := hd1_e (t := t) (j := j) (by simpa [st1] using h) hs
    exact ⟨by simpa using e1, fun q => by omega, fun q => e2 (by omega)⟩
  | y :: t, 1, 0, s, hj, h, hs => by
    obtain ⟨e1, e2⟩ := kill2_e (y := y) (by simpa [st1] using h) hs
    exact ⟨by simp [e1], fun _ => e2, fun q => by omega⟩
  | y :: t, 1, j + 1, s, hj, h, hs => by
    obtain ⟨e1, e2, e3⟩ := st1_else v t 0 j s (by omega) (by simpa [st1] using h) hs
    exact ⟨by simpa using e1, fun q => by omega, fun q => e3 (by omega)⟩
  | y :: t, k + 2, 0, s, hj, h, hs => ⟨by simpa [st1] using h, fun q => by omega, fun q => by omega⟩
  | y :: t, k + 2, j + 1, s, hj, h, hs => by
    obtain ⟨e1, e2, e3⟩ := st1_else v t (k + 1) j s (by omega) (by simpa [st1] using h) hs
    exact ⟨by simpa using e1, fun q => e2 (by omega), fun q => e3 (by omega)⟩
theorem st2_at (v : Value) : ∀ (L : List Slot) (i : Nat), i + 1 < L.length → (st2 L i v)[i]? = some (.val v) ∧ (st2 L i v)[i + 1]? = some .second
  | [], _, h => absurd h (by simp)
  | y :: [], 0, h => absurd h (by simp)
  | y :: z :: t, 0, _ => ⟨rfl, rfl⟩
  | y :: t, 1, h => by simpa [st2] using st2_at v t 0 (by simp at h; omega)
  | y :: t, k + 2, h => by simpa [st2] using st2_at v t (k + 1) (by simp at h; omega)
theorem st2_else (v : Value) : ∀ (L : List Slot) (i j : Nat) (s : Slot), j ≠ i → j ≠ i + 1 → (st2 L i v)[j]? = some s → s ≠ .unset → L[j]? = some s ∧ (j + 1 = i → ∀ w, s = .val w → w.category = 1) ∧ (j = i + 2 → s ≠ .second)
  | [], _, j, s, _, _, h, _ => by simp [st2] at h
  | y :: t, 0, 0, s, hj, _, _, _ => absurd rfl hj
  | y :: t, 0, 1, s, _, hj, _, _ => absurd rfl hj
  | y :: [], 0, j + 2, s, _, _, h, _ => by simp [st2] at h
  | y :: z :: t, 0, j + 2, s, hj, _, h, hs => by
    obtain ⟨e1, e2⟩ := hd1_e (t := t) (j := j) (by simpa [st2] using h) hs
    exact ⟨by simpa using e1, fun q => by omega, fun q => e2 (by omega)⟩
  | y :: t, 1, 0, s, hj, _, h, hs => by
    obtain ⟨e1, e2⟩ := kill2_e (y := y) (by simpa [st2] using h) hs
    exact ⟨by simp [e1], fun _ => e2, fun q => by omega⟩
  | y :: t, 1, j + 1, s, hj, hj', h, hs => by
    obtain ⟨e1, e2, e3⟩ := st2_else v t 0 j s (by omega) (by omega) (by simpa [st2] using h) hs
    exact ⟨by simpa using e1, fun q => by omega, fun q => e3 (by omega)⟩
  | y :: t, k + 2, 0, s, hj, _, h, hs => ⟨by simpa [st2] using h, fun q => by omega, fun q => by omega⟩
  | y :: t, k + 2, j + 1, s, hj, hj', h, hs => by
    obtain ⟨e1, e2, e3⟩ := st2_else v t (k + 1) j s (by omega) (by omega) (by simpa [st2] using h) hs
    exact ⟨by simpa using e1, fun q => e2 (by omega), fun q => e3 (by omega)⟩
theorem setAt_ok {l : Array Slot} {i : Nat} (h : i < l.size) (x : Slot) : setAt l i x = some (l.setIfInBounds i x) := if_pos h
/-- which neighbours a store at i wipes -/
def Bad (Ls : Array Slot) (i j : Nat) : Prop := (j + 1 = i ∧ Ls[i]? = some .second) ∨ (j = i + 1 ∧ ∃ o, Ls[i]? = some (.val o) ∧ o.category = 2)
def Pre1 (Ls Ls1 : Array Slot) (i : Nat) : Prop := Ls1.size = Ls.size ∧ ∀ j, j ≠ i → (¬ Bad Ls i j ∧ Ls1[j]? = Ls[j]?) ∨ (Bad Ls i j ∧ Ls1[j]? = some .unset)
theorem storeLocals_pre {Ls : Array Slot} (wf : WFs fun i => Ls[i]?) {i : Nat} (hi : i < Ls.size) (w : Value) : ∃ Ls1, Pre1 Ls Ls1 i ∧ storeLocals Ls i w = storeSelf Ls1 i w := by
  have hg : Ls[i]? = some Ls[i] := Array.getElem?_eq_getElem hi
  rcases hs : Ls[i] with _ | _ | old
  · rw [hs] at hg
    refine ⟨Ls, ⟨rfl, fun j hj => Or.inl ⟨?_, rfl⟩⟩, ?_⟩
    · rintro (⟨-, q⟩ | ⟨-, o, q, -⟩) <;> (rw [hg] at q; cases q)
    · show (Ls[i]?).bind _ = _; rw [hg]; rfl
  · rw [hs] at hg
    obtain ⟨j0, v, rfl, hv, hc⟩ := wf.1 i hg
    have h0 : j0 < Ls.size := by omega
    refine ⟨Ls.setIfInBounds j0 .unset, ⟨by simp, fun j hj => ?_⟩, ?_⟩
    · by_cases e : j = j0
      · subst e; right; exact ⟨Or.inl ⟨rfl, hg⟩, by simp [h0]⟩
      · left
        refine ⟨?_, by rw [Array.getElem?_setIfInBounds_ne (Ne.symm e)]⟩
        rintro (⟨q', q⟩ | ⟨-, o, q, -⟩)
        · exact e (by omega)
        · rw [hg] at q; cases q
    · show (Ls[j0 + 1]?).bind _ = _; rw [hg]
      show (setAt Ls (j0 + 1 - 1) .unset).bind _ = _
      rw [Nat.add_sub_cancel, setAt_ok h0]; rfl
  · rw [hs] at hg
    by_cases hc : old.category = 2
    · have h1 := wf.2 i old hg hc
      have h1' : i + 1 < Ls.size := (Array.getElem?_eq_some_iff.mp h1).1
      refine ⟨Ls.setIfInBounds (i + 1) .unset, ⟨by simp, fun j hj => ?_⟩, ?_⟩
      · by_cases e : j = i + 1
        · subst e; right; exact ⟨Or.inr ⟨rfl, old, hg, hc⟩, by simp [h1']⟩
        · left
          refine ⟨?_, by rw [Array.getElem?_setIfInBounds_ne (Ne.symm e)]⟩
          rintro (⟨-, q⟩ | ⟨q, -⟩)
          · rw [hg] at q; cases q
          · exact e q
      · show (Ls[i]?).bind _ = _; rw [hg]
        show (if old.category = 2 then _ else _) = _
        rw [if_pos hc]
        show (setAt Ls (i + 1) .unset).bind _ = _
        rw [setAt_ok h1']; rfl
    · refine ⟨Ls, ⟨rfl, fun j hj => Or.inl ⟨?_, rfl⟩⟩, ?_⟩
      · rintro (⟨-, q⟩ | ⟨-, o, q, q'⟩) <;> (rw [hg] at q; cases q)
        exact hc q'
      · show (Ls[i]?).bind _ = _; rw [hg]
        show (if old.category = 2 then _ else _) = _
        rw [if_neg hc]
section St
variable {Ls : Array Slot} {i j : Nat}
/-- a value of one word is not wiped -/
theorem not_bad_val (wf : WFs fun i => Ls[i]?) {w : Value} (hj : Ls[j]? = some (.val w)) (hw : j + 1 = i → w.category = 1) : ¬ Bad Ls i j := by
  rintro (⟨rfl, q⟩ | ⟨rfl, o, q, q'⟩)
  · obtain ⟨j0, v, e, h1, h2⟩ := wf.1 _ q
    obtain rfl : j0 = j := by omega
    cases h1.symm.trans hj
    rw [hw rfl] at h2; cases h2
  · have := wf.2 _ _ q q'
    cases this.symm.trans hj
theorem not_bad_second (wf : WFs fun i => Ls[i]?) (hj : Ls[j]? = some .second) (hne : j ≠ i + 1) : ¬ Bad Ls i j := by
  rintro (⟨rfl, q⟩ | ⟨q, -⟩)
  · obtain ⟨j0, v, e, h1, h2⟩ := wf.1 _ q
    obtain rfl : j0 = j := by omega
    cases h1.symm.trans hj
  · exact hne q
end St
theorem LR.store1 {ad : Nat → Addr} {L : List Slot} {Ls : Array Slot} (hL : LR ad L Ls) {i : Nat} (hi : i < L.length) {v : Value} (hv : v.category = 1) : ∃ Ls', storeLocals Ls i (rf ad v) = some Ls' ∧ LR ad (st1 L i v) Ls' ∧ Ls'.size = Ls.size := by
  obtain ⟨l1, l2, l3, wf⟩ := hL
  have hi' : i < Ls.size := l1 ▸ hi
  have hv' : (rf ad v).category = 1 := by rw [rf_cat]; exact hv
  obtain ⟨Ls1, ⟨p1, p2⟩, e⟩ := storeLocals_pre wf hi' (rf ad v)
  have hi1 : i < Ls1.size := by rw [p1]; exact hi'
  have e2 : storeSelf Ls1 i (rf ad v) = some (Ls1.setIfInBounds i (.val (rf ad v))) := by
    show (setAt Ls1 i _).bind _ = _
    rw [setAt_ok hi1]
    show (if (rf ad v).category = 2 then _ else _) = _
    rw [if_neg (by rw [hv']; decide)]
  have at_i : (Ls1.setIfInBounds i (.val (rf ad v)))[i]? = some (.val (rf ad v)) := by simp [hi1]
  have at_j : ∀ j, j ≠ i → (Ls1.setIfInBounds i (.val (rf ad v)))[j]? = Ls1[j]? := fun j hj => Array.getElem?_setIfInBounds_ne (Ne.symm hj)
  have good : ∀ j, j ≠ i → ¬ Bad Ls i j → (Ls1.setIfInBounds i (.val (rf ad v)))[j]? = Ls[j]? := fun j hj hb => by
    rw [at_j j hj]
    rcases p2 j hj with ⟨-, q⟩ | ⟨q, -⟩
    · exact q
    · exact absurd q hb
  have back : ∀ j s, j ≠ i → s ≠ .unset → (Ls1.setIfInBounds i (.val (rf ad v)))[j]? = some s → ¬ Bad Ls i j ∧ Ls[j]? = some s := fun j s hj hs h => by
    rw [at_j j hj] at h
    rcases p2 j hj with ⟨q, q'⟩ | ⟨-, q⟩
    · exact ⟨q, by rw [← q']; exact h⟩
    · rw [q] at h; cases h; exact absurd rfl hs
  refine ⟨_, e.trans e2, ⟨by rw [st1_len, l1]; simp [p1], fun j w hj => ?_, fun j hj => ?_, fun j hj => ?_, fun j w hj hc => ?_⟩, by simp [p1]⟩
  · by_cases q : j = i
    · subst q
      rw [st1_at v L j hi] at hj
      cases hj; exact at_i
    · obtain ⟨a1, a2, -⟩ := st1_else v L i j _ q hj (by simp)
      have b1 := l2 j w a1
      rw [good j q (not_bad_val wf b1 fun z => by rw [rf_cat]; exact a2 z w rfl)]; exact b1
  · by_cases q : j = i
    · subst q
      rw [st1_at v L j hi] at hj
      cases hj
    · obtain ⟨a1, -, a3⟩ := st1_else v L i j _ q hj (by simp)
      have b1 := l3 j a1
      rw [good j q (not_bad_second wf b1 fun z => a3 z rfl)]; exact b1
  · dsimp only at hj ⊢
    have q : j ≠ i := fun q => by subst q; rw [at_i] at hj; cases hj
    obtain ⟨b1, b2⟩ := back j _ q (by simp) hj
    obtain ⟨j0, v', rfl, h1, h2⟩ := wf.1 j b2
    refine ⟨j0, v', rfl, ?_, h2⟩
    have q0 : j0 ≠ i := fun z => b1 (Or.inr ⟨by omega, v', z ▸ h1, h2⟩)
    rw [good j0 q0 ?_]; exact h1
    rintro (⟨z, -⟩ | ⟨z, o, z1, z2⟩)
    · exact q z
    · have := wf.2 _ _ z1 z2
      rw [← z] at this
      cases this.symm.trans h1
  · dsimp only at hj ⊢
    have q : j ≠ i := fun q => by subst q; rw [at_i] at hj; cases hj; rw [hv'] at hc; cases hc
    obtain ⟨b1, b2⟩ := back j _ q (by simp) hj
    have h1 := wf.2 j w b2 hc
    dsimp only at h1
    have q0 : j + 1 ≠ i := fun z => b1 (Or.inl ⟨z, z ▸ h1⟩)
    rw [good (j + 1) q0 ?_]; exact h1
    rintro (⟨z, z1⟩ | ⟨z, -⟩)
    · obtain ⟨j1, v1, e1, e2, -⟩ := wf.1 _ z1
      obtain rfl : j1 = j + 1 := by omega
      cases h1.symm.trans e2
    · omega
theorem LR.store2 {ad : Nat → Addr} {L : List Slot} {Ls : Array Slot} (hL : LR ad L Ls) {i : Nat} (hi : i + 1 < L.length) {v : Value} (hv : v.category = 2) : ∃ Ls', storeLocals Ls i (rf ad v) = some Ls' ∧ LR ad (st2 L i v) Ls' ∧ Ls'.size = Ls.size := by
  obtain ⟨l1, l2, l3, wf⟩ := hL
  have hi' : i + 1 < Ls.size := l1 ▸ hi
  have hv' : (rf ad v).category = 2 := by rw [rf_cat]; exact hv
  obtain ⟨Ls1, ⟨p1, p2⟩, e⟩ := storeLocals_pre wf (by omega : i < Ls.size) (rf ad v)
  have hi1 : i < Ls1.size := by rw [p1]; omega
  have hi2 : i + 1 < Ls1.size := by rw [p1]; omega
  -- what the second half leaves: two slots, and the one behind wiped where a long began at i + 1
  have key : ∃ Ls', storeSelf Ls1 i (rf ad v) = some Ls' ∧ Ls'.size = Ls1.size ∧ Ls'[i]? = some (.val (rf ad v)) ∧ Ls'[i + 1]? = some .second ∧ ∀ j, j ≠ i → j ≠ i + 1 → (Ls'[j]? = Ls1[j]? ∧ ¬ (j = i + 2 ∧ ∃ o, Ls1[i + 1]? = some (.val o) ∧ o.category = 2)) ∨ (Ls'[j]? = some .unset ∧ j = i + 2 ∧ ∃ o, Ls1[i + 1]? = some (.val o) ∧ o.category = 2) := by
    have n1 : (Ls1.setIfInBounds i (.val (rf ad v)))[i + 1]? = Ls1[i + 1]? := Array.getElem?_setIfInBounds_ne (by omega)
    have g1 : Ls1[i + 1]? = some Ls1[i + 1] := Array.getElem?_eq_getElem hi2
    have open1 : storeSelf Ls1 i (rf ad v) = ((Ls1.setIfInBounds i (.val (rf ad v)))[i + 1]?).bind fun x => match x with
      | .val old => if old.category = 2 then (setAt (Ls1.setIfInBounds i (.val (rf ad v))) (i + 2) .unset).bind fun z => setAt z (i + 1) .second else setAt (Ls1.setIfInBounds i (.val (rf ad v))) (i + 1) .second
      | _ => setAt (Ls1.setIfInBounds i (.val (rf ad v))) (i + 1) .second := by
      show (setAt Ls1 i _).bind _ = _
      rw [setAt_ok hi1]
      show (if (rf ad v).category = 2 then _ else _) = _
      rw [if_pos hv']; rfl
    have plain : (∀ o, Ls1[i + 1]? = some (.val o) → o.category ≠ 2) → storeSelf Ls1 i (rf ad v) = setAt (Ls1.setIfInBounds i (.val (rf ad v))) (i + 1) .second := fun hno => by
      rw [open1, n1, g1]
      rcases hs : Ls1[i + 1] with _ | _ | old
      · rfl
      · rfl
      · show (if old.category = 2 then _ else _) = _
        rw [if_neg (hno old (by rw [g1, hs]))]
    have szz : i + 1 < (Ls1.setIfInBounds i (.val (rf ad v))).size := by simpa using hi2
    by_cases hb : ∃ o, Ls1[i + 1]? = some (.val o) ∧ o.category = 2
    · obtain ⟨o, ho, ho2⟩ := hb
      have b1 : Ls[i + 1]? = some (.val o) := by
        rcases p2 (i + 1) (by omega) with ⟨-, q⟩ | ⟨-, q⟩
        · rw [← q]; exact ho
        · rw [q] at ho; cases ho
      have h3 : i + 2 < Ls1.size := by rw [p1]; exact (Array.getElem?_eq_some_iff.mp (wf.2 _ _ b1 ho2)).1
      refine ⟨((Ls1.setIfInBounds i (.val (rf ad v))).setIfInBounds (i + 2) .unset).setIfInBounds (i + 1) .second, ?_, by simp, ?_, ?_, fun j hj hj' => ?_⟩
      · rw [open1, n1, ho]
        show (if o.category = 2 then _ else _) = _
        rw [if_pos ho2, setAt_ok (by simpa using h3)]
        show setAt _ (i + 1) .second = _
        rw [setAt_ok (by simpa using hi2)]
      · rw [Array.getElem?_setIfInBounds_ne (by omega), Array.getElem?_setIfInBounds_ne (by omega)]; simp [hi1]
      · simp [hi2]
      · rw [Array.getElem?_setIfInBounds_ne (by omega)]
        by_cases z : j = i + 2
        · subst z; right; exact ⟨by simp [h3], rfl, o, ho, ho2⟩
        · left; exact ⟨by rw [Array.getElem?_setIfInBounds_ne (by omega), Array.getElem?_setIfInBounds_ne (by omega)], fun q => z q.1⟩
    · refine ⟨(Ls1.setIfInBounds i (.val (rf ad v))).setIfInBounds (i + 1) .second, ?_, by simp, ?_, ?_, fun j hj hj' => Or.inl ⟨?_, fun q => hb q.2⟩⟩
      · rw [plain fun o ho q => hb ⟨o, ho, q⟩, setAt_ok szz]
      · rw [Array.getElem?_setIfInBounds_ne (by omega)]; simp [hi1]
      · simp [hi2]
      · rw [Array.getElem?_setIfInBounds_ne (by omega), Array.getElem?_setIfInBounds_ne (by omega)]
  obtain ⟨Ls', e2, sz, at_i, at_i1, at_j⟩ := key
  -- i + 1 seen from Ls
  have up : ∀ o, Ls1[i + 1]? = some (.val o) → Ls[i + 1]? = some (.val o) := fun o ho => by
    rcases p2 (i + 1) (by omega) with ⟨-, q⟩ | ⟨-, q⟩
    · rw [← q]; exact ho
    · rw [q] at ho; cases ho
  have good : ∀ j, j ≠ i → j ≠ i + 1 → ¬ Bad Ls i j → ¬ (j = i + 2 ∧ ∃ o, Ls[i + 1]? = some (.val o) ∧ o.category = 2) → Ls'[j]? = Ls[j]? := fun j hj hj' hb hb' => by
    rcases at_j j hj hj' with ⟨q, -⟩ | ⟨-, q1, o, q2, q3⟩
    · rw [q]
      rcases p2 j hj with ⟨-, q⟩ | ⟨q, -⟩
      · exact q
      · exact absurd q hb
    · exact absurd ⟨q1, o, up o q2, q3⟩ hb'
  have back : ∀ j s, j ≠ i → j ≠ i + 1 → s ≠ .unset → Ls'[j]? = some s → ¬ Bad Ls i j ∧ Ls[j]? = some s ∧ ¬ (j = i + 2 ∧ ∃ o, Ls1[i + 1]? = some (.val o) ∧ o.category = 2) := fun j s hj hj' hs h => by
    rcases at_j j hj hj' with ⟨q, q0⟩ | ⟨q, -⟩
    · rw [q] at h
      rcases p2 j hj with ⟨q1, q'⟩ | ⟨-, q'⟩
      · exact ⟨q1, by rw [← q']; exact h, q0⟩
      · rw [q'] at h; cases h; exact absurd rfl hs
    · rw [q] at h; cases h; exact absurd rfl hs
  have s2 := st2_at v L i hi
  refine ⟨_, e.trans e2, ⟨by rw [st2_len, l1, sz, p1], fun j w hj => ?_, fun j hj => ?_, fun j hj => ?_, fun j w hj hc => ?_⟩, by rw [sz, p1]⟩
  · by_cases q : j = i
    · subst q
      rw [s2.1] at hj
      cases hj; exact at_i
    · by_cases q1 : j = i + 1
      · subst q1; rw [s2.2] at hj; cases hj
      · obtain ⟨a1, a2, -⟩ := st2_else v L i j _ q q1 hj (by simp)
        have b1 := l2 j w a1
        rw [good j q q1 (not_bad_val wf b1 fun z => by rw [rf_cat]; exact a2 z w rfl) ?_]; exact b1
        rintro ⟨rfl, o, z1, z2⟩
        have := wf.2 _ _ z1 z2
        cases this.symm.trans b1
  · by_cases q : j = i
    · subst q
      rw [s2.1] at hj
      cases hj
    · by_cases q1 : j = i + 1
      · subst q1; exact at_i1
      · obtain ⟨a1, -, a3⟩ := st2_else v L i j _ q q1 hj (by simp)
        have b1 := l3 j a1
        rw [good j q q1 (not_bad_second wf b1 q1) fun z => a3 z.1 rfl]; exact b1
  · dsimp only at hj ⊢
    by_cases q1 : j = i + 1
    · subst q1; exact ⟨i, _, rfl, at_i, hv'⟩
    have q : j ≠ i := fun q => by subst q; rw [at_i] at hj; cases hj
    obtain ⟨b1, b2, b3⟩ := back j _ q q1 (by simp) hj
    obtain ⟨j0, v', rfl, h1, h2⟩ := wf.1 j b2
    dsimp only at h1
    have q0 : j0 ≠ i := fun z => b1 (Or.inr ⟨by omega, v', z ▸ h1, h2⟩)
    -- j0 = i + 1: then j = i + 2 was wiped
    have q0' : j0 ≠ i + 1 := fun z => by
      subst z
      rcases p2 (i + 1) (by omega) with ⟨-, w1⟩ | ⟨w1, -⟩
      · exact b3 ⟨rfl, v', by rw [w1]; exact h1, h2⟩
      · rcases w1 with ⟨w1, -⟩ | ⟨-, o, w1, w2⟩
        · omega
        · have := wf.2 _ _ w1 w2
          cases this.symm.trans h1
    refine ⟨j0, v', rfl, ?_, h2⟩
    rw [good j0 q0 q0' ?_ ?_]; exact h1
    · rintro (⟨z, -⟩ | ⟨z, -⟩)
      · exact q z
      · exact q0' z
    · rintro ⟨rfl, o, z1, z2⟩
      have := wf.2 _ _ z1 z2
      cases this.symm.trans h1
  · dsimp only at hj ⊢
    by_cases q1 : j = i
    · subst q1; exact at_i1
    have q : j ≠ i + 1 := fun q => by subst q; rw [at_i1] at hj; cases hj
    obtain ⟨b1, b2, -⟩ := back j _ q1 q (by simp) hj
    have h1 := wf.2 j w b2 hc
    dsimp only at h1
    have q0 : j + 1 ≠ i := fun z => b1 (Or.inl ⟨z, z ▸ h1⟩)
    rw [good (j + 1) q0 (by omega) ?_ ?_]; exact h1
    · rintro (⟨z, z1⟩ | ⟨z, -⟩)
      · obtain ⟨j1, v1, e1, e2, -⟩ := wf.1 _ z1
        obtain rfl : j1 = j + 1 := by omega
        cases h1.symm.trans e2
      · omega
    · rintro ⟨z, -⟩; omega
/-! what is known less of -/
def leL : List Slot → List Slot → Prop
  | [], [] => True
  | .unset :: a, _ :: b => leL a b
  | x :: a, y :: b => x = y ∧ leL a b
  | _, _ => False
theorem leL_len : ∀ {A B : List Slot}, leL A B → A.length = B.length
  | [], [], _ => rfl
  | .unset :: a, _ :: b, h => congrArg Nat.succ (leL_len (A := a) (B := b) h)
  | .second :: a, _ :: b, h => congrArg Nat.succ (leL_len (A := a) (B := b) h.2)
  | .val _ :: a, _ :: b, h => congrArg Nat.succ (leL_len (A := a) (B := b) h.2)
theorem leL_get : ∀ {A B : List Slot}, leL A B → ∀ {i : Nat} {s : Slot}, A[i]? = some s → s ≠ .unset → B[i]? = some s
  | [], [], _, i, s, h, _ => by simp at h
  | .unset :: a, _ :: b, _, 0, s, h, hs => by simp at h; exact absurd h.symm hs
  | .unset :: a, _ :: b, hl, i + 1, s, h, hs => by simpa using leL_get (A := a) (B := b) hl (by simpa using h) hs
  | .second :: a, _ :: b, hl, 0, s, h, hs => by simp at h; subst h; simp [← hl.1]
  | .second :: a, _ :: b, hl, i + 1, s, h, hs => by simpa using leL_get (A := a) (B := b) hl.2 (by simpa using h) hs
  | .val _ :: a, _ :: b, hl, 0, s, h, hs => by simp at h; subst h; simp [← hl.1]
  | .val _ :: a, _ :: b, hl, i + 1, s, h, hs => by simpa using leL_get (A := a) (B := b) hl.2 (by simpa using h) hs
theorem LR.weak {ad : Nat → Addr} {A B : List Slot} {Ls : Array Slot} (h : leL A B) (hL : LR ad B Ls) : LR ad A Ls :=
  ⟨(leL_len h).trans hL.1, fun i v q => hL.2.1 i v (leL_get h q (by simp)), fun i q => hL.2.2.1 i (leL_get h q (by simp)), hL.2.2.2⟩
theorem wf_cons {x : Slot} {M : List Slot} (hx : x = .unset ∨ ∃ v, x = .val v ∧ v.category = 1) (h : WFs fun i => M[i]?) : WFs fun i => (x :: M)[i]? := by
  refine ⟨fun i hi => ?_, fun i v hi hc => ?_⟩
  · cases i with
    | zero => rcases hx with rfl | ⟨v, rfl, -⟩ <;> (simp at hi)
    | succ i =>
      obtain ⟨j, v, rfl, h1, h2⟩ := h.1 i (by simpa using hi)
      exact ⟨j + 1, v, rfl, by simpa using h1, h2⟩
  · cases i with
    | zero =>
      rcases hx with rfl | ⟨w, rfl, hw⟩
      · simp at hi
      · simp at hi; subst hi; rw [hw] at hc; cases hc
    | succ i => simpa using h.2 i v (by simpa using hi) hc
theorem wf_cons2 {w : Value} {M : List Slot} (hw : w.category = 2) (h : WFs fun i => M[i]?) : WFs fun i => (.val w :: .second :: M)[i]? := by
  refine ⟨fun i hi => ?_, fun i v hi hc => ?_⟩
  · match i, hi with
    | 0, hi => simp at hi
    | 1, _ => exact ⟨0, w, rfl, rfl, hw⟩
    | i + 2, hi =>
      obtain ⟨j, v, rfl, h1, h2⟩ := h.1 i (by simpa using hi)
      exact ⟨j + 2, v, rfl, by simpa using h1, h2⟩
  · match i, hi with
    | 0, _ => rfl
    | 1, hi => simp at hi
    | i + 2, hi => simpa using h.2 i v (by simpa using hi) hc
/-- the local variables at the entry -/
def laid : List Value → List Slot
  | [] => []
  | v :: vs => if v.category = 2 then .val v :: .second :: laid vs else .val v :: laid vs
def entL (as : List Value) (n : Nat) : List Slot := laid as ++ List.replicate (n - (laid as).length) Slot.unset
theorem laid_rel (ad : Nat → Addr) (k : Nat) : ∀ as : List Value, (laid as ++ List.replicate k Slot.unset).length = (laid (as.map (rf ad)) ++ List.replicate k Slot.unset).length ∧ (∀ (i : Nat) (v : Value), (laid as ++ List.replicate k Slot.unset)[i]? = some (.val v) → (laid (as.map (rf ad)) ++ List.replicate k Slot.unset)[i]? = some (.val (rf ad v))) ∧
    (∀ i : Nat, (laid as ++ List.replicate k Slot.unset)[i]? = some .second → (laid (as.map (rf ad)) ++ List.replicate k Slot.unset)[i]? = some .second) ∧ WFs fun i => (laid (as.map (rf ad)) ++ List.replicate k Slot.unset)[i]?
  | [] => by
    refine ⟨rfl, fun i v h => ?_, fun i h => h, fun i h => ?_, fun i v h => ?_⟩
    · simp [laid, List.getElem?_replicate] at h
    · simp [laid, List.getElem?_replicate] at h
    · simp [laid, List.getElem?_replicate] at h
  | v :: vs => by
    obtain ⟨a1, a2, a3, a4⟩ := laid_rel ad k vs
    have hc : (rf ad v).category = v.category := rf_cat ad v
    by_cases h : v.category = 2
    · have e1 : laid (v :: vs) = .val v :: .second :: laid vs := if_pos h
      have e2 : laid ((v :: vs).map (rf ad)) = .val (rf ad v) :: .second :: laid (vs.map (rf ad)) := if_pos (hc.trans h)
      rw [e1, e2]
      refine ⟨by simpa using a1, fun i w hi => ?_, fun i hi => ?_, wf_cons2 (hc.trans h) a4⟩
      · match i, hi with
        | 0, hi => simp at hi; subst hi; rfl
        | 1, hi => simp at hi
        | i + 2, hi => simpa using a2 i w (by simpa using hi)
      · match i, hi with
        | 0, hi => simp at hi
        | 1, hi => rfl
        | i + 2, hi => simpa using a3 i (by simpa using hi)
    · have e1 : laid (v :: vs) = .val v :: laid vs := if_neg h
      have e2 : laid ((v :: vs).map (rf ad)) = .val (rf ad v) :: laid (vs.map (rf ad)) := if_neg (by rw [hc]; exact h)
      have h1 : (rf ad v).category = 1 := by
        rw [hc]; cases v <;> first | rfl | exact absurd rfl h
      rw [e1, e2]
      refine ⟨by simpa using a1, fun i w hi => ?_, fun i hi => ?_, wf_cons (Or.inr ⟨_, rfl, h1⟩) a4⟩
      · match i, hi with
        | 0, hi => simp at hi; subst hi; rfl
        | i + 1, hi => simpa using a2 i w (by simpa using hi)
      · match i, hi with
        | 0, hi => simp at hi
        | i + 1, hi => simpa using a3 i (by simpa using hi)
theorem laid_foldl : ∀ (as : List Value) (acc : Array Slot), (as.foldl (fun acc v => if v.category = 2 then (acc.push (.val v)).push .second else acc.push (.val v)) acc).toList = acc.toList ++ laid as
  | [], acc => by simp [laid]
  | v :: vs, acc => by
    show (List.foldl _ (if v.category = 2 then (acc.push (.val v)).push .second else acc.push (.val v)) vs : Array Slot).toList = _
    rw [laid_foldl vs]
    by_cases h : v.category = 2
    · rw [if_pos h, show laid (v :: vs) = .val v :: .second :: laid vs from if_pos h]; simp
    · rw [if_neg h, show laid (v :: vs) = .val v :: laid vs from if_neg h]; simp
theorem laid_map_len (ad : Nat → Addr) (as : List Value) : (laid (as.map (rf ad))).length = (laid as).length := by
  have := (laid_rel ad 0 as).1
  simpa using this.symm
theorem entry_LR (ad : Nat → Addr) (as : List Value) (n : Nat) (hn : (laid as).length ≤ n) : LR ad (entL as n) (argsToLocals (as.map (rf ad)).toArray n) ∧ (argsToLocals (as.map (rf ad)).toArray n).size = n := by
  have e : (argsToLocals (as.map (rf ad)).toArray n).toList = laid (as.map (rf ad)) ++ List.replicate (n - (laid as).length) Slot.unset := by
    have e1 := laid_foldl (as.map (rf ad)) #[]
    have e2 : ((as.map (rf ad)).toArray.foldl (fun acc v => if v.category = 2 then (acc.push (.val v)).push .second else acc.push (.val v)) #[] : Array Slot).toList = laid (as.map (rf ad)) := by
      rw [List.foldl_toArray']
      · rw [e1]; rfl
      · rfl
    have e3 : ((as.map (rf ad)).toArray.foldl (fun acc v => if v.category = 2 then (acc.push (.val v)).push .second else acc.push (.val v)) #[] : Array Slot).size = (laid as).length := by
      rw [← Array.length_toList, e2, laid_map_len]
    show (_ ++ Array.replicate (n - _) Slot.unset).toList = _
    rw [Array.toList_append, e2, Array.toList_replicate, e3]
  obtain ⟨a1, a2, a3, a4⟩ := laid_rel ad (n - (laid as).length) as
  have g : ∀ i : Nat, (argsToLocals (as.map (rf ad)).toArray n)[i]? = (laid (as.map (rf ad)) ++ List.replicate (n - (laid as).length) Slot.unset)[i]? := fun i => by rw [← e, Array.getElem?_toList]
  have sz : (argsToLocals (as.map (rf ad)).toArray n).size = (laid (as.map (rf ad)) ++ List.replicate (n - (laid as).length) Slot.unset).length := by rw [← e, Array.length_toList]
  refine ⟨⟨by rw [sz]; exact a1, fun i v h => by rw [g]; exact a2 i v h, fun i h => by rw [g]; exact a3 i h, ?_⟩, by rw [sz, ← a1]; simp; omega⟩
  have : (fun i => (argsToLocals (as.map (rf ad)).toArray n)[i]?) = fun i => (laid (as.map (rf ad)) ++ List.replicate (n - (laid as).length) Slot.unset)[i]? := funext g
  rw [this]; exact a4
/-! ## reading and writing a list as Java does an array -/
def rd {α : Type} (xs : List α) (i : Int32) : Option α := if i < 0 then none else xs[i.toNatClampNeg]?
def wr {α : Type} (xs : List α) (i : Int32) (x : α) : Option (List α) := if i < 0 then none else if i.toNatClampNeg < xs.length then some (xs.set i.toNatClampNeg x) else none
theorem rd_slots {α : Type} {f : α → Value} {sl : Array Value} {xs : List α} (h : sl.toList = xs.map f) {j : Int32} {x : α} (hx : rd xs j = some x) : ¬ (j < 0 ∨ sl.size ≤ j.toNatClampNeg) ∧ sl[j.toNatClampNeg]? = some (f x) := by
  unfold rd at hx
  by_cases hj : j < 0
  · rw [if_pos hj] at hx; cases hx
  · rw [if_neg hj] at hx
    have h1 : sl[j.toNatClampNeg]? = some (f x) := by rw [← Array.getElem?_toList, h, List.getElem?_map, hx]; rfl
    exact ⟨fun q => q.elim hj fun q => absurd (Array.getElem?_eq_some_iff.mp h1).1 (Nat.not_lt.mpr q), h1⟩
theorem wr_slots {α : Type} {f : α → Value} {cl : Cell} {xs xs' : List α} (h : cl.slots.toList = xs.map f) {j : Int32} {x : α} (hx : wr xs j x = some xs') : ¬ (j < 0 ∨ cl.slots.size ≤ j.toNatClampNeg) ∧ (cl.setSlot j.toNatClampNeg (f x)).slots.toList = xs'.map f := by
  unfold wr at hx
  by_cases hj : j < 0
  · rw [if_pos hj] at hx; cases hx
  · rw [if_neg hj] at hx
    by_cases hl : j.toNatClampNeg < xs.length
    · rw [if_pos hl] at hx; cases hx
      have sz : cl.slots.size = xs.length := by rw [← Array.length_toList, h, List.length_map]
      refine ⟨fun q => q.elim hj fun q => by omega, ?_⟩
      show (cl.slots.setIfInBounds _ _).toList = _
      rw [Array.toList_setIfInBounds, h, List.map_set]
    · rw [if_neg hl] at hx; cases hx
/-! ## the walk's promise, said of the small view -/
def Am (Z : State) (own mn : String) (bytes : ByteArray) (maxL : Nat) (ret : Option FieldType) (p : Program) (s : State) (m : MethodId) (meth : Method) (c : Code) : Prop :=
  p.tables.exec = Jvm.exec ∧ Z.Warmed39 s.vm ∧ c.code = bytes ∧ c.maxLocals = maxL ∧ meth.sig.returnType = ret ∧ meth.locks = false ∧ s.vm.findClass own = some m.cls ∧ meth.name = mn
def WP (l : Launch) (Z : State) (C : String) (lay : List (String × String)) (own mn : String) (bytes : ByteArray) (maxL : Nat) (ret : Option FieldType) (R : Room) (n0 ro : Nat) (Q : Option Value → List OwnC → Prop) (k n pc : Nat) (L : List Slot) (S : List Value) (H : List OwnC) : Prop :=
  ∀ (p : Program) (e : Env) (s : State) (m : MethodId) (args : Array Value) (below : List Frame) (meth : Method) (c : Code) (T : State) (locs : List Loc) (ad : Nat → Addr) (Ls : Array Slot),
    Stand p l e R s m args below meth c T locs k n → Am Z own mn bytes maxL ret p s m meth c → HR Z C lay n0 ro ad H T.heap → Fr n0 locs → LR ad L Ls → Ls.size = maxL →
    ∃ (s₂ : State) (v : Option Value) (H' : List OwnC) (locs' : List Loc),
      Steps p.tables e below (T.setTop (mkF m pc Ls (S.map (rf ad)))) s₂ ∧ s₂.status = .running ∧ Ended s₂ below (.returned (v.map (rf ad))) ∧ Q v H' ∧ HR Z C lay n0 ro ad H' s₂.heap ∧ Kp ad H.length T.heap s₂.heap ∧ Fr n0 locs' ∧ FrameEnd s (.returned (v.map (rf ad))) s₂ locs' R.cells R.slots
section Rules
variable {l : Launch} {Z : State} {a0 : Array Value} {C : String} {lay : List (String × String)} {own mn : String} {bytes : ByteArray} {maxL : Nat} {ret : Option FieldType} {R : Room} {n0 ro : Nat} {Q : Option Value → List OwnC → Prop} {k n pc pc' : Nat} {L L' : List Slot} {S S' : List Value} {H H' : List OwnC}
theorem WP.weak (h : leL L' L) (nx : WP l Z C lay own mn bytes maxL ret R n0 ro Q k n pc L' S H) : WP l Z C lay own mn bytes maxL ret R n0 ro Q k n pc L S H :=
  fun p e s m args below meth c T locs ad Ls X A hr N hL hz => nx p e s m args below meth c T locs ad Ls X A hr N (LR.weak h hL) hz
theorem WP.of (hs : ∀ (p : Program) (e : Env) (s : State) (m : MethodId) (args : Array Value) (below : List Frame) (meth : Method) (c : Code) (T : State) (locs : List Loc) (ad : Nat → Addr) (Ls : Array Slot), Stand p l e R s m args below meth c T locs k n → Am Z own mn bytes maxL ret p s m meth c → LR ad L Ls → Ls.size = maxL →
      ∃ Ls', LR ad L' Ls' ∧ Ls'.size = maxL ∧ ∀ t, Steps p.tables e below (T.setTop (mkF m pc' Ls' (S'.map (rf ad)))) t → Steps p.tables e below (T.setTop (mkF m pc Ls (S.map (rf ad)))) t)
    (nx : WP l Z C lay own mn bytes maxL ret R n0 ro Q k n pc' L' S' H) : WP l Z C lay own mn bytes maxL ret R n0 ro Q k n pc L S H := by
  intro p e s m args below meth c T locs ad Ls X A hr N hL hz
  obtain ⟨Ls', hL', hz', st⟩ := hs p e s m args below meth c T locs ad Ls X A hL hz
  obtain ⟨s₂, v, H', locs', h1, h2⟩ := nx p e s m args below meth c T locs ad Ls' X A hr N hL' hz'
  exact ⟨s₂, v, H', locs', st _ h1, h2⟩
theorem WP.iload {j : Nat} {x : Int32} (hd : decode bytes pc = .ok (.iload j, 2)) (hl : L[j]? = some (.val (.int x))) (nx : WP l Z C lay own mn bytes maxL ret R n0 ro Q k n (pc + 2) L (.int x :: S) H) : WP l Z C lay own mn bytes maxL ret R n0 ro Q k n pc L (S) H :=
  WP.of (fun p e s m args below meth c T locs ad Ls X A hL hz => ⟨Ls, hL, hz, fun t ht => XS.iload X.here A.1 rfl (hb A.2.2.1 hd) (hL.2.1 _ _ hl) ht⟩) nx
theorem WP.iloadN {j : Fin 4} {x : Int32} (hd : decode bytes pc = .ok (.iload_n j, 1)) (hl : L[j.val]? = some (.val (.int x))) (nx : WP l Z C lay own mn bytes maxL ret R n0 ro Q k n (pc + 1) L (.int x :: S) H) : WP l Z C lay own mn bytes maxL ret R n0 ro Q k n pc L (S) H :=
  WP.of (fun p e s m args below meth c T locs ad Ls X A hL hz => ⟨Ls, hL, hz, fun t ht => XS.iloadN X.here A.1 rfl (hb A.2.2.1 hd) (hL.2.1 _ _ hl) ht⟩) nx
theorem WP.lload {j : Nat} {x : Int64} (hd : decode bytes pc = .ok (.lload j, 2)) (hl : L[j]? = some (.val (.long x))) (nx : WP l Z C lay own mn bytes maxL ret R n0 ro Q k n (pc + 2) L (.long x :: S) H) : WP l Z C lay own mn bytes maxL ret R n0 ro Q k n pc L (S) H :=
  WP.of (fun p e s m args below meth c T locs ad Ls X A hL hz => ⟨Ls, hL, hz, fun t ht => XT.lload X.here A.1 rfl (hb A.2.2.1 hd) (hL.2.1 _ _ hl) ht⟩) nx
theorem WP.lloadN {j : Fin 4} {x : Int64} (hd : decode bytes pc = .ok (.lload_n j, 1)) (hl : L[j.val]? = some (.val (.long x))) (nx : WP l Z C lay own mn bytes maxL ret R n0 ro Q k n (pc + 1) L (.long x :: S) H) : WP l Z C lay own mn bytes maxL ret R n0 ro Q k n pc L (S) H :=
  WP.of (fun p e s m args below meth c T locs ad Ls X A hL hz => ⟨Ls, hL, hz, fun t ht => XT.lloadN X.here A.1 rfl (hb A.2.2.1 hd) (hL.2.1 _ _ hl) ht⟩) nx
theorem WP.aload {j : Nat} {i : Nat} (hd : decode bytes pc = .ok (.aload j, 2)) (hl : L[j]? = some (.val (.ref i))) (nx : WP l Z C lay own mn bytes maxL ret R n0 ro Q k n (pc + 2) L (.ref i :: S) H) : WP l Z C lay own mn bytes maxL ret R n0 ro Q k n pc L (S) H :=
  WP.of (fun p e s m args below meth c T locs ad Ls X A hL hz => ⟨Ls, hL, hz, fun t ht => XS.aload X.here A.1 rfl (hb A.2.2.1 hd) (hL.2.1 _ _ hl) rfl ht⟩) nx
theorem WP.aloadN {j : Fin 4} {i : Nat} (hd : decode bytes pc = .ok (.aload_n j, 1)) (hl : L[j.val]? = some (.val (.ref i))) (nx : WP l Z C lay own mn bytes maxL ret R n0 ro Q k n (pc + 1) L (.ref i :: S) H) : WP l Z C lay own mn bytes maxL ret R n0 ro Q k n pc L (S) H :=
  WP.of (fun p e s m args below meth c T locs ad Ls X A hL hz => ⟨Ls, hL, hz, fun t ht => XS.aloadN X.here A.1 rfl (hb A.2.2.1 hd) (hL.2.1 _ _ hl) rfl ht⟩) nx
theorem WP.iconst {i : Int} (v : Int32) (hd : decode bytes pc = .ok (.iconst i, 1)) (hv : Int32.ofInt i = v) (nx : WP l Z C lay own mn bytes maxL ret R n0 ro Q k n (pc + 1) L (.int v :: S) H) : WP l Z C lay own mn bytes maxL ret R n0 ro Q k n pc L (S) H :=
  WP.of (fun p e s m args below meth c T locs ad Ls X A hL hz => ⟨Ls, hL, hz, fun t ht => XS.iconst X.here A.1 rfl (hb A.2.2.1 hd) (by rw [hv]; exact ht)⟩) nx
theorem WP.bipush {i : Int} (v : Int32) (hd : decode bytes pc = .ok (.bipush i, 2)) (hv : (Int8.ofInt i).toInt32 = v) (nx : WP l Z C lay own mn bytes maxL ret R n0 ro Q k n (pc + 2) L (.int v :: S) H) : WP l Z C lay own mn bytes maxL ret R n0 ro Q k n pc L (S) H :=
  WP.of (fun p e s m args below meth c T locs ad Ls X A hL hz => ⟨Ls, hL, hz, fun t ht => XS.bipush X.here A.1 rfl (hb A.2.2.1 hd) (by rw [hv]; exact ht)⟩) nx
theorem WP.sipush {i : Int} (v : Int32) (hd : decode bytes pc = .ok (.sipush i, 3)) (hv : (Int16.ofInt i).toInt32 = v) (nx : WP l Z C lay own mn bytes maxL ret R n0 ro Q k n (pc + 3) L (.int v :: S) H) : WP l Z C lay own mn bytes maxL ret R n0 ro Q k n pc L (S) H :=
  WP.of (fun p e s m args below meth c T locs ad Ls X A hL hz => ⟨Ls, hL, hz, fun t ht => XS.sipush X.here A.1 rfl (hb A.2.2.1 hd) (by rw [hv]; exact ht)⟩) nx
theorem WP.lconst {j : Fin 2} (v : Int64) (hd : decode bytes pc = .ok (.lconst j, 1)) (hv : Int64.ofNat j = v) (nx : WP l Z C lay own mn bytes maxL ret R n0 ro Q k n (pc + 1) L (.long v :: S) H) : WP l Z C lay own mn bytes maxL ret R n0 ro Q k n pc L (S) H :=
  WP.of (fun p e s m args below meth c T locs ad Ls X A hL hz => ⟨Ls, hL, hz, fun t ht => XT.lconst X.here A.1 rfl (hb A.2.2.1 hd) (by rw [hv]; exact ht)⟩) nx
theorem WP.ldc {idx : Nat} {v : Int32} (hd : decode bytes pc = .ok (.ldc idx, 2)) (hw : (Cond.constant own idx v).before a0 Z = true) (nx : WP l Z C lay own mn bytes maxL ret R n0 ro Q k n (pc + 2) L (.int v :: S) H) : WP l Z C lay own mn bytes maxL ret R n0 ro Q k n pc L (S) H :=
  WP.of (fun p e s m args below meth c T locs ad Ls X A hL hz => ⟨Ls, hL, hz, fun t ht => X.ldcInt A.1 A.2.2.2.2.2.2.1 (mvT A.2.1 hw) (g := mkF m pc Ls (S.map (rf ad))) rfl (hb A.2.2.1 hd) t ht⟩) nx
theorem WP.ldcw {idx : Nat} {v : Int32} (hd : decode bytes pc = .ok (.ldc_w idx, 3)) (hw : (Cond.constant own idx v).before a0 Z = true) (nx : WP l Z C lay own mn bytes maxL ret R n0 ro Q k n (pc + 3) L (.int v :: S) H) : WP l Z C lay own mn bytes maxL ret R n0 ro Q k n pc L (S) H :=
  WP.of (fun p e s m args below meth c T locs ad Ls X A hL hz => ⟨Ls, hL, hz, fun t ht => X.ldcwInt A.1 A.2.2.2.2.2.2.1 (mvT A.2.1 hw) (g := mkF m pc Ls (S.map (rf ad))) rfl (hb A.2.2.1 hd) t ht⟩) nx
theorem WP.ldc2 {idx : Nat} {v : Int64} (hd : decode bytes pc = .ok (.ldc2_w idx, 3)) (hw : (Cond.constantLong own idx v).before a0 Z = true) (nx : WP l Z C lay own mn bytes maxL ret R n0 ro Q k n (pc + 3) L (.long v :: S) H) : WP l Z C lay own mn bytes maxL ret R n0 ro Q k n pc L (S) H :=
  WP.of (fun p e s m args below meth c T locs ad Ls X A hL hz => ⟨Ls, hL, hz, fun t ht => X.ldc2Long A.1 A.2.2.2.2.2.2.1 (mvT A.2.1 hw) (g := mkF m pc Ls (S.map (rf ad))) rfl (hb A.2.2.1 hd) t ht⟩) nx
theorem WP.iadd {x y : Int32} (hd : decode bytes pc = .ok (.iadd, 1)) (nx : WP l Z C lay own mn bytes maxL ret R n0 ro Q k n (pc + 1) L (.int (x + y) :: S) H) : WP l Z C lay own mn bytes maxL ret R n0 ro Q k n pc L (.int y :: .int x :: S) H :=
  WP.of (fun p e s m args below meth c T locs ad Ls X A hL hz => ⟨Ls, hL, hz, fun t ht => XS.iadd X.here A.1 rfl (hb A.2.2.1 hd) rfl ht⟩) nx
theorem WP.ladd {x y : Int64} (hd : decode bytes pc = .ok (.ladd, 1)) (nx : WP l Z C lay own mn bytes maxL ret R n0 ro Q k n (pc + 1) L (.long (x + y) :: S) H) : WP l Z C lay own mn bytes maxL ret R n0 ro Q k n pc L (.long y :: .long x :: S) H :=
  WP.of (fun p e s m args below meth c T locs ad Ls X A hL hz => ⟨Ls, hL, hz, fun t ht => XT.ladd X.here A.1 rfl (hb A.2.2.1 hd) rfl ht⟩) nx
theorem WP.isub {x y : Int32} (hd : decode bytes pc = .ok (.isub, 1)) (nx : WP l Z C lay own mn bytes maxL ret R n0 ro Q k n (pc + 1) L (.int (x - y) :: S) H) : WP l Z C lay own mn bytes maxL ret R n0 ro Q k n pc L (.int y :: .int x :: S) H :=
  WP.of (fun p e s m args below meth c T locs ad Ls X A hL hz => ⟨Ls, hL, hz, fun t ht => XS.isub X.here A.1 rfl (hb A.2.2.1 hd) rfl ht⟩) nx
theorem WP.lsub {x y : Int64} (hd : decode bytes pc = .ok (.lsub, 1)) (nx : WP l Z C lay own mn bytes maxL ret R n0 ro Q k n (pc + 1) L (.long (x - y) :: S) H) : WP l Z C lay own mn bytes maxL ret R n0 ro Q k n pc L (.long y :: .long x :: S) H :=
  WP.of (fun p e s m args below meth c T locs ad Ls X A hL hz => ⟨Ls, hL, hz, fun t ht => XT.lsub X.here A.1 rfl (hb A.2.2.1 hd) rfl ht⟩) nx
theorem WP.imul {x y : Int32} (hd : decode bytes pc = .ok (.imul, 1)) (nx : WP l Z C lay own mn bytes maxL ret R n0 ro Q k n (pc + 1) L (.int (x * y) :: S) H) : WP l Z C lay own mn bytes maxL ret R n0 ro Q k n pc L (.int y :: .int x :: S) H :=
  WP.of (fun p e s m args below meth c T locs ad Ls X A hL hz => ⟨Ls, hL, hz, fun t ht => XS.imul X.here A.1 rfl (hb A.2.2.1 hd) rfl ht⟩) nx
theorem WP.lmul {x y : Int64} (hd : decode bytes pc = .ok (.lmul, 1)) (nx : WP l Z C lay own mn bytes maxL ret R n0 ro Q k n (pc + 1) L (.long (x * y) :: S) H) : WP l Z C lay own mn bytes maxL ret R n0 ro Q k n pc L (.long y :: .long x :: S) H :=
  WP.of (fun p e s m args below meth c T locs ad Ls X A hL hz => ⟨Ls, hL, hz, fun t ht => XT.lmul X.here A.1 rfl (hb A.2.2.1 hd) rfl ht⟩) nx
theorem WP.iand {x y : Int32} (hd : decode bytes pc = .ok (.iand, 1)) (nx : WP l Z C lay own mn bytes maxL ret R n0 ro Q k n (pc + 1) L (.int (x &&& y) :: S) H) : WP l Z C lay own mn bytes maxL ret R n0 ro Q k n pc L (.int y :: .int x :: S) H :=
  WP.of (fun p e s m args below meth c T locs ad Ls X A hL hz => ⟨Ls, hL, hz, fun t ht => XS.iand X.here A.1 rfl (hb A.2.2.1 hd) rfl ht⟩) nx
theorem WP.land {x y : Int64} (hd : decode bytes pc = .ok (.land, 1)) (nx : WP l Z C lay own mn bytes maxL ret R n0 ro Q k n (pc + 1) L (.long (x &&& y) :: S) H) : WP l Z C lay own mn bytes maxL ret R n0 ro Q k n pc L (.long y :: .long x :: S) H :=
  WP.of (fun p e s m args below meth c T locs ad Ls X A hL hz => ⟨Ls, hL, hz, fun t ht => XT.land X.here A.1 rfl (hb A.2.2.1 hd) rfl ht⟩) nx
theorem WP.ior {x y : Int32} (hd : decode bytes pc = .ok (.ior, 1)) (nx : WP l Z C lay own mn bytes maxL ret R n0 ro Q k n (pc + 1) L (.int (x ||| y) :: S) H) : WP l Z C lay own mn bytes maxL ret R n0 ro Q k n pc L (.int y :: .int x :: S) H :=
  WP.of (fun p e s m args below meth c T locs ad Ls X A hL hz => ⟨Ls, hL, hz, fun t ht => XT.ior X.here A.1 rfl (hb A.2.2.1 hd) rfl ht⟩) nx
theorem WP.lor {x y : Int64} (hd : decode bytes pc = .ok (.lor, 1)) (nx : WP l Z C lay own mn bytes maxL ret R n0 ro Q k n (pc + 1) L (.long (x ||| y) :: S) H) : WP l Z C lay own mn bytes maxL ret R n0 ro Q k n pc L (.long y :: .long x :: S) H :=
  WP.of (fun p e s m args below meth c T locs ad Ls X A hL hz => ⟨Ls, hL, hz, fun t ht => XT.lor X.here A.1 rfl (hb A.2.2.1 hd) rfl ht⟩) nx
theorem WP.ixor {x y : Int32} (hd : decode bytes pc = .ok (.ixor, 1)) (nx : WP l Z C lay own mn bytes maxL ret R n0 ro Q k n (pc + 1) L (.int (x ^^^ y) :: S) H) : WP l Z C lay own mn bytes maxL ret R n0 ro Q k n pc L (.int y :: .int x :: S) H :=
  WP.of (fun p e s m args below meth c T locs ad Ls X A hL hz => ⟨Ls, hL, hz, fun t ht => XT.ixor X.here A.1 rfl (hb A.2.2.1 hd) rfl ht⟩) nx
theorem WP.lxor {x y : Int64} (hd : decode bytes pc = .ok (.lxor, 1)) (nx : WP l Z C lay own mn bytes maxL ret R n0 ro Q k n (pc + 1) L (.long (x ^^^ y) :: S) H) : WP l Z C lay own mn bytes maxL ret R n0 ro Q k n pc L (.long y :: .long x :: S) H :=
  WP.of (fun p e s m args below meth c T locs ad Ls X A hL hz => ⟨Ls, hL, hz, fun t ht => XT.lxor X.here A.1 rfl (hb A.2.2.1 hd) rfl ht⟩) nx
theorem WP.idiv {x y : Int32} (hd : decode bytes pc = .ok (.idiv, 1)) (hy : ¬ y = 0) (nx : WP l Z C lay own mn bytes maxL ret R n0 ro Q k n (pc + 1) L (.int (x / y) :: S) H) : WP l Z C lay own mn bytes maxL ret R n0 ro Q k n pc L (.int y :: .int x :: S) H :=
  WP.of (fun p e s m args below meth c T locs ad Ls X A hL hz => ⟨Ls, hL, hz, fun t ht => XS.idiv X.here A.1 rfl (hb A.2.2.1 hd) rfl hy ht⟩) nx
theorem WP.irem {x y : Int32} (hd : decode bytes pc = .ok (.irem, 1)) (hy : ¬ y = 0) (nx : WP l Z C lay own mn bytes maxL ret R n0 ro Q k n (pc + 1) L (.int (x % y) :: S) H) : WP l Z C lay own mn bytes maxL ret R n0 ro Q k n pc L (.int y :: .int x :: S) H :=
  WP.of (fun p e s m args below meth c T locs ad Ls X A hL hz => ⟨Ls, hL, hz, fun t ht => iremM X A.1 rfl (hb A.2.2.1 hd) rfl hy ht⟩) nx
theorem WP.ldiv {x y : Int64} (hd : decode bytes pc = .ok (.ldiv, 1)) (hy : ¬ y = 0) (nx : WP l Z C lay own mn bytes maxL ret R n0 ro Q k n (pc + 1) L (.long (x / y) :: S) H) : WP l Z C lay own mn bytes maxL ret R n0 ro Q k n pc L (.long y :: .long x :: S) H :=
  WP.of (fun p e s m args below meth c T locs ad Ls X A hL hz => ⟨Ls, hL, hz, fun t ht => XT.ldiv X.here A.1 rfl (hb A.2.2.1 hd) rfl hy ht⟩) nx
theorem lrem_mod (x y : Int64) : x - (x / y) * y = x % y := by
  apply Int64.toInt_inj.mp
  have h1 := Int64.le_toInt (x % y)
  have h2 := Int64.toInt_lt (x % y)
  rw [Int64.toInt_sub, Int64.toInt_mul, Int64.toInt_div, Int.bmod_mul_bmod, Int.sub_bmod_bmod, Int.mul_comm (x.toInt.tdiv y.toInt), ← Int.tmod_def, ← Int64.toInt_mod]
  exact Int.bmod_eq_of_le_mul_two (by omega) (by omega)
theorem WP.lrem {x y : Int64} (hd : decode bytes pc = .ok (.lrem, 1)) (hy : ¬ y = 0) (nx : WP l Z C lay own mn bytes maxL ret R n0 ro Q k n (pc + 1) L (.long (x % y) :: S) H) : WP l Z C lay own mn bytes maxL ret R n0 ro Q k n pc L (.long y :: .long x :: S) H :=
  WP.of (fun p e s m args below meth c T locs ad Ls X A hL hz => ⟨Ls, hL, hz, fun t ht => XT.lrem X.here A.1 rfl (hb A.2.2.1 hd) rfl hy (by rw [lrem_mod]; exact ht)⟩) nx
theorem WP.ishl {x y : Int32} (hd : decode bytes pc = .ok (.ishl, 1)) (nx : WP l Z C lay own mn bytes maxL ret R n0 ro Q k n (pc + 1) L (.int (x <<< (y &&& 31)) :: S) H) : WP l Z C lay own mn bytes maxL ret R n0 ro Q k n pc L (.int y :: .int x :: S) H :=
  WP.of (fun p e s m args below meth c T locs ad Ls X A hL hz => ⟨Ls, hL, hz, fun t ht => XT.ishl X.here A.1 rfl (hb A.2.2.1 hd) rfl ht⟩) nx
theorem WP.ishr {x y : Int32} (hd : decode bytes pc = .ok (.ishr, 1)) (nx : WP l Z C lay own mn bytes maxL ret R n0 ro Q k n (pc + 1) L (.int (x >>> (y &&& 31)) :: S) H) : WP l Z C lay own mn bytes maxL ret R n0 ro Q k n pc L (.int y :: .int x :: S) H :=
  WP.of (fun p e s m args below meth c T locs ad Ls X A hL hz => ⟨Ls, hL, hz, fun t ht => XT.ishr X.here A.1 rfl (hb A.2.2.1 hd) rfl ht⟩) nx
theorem WP.iushr {x y : Int32} (hd : decode bytes pc = .ok (.iushr, 1)) (nx : WP l Z C lay own mn bytes maxL ret R n0 ro Q k n (pc + 1) L (.int (XT.ushr x y) :: S) H) : WP l Z C lay own mn bytes maxL ret R n0 ro Q k n pc L (.int y :: .int x :: S) H :=
  WP.of (fun p e s m args below meth c T locs ad Ls X A hL hz => ⟨Ls, hL, hz, fun t ht => XT.iushr X.here A.1 rfl (hb A.2.2.1 hd) rfl ht⟩) nx
theorem WP.lshl {x : Int64} {y : Int32} (hd : decode bytes pc = .ok (.lshl, 1)) (nx : WP l Z C lay own mn bytes maxL ret R n0 ro Q k n (pc + 1) L (.long (x <<< (y.toInt64 &&& 63)) :: S) H) : WP l Z C lay own mn bytes maxL ret R n0 ro Q k n pc L (.int y :: .long x :: S) H :=
  WP.of (fun p e s m args below meth c T locs ad Ls X A hL hz => ⟨Ls, hL, hz, fun t ht => XT.lshl X.here A.1 rfl (hb A.2.2.1 hd) rfl ht⟩) nx
theorem WP.lshr {x : Int64} {y : Int32} (hd : decode bytes pc = .ok (.lshr, 1)) (nx : WP l Z C lay own mn bytes maxL ret R n0 ro Q k n (pc + 1) L (.long (x >>> (y.toInt64 &&& 63)) :: S) H) : WP l Z C lay own mn bytes maxL ret R n0 ro Q k n pc L (.int y :: .long x :: S) H :=
  WP.of (fun p e s m args below meth c T locs ad Ls X A hL hz => ⟨Ls, hL, hz, fun t ht => XT.lshr X.here A.1 rfl (hb A.2.2.1 hd) rfl ht⟩) nx
theorem WP.lushr {x : Int64} {y : Int32} (hd : decode bytes pc = .ok (.lushr, 1)) (nx : WP l Z C lay own mn bytes maxL ret R n0 ro Q k n (pc + 1) L (.long (XT.ushrL x y) :: S) H) : WP l Z C lay own mn bytes maxL ret R n0 ro Q k n pc L (.int y :: .long x :: S) H :=
  WP.of (fun p e s m args below meth c T locs ad Ls X A hL hz => ⟨Ls, hL, hz, fun t ht => XT.lushr X.here A.1 rfl (hb A.2.2.1 hd) rfl ht⟩) nx
theorem WP.ineg {x : Int32} (hd : decode bytes pc = .ok (.ineg, 1)) (nx : WP l Z C lay own mn bytes maxL ret R n0 ro Q k n (pc + 1) L (.int (-x) :: S) H) : WP l Z C lay own mn bytes maxL ret R n0 ro Q k n pc L (.int x :: S) H :=
  WP.of (fun p e s m args below meth c T locs ad Ls X A hL hz => ⟨Ls, hL, hz, fun t ht => XS.ineg X.here A.1 rfl (hb A.2.2.1 hd) rfl ht⟩) nx
theorem WP.lneg {x : Int64} (hd : decode bytes pc = .ok (.lneg, 1)) (nx : WP l Z C lay own mn bytes maxL ret R n0 ro Q k n (pc + 1) L (.long (-x) :: S) H) : WP l Z C lay own mn bytes maxL ret R n0 ro Q k n pc L (.long x :: S) H :=
  WP.of (fun p e s m args below meth c T locs ad Ls X A hL hz => ⟨Ls, hL, hz, fun t ht => XT.lneg X.here A.1 rfl (hb A.2.2.1 hd) rfl ht⟩) nx
theorem WP.i2l {x : Int32} (hd : decode bytes pc = .ok (.i2l, 1)) (nx : WP l Z C lay own mn bytes maxL ret R n0 ro Q k n (pc + 1) L (.long x.toInt64 :: S) H) : WP l Z C lay own mn bytes maxL ret R n0 ro Q k n pc L (.int x :: S) H :=
  WP.of (fun p e s m args below meth c T locs ad Ls X A hL hz => ⟨Ls, hL, hz, fun t ht => XT.i2l X.here A.1 rfl (hb A.2.2.1 hd) rfl ht⟩) nx
theorem WP.l2i {x : Int64} (hd : decode bytes pc = .ok (.l2i, 1)) (nx : WP l Z C lay own mn bytes maxL ret R n0 ro Q k n (pc + 1) L (.int x.toInt32 :: S) H) : WP l Z C lay own mn bytes maxL ret R n0 ro Q k n pc L (.long x :: S) H :=
  WP.of (fun p e s m args below meth c T locs ad Ls X A hL hz => ⟨Ls, hL, hz, fun t ht => XT.l2i X.here A.1 rfl (hb A.2.2.1 hd) rfl ht⟩) nx
theorem WP.lcmp {x y : Int64} (hd : decode bytes pc = .ok (.lcmp, 1)) (nx : WP l Z C lay own mn bytes maxL ret R n0 ro Q k n (pc + 1) L (.int (XT.cmpL x y) :: S) H) : WP l Z C lay own mn bytes maxL ret R n0 ro Q k n pc L (.long y :: .long x :: S) H :=
  WP.of (fun p e s m args below meth c T locs ad Ls X A hL hz => ⟨Ls, hL, hz, fun t ht => XT.lcmp X.here A.1 rfl (hb A.2.2.1 hd) rfl ht⟩) nx
theorem WP.dup {v : Value} (hd : decode bytes pc = .ok (.dup, 1)) (hc : v.category = 1) (nx : WP l Z C lay own mn bytes maxL ret R n0 ro Q k n (pc + 1) L (v :: v :: S) H) : WP l Z C lay own mn bytes maxL ret R n0 ro Q k n pc L (v :: S) H :=
  WP.of (fun p e s m args below meth c T locs ad Ls X A hL hz => ⟨Ls, hL, hz, fun t ht => XS.dup X.here A.1 rfl (hb A.2.2.1 hd) rfl (by rw [rf_cat]; exact hc) ht⟩) nx
theorem WP.dup2 {v w : Value} (hd : decode bytes pc = .ok (.dup2, 1)) (hc : v.category = 1) (hc' : w.category = 1) (nx : WP l Z C lay own mn bytes maxL ret R n0 ro Q k n (pc + 1) L (v :: w :: v :: w :: S) H) : WP l Z C lay own mn bytes maxL ret R n0 ro Q k n pc L (v :: w :: S) H :=
  WP.of (fun p e s m args below meth c T locs ad Ls X A hL hz => ⟨Ls, hL, hz, fun t ht => XT.dup2 X.here A.1 rfl (hb A.2.2.1 hd) rfl (by rw [rf_cat]; exact hc) (by rw [rf_cat]; exact hc') ht⟩) nx
theorem WP.dup2L {x : Int64} (hd : decode bytes pc = .ok (.dup2, 1)) (nx : WP l Z C lay own mn bytes maxL ret R n0 ro Q k n (pc + 1) L (.long x :: .long x :: S) H) : WP l Z C lay own mn bytes maxL ret R n0 ro Q k n pc L (.long x :: S) H :=
  WP.of (fun p e s m args below meth c T locs ad Ls X A hL hz => ⟨Ls, hL, hz, fun t ht => XT.dup2L X.here A.1 rfl (hb A.2.2.1 hd) rfl ht⟩) nx
theorem WP.pop {v : Value} (hd : decode bytes pc = .ok (.pop, 1)) (hc : v.category = 1) (nx : WP l Z C lay own mn bytes maxL ret R n0 ro Q k n (pc + 1) L (S) H) : WP l Z C lay own mn bytes maxL ret R n0 ro Q k n pc L (v :: S) H :=
  WP.of (fun p e s m args below meth c T locs ad Ls X A hL hz => ⟨Ls, hL, hz, fun t ht => XT.pop X.here A.1 rfl (hb A.2.2.1 hd) rfl (by rw [rf_cat]; exact hc) ht⟩) nx
theorem WP.istore {j : Nat} {x : Int32} (hd : decode bytes pc = .ok (.istore j, 2)) (hi : j < L.length) (hL' : st1 L j (.int x) = L') (nx : WP l Z C lay own mn bytes maxL ret R n0 ro Q k n (pc + 2) L' S H) : WP l Z C lay own mn bytes maxL ret R n0 ro Q k n pc L (.int x :: S) H :=
  WP.of (fun p e s m args below meth c T locs ad Ls X A hL hz => by
    obtain ⟨Ls', e1, e2, e3⟩ := hL.store1 hi (v := .int x) rfl
    exact ⟨Ls', hL' ▸ e2, e3.trans hz, fun t ht => XS.istore X.here A.1 rfl (hb A.2.2.1 hd) rfl e1 ht⟩) nx
theorem WP.istoreN {j : Fin 4} {x : Int32} (hd : decode bytes pc = .ok (.istore_n j, 1)) (hi : j.val < L.length) (hL' : st1 L j.val (.int x) = L') (nx : WP l Z C lay own mn bytes maxL ret R n0 ro Q k n (pc + 1) L' S H) : WP l Z C lay own mn bytes maxL ret R n0 ro Q k n pc L (.int x :: S) H :=
  WP.of (fun p e s m args below meth c T locs ad Ls X A hL hz => by
    obtain ⟨Ls', e1, e2, e3⟩ := hL.store1 hi (v := .int x) rfl
    exact ⟨Ls', hL' ▸ e2, e3.trans hz, fun t ht => XS.istoreN X.here A.1 rfl (hb A.2.2.1 hd) rfl e1 ht⟩) nx
theorem WP.astore {j : Nat} {i : Nat} (hd : decode bytes pc = .ok (.astore j, 2)) (hi : j < L.length) (hL' : st1 L j (.ref i) = L') (nx : WP l Z C lay own mn bytes maxL ret R n0 ro Q k n (pc + 2) L' S H) : WP l Z C lay own mn bytes maxL ret R n0 ro Q k n pc L (.ref i :: S) H :=
  WP.of (fun p e s m args below meth c T locs ad Ls X A hL hz => by
    obtain ⟨Ls', e1, e2, e3⟩ := hL.store1 hi (v := .ref i) rfl
    exact ⟨Ls', hL' ▸ e2, e3.trans hz, fun t ht => XS.astore X.here A.1 rfl (hb A.2.2.1 hd) rfl rfl e1 ht⟩) nx
theorem WP.astoreN {j : Fin 4} {i : Nat} (hd : decode bytes pc = .ok (.astore_n j, 1)) (hi : j.val < L.length) (hL' : st1 L j.val (.ref i) = L') (nx : WP l Z C lay own mn bytes maxL ret R n0 ro Q k n (pc + 1) L' S H) : WP l Z C lay own mn bytes maxL ret R n0 ro Q k n pc L (.ref i :: S) H :=
  WP.of (fun p e s m args below meth c T locs ad Ls X A hL hz => by
    obtain ⟨Ls', e1, e2, e3⟩ := hL.store1 hi (v := .ref i) rfl
    exact ⟨Ls', hL' ▸ e2, e3.trans hz, fun t ht => XS.astoreN X.here A.1 rfl (hb A.2.2.1 hd) rfl rfl e1 ht⟩) nx
theorem WP.lstore {j : Nat} {x : Int64} (hd : decode bytes pc = .ok (.lstore j, 2)) (hi : j + 1 < L.length) (hL' : st2 L j (.long x) = L') (nx : WP l Z C lay own mn bytes maxL ret R n0 ro Q k n (pc + 2) L' S H) : WP l Z C lay own mn bytes maxL ret R n0 ro Q k n pc L (.long x :: S) H :=
  WP.of (fun p e s m args below meth c T locs ad Ls X A hL hz => by
    obtain ⟨Ls', e1, e2, e3⟩ := hL.store2 hi (v := .long x) rfl
    exact ⟨Ls', hL' ▸ e2, e3.trans hz, fun t ht => XT.lstore X.here A.1 rfl (hb A.2.2.1 hd) rfl e1 ht⟩) nx
theorem WP.lstoreN {j : Fin 4} {x : Int64} (hd : decode bytes pc = .ok (.lstore_n j, 1)) (hi : j.val + 1 < L.length) (hL' : st2 L j.val (.long x) = L') (nx : WP l Z C lay own mn bytes maxL ret R n0 ro Q k n (pc + 1) L' S H) : WP l Z C lay own mn bytes maxL ret R n0 ro Q k n pc L (.long x :: S) H :=
  WP.of (fun p e s m args below meth c T locs ad Ls X A hL hz => by
    obtain ⟨Ls', e1, e2, e3⟩ := hL.store2 hi (v := .long x) rfl
    exact ⟨Ls', hL' ▸ e2, e3.trans hz, fun t ht => XT.lstoreN X.here A.1 rfl (hb A.2.2.1 hd) rfl e1 ht⟩) nx
theorem WP.iinc {j : Nat} {cst : Int} {x : Int32} (v : Int32) (hd : decode bytes pc = .ok (.iinc j cst, 3)) (hv : Int32.ofInt cst = v) (hl : L[j]? = some (.val (.int x))) (hL' : st1 L j (.int (x + v)) = L') (nx : WP l Z C lay own mn bytes maxL ret R n0 ro Q k n (pc + 3) L' S H) : WP l Z C lay own mn bytes maxL ret R n0 ro Q k n pc L S H :=
  WP.of (fun p e s m args below meth c T locs ad Ls X A hL hz => by
    subst hv
    obtain ⟨Ls', e1, e2, e3⟩ := hL.store1 (get_lt hl) (v := .int (x + Int32.ofInt cst)) rfl
    exact ⟨Ls', hL' ▸ e2, e3.trans hz, fun t ht => XS.iinc X.here A.1 rfl (hb A.2.2.1 hd) (hL.2.1 _ _ hl) e1 ht⟩) nx
theorem iincW {tb : Tables} [Ours tb] {e : Env} {below : List Frame} {T target : State} {m : MethodId} {c : Code} {g : JFrame} (h : At T m c below) (hx : tb.exec = Jvm.exec) (hg : g.method = m) {k : Nat} {cst : Int} {x : Int32} {l' : Array Slot} (hd : decode c.code g.pc = .ok (.iinc k cst, 6)) (hl : g.locals[k]? = some (.val (.int x))) (hl' : storeLocals g.locals k (.int (x + Int32.ofInt cst)) = some l')
    (hr : Steps tb e below (T.setTop { g with pc := g.pc + 6, locals := l' }) target) : Steps tb e below (T.setTop g) target := by
  subst hg
  jvm_step h [h.top, hx, hd, hl, hl']
  exact hr
theorem WP.iincW {j : Nat} {cst : Int} {x : Int32} (v : Int32) (hd : decode bytes pc = .ok (.iinc j cst, 6)) (hv : Int32.ofInt cst = v) (hl : L[j]? = some (.val (.int x))) (hL' : st1 L j (.int (x + v)) = L') (nx : WP l Z C lay own mn bytes maxL ret R n0 ro Q k n (pc + 6) L' S H) : WP l Z C lay own mn bytes maxL ret R n0 ro Q k n pc L S H :=
  WP.of (fun p e s m args below meth c T locs ad Ls X A hL hz => by
    subst hv
    obtain ⟨Ls', e1, e2, e3⟩ := hL.store1 (get_lt hl) (v := .int (x + Int32.ofInt cst)) rfl
    exact ⟨Ls', hL' ▸ e2, e3.trans hz, fun t ht => Own.iincW X.here A.1 rfl (hb A.2.2.1 hd) (hL.2.1 _ _ hl) e1 ht⟩) nx
theorem WP.goto {o : Int} (hd : decode bytes pc = .ok (.goto o, 3)) (ho : 0 ≤ (pc : Int) + o) (hp : ((pc : Int) + o).toNat = pc') (nx : WP l Z C lay own mn bytes maxL ret R n0 ro Q k n pc' L S H) : WP l Z C lay own mn bytes maxL ret R n0 ro Q k n pc L S H :=
  WP.of (fun p e s m args below meth c T locs ad Ls X A hL hz => ⟨Ls, hL, hz, fun t ht => XS.goto X.here A.1 rfl rfl (hb A.2.2.1 hd) ho hp ht⟩) nx
theorem WP.ifY {cd : ClassFile.Cond} {x : Int32} {o : Int} (hd : decode bytes pc = .ok (.ifCond cd o, 3)) (hc : ifCond.holds cd x = true) (ho : 0 ≤ (pc : Int) + o) (hp : ((pc : Int) + o).toNat = pc') (nx : WP l Z C lay own mn bytes maxL ret R n0 ro Q k n pc' L S H) : WP l Z C lay own mn bytes maxL ret R n0 ro Q k n pc L (.int x :: S) H :=
  WP.of (fun p e s m args below meth c T locs ad Ls X A hL hz => ⟨Ls, hL, hz, fun t ht => XS.ifYes X.here A.1 rfl rfl (hb A.2.2.1 hd) rfl hc ho hp ht⟩) nx
theorem WP.ifN {cd : ClassFile.Cond} {x : Int32} {o : Int} (hd : decode bytes pc = .ok (.ifCond cd o, 3)) (hc : ifCond.holds cd x = false) (nx : WP l Z C lay own mn bytes maxL ret R n0 ro Q k n (pc + 3) L S H) : WP l Z C lay own mn bytes maxL ret R n0 ro Q k n pc L (.int x :: S) H :=
  WP.of (fun p e s m args below meth c T locs ad Ls X A hL hz => ⟨Ls, hL, hz, fun t ht => XS.ifNo X.here A.1 rfl (hb A.2.2.1 hd) rfl hc ht⟩) nx
theorem WP.icmpY {cd : ClassFile.Cond} {x y : Int32} {o : Int} (hd : decode bytes pc = .ok (.if_icmp cd o, 3)) (hc : if_icmp.holds cd x y = true) (ho : 0 ≤ (pc : Int) + o) (hp : ((pc : Int) + o).toNat = pc') (nx : WP l Z C lay own mn bytes maxL ret R n0 ro Q k n pc' L S H) : WP l Z C lay own mn bytes maxL ret R n0 ro Q k n pc L (.int y :: .int x :: S) H :=
  WP.of (fun p e s m args below meth c T locs ad Ls X A hL hz => ⟨Ls, hL, hz, fun t ht => XS.icmpYes X.here A.1 rfl rfl (hb A.2.2.1 hd) rfl hc ho hp ht⟩) nx
theorem WP.icmpN {cd : ClassFile.Cond} {x y : Int32} {o : Int} (hd : decode bytes pc = .ok (.if_icmp cd o, 3)) (hc : if_icmp.holds cd x y = false) (nx : WP l Z C lay own mn bytes maxL ret R n0 ro Q k n (pc + 3) L S H) : WP l Z C lay own mn bytes maxL ret R n0 ro Q k n pc L (.int y :: .int x :: S) H :=
  WP.of (fun p e s m args below meth c T locs ad Ls X A hL hz => ⟨Ls, hL, hz, fun t ht => XS.icmpNo X.here A.1 rfl (hb A.2.2.1 hd) rfl hc ht⟩) nx
theorem WP.nonnull {i : Nat} {o : Int} (hd : decode bytes pc = .ok (.ifnonnull o, 3)) (ho : 0 ≤ (pc : Int) + o) (hp : ((pc : Int) + o).toNat = pc') (nx : WP l Z C lay own mn bytes maxL ret R n0 ro Q k n pc' L S H) : WP l Z C lay own mn bytes maxL ret R n0 ro Q k n pc L (.ref i :: S) H :=
  WP.of (fun p e s m args below meth c T locs ad Ls X A hL hz => ⟨Ls, hL, hz, fun t ht => XT.ifnonnullYes X.here A.1 rfl rfl (hb A.2.2.1 hd) rfl ho hp ht⟩) nx
theorem WP.tswIn {dflt low high o : Int} {offs : Array Int} {len : Nat} {i : Int32} (hd : decode bytes pc = .ok (.tableswitch dflt low high offs, len)) (hin : ¬ (i.toInt < low ∨ i.toInt > high)) (hoff : offs[(i.toInt - low).toNat]? = some o) (ho : 0 ≤ (pc : Int) + o) (hp : ((pc : Int) + o).toNat = pc') (nx : WP l Z C lay own mn bytes maxL ret R n0 ro Q k n pc' L S H) : WP l Z C lay own mn bytes maxL ret R n0 ro Q k n pc L (.int i :: S) H :=
  WP.of (fun p e s m args below meth c T locs ad Ls X A hL hz => ⟨Ls, hL, hz, fun t ht => XS.tswIn X.here A.1 rfl rfl (hb A.2.2.1 hd) rfl hin hoff ho hp ht⟩) nx
theorem WP.tswOut {dflt low high : Int} {offs : Array Int} {len : Nat} {i : Int32} (hd : decode bytes pc = .ok (.tableswitch dflt low high offs, len)) (hout : i.toInt < low ∨ i.toInt > high) (ho : 0 ≤ (pc : Int) + dflt) (hp : ((pc : Int) + dflt).toNat = pc') (nx : WP l Z C lay own mn bytes maxL ret R n0 ro Q k n pc' L S H) : WP l Z C lay own mn bytes maxL ret R n0 ro Q k n pc L (.int i :: S) H :=
  WP.of (fun p e s m args below meth c T locs ad Ls X A hL hz => ⟨Ls, hL, hz, fun t ht => XS.tswOut X.here A.1 rfl rfl (hb A.2.2.1 hd) rfl hout ho hp ht⟩) nx
theorem tsw_miss {i : Int32} {low high : Int} (h : ∀ z : Int, low ≤ z → z ≤ high → ¬ i = Int32.ofInt z) : i.toInt < low ∨ i.toInt > high := by
  by_cases a : i.toInt < low
  · exact Or.inl a
  · by_cases b : i.toInt > high
    · exact Or.inr b
    · exact absurd (by rw [Int32.ofInt_toInt]) (h i.toInt (by omega) (by omega))
theorem WP.moved (hs : ∀ (p : Program) (e : Env) (s : State) (m : MethodId) (args : Array Value) (below : List Frame) (meth : Method) (c : Code) (T : State) (locs : List Loc) (ad : Nat → Addr) (Ls : Array Slot), Stand p l e R s m args below meth c T locs k n → Am Z own mn bytes maxL ret p s m meth c → HR Z C lay n0 ro ad H T.heap → Fr n0 locs → LR ad L Ls → Ls.size = maxL →
      ∃ T' locs', Stand p l e R s m args below meth c T' locs' k' n' ∧ HR Z C lay n0 ro ad H' T'.heap ∧ Kp ad H.length T.heap T'.heap ∧ Fr n0 locs' ∧ ∀ t, Steps p.tables e below (T'.setTop (mkF m pc' Ls (S'.map (rf ad)))) t → Steps p.tables e below (T.setTop (mkF m pc Ls (S.map (rf ad)))) t)
    (nx : WP l Z C lay own mn bytes maxL ret R n0 ro Q k' n' pc' L S' H') : WP l Z C lay own mn bytes maxL ret R n0 ro Q k n pc L S H := by
  intro p e s m args below meth c T locs ad Ls X A hr N hL hz
  obtain ⟨T', locs', X', hr', K, N', st⟩ := hs p e s m args below meth c T locs ad Ls X A hr N hL hz
  obtain ⟨s₂, v, H2, locs2, h1, h2, h3, h4, h5, h6, h7⟩ := nx p e s m args below meth c T' locs' ad Ls X' A hr' N' hL hz
  exact ⟨s₂, v, H2, locs2, st _ h1, h2, h3, h4, h5, Kp.trans hr K h6, h7⟩
theorem WP.getfield {idx i j : Nat} {f d : String} {vs : List Value} {v : Value} (hd : decode bytes pc = .ok (.getfield idx, 3)) (hw : (Cond.fieldLink own idx C f d).before a0 Z = true) (hj : lay[j]? = some (f, d)) (hH : H[i]? = some (.inl vs)) (hv : vs[j]? = some v) (nx : WP l Z C lay own mn bytes maxL ret R n0 ro Q k n (pc + 3) L (v :: S) H) : WP l Z C lay own mn bytes maxL ret R n0 ro Q k n pc L (.ref i :: S) H :=
  WP.moved (fun p e s m args below meth c T locs ad Ls X A hr N hL hz => by
    have F := (hr.1 i _ hH).2 j _ v hj hv
    obtain ⟨T', X', e', st⟩ := getF X A.1 A.2.1 A.2.2.2.2.2.2.1 (host := "") (Or.inl hw) Via.refl rfl F (g := mkF m pc Ls (.ref (ad i) :: S.map (rf ad))) rfl rfl (hb A.2.2.1 hd)
    exact ⟨T', locs, X', by rw [e']; exact hr, by rw [e']; exact Kp.refl _ _ _, N, fun t ht => st t ht⟩) nx
theorem WP.iaload {i : Nat} {xs : List Int32} {j x : Int32} (hd : decode bytes pc = .ok (.iaload, 1)) (hH : H[i]? = some (cI xs)) (hx : rd xs j = some x) (nx : WP l Z C lay own mn bytes maxL ret R n0 ro Q k n (pc + 1) L (.int x :: S) H) : WP l Z C lay own mn bytes maxL ret R n0 ro Q k n pc L (.int j :: .ref i :: S) H :=
  WP.moved (fun p e s m args below meth c T locs ad Ls X A hr N hL hz => by
    obtain ⟨cl, Ar, hsl⟩ := hr.1 i _ hH
    obtain ⟨q1, q2⟩ := rd_slots hsl hx
    exact ⟨T, locs, X, hr, Kp.refl _ _ _, N, fun t ht => X.iaload A.1 (j := j) Ar.1 (State.isArrayOf_alike A.2.1.alike Ar.2.1) Ar.2.2 q1 q2 (g := mkF m pc Ls (.int j :: .ref (ad i) :: S.map (rf ad))) rfl rfl (hb A.2.2.1 hd) _ ht⟩) nx
theorem WP.laload {i : Nat} {xs : List Int64} {j : Int32} {x : Int64} (hd : decode bytes pc = .ok (.laload, 1)) (hH : H[i]? = some (cJ xs)) (hx : rd xs j = some x) (nx : WP l Z C lay own mn bytes maxL ret R n0 ro Q k n (pc + 1) L (.long x :: S) H) : WP l Z C lay own mn bytes maxL ret R n0 ro Q k n pc L (.int j :: .ref i :: S) H :=
  WP.moved (fun p e s m args below meth c T locs ad Ls X A hr N hL hz => by
    obtain ⟨cl, Ar, hsl⟩ := hr.1 i _ hH
    obtain ⟨q1, q2⟩ := rd_slots hsl hx
    exact ⟨T, locs, X, hr, Kp.refl _ _ _, N, fun t ht => X.laload A.1 (j := j) Ar.1 (State.isArrayOf_alike A.2.1.alike Ar.2.1) Ar.2.2 q1 q2 (g := mkF m pc Ls (.int j :: .ref (ad i) :: S.map (rf ad))) rfl rfl (hb A.2.2.1 hd) _ ht⟩) nx
theorem baloadZ {p : Program} {e : Env} {s : State} {m : MethodId} {args : Array Value} {below : List Frame} {meth : Method} {c : Code} {T : State} {locs : List Loc} {cells slots : Nat} (X : Stand p l e R s m args below meth c T locs cells slots) (hexec : p.tables.exec = Jvm.exec) {a : Addr} {cell : Cell} {j : Int32} {v : Value} (hcell : T.heap[a]? = some cell) (harr : s.isArrayOf cell .boolean) (hknown : cell.vm ≠ .unknown)
    (hin : ¬ (j < 0 ∨ cell.slots.size ≤ j.toNatClampNeg)) (hv : cell.slots[j.toNatClampNeg]? = some v) {g : JFrame} (hg : g.method = m) {rest : List Value} (hstack : g.stack = .int j :: .ref a :: rest) (hdg : decode c.code g.pc = .ok (.baload, 1)) (target : State)
    (hrest : Steps p.tables e below (T.setTop { g with pc := g.pc + 1, stack := v :: rest }) target) : Steps p.tables e below (T.setTop g) target := by
  have hT := State.isArrayOf_alike X.warmed.alike harr
  subst hg
  jvm_step X.here [hexec, hdg, baload.wp_booleans (e := e) (s := T) (f := g) X.here.top hstack hcell hT hin hknown hv]
  exact hrest
theorem WP.baload {i : Nat} {xs : List Int32} {j x : Int32} (hd : decode bytes pc = .ok (.baload, 1)) (hH : H[i]? = some (cZ xs)) (hx : rd xs j = some x) (nx : WP l Z C lay own mn bytes maxL ret R n0 ro Q k n (pc + 1) L (.int x :: S) H) : WP l Z C lay own mn bytes maxL ret R n0 ro Q k n pc L (.int j :: .ref i :: S) H :=
  WP.moved (fun p e s m args below meth c T locs ad Ls X A hr N hL hz => by
    obtain ⟨cl, Ar, hsl⟩ := hr.1 i _ hH
    obtain ⟨q1, q2⟩ := rd_slots hsl hx
    exact ⟨T, locs, X, hr, Kp.refl _ _ _, N, fun t ht => baloadZ X A.1 (j := j) Ar.1 (State.isArrayOf_alike A.2.1.alike Ar.2.1) Ar.2.2 q1 q2 (g := mkF m pc Ls (.int j :: .ref (ad i) :: S.map (rf ad))) rfl rfl (hb A.2.2.1 hd) _ ht⟩) nx
theorem WP.arraylength {i : Nat} {xs : List Int32} (hd : decode bytes pc = .ok (.arraylength, 1)) (hH : H[i]? = some (cI xs)) (nx : WP l Z C lay own mn bytes maxL ret R n0 ro Q k n (pc + 1) L (.int xs.length.toInt32 :: S) H) : WP l Z C lay own mn bytes maxL ret R n0 ro Q k n pc L (.ref i :: S) H :=
  WP.moved (fun p e s m args below meth c T locs ad Ls X A hr N hL hz => by
    obtain ⟨cl, Ar, hsl⟩ := hr.1 i _ hH
    have e1 : cl.slots.size = xs.length := by rw [← Array.length_toList, hsl, List.length_map]
    refine ⟨T, locs, X, hr, Kp.refl _ _ _, N, fun t ht => X.arraylength A.1 Ar.1 (State.isArrayOf_alike A.2.1.alike Ar.2.1) (g := mkF m pc Ls (.ref (ad i) :: S.map (rf ad))) rfl rfl (hb A.2.2.1 hd) _ ?_⟩
    rw [e1]; exact ht) nx
theorem WP.iastore {i : Nat} {xs xs' : List Int32} {j : Int32} {x : Int32} (hd : decode bytes pc = .ok (.iastore, 1)) (hH : H[i]? = some (cI xs)) (hi : ro ≤ i) (hx : wr xs j x = some xs') (hH' : H.set i (cI xs') = H') (nx : WP l Z C lay own mn bytes maxL ret R n0 ro Q k n (pc + 1) L S H') : WP l Z C lay own mn bytes maxL ret R n0 ro Q k n pc L (.int x :: .int j :: .ref i :: S) H :=
  WP.moved (fun p e s m args below meth c T locs ad Ls X A hr N hL hz => by
    obtain ⟨cl, Ar, hsl⟩ := hr.1 i _ hH
    obtain ⟨q1, q2⟩ := wr_slots hsl hx
    obtain ⟨T', h', X', e', w, st⟩ := stI X A.1 A.2.1 rfl Ar (j := j) (x := x) q1 (g := mkF m pc Ls (.int x :: .int j :: .ref (ad i) :: S.map (rf ad))) rfl rfl (hb A.2.2.1 hd)
    subst e'
    have hi' := get_lt hH
    have P := hr.put (h' := T'.heap) (c := cI xs') hi' w.size (fun a cz hne q => by
      obtain ⟨c', g1, -, -, -, g5, -⟩ := wr_at w q
      rw [g5 hne] at g1; exact g1) ⟨_, Ar.same w, q2⟩
    exact ⟨T', _, X', hH' ▸ P.1, P.2, Fr.snoc X' N (hr.2.2.2.1 i hi' hi), fun t ht => st t ht⟩) nx
theorem WP.lastore {i : Nat} {xs xs' : List Int64} {j : Int32} {x : Int64} (hd : decode bytes pc = .ok (.lastore, 1)) (hH : H[i]? = some (cJ xs)) (hi : ro ≤ i) (hx : wr xs j x = some xs') (hH' : H.set i (cJ xs') = H') (nx : WP l Z C lay own mn bytes maxL ret R n0 ro Q k n (pc + 1) L S H') : WP l Z C lay own mn bytes maxL ret R n0 ro Q k n pc L (.long x :: .int j :: .ref i :: S) H :=
  WP.moved (fun p e s m args below meth c T locs ad Ls X A hr N hL hz => by
    obtain ⟨cl, Ar, hsl⟩ := hr.1 i _ hH
    obtain ⟨q1, q2⟩ := wr_slots hsl hx
    obtain ⟨T', h', X', e', w, st⟩ := stJ X A.1 A.2.1 rfl Ar (j := j) (x := x) q1 (g := mkF m pc Ls (.long x :: .int j :: .ref (ad i) :: S.map (rf ad))) rfl rfl (hb A.2.2.1 hd)
    subst e'
    have hi' := get_lt hH
    have P := hr.put (h' := T'.heap) (c := cJ xs') hi' w.size (fun a cz hne q => by
      obtain ⟨c', g1, -, -, -, g5, -⟩ := wr_at w q
      rw [g5 hne] at g1; exact g1) ⟨_, Ar.same w, q2⟩
    exact ⟨T', _, X', hH' ▸ P.1, P.2, Fr.snoc X' N (hr.2.2.2.1 i hi' hi), fun t ht => st t ht⟩) nx
theorem WP.bastore {i : Nat} {xs xs' : List Int32} {j : Int32} {x : Int32} (hd : decode bytes pc = .ok (.bastore, 1)) (hH : H[i]? = some (cZ xs)) (hi : ro ≤ i) (hx : wr xs j (x &&& 1) = some xs') (hH' : H.set i (cZ xs') = H') (nx : WP l Z C lay own mn bytes maxL ret R n0 ro Q k n (pc + 1) L S H') : WP l Z C lay own mn bytes maxL ret R n0 ro Q k n pc L (.int x :: .int j :: .ref i :: S) H :=
  WP.moved (fun p e s m args below meth c T locs ad Ls X A hr N hL hz => by
    obtain ⟨cl, Ar, hsl⟩ := hr.1 i _ hH
    obtain ⟨q1, q2⟩ := wr_slots hsl hx
    obtain ⟨T', h', X', e', w, st⟩ := stZ X A.1 A.2.1 rfl Ar (j := j) (x := x) q1 (g := mkF m pc Ls (.int x :: .int j :: .ref (ad i) :: S.map (rf ad))) rfl rfl (hb A.2.2.1 hd)
    subst e'
    have hi' := get_lt hH
    have P := hr.put (h' := T'.heap) (c := cZ xs') hi' w.size (fun a cz hne q => by
      obtain ⟨c', g1, -, -, -, g5, -⟩ := wr_at w q
      rw [g5 hne] at g1; exact g1) ⟨_, Ar.same w, q2⟩
    exact ⟨T', _, X', hH' ▸ P.1, P.2, Fr.snoc X' N (hr.2.2.2.1 i hi' hi), fun t ht => st t ht⟩) nx
/-- a field of the one class is written -/
theorem WP.put {idx i j kk : Nat} {f d : String} {vs : List Value} {v v' old : Value} {ty : FieldType} (hd : decode bytes pc = .ok (.putfield idx, 3)) (hw : (Cond.fieldLink own idx C f d).before a0 Z = true) (hl : (Cond.lays C C f d).before a0 Z = true ∨ ((Cond.laysFinal C C f d).before a0 Z = true ∧ own = C ∧ mn = "<init>")) (wi : (Cond.instantiable C kk).before a0 Z = true)
    (hlay : ∀ (a b : Nat) (f g : String × String), lay[a]? = some f → lay[b]? = some g → a ≠ b → RoadKit.slotOf Z C f.1 f.2 ≠ RoadKit.slotOf Z C g.1 g.2) (hty : parseFieldDescriptor d = some ty) (hn : ∀ ad, narrow ty (rf ad v) = rf ad v') (hf : ∀ ad, fits ty (rf ad v') = true)
    (hj : lay[j]? = some (f, d)) (hH : H[i]? = some (.inl vs)) (hv : vs[j]? = some old) (hi : ro ≤ i) (hH' : H.set i (.inl (vs.set j v')) = H') (nx : WP l Z C lay own mn bytes maxL ret R n0 ro Q k n (pc + 3) L S H') : WP l Z C lay own mn bytes maxL ret R n0 ro Q k n pc L (v :: .ref i :: S) H :=
  WP.moved (fun p e s m args below meth c T locs ad Ls X A hr N hL hz => by
    obtain ⟨E, F⟩ := hr.1 i _ hH
    obtain ⟨T', h', X', e', w, st⟩ := putFN X A.1 A.2.1 A.2.2.2.2.2.2.1 hw Via.refl rfl (F j _ old hj hv) E (hl.imp id fun q => ⟨q.1, q.2.1, A.2.2.2.2.2.2.2.trans q.2.2⟩) wi hty (hn ad) (hf ad) (g := mkF m pc Ls (rf ad v :: .ref (ad i) :: S.map (rf ad))) rfl rfl (hb A.2.2.1 hd)
    subst e'
    have hi' := get_lt hH
    have P := hr.put (h' := T'.heap) (c := .inl (vs.set j v')) hi' w.size (fun a cz hne q => by
      obtain ⟨c', g1, -, -, -, g5, -⟩ := wr_at w q
      rw [g5 hne] at g1; exact g1) ⟨E.wr w, fun a g u hg hu => by
        rw [List.getElem?_set] at hu
        by_cases e : j = a
        · subst e
          cases hj.symm.trans hg
          rw [if_pos rfl, if_pos (get_lt hv)] at hu
          cases hu
          exact (F j _ old hj hv).same w
        · rw [if_neg e] at hu
          exact (F a g u hg hu).other w (Or.inr (hlay a j g (f, d) hg hj (Ne.symm e)))⟩
    exact ⟨T', _, X', hH' ▸ P.1, P.2, Fr.snoc X' N (hr.2.2.2.1 i hi' hi), fun t ht => st t ht⟩) nx
/-- newarray -/
theorem WP.newarray {aty : ArrayType} {c0 : OwnC} {cnt : Int32} (hd : decode bytes pc = .ok (.newarray aty, 2)) (hw : (Cond.arrayClass (newarray.typeOf aty)).before a0 Z = true) (hn : ¬ cnt < 0) (hb8 : cnt.toNatClampNeg * 8 ≤ 536870912) (hc : k + 1 ≤ R.cells) (hl : n + cnt.toNatClampNeg ≤ R.slots)
    (h0 : (aty = .int ∧ c0 = cI (List.replicate cnt.toNatClampNeg 0)) ∨ (aty = .long ∧ c0 = cJ (List.replicate cnt.toNatClampNeg 0)) ∨ (aty = .boolean ∧ c0 = cZ (List.replicate cnt.toNatClampNeg 0)))
    (nx : WP l Z C lay own mn bytes maxL ret R n0 ro Q (k + 1) (n + cnt.toNatClampNeg) (pc + 2) L (.ref H.length :: S) (H ++ [c0])) : WP l Z C lay own mn bytes maxL ret R n0 ro Q k n pc L (.int cnt :: S) H :=
  WP.moved (fun p e s m args below meth c T locs ad Ls X A hr N hL hz => by
    have hcb : componentBytes (newarray.typeOf aty) ≤ 8 := by cases aty <;> decide
    obtain ⟨cA, kA, comp, h1, h2, h3, X', st⟩ := X.newarrayPrim A.1 (mvA A.2.1 hw) (g := mkF m pc Ls (.int cnt :: S.map (rf ad))) rfl (hb A.2.2.1 hd) rfl hn (Nat.le_trans (Nat.mul_le_mul (Nat.le_refl _) hcb) hb8) hc hl
    rw [A.2.1.alike.findClass] at h1
    obtain ⟨kZ, z1, -⟩ := Vm.findClass_spec h1
    obtain ⟨k', z2, z3⟩ := A.2.1.alike.2.2 _ _ z1
    cases h2.symm.trans z2
    have hE : Ext T.heap (T.heap.push { cls := cA, slots := Array.replicate cnt.toNatClampNeg (defaultValue (newarray.typeOf aty)), vm := .none }) := ⟨by simp, fun a c h => by
      rw [Array.getElem?_push_lt (Array.getElem?_eq_some_iff.mp h).1]; exact (Array.getElem?_eq_getElem _).symm.trans h⟩
    have Ar : Arr Z (T.heap.push { cls := cA, slots := Array.replicate cnt.toNatClampNeg (defaultValue (newarray.typeOf aty)), vm := .none }) T.heap.size { cls := cA, slots := Array.replicate cnt.toNatClampNeg (defaultValue (newarray.typeOf aty)), vm := .none } (newarray.typeOf aty) :=
      ⟨by simp, ⟨by simp, kZ, z1, comp, by rw [← h3, z3]⟩, by simp⟩
    have hc0 : CelOk Z C lay ad (T.heap.push { cls := cA, slots := Array.replicate cnt.toNatClampNeg (defaultValue (newarray.typeOf aty)), vm := .none }) T.heap.size c0 := by
      rcases h0 with ⟨rfl, rfl⟩ | ⟨rfl, rfl⟩ | ⟨rfl, rfl⟩
      all_goals exact ⟨_, Ar, by simp [defaultValue, newarray.typeOf]⟩
    have P := hr.push (h' := T.heap.push _) (by simp) hE hc0
    refine ⟨_, locs, X', P.1, P.2.1, N, fun t ht => st t ?_⟩
    have e0 : (List.map (rf ad) (.ref H.length :: S)) = .ref T.heap.size :: S.map (rf ad) := by show (Value.ref (ad H.length) :: _) = _; rw [P.2.2]
    rw [e0] at ht; exact ht) nx
theorem rf_default (ad : Nat → Addr) (ty : FieldType) : rf ad (defaultValue ty) = defaultValue ty := by cases ty <;> rfl
/-- new -/
theorem WP.new {idx kk : Nat} {vs : List Value} (hd : decode bytes pc = .ok (.new idx, 3)) (hw : (Cond.classLink own idx C).before a0 Z = true) (wi : (Cond.instantiable C kk).before a0 Z = true) (wz : (Cond.initialized C).before a0 Z = true) (hc : k + 1 ≤ R.cells) (hl : n + kk ≤ R.slots)
    (h0 : ∀ (i : Nat) (f : String × String) (v : Value), lay[i]? = some f → vs[i]? = some v → Laid Z a0 C C f.1 f.2 ∧ ∃ ty, parseFieldDescriptor f.2 = some ty ∧ v = defaultValue ty)
    (nx : WP l Z C lay own mn bytes maxL ret R n0 ro Q (k + 1) (n + kk) (pc + 3) L (.ref H.length :: S) (H ++ [.inl vs])) : WP l Z C lay own mn bytes maxL ret R n0 ro Q k n pc L S H :=
  WP.moved (fun p e s m args below meth c T locs ad Ls X A hr N hL hz => by
    obtain ⟨vm', cC, kC, h1, h2, h3, h4, X', st⟩ := X.newCold A.1 A.2.2.2.2.2.2.1 (mv A.2.1 hw) (mv A.2.1 wi) (mv A.2.1 wz) (g := mkF m pc Ls (S.map (rf ad))) rfl (hb A.2.2.1 hd) hc hl
    rw [A.2.1.alike.findClass] at h1
    obtain ⟨kZ, z1, -⟩ := Vm.findClass_spec h1
    obtain ⟨k', z2, z3⟩ := A.2.1.alike.2.2 _ _ z1
    cases h2.symm.trans z2
    have ei : kC.instanceTypes = kZ.instanceTypes := by rw [z3]
    have hN : (T.heap.push { cls := cC, slots := kC.instanceTypes.map defaultValue, vm := .none })[T.heap.size]? = some { cls := cC, slots := kC.instanceTypes.map defaultValue, vm := .none } := by simp
    have hE : Ext T.heap (T.heap.push { cls := cC, slots := kC.instanceTypes.map defaultValue, vm := .none }) := ⟨by simp, fun a c h => by
      rw [Array.getElem?_push_lt (Array.getElem?_eq_some_iff.mp h).1]; exact (Array.getElem?_eq_getElem _).symm.trans h⟩
    have hc0 : CelOk Z C lay ad (T.heap.push { cls := cC, slots := kC.instanceTypes.map defaultValue, vm := .none }) T.heap.size (.inl vs) := by
      refine ⟨⟨_, kZ, hN, h1, z1, rfl, fun _ => by simp [ei]⟩, fun i f v hf hv => ?_⟩
      obtain ⟨La, ty, ht, rfl⟩ := h0 i f v hf hv
      obtain ⟨c1, k1, cf, kf, i1, f1, a1, a2, a3, a4, a5, a6, -⟩ := La.spec
      cases h1.symm.trans a1
      cases z1.symm.trans a2
      rw [rf_default]
      exact ⟨_, cf, kf, i1, f1, hN, a3, a4, by simp, rfl, a5, by simp [ei, a6, (State.fieldFound?_type a3 ht).2]⟩
    have P := hr.push (h' := T.heap.push _) (by simp) hE hc0
    refine ⟨_, locs, X', P.1, P.2.1, N, fun t ht => st t ?_⟩
    have e0 : (List.map (rf ad) (.ref H.length :: S)) = .ref T.heap.size :: S.map (rf ad) := by show (Value.ref (ad H.length) :: _) = _; rw [P.2.2]
    rw [e0] at ht; exact ht) nx
/-- Object.<init> -/
theorem WP.initO {idx i : Nat} (hd : decode bytes pc = .ok (.invokespecial idx, 3)) (w1 : (Cond.methodLink own idx Lib.objectInit).before a0 Z = true) (w2 : (Cond.instanceMethod Lib.objectInit).before a0 Z = true) (w3 : (Cond.code Lib.objectInit ⟨#[0xb1]⟩ 1 none).before a0 Z = true) (hf : 1 ≤ R.frames) (hl : (S.map fun v => v.category).sum + 12 ≤ R.locals)
    (nx : WP l Z C lay own mn bytes maxL ret R n0 ro Q k n (pc + 3) L S H) : WP l Z C lay own mn bytes maxL ret R n0 ro Q k n pc L (.ref i :: S) H :=
  WP.moved (fun p e s m args below meth c T locs ad Ls X A hr N hL hz => by
    obtain ⟨T', X', e', st⟩ := RoadKit.initO X A.1 A.2.1 A.2.2.2.2.2.2.1 w1 w2 w3 rfl (g := mkF m pc Ls (.ref (ad i) :: S.map (rf ad))) rfl (hz.trans A.2.2.2.1.symm) rfl (hb A.2.2.1 hd) hf (W := (S.map fun v => v.category).sum) (by show 2 * 0 + _ ≤ _; rw [rf_cats]; omega) hl
    exact ⟨T', locs, X', by rw [e']; exact hr, by rw [e']; exact Kp.refl _ _ _, N, fun t ht => st t ht⟩) nx
theorem WP.leave {v : Option Value} (hk : k ≤ R.cells) (hn : n ≤ R.slots) (hv : ret = none → v = none) (hq : Q v H)
    (hs : ∀ (p : Program) (e : Env) (s : State) (m : MethodId) (args : Array Value) (below : List Frame) (meth : Method) (c : Code) (T : State) (locs : List Loc) (ad : Nat → Addr) (Ls : Array Slot) (fs : List Frame), Stand p l e R s m args below meth c T locs k n → Am Z own mn bytes maxL ret p s m meth c →
      (∀ (f : JFrame) (acts : List Action), f.method = m → f.locked = none → f.entered = [] → (doReturn e (T.setTop f) acts (v.map (rf ad))).1 = T.setFrames fs) → Steps p.tables e below (T.setTop (mkF m pc Ls (S.map (rf ad)))) (T.setFrames fs)) : WP l Z C lay own mn bytes maxL ret R n0 ro Q k n pc L S H := by
  intro p e s m args below meth c T locs ad Ls X A hr N hL hz
  obtain ⟨fs, hr', hrun, hended, hW, hsame⟩ := X.leave (v := v.map (rf ad)) (fun q => by rw [hv (A.2.2.2.2.1.symm.trans q)]; rfl) A.2.2.2.2.2.1
  exact ⟨_, v, H, locs, hs p e s m args below meth c T locs ad Ls fs X A hr', hrun, hended, hq, hr, Kp.refl _ _ _, N, ⟨_, rfl⟩, hW, hsame.mono hk hn⟩
theorem retI' {p : Program} {e : Env} {s : State} {m : MethodId} {args : Array Value} {below : List Frame} {meth : Method} {c : Code} {T : State} {locs : List Loc} {cells slots : Nat} (X : Stand p l e R s m args below meth c T locs cells slots) (hx : p.tables.exec = Jvm.exec) {pc : Nat} {Ls : Array Slot} {z : Int32} {rest : List Value} (hret : meth.sig.returnType = some .int) (hd : decode c.code pc = .ok (.ireturn, 1)) {fs : List Frame}
    (hl : ∀ (f : JFrame) (acts : List Action), f.method = m → f.locked = none → f.entered = [] → (doReturn e (T.setTop f) acts (some (.int z))).1 = T.setFrames fs) : Steps p.tables e below (T.setTop (mkF m pc Ls (.int z :: rest))) (T.setFrames fs) := by
  have hm' : T.vm.method? m = some meth := X.method'
  have hn : narrow .int (.int z) = .int z := rfl
  show Steps p.tables e below (T.setTop { method := m, pc := pc, locals := Ls, stack := _ :: rest, locked := none }) _
  jvm_step X.here [X.here.top, hx, hd, hm', hret, hn]
  first | (intro acts; rw [hl _ acts rfl rfl rfl]) | rw [hl _ _ rfl rfl rfl]
  exact Steps.refl _
theorem WP.ireturn {x : Int32} (hd : decode bytes pc = .ok (.ireturn, 1)) (hret : ret = some .int) (hk : k ≤ R.cells) (hn : n ≤ R.slots) (hq : Q (some (.int x)) H) : WP l Z C lay own mn bytes maxL ret R n0 ro Q k n pc L (.int x :: S) H :=
  WP.leave (v := some (.int x)) hk hn (fun q => by rw [hret] at q; cases q) hq fun p e s m args below meth c T locs ad Ls fs X A hr' => retI' X A.1 (A.2.2.2.2.1.trans hret) (hb A.2.2.1 hd) hr'
theorem WP.zreturn {x : Int32} (hd : decode bytes pc = .ok (.ireturn, 1)) (hret : ret = some .boolean) (hk : k ≤ R.cells) (hn : n ≤ R.slots) (hq : Q (some (.int (x &&& 1))) H) : WP l Z C lay own mn bytes maxL ret R n0 ro Q k n pc L (.int x :: S) H :=
  WP.leave (v := some (.int (x &&& 1))) hk hn (fun q => by rw [hret] at q; cases q) hq fun p e s m args below meth c T locs ad Ls fs X A hr' => retN X A.1 (t := .boolean) (A.2.2.2.2.1.trans hret) (Or.inl rfl) (hb A.2.2.1 hd) hr'
theorem WP.lreturn {x : Int64} (hd : decode bytes pc = .ok (.lreturn, 1)) (hret : ret = some .long) (hk : k ≤ R.cells) (hn : n ≤ R.slots) (hq : Q (some (.long x)) H) : WP l Z C lay own mn bytes maxL ret R n0 ro Q k n pc L [.long x] H :=
  WP.leave (v := some (.long x)) hk hn (fun q => by rw [hret] at q; cases q) hq fun p e s m args below meth c T locs ad Ls fs X A hr' => X.lreturnOut A.1 (A.2.2.2.2.1.trans hret) (hb A.2.2.1 hd) hr'
theorem WP.vreturn (hd : decode bytes pc = .ok (.return_, 1)) (hret : ret = none) (hk : k ≤ R.cells) (hn : n ≤ R.slots) (hq : Q none H) : WP l Z C lay own mn bytes maxL ret R n0 ro Q k n pc L [] H :=
  WP.leave (v := none) hk hn (fun _ => rfl) hq fun p e s m args below meth c T locs ad Ls fs X A hr' => X.returnOut A.1 (A.2.2.2.2.1.trans hret) (hb A.2.2.1 hd) hr'
end Rules
/-! ## a callee's promise, said of the small view -/
def QQ (Z : State) (C : String) (lay : List (String × String)) (n0 ro : Nat) (ad : Nat → Addr) (N : Nat) (h : Heap) (Q : Option Value → List OwnC → Prop) (v : Option Value) (h' : Heap) (L : List Loc) : Prop :=
  ∃ w H', v = w.map (rf ad) ∧ Q w H' ∧ HR Z C lay n0 ro ad H' h' ∧ Kp ad N h h' ∧ Fr n0 L
def CS (l : Launch) (Z : State) (C : String) (lay : List (String × String)) (y : MethodName) (bytes : ByteArray) (maxL : Nat) (ret : Option FieldType) (R : Room) (ro : Nat) (as : List Value) (H : List OwnC) (Q : Option Value → List OwnC → Prop) : Prop :=
  ∀ (ws : List Cond) (n0 : Nat) (ad : Nat → Addr) (h : Heap), HR Z C lay n0 ro ad H h →
    MetFree l y (head1 (Cond.code y bytes maxL ret :: ws) R) (fun a U => a = (as.map (rf ad)).toArray ∧ Z.Warmed39 U.vm ∧ U.heap = h) (fun _ _ _ _ _ => True)
      (fun _ U o U' => ∃ v L, o = .returned v ∧ QQ Z C lay n0 ro ad H.length h Q v U'.heap L ∧ FrameEnd U o U' L R.cells R.slots)
section Calls
variable {l : Launch} {Z : State} {a0 : Array Value} {C : String} {lay : List (String × String)} {own mn : String} {bytes cb : ByteArray} {maxL cm : Nat} {ret cr : Option FieldType} {R Rc : Room} {n0 ro : Nat} {Q Qc : Option Value → List OwnC → Prop} {k n pc pc' : Nat} {L L' : List Slot} {S S0 as : List Value} {H H' : List OwnC} {y : MethodName}
theorem CS.of_wp (hx : plainName y.cls = true) (hn : (laid as).length ≤ maxL) (w : ∀ n0, WP l Z C lay y.cls y.name bytes maxL ret R n0 ro Q 0 0 0 (entL as maxL) [] H) : CS l Z C lay y bytes maxL ret R ro as H Q := by
  intro ws n0 ad h hr
  refine MetFree.of_bodySF (plainFor_of_name hx) hisR ?_
  intro p e s m args below meth c s₁ Bd hml0 hP hK
  obtain ⟨rfl, hZ, hh⟩ := hP
  have e0 : s₁.heap = h := by rw [← hh, Bd.state]; rfl
  obtain ⟨E1, E2⟩ := entry_LR ad as maxL hn
  obtain ⟨s₂, v, H', locs', h1, h2, h3, h4, h5, h6, h7, h8⟩ := w n0 p e s m _ below meth c s₁ [] ad _ (Stand.of_body Bd) ⟨Bd.exec, hZ, Bd.bytes, hml0, Bd.returns, Bd.notSynchronized, findClass_of_methodNamed Bd.named, (name_of_methodNamed Bd.named Bd.method).1⟩ (by rw [e0]; exact hr) (Fr.nil n0) E1 E2
  rw [e0] at h6
  exact ⟨s₂, _, h1, h2, h3, _, locs', rfl, ⟨v, H', rfl, h4, h5, h6, h7⟩, h8⟩
theorem CS.mono (cs : CS l Z C lay y bytes maxL ret R ro as H Q) (h : ∀ v H', Q v H' → Qc v H') : CS l Z C lay y bytes maxL ret R ro as H Qc := by
  intro ws n0 ad hh hr p e ha hc hk s m args below hf happ hP hK
  obtain ⟨N, o, h1, h2, h3, v, L, h4, ⟨w, H', g1, g2, g3⟩, h5⟩ := cs ws n0 ad hh hr p e ha hc hk s m args below hf happ hP hK
  exact ⟨N, o, h1, h2, h3, v, L, h4, ⟨w, H', g1, h _ _ g2, g3⟩, h5⟩
/-- what every call leaves: the walk goes on behind it -/
theorem go_on {p : Program} {e : Env} {s : State} {m : MethodId} {args : Array Value} {below : List Frame} {meth : Method} {c : Code} {T : State} {locs : List Loc} {ad : Nat → Addr} {Ls : Array Slot} {B : Pt} {v : Option Value} {Lc : List Loc} {s₀ : State}
    (nx : ∀ v H', Qc v H' → WP l Z C lay own mn bytes maxL ret R n0 ro Q (k + Rc.cells) (n + Rc.slots) (pc + 3) L (v.toList ++ S) H') (X : Stand p l e R s m args below meth c B.U B.locs B.cells B.slots) (A : Am Z own mn bytes maxL ret p s m meth c) (hr : HR Z C lay n0 ro ad H T.heap) (N : Fr n0 locs) (hL : LR ad L Ls) (hz : Ls.size = maxL)
    (hQ : QQ Z C lay n0 ro ad H.length T.heap Qc v B.U.heap Lc) (e1 : B.locs = locs ++ Lc) (e2 : B.cells = k + Rc.cells) (e3 : B.slots = n + Rc.slots) (st : Steps p.tables e below s₀ (B.U.setTop (mkF m (pc + 3) Ls (v.toList ++ S.map (rf ad))))) :
    ∃ (s₂ : State) (v : Option Value) (H' : List OwnC) (locs' : List Loc), Steps p.tables e below s₀ s₂ ∧ s₂.status = .running ∧ Ended s₂ below (.returned (v.map (rf ad))) ∧ Q v H' ∧ HR Z C lay n0 ro ad H' s₂.heap ∧ Kp ad H.length T.heap s₂.heap ∧ Fr n0 locs' ∧ FrameEnd s (.returned (v.map (rf ad))) s₂ locs' R.cells R.slots := by
  obtain ⟨w, H1, rfl, g2, g3, g4, g5⟩ := hQ
  rw [e1, e2, e3] at X
  obtain ⟨s₂, v, H2, locs2, h1, h2, h3, h4, h5, h6, h7⟩ := nx w H1 g2 p e s m args below meth c B.U _ ad Ls X A g3 (N.app g5) hL hz
  refine ⟨s₂, v, H2, locs2, st.trans ?_, h2, h3, h4, h5, Kp.trans hr g4 h6, h7⟩
  have e0 : (w.toList ++ S).map (rf ad) = (w.map (rf ad)).toList ++ S.map (rf ad) := by cases w <;> rfl
  rw [← e0]; exact h1
theorem stack_of (ad : Nat → Addr) (h : S0 = as.reverse ++ S) : S0.map (rf ad) = (as.map (rf ad)).reverse ++ S.map (rf ad) := by rw [h, List.map_append, List.map_reverse]
theorem stack_of1 {i : Nat} (ad : Nat → Addr) (h : S0 = as.reverse ++ .ref i :: S) : S0.map (rf ad) = (as.map (rf ad)).reverse ++ .ref (ad i) :: S.map (rf ad) := by rw [h, List.map_append, List.map_reverse]; rfl
theorem WP.callS {idx : Nat} (hd : decode bytes pc = .ok (.invokestatic idx, 3)) (w1 : (Cond.methodLink own idx y).before a0 Z = true) (w2 : (Cond.static y).before a0 Z = true) (w3 : (Cond.initialized y.cls).before a0 Z = true) (w4 : (Cond.code y cb cm cr).before a0 Z = true) (hy : y.cls ≠ "java/lang/invoke/MethodHandle" ∧ y.cls ≠ "java/lang/invoke/VarHandle")
    (cs : CS l Z C lay y cb cm cr Rc ro as H Qc) (hS : S0 = as.reverse ++ S) (hlen : ∀ sig, parseMethodDescriptor y.desc = some sig → as.length = sig.parameters.length) (hf : Rc.frames + 1 ≤ R.frames) (hl : (S.map fun v => v.category).sum + (cm + 11) + Rc.locals ≤ R.locals) (hc : k + Rc.cells ≤ R.cells) (hs : n + Rc.slots ≤ R.slots)
    (nx : ∀ v H', Qc v H' → WP l Z C lay own mn bytes maxL ret R n0 ro Q (k + Rc.cells) (n + Rc.slots) (pc + 3) L (v.toList ++ S) H') : WP l Z C lay own mn bytes maxL ret R n0 ro Q k n pc L S0 H := by
  intro p e s m args below meth c T locs ad Ls X A hr N hL hz
  obtain ⟨v, vm₁, B, hW₁, X', ⟨Lc, hQ, e1, e2, e3⟩, st⟩ := Jvm.LawKit.callS X A.1 (y := y) A.2.2.2.2.2.2.1 (mvT A.2.1 w1) (mvT A.2.1 w2) (mvT A.2.1 w3) (mvT A.2.1 w4) hy
    (backOf (W := (S.map fun v => v.category).sum) (cs [] n0 ad T.heap hr) A.2.1 w4 w3 hf hl) (g := mkF m pc Ls (S0.map (rf ad))) rfl (hz.trans A.2.2.2.1.symm) (argsL := as.map (rf ad)) (rest := S.map (rf ad)) (fun sig q => by rw [List.length_map]; exact hlen sig q) (stack_of ad hS) (by show 2 * 0 + _ ≤ _; rw [rf_cats]; omega) (hb A.2.2.1 hd) (fun _ _ => ⟨rfl, rfl, hc, hs⟩)
  exact go_on (T := T) nx X' A hr N hL hz hQ e1 e2 e3 (st _ (Steps.refl _))
theorem WP.callV {idx i : Nat} {vs : List Value} (hd : decode bytes pc = .ok (.invokevirtual idx, 3)) (w1 : (Cond.methodLink own idx y).before a0 Z = true) (w2 : (Cond.declares y).before a0 Z = true) (w3 : (Cond.selects C y y).before a0 Z = true) (w4 : (Cond.instanceMethod y).before a0 Z = true) (w5 : (Cond.code y cb cm cr).before a0 Z = true) (w6 : (Cond.initialized y.cls).before a0 Z = true) (hy : y.cls ≠ "java/lang/invoke/MethodHandle" ∧ y.cls ≠ "java/lang/invoke/VarHandle")
    (hH : H[i]? = some (.inl vs)) (cs : CS l Z C lay y cb cm cr Rc ro (.ref i :: as) H Qc) (hS : S0 = as.reverse ++ .ref i :: S) (hlen : ∀ sig, parseMethodDescriptor y.desc = some sig → as.length = sig.parameters.length) (hf : Rc.frames + 1 ≤ R.frames) (hl : (S.map fun v => v.category).sum + (cm + 11) + Rc.locals ≤ R.locals) (hc : k + Rc.cells ≤ R.cells) (hs : n + Rc.slots ≤ R.slots)
    (nx : ∀ v H', Qc v H' → WP l Z C lay own mn bytes maxL ret R n0 ro Q (k + Rc.cells) (n + Rc.slots) (pc + 3) L (v.toList ++ S) H') : WP l Z C lay own mn bytes maxL ret R n0 ro Q k n pc L S0 H := by
  intro p e s m args below meth c T locs ad Ls X A hr N hL hz
  obtain ⟨cq, kq, qa, qb, qc⟩ := isOf A.2.1 rfl (hr.1 i _ hH).1
  obtain ⟨v, vm₁, B, hW₁, X', ⟨Lc, hQ, e1, e2, e3⟩, st⟩ := X.virtualBack A.1 (y := y) (z := y) A.2.2.2.2.2.2.1 (mvT A.2.1 w1) (mvT A.2.1 w2) (notFace_of_selects (args := #[]) (mvT A.2.1 w3)) (mvT A.2.1 w3) (mvT A.2.1 w4) hy
    (backOf (W := (S.map fun v => v.category).sum) (cs [] n0 ad T.heap hr) A.2.1 w5 w6 hf hl) qa qc (g := mkF m pc Ls (S0.map (rf ad))) rfl (hz.trans A.2.2.2.1.symm) (Steps.refl _) (argsL := as.map (rf ad)) (rest := S.map (rf ad)) (fun sig q => by rw [List.length_map]; exact hlen sig q) (stack_of1 ad hS) (by show 2 * 0 + _ ≤ _; rw [rf_cats]; omega) (hb A.2.2.1 hd) (fun _ _ => ⟨rfl, rfl, hc, hs⟩)
  exact go_on (T := T) nx X' A hr N hL hz hQ e1 e2 e3 st
theorem WP.callP {idx i kk : Nat} {vs : List Value} (hd : decode bytes pc = .ok (.invokevirtual idx, 3)) (w1 : (Cond.methodLink own idx y).before a0 Z = true) (w2 : (Cond.privateMethod y).before a0 Z = true) (wi : (Cond.instantiable y.cls kk).before a0 Z = true) (w4 : (Cond.instanceMethod y).before a0 Z = true) (w5 : (Cond.code y cb cm cr).before a0 Z = true) (w6 : (Cond.initialized y.cls).before a0 Z = true) (hy : y.cls ≠ "java/lang/invoke/MethodHandle" ∧ y.cls ≠ "java/lang/invoke/VarHandle")
    (hH : H[i]? = some (.inl vs)) (cs : CS l Z C lay y cb cm cr Rc ro (.ref i :: as) H Qc) (hS : S0 = as.reverse ++ .ref i :: S) (hlen : ∀ sig, parseMethodDescriptor y.desc = some sig → as.length = sig.parameters.length) (hf : Rc.frames + 1 ≤ R.frames) (hl : (S.map fun v => v.category).sum + (cm + 11) + Rc.locals ≤ R.locals) (hc : k + Rc.cells ≤ R.cells) (hs : n + Rc.slots ≤ R.slots)
    (nx : ∀ v H', Qc v H' → WP l Z C lay own mn bytes maxL ret R n0 ro Q (k + Rc.cells) (n + Rc.slots) (pc + 3) L (v.toList ++ S) H') : WP l Z C lay own mn bytes maxL ret R n0 ro Q k n pc L S0 H := by
  intro p e s m args below meth c T locs ad Ls X A hr N hL hz
  obtain ⟨cq, q, q'⟩ := (hr.1 i _ hH).1.cell
  have hpr : s.PrivateAt y := Cond.privateMethod_at (mvP A.2.1 w2 (args := #[]))
  have hin : (Cond.instanceMethod y).before args s = true := mvT A.2.1 w4
  have hsel : (Cond.selects y.cls y y).before args s = true := by
    have wi' : (Cond.instantiable y.cls kk).before args s = true := mvT A.2.1 wi
    obtain ⟨c1, k1, g1, g2, g3, g4, -⟩ := Cond.instantiable_spec wi'
    have g5 : k1.isInterface = false := by
      cases hq : k1.isInterface
      · rfl
      · rw [hq] at g4; cases g4
    exact selects_self_of_private g1 g2 g5 hpr hin hy
  obtain ⟨v, vm₁, B, hW₁, X', ⟨Lc, hQ, e1, e2, e3⟩, st⟩ := X.privateBack A.1 (y := y) A.2.2.2.2.2.2.1 (mvT A.2.1 w1) hin hsel hpr (mvT A.2.1 w5) hy
    (backOf (W := (S.map fun v => v.category).sum) (cs [] n0 ad T.heap hr) A.2.1 w5 w6 hf hl) (g := mkF m pc Ls (S0.map (rf ad))) rfl (hz.trans A.2.2.2.1.symm) (Steps.refl _) q q' (argsL := as.map (rf ad)) (rest := S.map (rf ad)) (fun sig q => by rw [List.length_map]; exact hlen sig q) (stack_of1 ad hS) (by show 2 * 0 + _ ≤ _; rw [rf_cats]; omega) (hb A.2.2.1 hd) (fun _ _ => ⟨rfl, rfl, hc, hs⟩)
  exact go_on (T := T) nx X' A hr N hL hz hQ e1 e2 e3 st
theorem WP.callI {idx i : Nat} (hd : decode bytes pc = .ok (.invokespecial idx, 3)) (hn1 : y.name = "<init>") (w1 : (Cond.methodLink own idx y).before a0 Z = true) (w4 : (Cond.instanceMethod y).before a0 Z = true) (w5 : (Cond.code y cb cm none).before a0 Z = true) (w6 : (Cond.initialized y.cls).before a0 Z = true) (hy : y.cls ≠ "java/lang/invoke/MethodHandle" ∧ y.cls ≠ "java/lang/invoke/VarHandle")
    (cs : CS l Z C lay y cb cm none Rc ro (.ref i :: as) H Qc) (hS : S0 = as.reverse ++ .ref i :: S) (hlen : ∀ sig, parseMethodDescriptor y.desc = some sig → as.length = sig.parameters.length) (hf : Rc.frames + 1 ≤ R.frames) (hl : (S.map fun v => v.category).sum + (cm + 11) + Rc.locals ≤ R.locals) (hc : k + Rc.cells ≤ R.cells) (hs : n + Rc.slots ≤ R.slots)
    (nx : ∀ v H', Qc v H' → WP l Z C lay own mn bytes maxL ret R n0 ro Q (k + Rc.cells) (n + Rc.slots) (pc + 3) L (v.toList ++ S) H') : WP l Z C lay own mn bytes maxL ret R n0 ro Q k n pc L S0 H := by
  intro p e s m args below meth c T locs ad Ls X A hr N hL hz
  obtain ⟨v, vm₁, B, hW₁, X', ⟨Lc, hQ, e1, e2, e3⟩, st⟩ := X.specialBack A.1 (y := y) hn1 A.2.2.2.2.2.2.1 (mvT A.2.1 w1) (mvT A.2.1 w4) (mvT A.2.1 w5) hy
    (backOf (W := (S.map fun v => v.category).sum) (cs [] n0 ad T.heap hr) A.2.1 w5 w6 hf hl) (g := mkF m pc Ls (S0.map (rf ad))) rfl (hz.trans A.2.2.2.1.symm) (Steps.refl _) (a := ad i) (argsL := as.map (rf ad)) (rest := S.map (rf ad)) (fun sig q => by rw [List.length_map]; exact hlen sig q) (stack_of1 ad hS) (by show 2 * 0 + _ ≤ _; rw [rf_cats]; omega) (hb A.2.2.1 hd) (fun _ _ => ⟨rfl, rfl, hc, hs⟩)
  exact go_on (T := T) nx X' A hr N hL hz hQ e1 e2 e3 st
end Calls
/-! ## a callee that sees a part of the heap -/
def rn (ρ : Nat → Nat) : Value → Value
  | .ref i => .ref (ρ i)
  | .int x => .int x
  | .long x => .long x
  | .float x => .float x
  | .double x => .double x
  | .null => .null
  | .retAddr x => .retAddr x
theorem rf_rn (ad : Nat → Addr) (ρ : Nat → Nat) (v : Value) : rf ad (rn ρ v) = rf (fun j => ad (ρ j)) v := by cases v <;> rfl
def rnC (ρ : Nat → Nat) : OwnC → OwnC
  | .inl vs => .inl (vs.map (rn ρ))
  | .inr x => .inr x
theorem CelOk_rn {Z : State} {C : String} {lay : List (String × String)} {ad : Nat → Addr} {ρ : Nat → Nat} {h : Heap} {a : Addr} {c : OwnC} : CelOk Z C lay ad h a (rnC ρ c) ↔ CelOk Z C lay (fun j => ad (ρ j)) h a c := by
  rcases c with vs | xs | xs | xs
  · constructor
    · rintro ⟨E, F⟩
      refine ⟨E, fun i f v hf hv => ?_⟩
      have := F i f (rn ρ v) hf (by rw [List.getElem?_map, hv]; rfl)
      rwa [rf_rn] at this
    · rintro ⟨E, F⟩
      refine ⟨E, fun i f v hf hv => ?_⟩
      rw [List.getElem?_map] at hv
      obtain ⟨w, hw, rfl⟩ := Option.map_eq_some_iff.mp hv
      rw [rf_rn]; exact F i f w hf hw
  all_goals exact Iff.rfl
def patch (ρ : Nat → Nat) : List Nat → List OwnC → List OwnC → List OwnC
  | [], D, H => H ++ D.map (rnC ρ)
  | i :: is, c :: D, H => patch ρ is D (H.set i (rnC ρ c))
  | _ :: _, [], H => H
theorem patch_seg (ρ : Nat → Nat) : ∀ (D B A C : List OwnC), B.length = D.length → patch ρ (List.range' A.length D.length) D (A ++ (B ++ C)) = A ++ (D.map (rnC ρ) ++ C)
  | [], B, A, C, h => by
    obtain rfl : B = [] := List.eq_nil_of_length_eq_zero h
    simp [patch]
  | d :: D, [], A, C, h => by simp at h
  | d :: D, b :: B, A, C, h => by
    have h' : B.length = D.length := by simpa using h
    have ih := patch_seg ρ D B (A ++ [rnC ρ d]) C h'
    rw [List.length_append] at ih
    show patch ρ (List.range' (A.length + 1) D.length) D ((A ++ (b :: B ++ C)).set A.length (rnC ρ d)) = _
    rw [List.set_append_right _ _ (Nat.le_refl _), Nat.sub_self]
    simpa using ih
theorem patch_len (ρ : Nat → Nat) : ∀ (foot : List Nat) (D H : List OwnC), foot.length ≤ D.length → (patch ρ foot D H).length = H.length + (D.length - foot.length)
  | [], D, H, _ => by simp [patch]
  | i :: is, [], H, h => by simp at h
  | i :: is, c :: D, H, h => by
    show (patch ρ is D (H.set i (rnC ρ c))).length = _
    rw [patch_len ρ is D _ (by simpa using h)]; simp
theorem patch_out (ρ : Nat → Nat) : ∀ (foot : List Nat) (D H : List OwnC) (i : Nat), i < H.length → i ∉ foot → (patch ρ foot D H)[i]? = H[i]?
  | [], D, H, i, hi, _ => by simp [patch, List.getElem?_append_left hi]
  | j :: is, [], H, i, _, _ => rfl
  | j :: is, c :: D, H, i, hi, hn => by
    show (patch ρ is D (H.set j (rnC ρ c)))[i]? = _
    rw [patch_out ρ is D _ i (by simpa using hi) (fun q => hn (List.mem_cons_of_mem _ q)), List.getElem?_set_ne (fun q => hn (by rw [q]; exact List.mem_cons_self ..))]
theorem patch_new (ρ : Nat → Nat) : ∀ (foot : List Nat) (D H : List OwnC) (t : Nat), foot.length ≤ D.length → (patch ρ foot D H)[H.length + t]? = (D[foot.length + t]?).map (rnC ρ)
  | [], D, H, t, _ => by simp [patch, List.getElem?_append_right (Nat.le_add_right _ _)]
  | i :: is, [], H, _, h => by simp at h
  | i :: is, c :: D, H, t, h => by
    show (patch ρ is D (H.set i (rnC ρ c)))[H.length + t]? = _
    have := patch_new ρ is D (H.set i (rnC ρ c)) t (by simpa using h)
    rw [List.length_set] at this
    rw [this]; simp [Nat.add_right_comm _ 1 t]
theorem patch_in (ρ : Nat → Nat) : ∀ (foot : List Nat) (D H : List OwnC) (j i : Nat), foot.Nodup → (∀ x ∈ foot, x < H.length) → foot[j]? = some i → foot.length ≤ D.length → (patch ρ foot D H)[i]? = (D[j]?).map (rnC ρ)
  | [], D, H, j, i, _, _, h, _ => by simp at h
  | x :: is, [], H, j, i, _, _, _, h => by simp at h
  | x :: is, c :: D, H, 0, i, nd, hl, h, _ => by
    obtain rfl : x = i := by simpa using h
    show (patch ρ is D (H.set x (rnC ρ c)))[x]? = _
    rw [patch_out ρ is D _ x (by simpa using hl x (List.mem_cons_self ..)) (List.nodup_cons.mp nd).1]
    simp [hl x (List.mem_cons_self ..)]
  | x :: is, c :: D, H, j + 1, i, nd, hl, h, hd => by
    show (patch ρ is D (H.set x (rnC ρ c)))[i]? = _
    rw [patch_in ρ is D _ j i (List.nodup_cons.mp nd).2 (fun y hy => by simpa using hl y (List.mem_cons_of_mem _ hy)) (by simpa using h) (by simpa using hd)]
    simp
def ro1 (foot : List Nat) (N : Nat) (j : Nat) : Nat := if j < foot.length then foot.getD j 0 else N + (j - foot.length)
theorem ro1_in {foot : List Nat} {N j i : Nat} (h : foot[j]? = some i) : ro1 foot N j = i := by
  have hj := get_lt h
  unfold ro1
  rw [if_pos hj, List.getD_eq_getElem?_getD, h]; rfl
theorem ro1_new (foot : List Nat) (N t : Nat) : ro1 foot N (foot.length + t) = N + t := by
  unfold ro1
  rw [if_neg (by omega)]; omega
theorem CS.frame {l : Launch} {Z : State} {C : String} {lay : List (String × String)} {y : MethodName} {bytes : ByteArray} {maxL : Nat} {ret : Option FieldType} {R : Room} {ro roc : Nat} {as asc : List Value} {H Hc : List OwnC} {Qc : Option Value → List OwnC → Prop} (foot : List Nat)
    (cs : CS l Z C lay y bytes maxL ret R roc asc Hc Qc) (hlen : Hc.length = foot.length) (hnd : foot.Nodup) (hlt : ∀ x ∈ foot, x < H.length) (hcell : foot.map (fun i => H[i]?) = Hc.map (fun c => some (rnC (ro1 foot H.length) c))) (hro : ∀ x ∈ foot.drop roc, ro ≤ x) (has : asc.map (rn (ro1 foot H.length)) = as) :
    CS l Z C lay y bytes maxL ret R ro as H (fun v H' => ∃ vc D, Qc vc D ∧ v = vc.map (rn (ro1 foot H.length)) ∧ H' = patch (ro1 foot H.length) foot D H) := by
  intro ws n0 ad h hr
  obtain ⟨r1, r2, r3, r4, r5⟩ := hr
  have cellAt : ∀ (j i : Nat), foot[j]? = some i → ∃ c, Hc[j]? = some c ∧ H[i]? = some (rnC (ro1 foot H.length) c) := fun j i hj => by
    have h1 : (foot.map (fun i => H[i]?))[j]? = some H[i]? := by rw [List.getElem?_map, hj]; rfl
    rw [hcell, List.getElem?_map] at h1
    obtain ⟨c, e1, e2⟩ := Option.map_eq_some_iff.mp h1
    exact ⟨c, e1, e2.symm⟩
  have idx : ∀ j : Nat, j < foot.length → ∃ i, foot[j]? = some i ∧ i < H.length := fun j hj => ⟨_, List.getElem?_eq_getElem hj, hlt _ (List.getElem_mem hj)⟩
  have hrc : HR Z C lay n0 roc (fun j => ad (ro1 foot H.length j)) Hc h := by
    refine ⟨fun j c hj => ?_, fun i j hi hj q => ?_, fun t => ?_, fun j hj hr => ?_, r5⟩
    · obtain ⟨i, e1, e2⟩ := idx j (hlen ▸ get_lt hj)
      obtain ⟨c', g1, g2⟩ := cellAt j i e1
      cases g1.symm.trans hj
      show CelOk Z C lay (fun j => ad (ro1 foot H.length j)) h (ad (ro1 foot H.length j)) c
      rw [ro1_in e1]
      exact CelOk_rn.mp (r1 i _ g2)
    · rw [hlen] at hi hj
      obtain ⟨i', e1, e2⟩ := idx i hi
      obtain ⟨j', g1, g2⟩ := idx j hj
      dsimp only at q
      rw [ro1_in e1, ro1_in g1] at q
      have q' := r2 _ _ e2 g2 q
      subst q'
      exact (List.getElem?_inj hi hnd).mp (e1.trans g1.symm)
    · dsimp only
      rw [hlen, ro1_new]; exact r3 t
    · rw [hlen] at hj
      obtain ⟨i', e1, e2⟩ := idx j hj
      dsimp only
      rw [ro1_in e1]; refine r4 _ e2 (hro i' (List.mem_of_getElem? (i := j - roc) ?_)); rw [List.getElem?_drop, Nat.add_sub_cancel' hr]; exact e1
  intro p e ha hc hk s m args below hf happ hP hK
  have eas : (asc.map (rf fun j => ad (ro1 foot H.length j))) = as.map (rf ad) := by
    rw [← has, List.map_map]; congr 1; funext v; exact (rf_rn ad _ v).symm
  obtain ⟨N, o, h1, h2, h3, v, L, h4, ⟨w, D, rfl, g2, g3, g4, g5⟩, h5⟩ := cs ws n0 _ h hrc p e ha hc hk s m args below hf happ (by rw [eas]; exact hP) hK
  refine ⟨N, o, h1, h2, h3, _, L, h4, ⟨w.map (rn (ro1 foot H.length)), patch (ro1 foot H.length) foot D H, ?_, ⟨w, D, g2, rfl, rfl⟩, ?_, ?_, g5⟩, h5⟩
  · cases w with
    | none => rfl
    | some w => exact congrArg some (rf_rn ad _ w).symm
  · generalize hU : (stepsAlone p.tables e N s).heap = h' at g3 g4
    obtain ⟨d1, d2, d3, d4, d5⟩ := g3
    have hD : foot.length ≤ D.length := by
      by_cases q : foot.length ≤ D.length
      · exact q
      · exfalso
        obtain ⟨i, e1, e2⟩ := idx D.length (by omega)
        have z := d3 0
        simp only [Nat.add_zero] at z
        rw [ro1_in e1] at z
        obtain ⟨c', -, g2'⟩ := cellAt _ i e1
        have a1 := (r1 i _ g2').lt
        rw [z] at a1
        exact absurd a1 (Nat.not_lt.mpr g4.1)
    have hPl := patch_len (ro1 foot H.length) foot D H hD
    have old : ∀ i, i < H.length → ad i < h.size := fun i hi => (r1 i _ (List.getElem?_eq_getElem hi)).lt
    have new : ∀ i, H.length ≤ i → h.size ≤ ad i := fun i hi => by
      obtain ⟨t, rfl⟩ := Nat.exists_eq_add_of_le hi
      rw [r3 t]; exact Nat.le_add_right _ _
    refine ⟨fun i c hi => ?_, fun i j hi hj q => ?_, fun t => ?_, fun i hi hr => ?_, Nat.le_trans r5 g4.1⟩
    · by_cases hl : i < H.length
      · by_cases hm : i ∈ foot
        · obtain ⟨j, hj⟩ := List.getElem?_of_mem hm
          rw [patch_in _ foot D H j i hnd hlt hj hD] at hi
          obtain ⟨c', e1, rfl⟩ := Option.map_eq_some_iff.mp hi
          have := d1 j c' e1
          dsimp only at this
          rw [ro1_in hj] at this
          exact CelOk_rn.mpr this
        · rw [patch_out _ foot D H i hl hm] at hi
          refine (r1 i c hi).keep fun cz q => g4.2 _ cz q fun j hj q' => ?_
          rw [hlen] at hj
          obtain ⟨i', e1, e2⟩ := idx j hj
          dsimp only at q'
          rw [ro1_in e1] at q'
          have := r2 _ _ e2 hl q'
          subst this
          exact hm (List.mem_of_getElem? e1)
      · obtain ⟨t, rfl⟩ := Nat.exists_eq_add_of_le (Nat.le_of_not_lt hl)
        rw [patch_new _ foot D H t hD] at hi
        obtain ⟨c', e1, rfl⟩ := Option.map_eq_some_iff.mp hi
        have := d1 _ c' e1
        dsimp only at this
        rw [ro1_new] at this
        exact CelOk_rn.mpr this
    · by_cases a1 : i < H.length
      · by_cases a2 : j < H.length
        · exact r2 _ _ a1 a2 q
        · have b1 := old i a1
          rw [q] at b1
          exact absurd b1 (Nat.not_lt.mpr (new j (Nat.le_of_not_lt a2)))
      · by_cases a2 : j < H.length
        · have b1 := new i (Nat.le_of_not_lt a1)
          rw [q] at b1
          exact absurd (old j a2) (Nat.not_lt.mpr b1)
        · obtain ⟨t, rfl⟩ := Nat.exists_eq_add_of_le (Nat.le_of_not_lt a1)
          obtain ⟨t', rfl⟩ := Nat.exists_eq_add_of_le (Nat.le_of_not_lt a2)
          rw [r3, r3] at q; exact congrArg (H.length + ·) (Nat.add_left_cancel q)
    · have z := d3 t
      dsimp only at z
      have e1 : D.length + t = foot.length + (D.length - foot.length + t) := by omega
      rw [e1, ro1_new] at z
      rw [hPl, Nat.add_assoc]; exact z
    · by_cases a1 : i < H.length
      · exact r4 i a1 hr
      · exact Nat.le_trans r5 (new i (Nat.le_of_not_lt a1))
  · refine ⟨g4.1, fun a cz hz hn => g4.2 a cz hz fun j hj q => ?_⟩
    rw [hlen] at hj
    obtain ⟨i', e1, e2⟩ := idx j hj
    dsimp only at q
    rw [ro1_in e1] at q
    exact hn i' e2 q
/-! ## an object's state: ints (and booleans), longs, int[] (and boolean[]), long[], each by a number -/
abbrev St : Type := (Nat → Int32) × (Nat → Int64) × (Nat → List Int32) × (Nat → List Int64)
def upd {α : Type} (f : Nat → α) (i : Nat) (v : α) : Nat → α := fun j => if j = i then v else f j
def gI (s : St) (i : Nat) : Int32 := s.1 i
def gJ (s : St) (i : Nat) : Int64 := s.2.1 i
def gA (s : St) (i : Nat) : List Int32 := s.2.2.1 i
def gB (s : St) (i : Nat) : List Int64 := s.2.2.2 i
def sI (s : St) (i : Nat) (v : Int32) : St := (upd s.1 i v, s.2.1, s.2.2.1, s.2.2.2)
def sJ (s : St) (i : Nat) (v : Int64) : St := (s.1, upd s.2.1 i v, s.2.2.1, s.2.2.2)
def sA (s : St) (i : Nat) (v : List Int32) : St := (s.1, s.2.1, upd s.2.2.1 i v, s.2.2.2)
def sB (s : St) (i : Nat) (v : List Int64) : St := (s.1, s.2.1, s.2.2.1, upd s.2.2.2 i v)
theorem gI_sI (s : St) (i j : Nat) (v : Int32) : gI (sI s i v) j = if j = i then v else gI s j := rfl
theorem gI_sJ (s : St) (i j : Nat) (v : Int64) : gI (sJ s i v) j = gI s j := rfl
theorem gI_sA (s : St) (i j : Nat) (v : List Int32) : gI (sA s i v) j = gI s j := rfl
theorem gI_sB (s : St) (i j : Nat) (v : List Int64) : gI (sB s i v) j = gI s j := rfl
theorem gJ_sI (s : St) (i j : Nat) (v : Int32) : gJ (sI s i v) j = gJ s j := rfl
theorem gJ_sJ (s : St) (i j : Nat) (v : Int64) : gJ (sJ s i v) j = if j = i then v else gJ s j := rfl
theorem gJ_sA (s : St) (i j : Nat) (v : List Int32) : gJ (sA s i v) j = gJ s j := rfl
theorem gJ_sB (s : St) (i j : Nat) (v : List Int64) : gJ (sB s i v) j = gJ s j := rfl
theorem gA_sI (s : St) (i j : Nat) (v : Int32) : gA (sI s i v) j = gA s j := rfl
theorem gA_sJ (s : St) (i j : Nat) (v : Int64) : gA (sJ s i v) j = gA s j := rfl
theorem gA_sA (s : St) (i j : Nat) (v : List Int32) : gA (sA s i v) j = if j = i then v else gA s j := rfl
theorem gA_sB (s : St) (i j : Nat) (v : List Int64) : gA (sB s i v) j = gA s j := rfl
theorem gB_sI (s : St) (i j : Nat) (v : Int32) : gB (sI s i v) j = gB s j := rfl
theorem gB_sJ (s : St) (i j : Nat) (v : Int64) : gB (sJ s i v) j = gB s j := rfl
theorem gB_sA (s : St) (i j : Nat) (v : List Int32) : gB (sA s i v) j = gB s j := rfl
theorem gB_sB (s : St) (i j : Nat) (v : List Int64) : gB (sB s i v) j = if j = i then v else gB s j := rfl
def wrA (s : St) (i : Nat) (j x : Int32) : Option St := (wr (gA s i) j x).map (sA s i)
def wrB (s : St) (i : Nat) (j : Int32) (x : Int64) : Option St := (wr (gB s i) j x).map (sB s i)
theorem wrA_e {s s' : St} {i : Nat} {j x : Int32} (h : wrA s i j x = some s') : ∃ ys, wr (gA s i) j x = some ys ∧ s' = sA s i ys := by
  obtain ⟨ys, h1, h2⟩ := Option.map_eq_some_iff.mp h
  exact ⟨ys, h1, h2.symm⟩
theorem wrB_e {s s' : St} {i : Nat} {j : Int32} {x : Int64} (h : wrB s i j x = some s') : ∃ ys, wr (gB s i) j x = some ys ∧ s' = sB s i ys := by
  obtain ⟨ys, h1, h2⟩ := Option.map_eq_some_iff.mp h
  exact ⟨ys, h1, h2.symm⟩
def lt {α β : Type} (x : α) (f : α → β) : β := f x
theorem lt_e {α β : Type} {x : α} {f : α → β} {r : β} (h : lt x f = r) : ∃ y, y = x ∧ f y = r := ⟨x, rfl, h⟩
theorem ite_e {α : Type} {c : Prop} [Decidable c] {a b r : α} (h : (if c then a else b) = r) : (c ∧ a = r) ∨ (¬ c ∧ b = r) := by
  by_cases hc : c
  · rw [if_pos hc] at h; exact Or.inl ⟨hc, h⟩
  · rw [if_neg hc] at h; exact Or.inr ⟨hc, h⟩
theorem nz_e {α : Type} {c : Prop} [Decidable c] {b : Option α} {r : α} (h : (if c then none else b) = some r) : ¬ c ∧ b = some r := by
  by_cases hc : c
  · rw [if_pos hc] at h; cases h
  · rw [if_neg hc] at h; exact ⟨hc, h⟩
/-! the class's fields -/
def LaidAll (Z : State) (a0 : Array Value) (C : String) : List (String × String) → List Value → Prop
  | f :: fs, v :: vs => (Laid Z a0 C C f.1 f.2 ∧ ∃ ty, parseFieldDescriptor f.2 = some ty ∧ v = defaultValue ty) ∧ LaidAll Z a0 C fs vs
  | [], [] => True
  | _, _ => False
theorem LaidAll.new {Z : State} {a0 : Array Value} {C : String} : ∀ {lay : List (String × String)} {vs : List Value}, LaidAll Z a0 C lay vs → ∀ (i : Nat) (f : String × String) (v : Value), lay[i]? = some f → vs[i]? = some v → Laid Z a0 C C f.1 f.2 ∧ ∃ ty, parseFieldDescriptor f.2 = some ty ∧ v = defaultValue ty
  | [], [], _, i, f, v, h, _ => by simp at h
  | g :: fs, w :: vs, h, 0, f, v, h1, h2 => by
    obtain rfl : g = f := by simpa using h1
    obtain rfl : w = v := by simpa using h2
    exact h.1
  | g :: fs, w :: vs, h, i + 1, f, v, h1, h2 => LaidAll.new h.2 i f v (by simpa using h1) (by simpa using h2)
theorem LaidAll.len {Z : State} {a0 : Array Value} {C : String} : ∀ {lay : List (String × String)} {vs : List Value}, LaidAll Z a0 C lay vs → lay.length = vs.length
  | [], [], _ => rfl
  | g :: fs, w :: vs, h => congrArg Nat.succ (LaidAll.len h.2)
theorem LaidAll.ne {Z : State} {a0 : Array Value} {C : String} {lay : List (String × String)} {vs : List Value} (h : LaidAll Z a0 C lay vs) (nd : (lay.map Prod.fst).Nodup) : ∀ (a b : Nat) (f g : String × String), lay[a]? = some f → lay[b]? = some g → a ≠ b → RoadKit.slotOf Z C f.1 f.2 ≠ RoadKit.slotOf Z C g.1 g.2 := by
  intro a b f g ha hb' hne
  have la := get_lt ha
  have lb := get_lt hb'
  obtain ⟨L1, t1, e1, -⟩ := h.new a f _ ha (List.getElem?_eq_getElem (h.len ▸ la))
  obtain ⟨L2, t2, e2, -⟩ := h.new b g _ hb' (List.getElem?_eq_getElem (h.len ▸ lb))
  refine slot_ne L1 L2 (fun q => hne ?_) e1 e2
  have h1 : (lay.map Prod.fst)[a]? = some f.1 := by rw [List.getElem?_map, ha]; rfl
  have h2 : (lay.map Prod.fst)[b]? = some g.1 := by rw [List.getElem?_map, hb']; rfl
  exact (List.getElem?_inj (by simpa using la) nd).mp (h1.trans (by rw [q]; exact h2.symm))
section Puts
variable {l : Launch} {Z : State} {a0 : Array Value} {C : String} {lay : List (String × String)} {own mn : String} {bytes : ByteArray} {maxL : Nat} {ret : Option FieldType} {R : Room} {n0 ro : Nat} {Q : Option Value → List OwnC → Prop} {k n pc pc' : Nat} {L L' : List Slot} {S S' : List Value} {H H' : List OwnC}
theorem WP.putI {idx i j kk : Nat} {f : String} {vs : List Value} {x : Int32} {old : Value} (hd : decode bytes pc = .ok (.putfield idx, 3)) (hw : (Cond.fieldLink own idx C f "I").before a0 Z = true) (hl : (Cond.lays C C f "I").before a0 Z = true ∨ ((Cond.laysFinal C C f "I").before a0 Z = true ∧ own = C ∧ mn = "<init>")) (wi : (Cond.instantiable C kk).before a0 Z = true)
    (hlay : ∀ (a b : Nat) (f g : String × String), lay[a]? = some f → lay[b]? = some g → a ≠ b → RoadKit.slotOf Z C f.1 f.2 ≠ RoadKit.slotOf Z C g.1 g.2) (hj : lay[j]? = some (f, "I")) (hH : H[i]? = some (.inl vs)) (hv : vs[j]? = some old) (hi : ro ≤ i) (hH' : H.set i (.inl (vs.set j (.int x))) = H') (nx : WP l Z C lay own mn bytes maxL ret R n0 ro Q k n (pc + 3) L S H') : WP l Z C lay own mn bytes maxL ret R n0 ro Q k n pc L (.int x :: .ref i :: S) H :=
  WP.put hd hw hl wi hlay (ty := .int) (by decide) (fun _ => rfl) (fun _ => rfl) hj hH hv hi hH' nx
theorem WP.putJ {idx i j kk : Nat} {f : String} {vs : List Value} {x : Int64} {old : Value} (hd : decode bytes pc = .ok (.putfield idx, 3)) (hw : (Cond.fieldLink own idx C f "J").before a0 Z = true) (hl : (Cond.lays C C f "J").before a0 Z = true ∨ ((Cond.laysFinal C C f "J").before a0 Z = true ∧ own = C ∧ mn = "<init>")) (wi : (Cond.instantiable C kk).before a0 Z = true)
    (hlay : ∀ (a b : Nat) (f g : String × String), lay[a]? = some f → lay[b]? = some g → a ≠ b → RoadKit.slotOf Z C f.1 f.2 ≠ RoadKit.slotOf Z C g.1 g.2) (hj : lay[j]? = some (f, "J")) (hH : H[i]? = some (.inl vs)) (hv : vs[j]? = some old) (hi : ro ≤ i) (hH' : H.set i (.inl (vs.set j (.long x))) = H') (nx : WP l Z C lay own mn bytes maxL ret R n0 ro Q k n (pc + 3) L S H') : WP l Z C lay own mn bytes maxL ret R n0 ro Q k n pc L (.long x :: .ref i :: S) H :=
  WP.put hd hw hl wi hlay (ty := .long) (by decide) (fun _ => rfl) (fun _ => rfl) hj hH hv hi hH' nx
theorem WP.putZ {idx i j kk : Nat} {f : String} {vs : List Value} {x : Int32} {old : Value} (hd : decode bytes pc = .ok (.putfield idx, 3)) (hw : (Cond.fieldLink own idx C f "Z").before a0 Z = true) (hl : (Cond.lays C C f "Z").before a0 Z = true ∨ ((Cond.laysFinal C C f "Z").before a0 Z = true ∧ own = C ∧ mn = "<init>")) (wi : (Cond.instantiable C kk).before a0 Z = true)
    (hlay : ∀ (a b : Nat) (f g : String × String), lay[a]? = some f → lay[b]? = some g → a ≠ b → RoadKit.slotOf Z C f.1 f.2 ≠ RoadKit.slotOf Z C g.1 g.2) (hj : lay[j]? = some (f, "Z")) (hH : H[i]? = some (.inl vs)) (hv : vs[j]? = some old) (hi : ro ≤ i) (hH' : H.set i (.inl (vs.set j (.int (x &&& 1)))) = H') (nx : WP l Z C lay own mn bytes maxL ret R n0 ro Q k n (pc + 3) L S H') : WP l Z C lay own mn bytes maxL ret R n0 ro Q k n pc L (.int x :: .ref i :: S) H :=
  WP.put (v' := .int (x &&& 1)) hd hw hl wi hlay (ty := .boolean) (by decide) (fun _ => rfl) (fun _ => fits_nar_bool x) hj hH hv hi hH' nx
theorem WP.putR {idx i j kk i2 : Nat} {f d : String} {vs : List Value} {old : Value} {ty : FieldType} (hd : decode bytes pc = .ok (.putfield idx, 3)) (hw : (Cond.fieldLink own idx C f d).before a0 Z = true) (hl : (Cond.lays C C f d).before a0 Z = true ∨ ((Cond.laysFinal C C f d).before a0 Z = true ∧ own = C ∧ mn = "<init>")) (wi : (Cond.instantiable C kk).before a0 Z = true)
    (hlay : ∀ (a b : Nat) (f g : String × String), lay[a]? = some f → lay[b]? = some g → a ≠ b → RoadKit.slotOf Z C f.1 f.2 ≠ RoadKit.slotOf Z C g.1 g.2) (hty : parseFieldDescriptor d = some ty) (hn : ∀ a, narrow ty (.ref a) = .ref a) (hf : ∀ a, fits ty (.ref a) = true) (hj : lay[j]? = some (f, d)) (hH : H[i]? = some (.inl vs)) (hv : vs[j]? = some old) (hi : ro ≤ i) (hH' : H.set i (.inl (vs.set j (.ref i2))) = H') (nx : WP l Z C lay own mn bytes maxL ret R n0 ro Q k n (pc + 3) L S H') : WP l Z C lay own mn bytes maxL ret R n0 ro Q k n pc L (.ref i2 :: .ref i :: S) H :=
  WP.put (v' := .ref i2) hd hw hl wi hlay hty (fun ad => hn (ad i2)) (fun ad => hf (ad i2)) hj hH hv hi hH' nx
end Puts
/-! ## the start of a law -/
theorem HR.start0 (s : State) (C : String) (lay : List (String × String)) : HR s C lay s.heap.size 0 (fun t => s.heap.size + t) [] s.heap :=
  ⟨fun i c h => by simp at h, fun i j h => by simp at h, fun t => by simp, fun i h => by simp at h, Nat.le_refl _⟩
theorem script_ints {s : State} {a : Addr} {c : Cell} (hf : Fit s) (A : Arr s s.heap a c .int) : ∃ xs : List Int32, c.slots.toList = xs.map Value.int := by
  have h : ∀ v ∈ c.slots.toList, ∃ x : Int32, v = Value.int x := fun v hv => by
    obtain ⟨i, hi, e⟩ := List.mem_iff_getElem.mp hv
    have hi' : i < c.slots.size := by simpa using hi
    have q := hf A.1 hi'
    obtain ⟨hs, k, hk, comp, hkind⟩ := A.2.1
    have e2 : s.slotType? c.cls c.vm i = some .int := by
      cases hq : c.vm <;> first | exact absurd hq (hs _) | simp [State.slotType?, hk, hkind]
    have e3 : c.slots[i] = v := by rw [← e]; simp
    have q2 : fits .int v = true := by rw [← e3]; simpa [State.fitsSlot, e2] using q
    exact fit_I q2 (by simp)
  generalize c.slots.toList = L at h
  induction L with
  | nil => exact ⟨[], rfl⟩
  | cons v L ih =>
    obtain ⟨x, rfl⟩ := h v (List.mem_cons_self ..)
    obtain ⟨xs, rfl⟩ := ih fun w hw => h w (List.mem_cons_of_mem _ hw)
    exact ⟨x :: xs, rfl⟩
def ad1 (a N : Nat) : Nat → Addr
  | 0 => a
  | t + 1 => N + t
theorem HR.start1 {s : State} (C : String) (lay : List (String × String)) {a : Addr} {c : Cell} {xs : List Int32} (A : Arr s s.heap a c .int) (hx : c.slots.toList = xs.map Value.int) : HR s C lay s.heap.size 1 (ad1 a s.heap.size) [cI xs] s.heap := by
  refine ⟨fun i cc h => ?_, fun i j hi hj _ => ?_, fun t => ?_, fun i hi hr => ?_, Nat.le_refl _⟩
  · have hi := get_lt h
    simp at hi; subst hi
    simp at h; subst h
    exact ⟨c, A, hx⟩
  · simp at hi hj; omega
  · show ad1 a s.heap.size (1 + t) = _; rw [Nat.add_comm 1 t]; rfl
  · simp at hi; omega
theorem script_len {s : State} {a : Addr} {c : Cell} {n : Nat} {args : Array Value} {t : Term} (ev : t.eval args s none [] s = some (.ref a)) (A : Arr s s.heap a c .int) (e1 : c.slots.size = n) (h : (Cond.le (Term.length t) (Term.int (260 : Int32))).value args s none s [] = some true) : n ≤ 260 := by
  have hat := A.fin (Vm.Alike.refl _)
  have hl : (Term.length t).eval args s none [] s = if n < 2 ^ 31 then some (.int n.toInt32) else none := by
    simp only [Term.eval, ev, hat, Option.bind_eq_bind, Option.bind_some, e1]; rfl
  by_cases hn : n < 2 ^ 31
  · rw [if_pos hn] at hl
    have h1 := gotT (Cond.le_ints hl (Term.int_eval (260 : Int32))) h
    have h2 : n.toInt32.toInt = n := by
      show (Int32.ofNat n).toInt = n
      exact Int32.toInt_ofNat_of_lt hn
    have h3 := Int32.le_iff_toInt_le.mp h1
    rw [h2] at h3
    have : (260 : Int32).toInt = 260 := by decide
    omega
  · rw [if_neg hn] at hl
    simp [Cond.value, hl] at h
/-! ## plain laws -/
/-- with fuel enough it answers r -/
def Ev {α : Type} (f : Nat → Option α) (r : α) : Prop := ∃ N, ∀ n, N ≤ n → f n = some r
theorem Ev.const {α : Type} {x : Option α} {r : α} (h : x = some r) : Ev (fun _ => x) r := ⟨0, fun _ _ => h⟩
theorem Ev.get {α : Type} {f : Nat → Option α} {r : α} (h : Ev f r) : ∃ n, f n = some r := by obtain ⟨N, h⟩ := h; exact ⟨N, h N (Nat.le_refl _)⟩
theorem Ev.step {α : Type} {f g : Nat → Option α} {r : α} (e : ∀ n, f (n + 1) = g n) (h : Ev g r) : Ev f r := by
  obtain ⟨N, h⟩ := h
  refine ⟨N + 1, fun n hn => ?_⟩
  cases n with
  | zero => omega
  | succ n => rw [e n]; exact h n (by omega)
theorem Ev.congr {α : Type} {f g : Nat → Option α} {r : α} (e : ∀ n, f n = g n) (h : Ev g r) : Ev f r := by
  obtain ⟨N, h⟩ := h
  exact ⟨N, fun n hn => (e n).trans (h n hn)⟩
theorem Ev.bind {α β : Type} {f : Nat → Option β} {g : Nat → β → Option α} {c : β} {r : α} (h1 : Ev f c) (h2 : Ev (fun n => g n c) r) : Ev (fun n => (f n).bind (g n)) r := by
  obtain ⟨N, h1⟩ := h1
  obtain ⟨M, h2⟩ := h2
  refine ⟨N + M, fun n hn => ?_⟩
  show (f n).bind (g n) = some r
  rw [h1 n (by omega)]; exact h2 n (by omega)
theorem Ev.uniq {α : Type} {f : Nat → Option α} {r r' : α} (h : Ev f r) (h' : Ev f r') : r = r' := by
  obtain ⟨N, h⟩ := h
  obtain ⟨M, h'⟩ := h'
  exact Option.some.inj ((h (N + M) (by omega)).symm.trans (h' (N + M) (by omega)))
/-! Int32 as Int -/
theorem x32_lt {x y : Int32} : x < y ↔ x.toInt < y.toInt := Int32.lt_iff_toInt_lt
theorem x32_eq {x y : Int32} : x = y ↔ x.toInt = y.toInt := Int32.toInt_inj.symm
theorem x32_add {x y : Int32} (h1 : -2147483648 ≤ x.toInt + y.toInt) (h2 : x.toInt + y.toInt < 2147483648) : (x + y).toInt = x.toInt + y.toInt := by
  rw [Int32.toInt_add]; exact Int.bmod_eq_of_le (by omega) (by omega)
theorem x32_sub {x y : Int32} (h1 : -2147483648 ≤ x.toInt - y.toInt) (h2 : x.toInt - y.toInt < 2147483648) : (x - y).toInt = x.toInt - y.toInt := by
  rw [Int32.toInt_sub]; exact Int.bmod_eq_of_le (by omega) (by omega)
theorem x32_mul {x y : Int32} (h1 : -2147483648 ≤ x.toInt * y.toInt) (h2 : x.toInt * y.toInt < 2147483648) : (x * y).toInt = x.toInt * y.toInt := by
  rw [Int32.toInt_mul]; exact Int.bmod_eq_of_le (by omega) (by omega)
theorem clamp_nat (x : Int32) : x.toNatClampNeg = x.toInt.toNat := rfl
/-! reading and writing -/
theorem rd_of {α : Type} {xs : List α} {i : Int32} {k : Nat} {x : α} (hi : i.toInt = k) (h : xs[k]? = some x) : rd xs i = some x := by
  have h0 : ¬ i < 0 := by rw [x32_lt, hi]; show ¬ (k : Int) < 0; omega
  unfold rd
  rw [if_neg h0, clamp_nat, hi]; exact h
theorem wr_of {α : Type} {xs : List α} {i : Int32} {k : Nat} (x : α) (hi : i.toInt = k) (h : k < xs.length) : wr xs i x = some (xs.set k x) := by
  have h0 : ¬ i < 0 := by rw [x32_lt, hi]; show ¬ (k : Int) < 0; omega
  unfold wr
  rw [if_neg h0, clamp_nat, hi]; exact if_pos h
theorem wrA_of {s : St} {f : Nat} {i : Int32} {k : Nat} (x : Int32) (hi : i.toInt = k) (h : k < (gA s f).length) : wrA s f i x = some (sA s f ((gA s f).set k x)) := by
  unfold wrA; rw [wr_of x hi h]; rfl
theorem wrB_of {s : St} {f : Nat} {i : Int32} {k : Nat} (x : Int64) (hi : i.toInt = k) (h : k < (gB s f).length) : wrB s f i x = some (sB s f ((gB s f).set k x)) := by
  unfold wrB; rw [wr_of x hi h]; rfl
theorem nn_of {i : Int32} (h : ¬ i < 0) : ∃ k : Nat, i.toInt = k := ⟨i.toInt.toNat, by
  rw [x32_lt] at h
  have : (0 : Int32).toInt = 0 := by decide
  omega⟩
theorem Ev.all {α : Type} {f : Nat → Option α} {r : α} (h : ∀ n, f n = some r) : Ev f r := ⟨0, fun n _ => h n⟩
theorem ofN_int {k : Nat} (h : k < 2147483648) : (Int32.ofNat k).toInt = k := Int32.toInt_ofNat_of_lt (by omega)
theorem ofN_lt {i m : Nat} (hi : i < 2147483648) (hm : m < 2147483648) : Int32.ofNat i < Int32.ofNat m ↔ i < m := by
  rw [x32_lt, ofN_int hi, ofN_int hm]; omega
theorem ofN_succ (k : Nat) : Int32.ofNat k + 1 = Int32.ofNat (k + 1) := (Int32.ofNat_add k 1).symm
theorem ofN_eq {i m : Nat} (hi : i < 2147483648) (hm : m < 2147483648) : Int32.ofNat i = Int32.ofNat m ↔ i = m := by
  rw [x32_eq, ofN_int hi, ofN_int hm]; omega
theorem ofN_of {x : Int32} {k : Nat} (h : x.toInt = k) : x = Int32.ofNat k := by
  have h2 := Int32.toInt_lt x
  rw [x32_eq, ofN_int (by omega)]; exact h
/-- a loop that counts up to N -/
theorem loop_up {α σ : Type} {F : Nat → Int32 → σ → Option α} {E : Nat → σ → Option α} {N : Nat} (Inv : Nat → σ → Prop)
    (hstep : ∀ (i : Nat) (s : σ), i < N → Inv i s → ∃ s', Inv (i + 1) s' ∧ ∀ n, F (n + 1) (Int32.ofNat i) s = F n (Int32.ofNat (i + 1)) s')
    (hend : ∀ s, Inv N s → ∀ n, F (n + 1) (Int32.ofNat N) s = E n s) : ∀ (k i : Nat) (s : σ), i + k = N → Inv i s → ∃ s', Inv N s' ∧ ∀ r, Ev (fun n => E n s') r → Ev (fun n => F n (Int32.ofNat i) s) r := by
  intro k
  induction k with
  | zero =>
    intro i s hi h
    obtain rfl : i = N := by omega
    exact ⟨s, h, fun r hr => Ev.step (hend s h) hr⟩
  | succ k ih =>
    intro i s hi h
    obtain ⟨s', h1, h2⟩ := hstep i s (by omega) h
    obtain ⟨s2, h3, h4⟩ := ih (i + 1) s' (by omega) h1
    exact ⟨s2, h3, fun r hr => Ev.step h2 (h4 r hr)⟩
theorem set_len {α : Type} (xs : List α) (k : Nat) (x : α) : (xs.set k x).length = xs.length := List.length_set
theorem ofN_ltL {i m : Nat} (hi : i < 2147483648) (hm : m < 2147483648) : Int32.ofNat i < (OfNat.ofNat m : Int32) ↔ i < m := ofN_lt hi hm
theorem ofN_gtL {i m : Nat} (hi : i < 2147483648) (hm : m < 2147483648) : (OfNat.ofNat m : Int32) < Int32.ofNat i ↔ m < i := ofN_lt hm hi
theorem ofN_eqL {i m : Nat} (hi : i < 2147483648) (hm : m < 2147483648) : Int32.ofNat i = (OfNat.ofNat m : Int32) ↔ i = m := ofN_eq hi hm
theorem ofN_nn {i : Nat} (hi : i < 2147483648) : ¬ Int32.ofNat i < 0 := fun h => Nat.not_lt_zero _ ((ofN_ltL hi (by decide)).mp h)
theorem lit_int {m : Nat} (hm : m < 2147483648) : (OfNat.ofNat m : Int32).toInt = m := ofN_int hm
theorem upd_upd {α : Type} (f : Nat → α) (i : Nat) (x y : α) : upd (upd f i x) i y = upd f i y := by
  funext j; unfold upd; by_cases h : j = i <;> simp [h]
theorem upd_self {α : Type} (f : Nat → α) (i : Nat) : upd f i (f i) = f := by
  funext j; unfold upd; by_cases h : j = i <;> simp [h]
theorem sA_sA (s : St) (i : Nat) (x y : List Int32) : sA (sA s i x) i y = sA s i y := by unfold sA; dsimp only; rw [upd_upd]
theorem sB_sB (s : St) (i : Nat) (x y : List Int64) : sB (sB s i x) i y = sB s i y := by unfold sB; dsimp only; rw [upd_upd]
theorem sI_sI (s : St) (i : Nat) (x y : Int32) : sI (sI s i x) i y = sI s i y := by unfold sI; dsimp only; rw [upd_upd]
theorem sA_self {s : St} {i : Nat} {x : List Int32} (h : gA s i = x) : sA s i x = s := by
  subst h; unfold sA gA; rw [upd_self]
theorem sB_self {s : St} {i : Nat} {x : List Int64} (h : gB s i = x) : sB s i x = s := by
  subst h; unfold sB gB; rw [upd_self]
theorem sI_self {s : St} {i : Nat} {x : Int32} (h : gI s i = x) : sI s i x = s := by
  subst h; unfold sI gI; rw [upd_self]
theorem fill_set {α : Type} (a b : α) (n i : Nat) (h : i < n) : (List.replicate i a ++ List.replicate (n - i) b).set i a = List.replicate (i + 1) a ++ List.replicate (n - (i + 1)) b := by
  rw [List.set_append_right _ _ (by simp), List.length_replicate, Nat.sub_self]
  obtain ⟨m, hm⟩ : ∃ m, n - i = m + 1 := ⟨n - i - 1, by omega⟩
  have hm2 : n - (i + 1) = m := by omega
  rw [hm, hm2, List.replicate_succ, List.set_cons_zero, List.replicate_succ', List.append_assoc]; rfl
theorem and_nat (x : Int32) (m : Nat) (hm : m < 2147483648) : ∃ k, k ≤ m ∧ (x &&& Int32.ofNat m) = Int32.ofNat k := by
  refine ⟨(x.toBitVec &&& BitVec.ofNat 32 m).toNat, ?_, ?_⟩
  · rw [BitVec.toNat_and, BitVec.toNat_ofNat, Nat.mod_eq_of_lt (by omega)]
    exact Nat.and_le_right
  · apply Int32.toBitVec_inj.mp
    show x.toBitVec &&& BitVec.ofNat 32 m = BitVec.ofNat 32 _
    rw [BitVec.ofNat_toNat, BitVec.setWidth_eq]
theorem and_natL (x : Int32) (m : Nat) (hm : m < 2147483648) : ∃ k, k ≤ m ∧ (x &&& (OfNat.ofNat m : Int32)) = Int32.ofNat k := and_nat x m hm
theorem nat_lt {i : Int32} {m : Nat} (h : ¬ i < 0) (h2 : i < (OfNat.ofNat m : Int32)) (hm : m < 2147483648) : ∃ k : Nat, k < m ∧ i = Int32.ofNat k := by
  obtain ⟨k, hk⟩ := nn_of h
  rw [x32_lt, lit_int hm, hk] at h2
  exact ⟨k, by omega, ofN_of hk⟩
theorem nat_le {i : Int32} {m : Nat} (h : ¬ i < 0) (h2 : ¬ (OfNat.ofNat m : Int32) < i) (hm : m < 2147483648) : ∃ k : Nat, k ≤ m ∧ i = Int32.ofNat k := by
  obtain ⟨k, hk⟩ := nn_of h
  rw [x32_lt, lit_int hm, hk] at h2
  exact ⟨k, by omega, ofN_of hk⟩
theorem rd_at {α : Type} {xs : List α} {k : Nat} {x : α} (hk : k < 2147483648) (h : xs[k]? = some x) : rd xs (Int32.ofNat k) = some x := rd_of (ofN_int hk) h
theorem wr_at' {α : Type} {xs : List α} {k : Nat} (x : α) (hk : k < 2147483648) (h : k < xs.length) : wr xs (Int32.ofNat k) x = some (xs.set k x) := wr_of x (ofN_int hk) h
theorem rep_get {α : Type} {n k : Nat} (a : α) (h : k < n) : (List.replicate n a)[k]? = some a := by rw [List.getElem?_replicate, if_pos h]
theorem get_set_self {α : Type} {xs : List α} {k : Nat} (x : α) (h : k < xs.length) : (xs.set k x)[k]? = some x := by rw [List.getElem?_set_self h]
theorem get_set_ne {α : Type} {xs : List α} {k j : Nat} (x : α) (h : k ≠ j) : (xs.set k x)[j]? = xs[j]? := List.getElem?_set_ne h
theorem upd_comm {α : Type} (f : Nat → α) {i j : Nat} (h : i ≠ j) (x y : α) : upd (upd f i x) j y = upd (upd f j y) i x := by
  funext m; unfold upd
  by_cases h1 : m = j
  · subst h1; rw [if_pos rfl, if_neg (Ne.symm h), if_pos rfl]
  · rw [if_neg h1]; by_cases h2 : m = i
    · rw [if_pos h2, if_pos h2]
    · rw [if_neg h2, if_neg h2, if_neg h1]
theorem sA_comm {s : St} {i j : Nat} (h : i ≠ j) {x y : List Int32} : sA (sA s i x) j y = sA (sA s j y) i x := by unfold sA; dsimp only; rw [upd_comm _ h]
theorem sB_comm {s : St} {i j : Nat} (h : i ≠ j) {x y : List Int64} : sB (sB s i x) j y = sB (sB s j y) i x := by unfold sB; dsimp only; rw [upd_comm _ h]
theorem sI_comm {s : St} {i j : Nat} (h : i ≠ j) {x y : Int32} : sI (sI s i x) j y = sI (sI s j y) i x := by unfold sI; dsimp only; rw [upd_comm _ h]
theorem sJ_self {s : St} {i : Nat} {x : Int64} (h : gJ s i = x) : sJ s i x = s := by
  subst h; unfold sJ gJ; rw [upd_self]
theorem wrA_nop {s : St} {f N k : Nat} {v : Int32} (h : gA s f = List.replicate N v) (hk : k < N) (hN : N ≤ 2147483647) : wrA s f (Int32.ofNat k) v = some s := by
  rw [wrA_of (k := k) v (ofN_int (by omega)) (by rw [h, List.length_replicate]; exact hk), sA_self (by rw [h, List.set_replicate_self])]
theorem wrB_nop {s : St} {f N k : Nat} {v : Int64} (h : gB s f = List.replicate N v) (hk : k < N) (hN : N ≤ 2147483647) : wrB s f (Int32.ofNat k) v = some s := by
  rw [wrB_of (k := k) v (ofN_int (by omega)) (by rw [h, List.length_replicate]; exact hk), sB_self (by rw [h, List.set_replicate_self])]
/-- a loop that fills -/
theorem wrA_fill {s : St} {f N k : Nat} {u v : Int32} (hk : k < N) (hN : N ≤ 2147483647) : wrA (sA s f (List.replicate k v ++ List.replicate (N - k) u)) f (Int32.ofNat k) v = some (sA s f (List.replicate (k + 1) v ++ List.replicate (N - (k + 1)) u)) := by
  rw [wrA_of (k := k) v (ofN_int (by omega)) (by rw [gA_sA, if_pos rfl]; simp; omega), gA_sA, if_pos rfl, fill_set _ _ _ _ hk, sA_sA]
theorem fill_start {s : St} {f N : Nat} {u v : Int32} (h : gA s f = List.replicate N u) : s = sA s f (List.replicate 0 v ++ List.replicate (N - 0) u) := (sA_self (by rw [h]; rfl)).symm
theorem fill_end {s : St} {f N : Nat} {u v : Int32} : sA s f (List.replicate N v ++ List.replicate (N - N) u) = sA s f (List.replicate N v) := by rw [Nat.sub_self]; simp
theorem x32_neg {x : Int32} (h : -2147483648 < x.toInt) : (-x).toInt = -x.toInt := by
  have := Int32.toInt_lt x
  rw [Int32.toInt_neg]; exact Int.bmod_eq_of_le (by omega) (by omega)
theorem x64_neg {x : Int64} (h : -9223372036854775808 < x.toInt) : (-x).toInt = -x.toInt := by
  have := Int64.toInt_lt x
  rw [Int64.toInt_neg]; exact Int.bmod_eq_of_le (by omega) (by omega)
theorem x64_lt {x y : Int64} : x < y ↔ x.toInt < y.toInt := Int64.lt_iff_toInt_lt
theorem x64_eq {x y : Int64} : x = y ↔ x.toInt = y.toInt := Int64.toInt_inj.symm
theorem x64_add {x y : Int64} (h1 : -9223372036854775808 ≤ x.toInt + y.toInt) (h2 : x.toInt + y.toInt < 9223372036854775808) : (x + y).toInt = x.toInt + y.toInt := by
  rw [Int64.toInt_add]; exact Int.bmod_eq_of_le (by omega) (by omega)
theorem x64_sub {x y : Int64} (h1 : -9223372036854775808 ≤ x.toInt - y.toInt) (h2 : x.toInt - y.toInt < 9223372036854775808) : (x - y).toInt = x.toInt - y.toInt := by
  rw [Int64.toInt_sub]; exact Int.bmod_eq_of_le (by omega) (by omega)
theorem x64_mul {x y : Int64} (h1 : -9223372036854775808 ≤ x.toInt * y.toInt) (h2 : x.toInt * y.toInt < 9223372036854775808) : (x * y).toInt = x.toInt * y.toInt := by
  rw [Int64.toInt_mul]; exact Int.bmod_eq_of_le (by omega) (by omega)
end Jvm.Own
namespace Jvm.Pilot.@@N@@
open Jvm Jvm.ClassFile Sem Op Lib Jvm.Free Jvm.Stand Jvm.LawKit Jvm.RoadKit Bundle Jvm.Pilot.@@N@@.Jvm.D Jvm.Own
abbrev HW (a0 : Array Value) (Z : State) : Prop := ∀ d ∈ tables_1, d.before a0 Z = true
abbrev CN : String := "RingLweKem"
def lay : List (String × String) := [("poly", "[I"), ("pw", "[I"), ("rev", "[I"), ("idR", "I"), ("idE", "I"), ("idE1", "I"), ("idE2", "I"), ("idUF", "I"), ("idVF", "I"), ("idWA", "I"), ("idWB", "I"), ("eta", "I"), ("du", "I"), ("dv", "I"), ("g", "I"), ("state", "I")]
abbrev vs0 : List Value := [.null, .null, .null, .int 0, .int 0, .int 0, .int 0, .int 0, .int 0, .int 0, .int 0, .int 0, .int 0, .int 0, .int 0, .int 0]
abbrev Hb (b : Nat) (s : St) : List OwnC := [cO [.ref (b + 1), .ref (b + 2), .ref (b + 3), .int (gI s 0), .int (gI s 1), .int (gI s 2), .int (gI s 3), .int (gI s 4), .int (gI s 5), .int (gI s 6), .int (gI s 7), .int (gI s 8), .int (gI s 9), .int (gI s 10), .int (gI s 11), .int (gI s 12)], cI (gA s 0), cI (gA s 1), cI (gA s 2)]
def st0 : St := (fun _ => 0, fun _ => 0, fun i => ([List.replicate 272 0, List.replicate 32 0, List.replicate 16 0] : List (List Int32)).getD i [], fun i => ([] : List (List Int64)).getD i [])
theorem m_0 : (Jvm.Cond.classLink "RingLweKemOwnLaw" (7 : Nat) "RingLweKem") ∈ tables_1 := List.mem_of_getElem? (i := 0) rfl
theorem m_1 : (Jvm.Cond.instantiable "RingLweKem" (16 : Nat)) ∈ tables_1 := List.mem_of_getElem? (i := 1) rfl
theorem m_2 : (Jvm.Cond.initialized "RingLweKem") ∈ tables_1 := List.mem_of_getElem? (i := 2) rfl
theorem m_3 : (Jvm.Cond.methodLink "RingLweKemOwnLaw" (9 : Nat) ({ cls := "RingLweKemOwnLaw", name := "cell", desc := "([II)I" } : Jvm.MethodName)) ∈ tables_1 := List.mem_of_getElem? (i := 3) rfl
theorem m_4 : (Jvm.Cond.static ({ cls := "RingLweKemOwnLaw", name := "cell", desc := "([II)I" } : Jvm.MethodName)) ∈ tables_1 := List.mem_of_getElem? (i := 4) rfl
theorem m_5 : (Jvm.Cond.initialized "RingLweKemOwnLaw") ∈ tables_1 := List.mem_of_getElem? (i := 5) rfl
theorem m_6 : (Jvm.Cond.code ({ cls := "RingLweKemOwnLaw", name := "cell", desc := "([II)I" } : Jvm.MethodName) method_2_code (2 : Nat) (Option.some Jvm.ClassFile.FieldType.int)) ∈ tables_1 := List.mem_of_getElem? (i := 6) rfl
theorem m_7 : (Jvm.Cond.methodLink "RingLweKemOwnLaw" (15 : Nat) ({ cls := "RingLweKem", name := "<init>", desc := "(III)V" } : Jvm.MethodName)) ∈ tables_1 := List.mem_of_getElem? (i := 7) rfl
theorem m_8 : (Jvm.Cond.instanceMethod ({ cls := "RingLweKem", name := "<init>", desc := "(III)V" } : Jvm.MethodName)) ∈ tables_1 := List.mem_of_getElem? (i := 8) rfl
theorem m_9 : (Jvm.Cond.code ({ cls := "RingLweKem", name := "<init>", desc := "(III)V" } : Jvm.MethodName) prog_1_method_1_code (4 : Nat) (Option.none : Option Jvm.ClassFile.FieldType)) ∈ tables_1 := List.mem_of_getElem? (i := 9) rfl
theorem m_10 : (Jvm.Cond.methodLink "RingLweKem" (1 : Nat) ({ cls := "java/lang/Object", name := "<init>", desc := "()V" } : Jvm.MethodName)) ∈ tables_1 := List.mem_of_getElem? (i := 10) rfl
theorem m_11 : (Jvm.Cond.instanceMethod ({ cls := "java/lang/Object", name := "<init>", desc := "()V" } : Jvm.MethodName)) ∈ tables_1 := List.mem_of_getElem? (i := 11) rfl
theorem m_12 : (Jvm.Cond.code ({ cls := "java/lang/Object", name := "<init>", desc := "()V" } : Jvm.MethodName) object_method_1_code (1 : Nat) (Option.none : Option Jvm.ClassFile.FieldType)) ∈ tables_1 := List.mem_of_getElem? (i := 12) rfl
theorem m_13 : (Jvm.Cond.arrayClass Jvm.ClassFile.FieldType.int) ∈ tables_1 := List.mem_of_getElem? (i := 13) rfl
theorem m_14 : (Jvm.Cond.fieldLink "RingLweKem" (7 : Nat) "RingLweKem" "poly" "[I") ∈ tables_1 := List.mem_of_getElem? (i := 14) rfl
theorem m_15 : (Jvm.Cond.laysFinal "RingLweKem" "RingLweKem" "poly" "[I") ∈ tables_1 := List.mem_of_getElem? (i := 15) rfl
theorem m_16 : (Jvm.Cond.fieldLink "RingLweKem" (13 : Nat) "RingLweKem" "pw" "[I") ∈ tables_1 := List.mem_of_getElem? (i := 16) rfl
theorem m_17 : (Jvm.Cond.laysFinal "RingLweKem" "RingLweKem" "pw" "[I") ∈ tables_1 := List.mem_of_getElem? (i := 17) rfl
theorem m_18 : (Jvm.Cond.fieldLink "RingLweKem" (16 : Nat) "RingLweKem" "rev" "[I") ∈ tables_1 := List.mem_of_getElem? (i := 18) rfl
theorem m_19 : (Jvm.Cond.laysFinal "RingLweKem" "RingLweKem" "rev" "[I") ∈ tables_1 := List.mem_of_getElem? (i := 19) rfl
theorem m_20 : (Jvm.Cond.fieldLink "RingLweKem" (19 : Nat) "RingLweKem" "idR" "I") ∈ tables_1 := List.mem_of_getElem? (i := 20) rfl
theorem m_21 : (Jvm.Cond.laysFinal "RingLweKem" "RingLweKem" "idR" "I") ∈ tables_1 := List.mem_of_getElem? (i := 21) rfl
theorem m_22 : (Jvm.Cond.fieldLink "RingLweKem" (23 : Nat) "RingLweKem" "idE" "I") ∈ tables_1 := List.mem_of_getElem? (i := 22) rfl
theorem m_23 : (Jvm.Cond.laysFinal "RingLweKem" "RingLweKem" "idE" "I") ∈ tables_1 := List.mem_of_getElem? (i := 23) rfl
theorem m_24 : (Jvm.Cond.fieldLink "RingLweKem" (26 : Nat) "RingLweKem" "idE1" "I") ∈ tables_1 := List.mem_of_getElem? (i := 24) rfl
theorem m_25 : (Jvm.Cond.laysFinal "RingLweKem" "RingLweKem" "idE1" "I") ∈ tables_1 := List.mem_of_getElem? (i := 25) rfl
theorem m_26 : (Jvm.Cond.fieldLink "RingLweKem" (29 : Nat) "RingLweKem" "idE2" "I") ∈ tables_1 := List.mem_of_getElem? (i := 26) rfl
theorem m_27 : (Jvm.Cond.laysFinal "RingLweKem" "RingLweKem" "idE2" "I") ∈ tables_1 := List.mem_of_getElem? (i := 27) rfl
theorem m_28 : (Jvm.Cond.fieldLink "RingLweKem" (32 : Nat) "RingLweKem" "idUF" "I") ∈ tables_1 := List.mem_of_getElem? (i := 28) rfl
theorem m_29 : (Jvm.Cond.laysFinal "RingLweKem" "RingLweKem" "idUF" "I") ∈ tables_1 := List.mem_of_getElem? (i := 29) rfl
theorem m_30 : (Jvm.Cond.fieldLink "RingLweKem" (35 : Nat) "RingLweKem" "idVF" "I") ∈ tables_1 := List.mem_of_getElem? (i := 30) rfl
theorem m_31 : (Jvm.Cond.laysFinal "RingLweKem" "RingLweKem" "idVF" "I") ∈ tables_1 := List.mem_of_getElem? (i := 31) rfl
theorem m_32 : (Jvm.Cond.fieldLink "RingLweKem" (38 : Nat) "RingLweKem" "idWA" "I") ∈ tables_1 := List.mem_of_getElem? (i := 32) rfl
theorem m_33 : (Jvm.Cond.laysFinal "RingLweKem" "RingLweKem" "idWA" "I") ∈ tables_1 := List.mem_of_getElem? (i := 33) rfl
theorem m_34 : (Jvm.Cond.fieldLink "RingLweKem" (41 : Nat) "RingLweKem" "idWB" "I") ∈ tables_1 := List.mem_of_getElem? (i := 34) rfl
theorem m_35 : (Jvm.Cond.laysFinal "RingLweKem" "RingLweKem" "idWB" "I") ∈ tables_1 := List.mem_of_getElem? (i := 35) rfl
theorem m_36 : (Jvm.Cond.methodLink "RingLweKem" (44 : Nat) ({ cls := "RingLweKem", name := "clamp", desc := "(III)I" } : Jvm.MethodName)) ∈ tables_1 := List.mem_of_getElem? (i := 36) rfl
theorem m_37 : (Jvm.Cond.instanceMethod ({ cls := "RingLweKem", name := "clamp", desc := "(III)I" } : Jvm.MethodName)) ∈ tables_1 := List.mem_of_getElem? (i := 37) rfl
theorem m_38 : (Jvm.Cond.privateMethod ({ cls := "RingLweKem", name := "clamp", desc := "(III)I" } : Jvm.MethodName)) ∈ tables_1 := List.mem_of_getElem? (i := 38) rfl
theorem m_39 : (Jvm.Cond.code ({ cls := "RingLweKem", name := "clamp", desc := "(III)I" } : Jvm.MethodName) prog_1_method_16_code (4 : Nat) (Option.some Jvm.ClassFile.FieldType.int)) ∈ tables_1 := List.mem_of_getElem? (i := 39) rfl
theorem m_40 : (Jvm.Cond.fieldLink "RingLweKem" (48 : Nat) "RingLweKem" "eta" "I") ∈ tables_1 := List.mem_of_getElem? (i := 40) rfl
theorem m_41 : (Jvm.Cond.lays "RingLweKem" "RingLweKem" "eta" "I") ∈ tables_1 := List.mem_of_getElem? (i := 41) rfl
theorem m_42 : (Jvm.Cond.fieldLink "RingLweKem" (51 : Nat) "RingLweKem" "du" "I") ∈ tables_1 := List.mem_of_getElem? (i := 42) rfl
theorem m_43 : (Jvm.Cond.lays "RingLweKem" "RingLweKem" "du" "I") ∈ tables_1 := List.mem_of_getElem? (i := 43) rfl
theorem m_44 : (Jvm.Cond.fieldLink "RingLweKem" (54 : Nat) "RingLweKem" "dv" "I") ∈ tables_1 := List.mem_of_getElem? (i := 44) rfl
theorem m_45 : (Jvm.Cond.lays "RingLweKem" "RingLweKem" "dv" "I") ∈ tables_1 := List.mem_of_getElem? (i := 45) rfl
theorem m_46 : (Jvm.Cond.fieldLink "RingLweKem" (57 : Nat) "RingLweKem" "g" "I") ∈ tables_1 := List.mem_of_getElem? (i := 46) rfl
theorem m_47 : (Jvm.Cond.lays "RingLweKem" "RingLweKem" "g" "I") ∈ tables_1 := List.mem_of_getElem? (i := 47) rfl
theorem m_48 : (Jvm.Cond.fieldLink "RingLweKem" (60 : Nat) "RingLweKem" "state" "I") ∈ tables_1 := List.mem_of_getElem? (i := 48) rfl
theorem m_49 : (Jvm.Cond.lays "RingLweKem" "RingLweKem" "state" "I") ∈ tables_1 := List.mem_of_getElem? (i := 49) rfl
theorem m_50 : (Jvm.Cond.methodLink "RingLweKem" (63 : Nat) ({ cls := "RingLweKem", name := "initTables", desc := "()V" } : Jvm.MethodName)) ∈ tables_1 := List.mem_of_getElem? (i := 50) rfl
theorem m_51 : (Jvm.Cond.instanceMethod ({ cls := "RingLweKem", name := "initTables", desc := "()V" } : Jvm.MethodName)) ∈ tables_1 := List.mem_of_getElem? (i := 51) rfl
theorem m_52 : (Jvm.Cond.privateMethod ({ cls := "RingLweKem", name := "initTables", desc := "()V" } : Jvm.MethodName)) ∈ tables_1 := List.mem_of_getElem? (i := 52) rfl
theorem m_53 : (Jvm.Cond.code ({ cls := "RingLweKem", name := "initTables", desc := "()V" } : Jvm.MethodName) prog_1_method_17_code (2 : Nat) (Option.none : Option Jvm.ClassFile.FieldType)) ∈ tables_1 := List.mem_of_getElem? (i := 53) rfl
theorem m_54 : (Jvm.Cond.methodLink "RingLweKemOwnLaw" (18 : Nat) ({ cls := "RingLweKem", name := "param", desc := "(I)I" } : Jvm.MethodName)) ∈ tables_1 := List.mem_of_getElem? (i := 54) rfl
theorem m_55 : (Jvm.Cond.declares ({ cls := "RingLweKem", name := "param", desc := "(I)I" } : Jvm.MethodName)) ∈ tables_1 := List.mem_of_getElem? (i := 55) rfl
theorem m_56 : (Jvm.Cond.instanceMethod ({ cls := "RingLweKem", name := "param", desc := "(I)I" } : Jvm.MethodName)) ∈ tables_1 := List.mem_of_getElem? (i := 56) rfl
theorem m_57 : (Jvm.Cond.selects "RingLweKem" ({ cls := "RingLweKem", name := "param", desc := "(I)I" } : Jvm.MethodName) ({ cls := "RingLweKem", name := "param", desc := "(I)I" } : Jvm.MethodName)) ∈ tables_1 := List.mem_of_getElem? (i := 57) rfl
theorem m_58 : (Jvm.Cond.code ({ cls := "RingLweKem", name := "param", desc := "(I)I" } : Jvm.MethodName) prog_1_method_15_code (2 : Nat) (Option.some Jvm.ClassFile.FieldType.int)) ∈ tables_1 := List.mem_of_getElem? (i := 58) rfl
theorem m_59 : (Jvm.Cond.methodLink "RingLweKemOwnLaw" (22 : Nat) ({ cls := "RingLweKem", name := "seed", desc := "(I)V" } : Jvm.MethodName)) ∈ tables_1 := List.mem_of_getElem? (i := 59) rfl
theorem m_60 : (Jvm.Cond.declares ({ cls := "RingLweKem", name := "seed", desc := "(I)V" } : Jvm.MethodName)) ∈ tables_1 := List.mem_of_getElem? (i := 60) rfl
theorem m_61 : (Jvm.Cond.instanceMethod ({ cls := "RingLweKem", name := "seed", desc := "(I)V" } : Jvm.MethodName)) ∈ tables_1 := List.mem_of_getElem? (i := 61) rfl
theorem m_62 : (Jvm.Cond.selects "RingLweKem" ({ cls := "RingLweKem", name := "seed", desc := "(I)V" } : Jvm.MethodName) ({ cls := "RingLweKem", name := "seed", desc := "(I)V" } : Jvm.MethodName)) ∈ tables_1 := List.mem_of_getElem? (i := 62) rfl
theorem m_63 : (Jvm.Cond.code ({ cls := "RingLweKem", name := "seed", desc := "(I)V" } : Jvm.MethodName) prog_1_method_2_code (2 : Nat) (Option.none : Option Jvm.ClassFile.FieldType)) ∈ tables_1 := List.mem_of_getElem? (i := 63) rfl
theorem m_64 : (Jvm.Cond.methodLink "RingLweKemOwnLaw" (26 : Nat) ({ cls := "RingLweKem", name := "keygen", desc := "()V" } : Jvm.MethodName)) ∈ tables_1 := List.mem_of_getElem? (i := 64) rfl
theorem m_65 : (Jvm.Cond.declares ({ cls := "RingLweKem", name := "keygen", desc := "()V" } : Jvm.MethodName)) ∈ tables_1 := List.mem_of_getElem? (i := 65) rfl
theorem m_66 : (Jvm.Cond.instanceMethod ({ cls := "RingLweKem", name := "keygen", desc := "()V" } : Jvm.MethodName)) ∈ tables_1 := List.mem_of_getElem? (i := 66) rfl
theorem m_67 : (Jvm.Cond.selects "RingLweKem" ({ cls := "RingLweKem", name := "keygen", desc := "()V" } : Jvm.MethodName) ({ cls := "RingLweKem", name := "keygen", desc := "()V" } : Jvm.MethodName)) ∈ tables_1 := List.mem_of_getElem? (i := 67) rfl
theorem m_68 : (Jvm.Cond.code ({ cls := "RingLweKem", name := "keygen", desc := "()V" } : Jvm.MethodName) prog_1_method_8_code (1 : Nat) (Option.none : Option Jvm.ClassFile.FieldType)) ∈ tables_1 := List.mem_of_getElem? (i := 68) rfl
theorem m_69 : (Jvm.Cond.methodLink "RingLweKem" (81 : Nat) ({ cls := "RingLweKem", name := "drawUniform", desc := "(I)V" } : Jvm.MethodName)) ∈ tables_1 := List.mem_of_getElem? (i := 69) rfl
theorem m_70 : (Jvm.Cond.instanceMethod ({ cls := "RingLweKem", name := "drawUniform", desc := "(I)V" } : Jvm.MethodName)) ∈ tables_1 := List.mem_of_getElem? (i := 70) rfl
theorem m_71 : (Jvm.Cond.privateMethod ({ cls := "RingLweKem", name := "drawUniform", desc := "(I)V" } : Jvm.MethodName)) ∈ tables_1 := List.mem_of_getElem? (i := 71) rfl
theorem m_72 : (Jvm.Cond.code ({ cls := "RingLweKem", name := "drawUniform", desc := "(I)V" } : Jvm.MethodName) prog_1_method_21_code (5 : Nat) (Option.none : Option Jvm.ClassFile.FieldType)) ∈ tables_1 := List.mem_of_getElem? (i := 72) rfl
theorem m_73 : (Jvm.Cond.methodLink "RingLweKem" (66 : Nat) ({ cls := "RingLweKem", name := "draw", desc := "()I" } : Jvm.MethodName)) ∈ tables_1 := List.mem_of_getElem? (i := 73) rfl
theorem m_74 : (Jvm.Cond.instanceMethod ({ cls := "RingLweKem", name := "draw", desc := "()I" } : Jvm.MethodName)) ∈ tables_1 := List.mem_of_getElem? (i := 74) rfl
theorem m_75 : (Jvm.Cond.privateMethod ({ cls := "RingLweKem", name := "draw", desc := "()I" } : Jvm.MethodName)) ∈ tables_1 := List.mem_of_getElem? (i := 75) rfl
theorem m_76 : (Jvm.Cond.code ({ cls := "RingLweKem", name := "draw", desc := "()I" } : Jvm.MethodName) prog_1_method_19_code (1 : Nat) (Option.some Jvm.ClassFile.FieldType.int)) ∈ tables_1 := List.mem_of_getElem? (i := 76) rfl
theorem m_77 : (Jvm.Cond.constant "RingLweKem" (111 : Nat) (1103515245 : Int32)) ∈ tables_1 := List.mem_of_getElem? (i := 77) rfl
theorem m_78 : (Jvm.Cond.constant "RingLweKem" (112 : Nat) (65535 : Int32)) ∈ tables_1 := List.mem_of_getElem? (i := 78) rfl
theorem m_79 : (Jvm.Cond.methodLink "RingLweKem" (85 : Nat) ({ cls := "RingLweKem", name := "drawNoise", desc := "(I)V" } : Jvm.MethodName)) ∈ tables_1 := List.mem_of_getElem? (i := 79) rfl
theorem m_80 : (Jvm.Cond.instanceMethod ({ cls := "RingLweKem", name := "drawNoise", desc := "(I)V" } : Jvm.MethodName)) ∈ tables_1 := List.mem_of_getElem? (i := 80) rfl
theorem m_81 : (Jvm.Cond.privateMethod ({ cls := "RingLweKem", name := "drawNoise", desc := "(I)V" } : Jvm.MethodName)) ∈ tables_1 := List.mem_of_getElem? (i := 81) rfl
theorem m_82 : (Jvm.Cond.code ({ cls := "RingLweKem", name := "drawNoise", desc := "(I)V" } : Jvm.MethodName) prog_1_method_22_code (5 : Nat) (Option.none : Option Jvm.ClassFile.FieldType)) ∈ tables_1 := List.mem_of_getElem? (i := 82) rfl
theorem m_83 : (Jvm.Cond.methodLink "RingLweKem" (70 : Nat) ({ cls := "RingLweKem", name := "noise", desc := "()I" } : Jvm.MethodName)) ∈ tables_1 := List.mem_of_getElem? (i := 83) rfl
theorem m_84 : (Jvm.Cond.instanceMethod ({ cls := "RingLweKem", name := "noise", desc := "()I" } : Jvm.MethodName)) ∈ tables_1 := List.mem_of_getElem? (i := 84) rfl
theorem m_85 : (Jvm.Cond.privateMethod ({ cls := "RingLweKem", name := "noise", desc := "()I" } : Jvm.MethodName)) ∈ tables_1 := List.mem_of_getElem? (i := 85) rfl
theorem m_86 : (Jvm.Cond.code ({ cls := "RingLweKem", name := "noise", desc := "()I" } : Jvm.MethodName) prog_1_method_20_code (4 : Nat) (Option.some Jvm.ClassFile.FieldType.int)) ∈ tables_1 := List.mem_of_getElem? (i := 86) rfl
theorem m_87 : (Jvm.Cond.methodLink "RingLweKem" (73 : Nat) ({ cls := "RingLweKem", name := "mod", desc := "(I)I" } : Jvm.MethodName)) ∈ tables_1 := List.mem_of_getElem? (i := 87) rfl
theorem m_88 : (Jvm.Cond.instanceMethod ({ cls := "RingLweKem", name := "mod", desc := "(I)I" } : Jvm.MethodName)) ∈ tables_1 := List.mem_of_getElem? (i := 88) rfl
theorem m_89 : (Jvm.Cond.privateMethod ({ cls := "RingLweKem", name := "mod", desc := "(I)I" } : Jvm.MethodName)) ∈ tables_1 := List.mem_of_getElem? (i := 89) rfl
theorem m_90 : (Jvm.Cond.code ({ cls := "RingLweKem", name := "mod", desc := "(I)I" } : Jvm.MethodName) prog_1_method_18_code (3 : Nat) (Option.some Jvm.ClassFile.FieldType.int)) ∈ tables_1 := List.mem_of_getElem? (i := 90) rfl
theorem m_91 : (Jvm.Cond.methodLink "RingLweKem" (77 : Nat) ({ cls := "RingLweKem", name := "mul", desc := "(III)V" } : Jvm.MethodName)) ∈ tables_1 := List.mem_of_getElem? (i := 91) rfl
theorem m_92 : (Jvm.Cond.instanceMethod ({ cls := "RingLweKem", name := "mul", desc := "(III)V" } : Jvm.MethodName)) ∈ tables_1 := List.mem_of_getElem? (i := 92) rfl
theorem m_93 : (Jvm.Cond.privateMethod ({ cls := "RingLweKem", name := "mul", desc := "(III)V" } : Jvm.MethodName)) ∈ tables_1 := List.mem_of_getElem? (i := 93) rfl
theorem m_94 : (Jvm.Cond.code ({ cls := "RingLweKem", name := "mul", desc := "(III)V" } : Jvm.MethodName) prog_1_method_31_code (7 : Nat) (Option.none : Option Jvm.ClassFile.FieldType)) ∈ tables_1 := List.mem_of_getElem? (i := 94) rfl
theorem m_95 : (Jvm.Cond.methodLink "RingLweKem" (113 : Nat) ({ cls := "RingLweKem", name := "copy", desc := "(II)V" } : Jvm.MethodName)) ∈ tables_1 := List.mem_of_getElem? (i := 95) rfl
theorem m_96 : (Jvm.Cond.instanceMethod ({ cls := "RingLweKem", name := "copy", desc := "(II)V" } : Jvm.MethodName)) ∈ tables_1 := List.mem_of_getElem? (i := 96) rfl
theorem m_97 : (Jvm.Cond.privateMethod ({ cls := "RingLweKem", name := "copy", desc := "(II)V" } : Jvm.MethodName)) ∈ tables_1 := List.mem_of_getElem? (i := 97) rfl
theorem m_98 : (Jvm.Cond.code ({ cls := "RingLweKem", name := "copy", desc := "(II)V" } : Jvm.MethodName) prog_1_method_28_code (6 : Nat) (Option.none : Option Jvm.ClassFile.FieldType)) ∈ tables_1 := List.mem_of_getElem? (i := 98) rfl
theorem m_99 : (Jvm.Cond.methodLink "RingLweKem" (116 : Nat) ({ cls := "RingLweKem", name := "forward", desc := "(I)V" } : Jvm.MethodName)) ∈ tables_1 := List.mem_of_getElem? (i := 99) rfl
theorem m_100 : (Jvm.Cond.instanceMethod ({ cls := "RingLweKem", name := "forward", desc := "(I)V" } : Jvm.MethodName)) ∈ tables_1 := List.mem_of_getElem? (i := 100) rfl
theorem m_101 : (Jvm.Cond.privateMethod ({ cls := "RingLweKem", name := "forward", desc := "(I)V" } : Jvm.MethodName)) ∈ tables_1 := List.mem_of_getElem? (i := 101) rfl
theorem m_102 : (Jvm.Cond.code ({ cls := "RingLweKem", name := "forward", desc := "(I)V" } : Jvm.MethodName) prog_1_method_32_code (4 : Nat) (Option.none : Option Jvm.ClassFile.FieldType)) ∈ tables_1 := List.mem_of_getElem? (i := 102) rfl
theorem m_103 : (Jvm.Cond.methodLink "RingLweKem" (122 : Nat) ({ cls := "RingLweKem", name := "bitReverse", desc := "(I)V" } : Jvm.MethodName)) ∈ tables_1 := List.mem_of_getElem? (i := 103) rfl
theorem m_104 : (Jvm.Cond.instanceMethod ({ cls := "RingLweKem", name := "bitReverse", desc := "(I)V" } : Jvm.MethodName)) ∈ tables_1 := List.mem_of_getElem? (i := 104) rfl
theorem m_105 : (Jvm.Cond.privateMethod ({ cls := "RingLweKem", name := "bitReverse", desc := "(I)V" } : Jvm.MethodName)) ∈ tables_1 := List.mem_of_getElem? (i := 105) rfl
theorem m_106 : (Jvm.Cond.code ({ cls := "RingLweKem", name := "bitReverse", desc := "(I)V" } : Jvm.MethodName) prog_1_method_34_code (6 : Nat) (Option.none : Option Jvm.ClassFile.FieldType)) ∈ tables_1 := List.mem_of_getElem? (i := 106) rfl
theorem m_107 : (Jvm.Cond.methodLink "RingLweKem" (125 : Nat) ({ cls := "RingLweKem", name := "butterflies", desc := "(IZ)V" } : Jvm.MethodName)) ∈ tables_1 := List.mem_of_getElem? (i := 107) rfl
theorem m_108 : (Jvm.Cond.instanceMethod ({ cls := "RingLweKem", name := "butterflies", desc := "(IZ)V" } : Jvm.MethodName)) ∈ tables_1 := List.mem_of_getElem? (i := 108) rfl
theorem m_109 : (Jvm.Cond.privateMethod ({ cls := "RingLweKem", name := "butterflies", desc := "(IZ)V" } : Jvm.MethodName)) ∈ tables_1 := List.mem_of_getElem? (i := 109) rfl
theorem m_110 : (Jvm.Cond.code ({ cls := "RingLweKem", name := "butterflies", desc := "(IZ)V" } : Jvm.MethodName) prog_1_method_35_code (15 : Nat) (Option.none : Option Jvm.ClassFile.FieldType)) ∈ tables_1 := List.mem_of_getElem? (i := 110) rfl
theorem m_111 : (Jvm.Cond.methodLink "RingLweKem" (119 : Nat) ({ cls := "RingLweKem", name := "inverse", desc := "(I)V" } : Jvm.MethodName)) ∈ tables_1 := List.mem_of_getElem? (i := 111) rfl
theorem m_112 : (Jvm.Cond.instanceMethod ({ cls := "RingLweKem", name := "inverse", desc := "(I)V" } : Jvm.MethodName)) ∈ tables_1 := List.mem_of_getElem? (i := 112) rfl
theorem m_113 : (Jvm.Cond.privateMethod ({ cls := "RingLweKem", name := "inverse", desc := "(I)V" } : Jvm.MethodName)) ∈ tables_1 := List.mem_of_getElem? (i := 113) rfl
theorem m_114 : (Jvm.Cond.code ({ cls := "RingLweKem", name := "inverse", desc := "(I)V" } : Jvm.MethodName) prog_1_method_33_code (5 : Nat) (Option.none : Option Jvm.ClassFile.FieldType)) ∈ tables_1 := List.mem_of_getElem? (i := 114) rfl
theorem m_115 : (Jvm.Cond.methodLink "RingLweKem" (88 : Nat) ({ cls := "RingLweKem", name := "addInto", desc := "(II)V" } : Jvm.MethodName)) ∈ tables_1 := List.mem_of_getElem? (i := 115) rfl
theorem m_116 : (Jvm.Cond.instanceMethod ({ cls := "RingLweKem", name := "addInto", desc := "(II)V" } : Jvm.MethodName)) ∈ tables_1 := List.mem_of_getElem? (i := 116) rfl
theorem m_117 : (Jvm.Cond.privateMethod ({ cls := "RingLweKem", name := "addInto", desc := "(II)V" } : Jvm.MethodName)) ∈ tables_1 := List.mem_of_getElem? (i := 117) rfl
theorem m_118 : (Jvm.Cond.code ({ cls := "RingLweKem", name := "addInto", desc := "(II)V" } : Jvm.MethodName) prog_1_method_30_code (6 : Nat) (Option.none : Option Jvm.ClassFile.FieldType)) ∈ tables_1 := List.mem_of_getElem? (i := 118) rfl
theorem m_119 : (Jvm.Cond.methodLink "RingLweKem" (92 : Nat) ({ cls := "RingLweKem", name := "clear", desc := "(I)V" } : Jvm.MethodName)) ∈ tables_1 := List.mem_of_getElem? (i := 119) rfl
theorem m_120 : (Jvm.Cond.instanceMethod ({ cls := "RingLweKem", name := "clear", desc := "(I)V" } : Jvm.MethodName)) ∈ tables_1 := List.mem_of_getElem? (i := 120) rfl
theorem m_121 : (Jvm.Cond.privateMethod ({ cls := "RingLweKem", name := "clear", desc := "(I)V" } : Jvm.MethodName)) ∈ tables_1 := List.mem_of_getElem? (i := 121) rfl
theorem m_122 : (Jvm.Cond.code ({ cls := "RingLweKem", name := "clear", desc := "(I)V" } : Jvm.MethodName) prog_1_method_29_code (4 : Nat) (Option.none : Option Jvm.ClassFile.FieldType)) ∈ tables_1 := List.mem_of_getElem? (i := 122) rfl
theorem m_123 : (Jvm.Cond.methodLink "RingLweKemOwnLaw" (29 : Nat) ({ cls := "RingLweKem", name := "encaps", desc := "()I" } : Jvm.MethodName)) ∈ tables_1 := List.mem_of_getElem? (i := 123) rfl
theorem m_124 : (Jvm.Cond.declares ({ cls := "RingLweKem", name := "encaps", desc := "()I" } : Jvm.MethodName)) ∈ tables_1 := List.mem_of_getElem? (i := 124) rfl
theorem m_125 : (Jvm.Cond.instanceMethod ({ cls := "RingLweKem", name := "encaps", desc := "()I" } : Jvm.MethodName)) ∈ tables_1 := List.mem_of_getElem? (i := 125) rfl
theorem m_126 : (Jvm.Cond.selects "RingLweKem" ({ cls := "RingLweKem", name := "encaps", desc := "()I" } : Jvm.MethodName) ({ cls := "RingLweKem", name := "encaps", desc := "()I" } : Jvm.MethodName)) ∈ tables_1 := List.mem_of_getElem? (i := 126) rfl
theorem m_127 : (Jvm.Cond.code ({ cls := "RingLweKem", name := "encaps", desc := "()I" } : Jvm.MethodName) prog_1_method_9_code (2 : Nat) (Option.some Jvm.ClassFile.FieldType.int)) ∈ tables_1 := List.mem_of_getElem? (i := 127) rfl
theorem m_128 : (Jvm.Cond.methodLink "RingLweKem" (95 : Nat) ({ cls := "RingLweKem", name := "addMessage", desc := "(I)V" } : Jvm.MethodName)) ∈ tables_1 := List.mem_of_getElem? (i := 128) rfl
theorem m_129 : (Jvm.Cond.instanceMethod ({ cls := "RingLweKem", name := "addMessage", desc := "(I)V" } : Jvm.MethodName)) ∈ tables_1 := List.mem_of_getElem? (i := 129) rfl
theorem m_130 : (Jvm.Cond.privateMethod ({ cls := "RingLweKem", name := "addMessage", desc := "(I)V" } : Jvm.MethodName)) ∈ tables_1 := List.mem_of_getElem? (i := 130) rfl
theorem m_131 : (Jvm.Cond.code ({ cls := "RingLweKem", name := "addMessage", desc := "(I)V" } : Jvm.MethodName) prog_1_method_27_code (4 : Nat) (Option.none : Option Jvm.ClassFile.FieldType)) ∈ tables_1 := List.mem_of_getElem? (i := 131) rfl
theorem m_132 : (Jvm.Cond.methodLink "RingLweKem" (98 : Nat) ({ cls := "RingLweKem", name := "compressInto", desc := "(III)V" } : Jvm.MethodName)) ∈ tables_1 := List.mem_of_getElem? (i := 132) rfl
theorem m_133 : (Jvm.Cond.instanceMethod ({ cls := "RingLweKem", name := "compressInto", desc := "(III)V" } : Jvm.MethodName)) ∈ tables_1 := List.mem_of_getElem? (i := 133) rfl
theorem m_134 : (Jvm.Cond.privateMethod ({ cls := "RingLweKem", name := "compressInto", desc := "(III)V" } : Jvm.MethodName)) ∈ tables_1 := List.mem_of_getElem? (i := 134) rfl
theorem m_135 : (Jvm.Cond.code ({ cls := "RingLweKem", name := "compressInto", desc := "(III)V" } : Jvm.MethodName) prog_1_method_25_code (7 : Nat) (Option.none : Option Jvm.ClassFile.FieldType)) ∈ tables_1 := List.mem_of_getElem? (i := 135) rfl
theorem m_136 : (Jvm.Cond.methodLink "RingLweKem" (104 : Nat) ({ cls := "RingLweKem", name := "cmp", desc := "(II)I" } : Jvm.MethodName)) ∈ tables_1 := List.mem_of_getElem? (i := 136) rfl
theorem m_137 : (Jvm.Cond.instanceMethod ({ cls := "RingLweKem", name := "cmp", desc := "(II)I" } : Jvm.MethodName)) ∈ tables_1 := List.mem_of_getElem? (i := 137) rfl
theorem m_138 : (Jvm.Cond.privateMethod ({ cls := "RingLweKem", name := "cmp", desc := "(II)I" } : Jvm.MethodName)) ∈ tables_1 := List.mem_of_getElem? (i := 138) rfl
theorem m_139 : (Jvm.Cond.code ({ cls := "RingLweKem", name := "cmp", desc := "(II)I" } : Jvm.MethodName) prog_1_method_23_code (3 : Nat) (Option.some Jvm.ClassFile.FieldType.int)) ∈ tables_1 := List.mem_of_getElem? (i := 139) rfl
theorem m_140 : (Jvm.Cond.methodLink "RingLweKemOwnLaw" (33 : Nat) ({ cls := "RingLweKem", name := "status", desc := "()I" } : Jvm.MethodName)) ∈ tables_1 := List.mem_of_getElem? (i := 140) rfl
theorem m_141 : (Jvm.Cond.declares ({ cls := "RingLweKem", name := "status", desc := "()I" } : Jvm.MethodName)) ∈ tables_1 := List.mem_of_getElem? (i := 141) rfl
theorem m_142 : (Jvm.Cond.instanceMethod ({ cls := "RingLweKem", name := "status", desc := "()I" } : Jvm.MethodName)) ∈ tables_1 := List.mem_of_getElem? (i := 142) rfl
theorem m_143 : (Jvm.Cond.selects "RingLweKem" ({ cls := "RingLweKem", name := "status", desc := "()I" } : Jvm.MethodName) ({ cls := "RingLweKem", name := "status", desc := "()I" } : Jvm.MethodName)) ∈ tables_1 := List.mem_of_getElem? (i := 143) rfl
theorem m_144 : (Jvm.Cond.code ({ cls := "RingLweKem", name := "status", desc := "()I" } : Jvm.MethodName) prog_1_method_14_code (1 : Nat) (Option.some Jvm.ClassFile.FieldType.int)) ∈ tables_1 := List.mem_of_getElem? (i := 144) rfl
theorem m_145 : (Jvm.Cond.methodLink "RingLweKemOwnLaw" (36 : Nat) ({ cls := "RingLweKem", name := "decaps", desc := "()I" } : Jvm.MethodName)) ∈ tables_1 := List.mem_of_getElem? (i := 145) rfl
theorem m_146 : (Jvm.Cond.declares ({ cls := "RingLweKem", name := "decaps", desc := "()I" } : Jvm.MethodName)) ∈ tables_1 := List.mem_of_getElem? (i := 146) rfl
theorem m_147 : (Jvm.Cond.instanceMethod ({ cls := "RingLweKem", name := "decaps", desc := "()I" } : Jvm.MethodName)) ∈ tables_1 := List.mem_of_getElem? (i := 147) rfl
theorem m_148 : (Jvm.Cond.selects "RingLweKem" ({ cls := "RingLweKem", name := "decaps", desc := "()I" } : Jvm.MethodName) ({ cls := "RingLweKem", name := "decaps", desc := "()I" } : Jvm.MethodName)) ∈ tables_1 := List.mem_of_getElem? (i := 148) rfl
theorem m_149 : (Jvm.Cond.code ({ cls := "RingLweKem", name := "decaps", desc := "()I" } : Jvm.MethodName) prog_1_method_10_code (7 : Nat) (Option.some Jvm.ClassFile.FieldType.int)) ∈ tables_1 := List.mem_of_getElem? (i := 149) rfl
theorem m_150 : (Jvm.Cond.methodLink "RingLweKem" (101 : Nat) ({ cls := "RingLweKem", name := "decompressInto", desc := "(III)V" } : Jvm.MethodName)) ∈ tables_1 := List.mem_of_getElem? (i := 150) rfl
theorem m_151 : (Jvm.Cond.instanceMethod ({ cls := "RingLweKem", name := "decompressInto", desc := "(III)V" } : Jvm.MethodName)) ∈ tables_1 := List.mem_of_getElem? (i := 151) rfl
theorem m_152 : (Jvm.Cond.privateMethod ({ cls := "RingLweKem", name := "decompressInto", desc := "(III)V" } : Jvm.MethodName)) ∈ tables_1 := List.mem_of_getElem? (i := 152) rfl
theorem m_153 : (Jvm.Cond.code ({ cls := "RingLweKem", name := "decompressInto", desc := "(III)V" } : Jvm.MethodName) prog_1_method_26_code (7 : Nat) (Option.none : Option Jvm.ClassFile.FieldType)) ∈ tables_1 := List.mem_of_getElem? (i := 153) rfl
theorem m_154 : (Jvm.Cond.methodLink "RingLweKem" (108 : Nat) ({ cls := "RingLweKem", name := "dcmp", desc := "(II)I" } : Jvm.MethodName)) ∈ tables_1 := List.mem_of_getElem? (i := 154) rfl
theorem m_155 : (Jvm.Cond.instanceMethod ({ cls := "RingLweKem", name := "dcmp", desc := "(II)I" } : Jvm.MethodName)) ∈ tables_1 := List.mem_of_getElem? (i := 155) rfl
theorem m_156 : (Jvm.Cond.privateMethod ({ cls := "RingLweKem", name := "dcmp", desc := "(II)I" } : Jvm.MethodName)) ∈ tables_1 := List.mem_of_getElem? (i := 156) rfl
theorem m_157 : (Jvm.Cond.code ({ cls := "RingLweKem", name := "dcmp", desc := "(II)I" } : Jvm.MethodName) prog_1_method_24_code (3 : Nat) (Option.some Jvm.ClassFile.FieldType.int)) ∈ tables_1 := List.mem_of_getElem? (i := 157) rfl
theorem m_158 : (Jvm.Cond.methodLink "RingLweKemOwnLaw" (49 : Nat) ({ cls := "RingLweKem", name := "setOperand", desc := "(III)Z" } : Jvm.MethodName)) ∈ tables_1 := List.mem_of_getElem? (i := 158) rfl
theorem m_159 : (Jvm.Cond.declares ({ cls := "RingLweKem", name := "setOperand", desc := "(III)Z" } : Jvm.MethodName)) ∈ tables_1 := List.mem_of_getElem? (i := 159) rfl
theorem m_160 : (Jvm.Cond.instanceMethod ({ cls := "RingLweKem", name := "setOperand", desc := "(III)Z" } : Jvm.MethodName)) ∈ tables_1 := List.mem_of_getElem? (i := 160) rfl
theorem m_161 : (Jvm.Cond.selects "RingLweKem" ({ cls := "RingLweKem", name := "setOperand", desc := "(III)Z" } : Jvm.MethodName) ({ cls := "RingLweKem", name := "setOperand", desc := "(III)Z" } : Jvm.MethodName)) ∈ tables_1 := List.mem_of_getElem? (i := 161) rfl
theorem m_162 : (Jvm.Cond.code ({ cls := "RingLweKem", name := "setOperand", desc := "(III)Z" } : Jvm.MethodName) prog_1_method_5_code (4 : Nat) (Option.some Jvm.ClassFile.FieldType.boolean)) ∈ tables_1 := List.mem_of_getElem? (i := 162) rfl
theorem m_163 : (Jvm.Cond.methodLink "RingLweKemOwnLaw" (52 : Nat) ({ cls := "RingLweKem", name := "multiply", desc := "()V" } : Jvm.MethodName)) ∈ tables_1 := List.mem_of_getElem? (i := 163) rfl
theorem m_164 : (Jvm.Cond.declares ({ cls := "RingLweKem", name := "multiply", desc := "()V" } : Jvm.MethodName)) ∈ tables_1 := List.mem_of_getElem? (i := 164) rfl
theorem m_165 : (Jvm.Cond.instanceMethod ({ cls := "RingLweKem", name := "multiply", desc := "()V" } : Jvm.MethodName)) ∈ tables_1 := List.mem_of_getElem? (i := 165) rfl
theorem m_166 : (Jvm.Cond.selects "RingLweKem" ({ cls := "RingLweKem", name := "multiply", desc := "()V" } : Jvm.MethodName) ({ cls := "RingLweKem", name := "multiply", desc := "()V" } : Jvm.MethodName)) ∈ tables_1 := List.mem_of_getElem? (i := 166) rfl
theorem m_167 : (Jvm.Cond.code ({ cls := "RingLweKem", name := "multiply", desc := "()V" } : Jvm.MethodName) prog_1_method_6_code (1 : Nat) (Option.none : Option Jvm.ClassFile.FieldType)) ∈ tables_1 := List.mem_of_getElem? (i := 167) rfl
theorem m_168 : (Jvm.Cond.methodLink "RingLweKemOwnLaw" (46 : Nat) ({ cls := "RingLweKem", name := "sample", desc := "()I" } : Jvm.MethodName)) ∈ tables_1 := List.mem_of_getElem? (i := 168) rfl
theorem m_169 : (Jvm.Cond.declares ({ cls := "RingLweKem", name := "sample", desc := "()I" } : Jvm.MethodName)) ∈ tables_1 := List.mem_of_getElem? (i := 169) rfl
theorem m_170 : (Jvm.Cond.instanceMethod ({ cls := "RingLweKem", name := "sample", desc := "()I" } : Jvm.MethodName)) ∈ tables_1 := List.mem_of_getElem? (i := 170) rfl
theorem m_171 : (Jvm.Cond.selects "RingLweKem" ({ cls := "RingLweKem", name := "sample", desc := "()I" } : Jvm.MethodName) ({ cls := "RingLweKem", name := "sample", desc := "()I" } : Jvm.MethodName)) ∈ tables_1 := List.mem_of_getElem? (i := 171) rfl
theorem m_172 : (Jvm.Cond.code ({ cls := "RingLweKem", name := "sample", desc := "()I" } : Jvm.MethodName) prog_1_method_4_code (1 : Nat) (Option.some Jvm.ClassFile.FieldType.int)) ∈ tables_1 := List.mem_of_getElem? (i := 172) rfl
theorem m_173 : (Jvm.Cond.methodLink "RingLweKemOwnLaw" (55 : Nat) ({ cls := "RingLweKem", name := "compress", desc := "(II)I" } : Jvm.MethodName)) ∈ tables_1 := List.mem_of_getElem? (i := 173) rfl
theorem m_174 : (Jvm.Cond.declares ({ cls := "RingLweKem", name := "compress", desc := "(II)I" } : Jvm.MethodName)) ∈ tables_1 := List.mem_of_getElem? (i := 174) rfl
theorem m_175 : (Jvm.Cond.instanceMethod ({ cls := "RingLweKem", name := "compress", desc := "(II)I" } : Jvm.MethodName)) ∈ tables_1 := List.mem_of_getElem? (i := 175) rfl
theorem m_176 : (Jvm.Cond.selects "RingLweKem" ({ cls := "RingLweKem", name := "compress", desc := "(II)I" } : Jvm.MethodName) ({ cls := "RingLweKem", name := "compress", desc := "(II)I" } : Jvm.MethodName)) ∈ tables_1 := List.mem_of_getElem? (i := 176) rfl
theorem m_177 : (Jvm.Cond.code ({ cls := "RingLweKem", name := "compress", desc := "(II)I" } : Jvm.MethodName) prog_1_method_12_code (3 : Nat) (Option.some Jvm.ClassFile.FieldType.int)) ∈ tables_1 := List.mem_of_getElem? (i := 177) rfl
theorem m_178 : (Jvm.Cond.methodLink "RingLweKemOwnLaw" (59 : Nat) ({ cls := "RingLweKem", name := "decompress", desc := "(II)I" } : Jvm.MethodName)) ∈ tables_1 := List.mem_of_getElem? (i := 178) rfl
theorem m_179 : (Jvm.Cond.declares ({ cls := "RingLweKem", name := "decompress", desc := "(II)I" } : Jvm.MethodName)) ∈ tables_1 := List.mem_of_getElem? (i := 179) rfl
theorem m_180 : (Jvm.Cond.instanceMethod ({ cls := "RingLweKem", name := "decompress", desc := "(II)I" } : Jvm.MethodName)) ∈ tables_1 := List.mem_of_getElem? (i := 180) rfl
theorem m_181 : (Jvm.Cond.selects "RingLweKem" ({ cls := "RingLweKem", name := "decompress", desc := "(II)I" } : Jvm.MethodName) ({ cls := "RingLweKem", name := "decompress", desc := "(II)I" } : Jvm.MethodName)) ∈ tables_1 := List.mem_of_getElem? (i := 181) rfl
theorem m_182 : (Jvm.Cond.code ({ cls := "RingLweKem", name := "decompress", desc := "(II)I" } : Jvm.MethodName) prog_1_method_13_code (3 : Nat) (Option.some Jvm.ClassFile.FieldType.int)) ∈ tables_1 := List.mem_of_getElem? (i := 182) rfl
theorem m_183 : (Jvm.Cond.methodLink "RingLweKemOwnLaw" (39 : Nat) ({ cls := "RingLweKem", name := "setCipher", desc := "(III)Z" } : Jvm.MethodName)) ∈ tables_1 := List.mem_of_getElem? (i := 183) rfl
theorem m_184 : (Jvm.Cond.declares ({ cls := "RingLweKem", name := "setCipher", desc := "(III)Z" } : Jvm.MethodName)) ∈ tables_1 := List.mem_of_getElem? (i := 184) rfl
theorem m_185 : (Jvm.Cond.instanceMethod ({ cls := "RingLweKem", name := "setCipher", desc := "(III)Z" } : Jvm.MethodName)) ∈ tables_1 := List.mem_of_getElem? (i := 185) rfl
theorem m_186 : (Jvm.Cond.selects "RingLweKem" ({ cls := "RingLweKem", name := "setCipher", desc := "(III)Z" } : Jvm.MethodName) ({ cls := "RingLweKem", name := "setCipher", desc := "(III)Z" } : Jvm.MethodName)) ∈ tables_1 := List.mem_of_getElem? (i := 186) rfl
theorem m_187 : (Jvm.Cond.code ({ cls := "RingLweKem", name := "setCipher", desc := "(III)Z" } : Jvm.MethodName) prog_1_method_11_code (5 : Nat) (Option.some Jvm.ClassFile.FieldType.boolean)) ∈ tables_1 := List.mem_of_getElem? (i := 187) rfl
theorem m_188 : (Jvm.Cond.methodLink "RingLweKemOwnLaw" (43 : Nat) ({ cls := "RingLweKem", name := "random", desc := "()I" } : Jvm.MethodName)) ∈ tables_1 := List.mem_of_getElem? (i := 188) rfl
theorem m_189 : (Jvm.Cond.declares ({ cls := "RingLweKem", name := "random", desc := "()I" } : Jvm.MethodName)) ∈ tables_1 := List.mem_of_getElem? (i := 189) rfl
theorem m_190 : (Jvm.Cond.instanceMethod ({ cls := "RingLweKem", name := "random", desc := "()I" } : Jvm.MethodName)) ∈ tables_1 := List.mem_of_getElem? (i := 190) rfl
theorem m_191 : (Jvm.Cond.selects "RingLweKem" ({ cls := "RingLweKem", name := "random", desc := "()I" } : Jvm.MethodName) ({ cls := "RingLweKem", name := "random", desc := "()I" } : Jvm.MethodName)) ∈ tables_1 := List.mem_of_getElem? (i := 191) rfl
theorem m_192 : (Jvm.Cond.code ({ cls := "RingLweKem", name := "random", desc := "()I" } : Jvm.MethodName) prog_1_method_3_code (1 : Nat) (Option.some Jvm.ClassFile.FieldType.int)) ∈ tables_1 := List.mem_of_getElem? (i := 192) rfl
theorem laid0 {Z : State} {a0 : Array Value} (hw : HW a0 Z) : LaidAll Z a0 CN lay vs0 :=
  ⟨⟨Or.inr (hw _ m_15), .array .int, by decide, rfl⟩, ⟨Or.inr (hw _ m_17), .array .int, by decide, rfl⟩, ⟨Or.inr (hw _ m_19), .array .int, by decide, rfl⟩, ⟨Or.inr (hw _ m_21), .int, by decide, rfl⟩, ⟨Or.inr (hw _ m_23), .int, by decide, rfl⟩, ⟨Or.inr (hw _ m_25), .int, by decide, rfl⟩, ⟨Or.inr (hw _ m_27), .int, by decide, rfl⟩, ⟨Or.inr (hw _ m_29), .int, by decide, rfl⟩, ⟨Or.inr (hw _ m_31), .int, by decide, rfl⟩, ⟨Or.inr (hw _ m_33), .int, by decide, rfl⟩, ⟨Or.inr (hw _ m_35), .int, by decide, rfl⟩, ⟨Or.inl (hw _ m_41), .int, by decide, rfl⟩, ⟨Or.inl (hw _ m_43), .int, by decide, rfl⟩, ⟨Or.inl (hw _ m_45), .int, by decide, rfl⟩, ⟨Or.inl (hw _ m_47), .int, by decide, rfl⟩, ⟨Or.inl (hw _ m_49), .int, by decide, rfl⟩, trivial⟩
theorem hlay {Z : State} {a0 : Array Value} (hw : HW a0 Z) : ∀ (a b : Nat) (f g : String × String), lay[a]? = some f → lay[b]? = some g → a ≠ b → RoadKit.slotOf Z CN f.1 f.2 ≠ RoadKit.slotOf Z CN g.1 g.2 := (laid0 hw).ne (by decide)
theorem vs0_ok {Z : State} {a0 : Array Value} (hw : HW a0 Z) : ∀ (i : Nat) (f : String × String) (v : Value), lay[i]? = some f → vs0[i]? = some v → Laid Z a0 CN CN f.1 f.2 ∧ ∃ ty, parseFieldDescriptor f.2 = some ty ∧ v = defaultValue ty := (laid0 hw).new
theorem pn_cls : plainName CN = true := by first | (simp [plainName, overriddenIn]; done) | decide +kernel
theorem pn_law : plainName "RingLweKemOwnLaw" = true := by first | (simp [plainName, overriddenIn]; done) | decide +kernel
theorem d0_0 : dc method_2_code 0 (.iload_n 1) 1 := by decide +kernel
theorem d0_1 : dc method_2_code 1 (.aload_n 0) 1 := by decide +kernel
theorem d0_2 : dc method_2_code 2 (.arraylength) 1 := by decide +kernel
theorem d0_3 : dc method_2_code 3 (.if_icmp .ge 9) 3 := by decide +kernel
theorem d0_6 : dc method_2_code 6 (.aload_n 0) 1 := by decide +kernel
theorem d0_7 : dc method_2_code 7 (.iload_n 1) 1 := by decide +kernel
theorem d0_8 : dc method_2_code 8 (.iaload) 1 := by decide +kernel
theorem d0_9 : dc method_2_code 9 (.goto 4) 3 := by decide +kernel
theorem d0_12 : dc method_2_code 12 (.iconst 0) 1 := by decide +kernel
theorem d0_13 : dc method_2_code 13 (.ireturn) 1 := by decide +kernel
abbrev y0 : MethodName := ⟨"RingLweKemOwnLaw", "cell", "([II)I"⟩
theorem hy0 : y0.cls ≠ "java/lang/invoke/MethodHandle" ∧ y0.cls ≠ "java/lang/invoke/VarHandle" := by decide
theorem pd0 : parseMethodDescriptor y0.desc = some ⟨[.array .int, .int], some .int⟩ := by decide +kernel
abbrev R0 : Room := { frames := 0, cells := 0, slots := 0, locals := 0 }
abbrev P0 (a : List Int32) (r : Int32) : Option Value → List OwnC → Prop := fun v H' => v = some (.int r) ∧ H' = ([cI a])
abbrev W0 (l : Launch) (Z : State) (n0 : Nat) (Q : Option Value → List OwnC → Prop) (k n pc : Nat) (L : List Slot) (S : List Value) (H : List OwnC) : Prop := WP l Z CN lay "RingLweKemOwnLaw" "cell" method_2_code 2 (some FieldType.int) R0 n0 1 Q k n pc L S H
def f_L_cell_13 (t0 : Int32) (a : List Int32) : Option (Int32) :=
  some t0
set_option maxRecDepth 65536 in
set_option maxHeartbeats 4000000 in
theorem ok0_13 (l : Launch) (Z : State) (a0 : Array Value) (hw : HW a0 Z) (n0 : Nat) (t0 : Int32) (a : List Int32) (r : Int32) (h : f_L_cell_13 t0 a = some r) : W0 l Z n0 (P0 a r) 0 0 13 [.unset, .unset] [.int t0] ([cI a]) := by
  unfold f_L_cell_13 at h
  cases h
  exact WP.ireturn d0_13 rfl (leb rfl) (leb rfl) ⟨rfl, rfl⟩
def f_L_cell (p1 : Int32) (a : List Int32) : Option (Int32) :=
  if p1 < a.length.toInt32 then
    (rd a p1).bind fun x2 =>
    f_L_cell_13 x2 a
  else
    f_L_cell_13 (0 : Int32) a
set_option maxRecDepth 65536 in
set_option maxHeartbeats 4000000 in
theorem ok0 (l : Launch) (Z : State) (a0 : Array Value) (hw : HW a0 Z) (p1 : Int32) (a : List Int32) (r : Int32) (h : f_L_cell p1 a = some r) : CS l Z CN lay y0 method_2_code 2 (some FieldType.int) R0 1 [.ref 0, .int p1] ([cI a]) (P0 a r) := by
  refine CS.of_wp pn_law (leb rfl) fun n0 => ?_
  show W0 l Z n0 (P0 a r) 0 0 0 [.val (.ref 0), .val (.int p1)] [] ([cI a])
  unfold f_L_cell at h
  refine WP.iloadN d0_0 rfl ?_
  refine WP.aloadN d0_1 rfl ?_
  refine WP.arraylength (i := 0) (xs := a) d0_2 rfl ?_
  rcases ite_e h with ⟨hc1, h⟩ | ⟨hc1, h⟩
  ·
    refine WP.icmpN d0_3 (XT.ii_ge_f hc1) ?_
    refine WP.aloadN d0_6 rfl ?_
    refine WP.iloadN d0_7 rfl ?_
    obtain ⟨x2, hx2, h⟩ := Option.bind_eq_some_iff.mp h
    refine WP.iaload (i := 0) d0_8 rfl hx2 ?_
    refine WP.goto (pc' := 13) d0_9 (by decide) rfl ?_
    exact WP.weak (L' := [.unset, .unset]) trivial (ok0_13 l Z a0 hw n0 x2 a _ h)
  ·
    refine WP.icmpY (pc' := 12) d0_3 (XT.ii_ge_t hc1) (by decide) rfl ?_
    refine WP.iconst (0 : Int32) d0_12 rfl ?_
    exact WP.weak (L' := [.unset, .unset]) trivial (ok0_13 l Z a0 hw n0 (0 : Int32) a _ h)
theorem d2_0 : dc prog_1_method_16_code 0 (.iload_n 1) 1 := by decide +kernel
theorem d2_1 : dc prog_1_method_16_code 1 (.iload_n 2) 1 := by decide +kernel
theorem d2_2 : dc prog_1_method_16_code 2 (.if_icmp .ge 5) 3 := by decide +kernel
theorem d2_5 : dc prog_1_method_16_code 5 (.iload_n 2) 1 := by decide +kernel
theorem d2_6 : dc prog_1_method_16_code 6 (.ireturn) 1 := by decide +kernel
theorem d2_7 : dc prog_1_method_16_code 7 (.iload_n 1) 1 := by decide +kernel
theorem d2_8 : dc prog_1_method_16_code 8 (.iload_n 3) 1 := by decide +kernel
theorem d2_9 : dc prog_1_method_16_code 9 (.if_icmp .le 5) 3 := by decide +kernel
theorem d2_12 : dc prog_1_method_16_code 12 (.iload_n 3) 1 := by decide +kernel
theorem d2_13 : dc prog_1_method_16_code 13 (.ireturn) 1 := by decide +kernel
theorem d2_14 : dc prog_1_method_16_code 14 (.iload_n 1) 1 := by decide +kernel
theorem d2_15 : dc prog_1_method_16_code 15 (.ireturn) 1 := by decide +kernel
abbrev y2 : MethodName := ⟨"RingLweKem", "clamp", "(III)I"⟩
theorem hy2 : y2.cls ≠ "java/lang/invoke/MethodHandle" ∧ y2.cls ≠ "java/lang/invoke/VarHandle" := by decide
theorem pd2 : parseMethodDescriptor y2.desc = some ⟨[.int, .int, .int], some .int⟩ := by decide +kernel
abbrev R2 : Room := { frames := 0, cells := 0, slots := 0, locals := 0 }
abbrev P2 (s : St) (r : Int32) : Option Value → List OwnC → Prop := fun v H' => v = some (.int r) ∧ H' = (Hb 0 s)
abbrev W2 (l : Launch) (Z : State) (n0 : Nat) (Q : Option Value → List OwnC → Prop) (k n pc : Nat) (L : List Slot) (S : List Value) (H : List OwnC) : Prop := WP l Z CN lay "RingLweKem" "clamp" prog_1_method_16_code 4 (some FieldType.int) R2 n0 0 Q k n pc L S H
def f_clamp (p1 : Int32) (p2 : Int32) (p3 : Int32) (s : St) : Option (Int32) :=
  if p1 < p2 then
    some p2
  else
    if p3 < p1 then
      some p3
    else
      some p1
set_option maxRecDepth 65536 in
set_option maxHeartbeats 4000000 in
theorem ok2 (l : Launch) (Z : State) (a0 : Array Value) (hw : HW a0 Z) (p1 : Int32) (p2 : Int32) (p3 : Int32) (s : St) (r : Int32) (h : f_clamp p1 p2 p3 s = some r) : CS l Z CN lay y2 prog_1_method_16_code 4 (some FieldType.int) R2 0 [.ref 0, .int p1, .int p2, .int p3] (Hb 0 s) (P2 s r) := by
  refine CS.of_wp pn_cls (leb rfl) fun n0 => ?_
  show W2 l Z n0 (P2 s r) 0 0 0 [.val (.ref 0), .val (.int p1), .val (.int p2), .val (.int p3)] [] (Hb 0 s)
  unfold f_clamp at h
  refine WP.iloadN d2_0 rfl ?_
  refine WP.iloadN d2_1 rfl ?_
  rcases ite_e h with ⟨hc1, h⟩ | ⟨hc1, h⟩
  ·
    refine WP.icmpN d2_2 (XT.ii_ge_f hc1) ?_
    refine WP.iloadN d2_5 rfl ?_
    cases h
    exact WP.ireturn d2_6 rfl (leb rfl) (leb rfl) ⟨rfl, rfl⟩
  ·
    refine WP.icmpY (pc' := 7) d2_2 (XT.ii_ge_t hc1) (by decide) rfl ?_
    refine WP.iloadN d2_7 rfl ?_
    refine WP.iloadN d2_8 rfl ?_
    rcases ite_e h with ⟨hc2, h⟩ | ⟨hc2, h⟩
    ·
      refine WP.icmpN d2_9 (XT.ii_le_f hc2) ?_
      refine WP.iloadN d2_12 rfl ?_
      cases h
      exact WP.ireturn d2_13 rfl (leb rfl) (leb rfl) ⟨rfl, rfl⟩
    ·
      refine WP.icmpY (pc' := 14) d2_9 (XT.ii_le_t hc2) (by decide) rfl ?_
      refine WP.iloadN d2_14 rfl ?_
      cases h
      exact WP.ireturn d2_15 rfl (leb rfl) (leb rfl) ⟨rfl, rfl⟩
theorem d3_0 : dc prog_1_method_17_code 0 (.aload_n 0) 1 := by decide +kernel
theorem d3_1 : dc prog_1_method_17_code 1 (.getfield 13) 3 := by decide +kernel
theorem d3_4 : dc prog_1_method_17_code 4 (.iconst 0) 1 := by decide +kernel
theorem d3_5 : dc prog_1_method_17_code 5 (.iconst 1) 1 := by decide +kernel
theorem d3_6 : dc prog_1_method_17_code 6 (.iastore) 1 := by decide +kernel
theorem d3_7 : dc prog_1_method_17_code 7 (.iconst 1) 1 := by decide +kernel
theorem d3_8 : dc prog_1_method_17_code 8 (.istore_n 1) 1 := by decide +kernel
theorem d3_9 : dc prog_1_method_17_code 9 (.iload_n 1) 1 := by decide +kernel
theorem d3_10 : dc prog_1_method_17_code 10 (.bipush 32) 2 := by decide +kernel
theorem d3_12 : dc prog_1_method_17_code 12 (.if_icmp .ge 31) 3 := by decide +kernel
theorem d3_15 : dc prog_1_method_17_code 15 (.aload_n 0) 1 := by decide +kernel
theorem d3_16 : dc prog_1_method_17_code 16 (.getfield 13) 3 := by decide +kernel
theorem d3_19 : dc prog_1_method_17_code 19 (.iload_n 1) 1 := by decide +kernel
theorem d3_20 : dc prog_1_method_17_code 20 (.aload_n 0) 1 := by decide +kernel
theorem d3_21 : dc prog_1_method_17_code 21 (.getfield 13) 3 := by decide +kernel
theorem d3_24 : dc prog_1_method_17_code 24 (.iload_n 1) 1 := by decide +kernel
theorem d3_25 : dc prog_1_method_17_code 25 (.iconst 1) 1 := by decide +kernel
theorem d3_26 : dc prog_1_method_17_code 26 (.isub) 1 := by decide +kernel
theorem d3_27 : dc prog_1_method_17_code 27 (.iaload) 1 := by decide +kernel
theorem d3_28 : dc prog_1_method_17_code 28 (.sipush 136) 3 := by decide +kernel
theorem d3_31 : dc prog_1_method_17_code 31 (.imul) 1 := by decide +kernel
theorem d3_32 : dc prog_1_method_17_code 32 (.sipush 257) 3 := by decide +kernel
theorem d3_35 : dc prog_1_method_17_code 35 (.irem) 1 := by decide +kernel
theorem d3_36 : dc prog_1_method_17_code 36 (.iastore) 1 := by decide +kernel
theorem d3_37 : dc prog_1_method_17_code 37 (.iinc 1 1) 3 := by decide +kernel
theorem d3_40 : dc prog_1_method_17_code 40 (.goto (-31)) 3 := by decide +kernel
theorem d3_43 : dc prog_1_method_17_code 43 (.iconst 0) 1 := by decide +kernel
theorem d3_44 : dc prog_1_method_17_code 44 (.istore_n 1) 1 := by decide +kernel
theorem d3_45 : dc prog_1_method_17_code 45 (.iload_n 1) 1 := by decide +kernel
theorem d3_46 : dc prog_1_method_17_code 46 (.bipush 16) 2 := by decide +kernel
theorem d3_48 : dc prog_1_method_17_code 48 (.if_icmp .ge 39) 3 := by decide +kernel
theorem d3_51 : dc prog_1_method_17_code 51 (.aload_n 0) 1 := by decide +kernel
theorem d3_52 : dc prog_1_method_17_code 52 (.getfield 16) 3 := by decide +kernel
theorem d3_55 : dc prog_1_method_17_code 55 (.iload_n 1) 1 := by decide +kernel
theorem d3_56 : dc prog_1_method_17_code 56 (.iload_n 1) 1 := by decide +kernel
theorem d3_57 : dc prog_1_method_17_code 57 (.iconst 1) 1 := by decide +kernel
theorem d3_58 : dc prog_1_method_17_code 58 (.iand) 1 := by decide +kernel
theorem d3_59 : dc prog_1_method_17_code 59 (.iconst 3) 1 := by decide +kernel
theorem d3_60 : dc prog_1_method_17_code 60 (.ishl) 1 := by decide +kernel
theorem d3_61 : dc prog_1_method_17_code 61 (.iload_n 1) 1 := by decide +kernel
theorem d3_62 : dc prog_1_method_17_code 62 (.iconst 2) 1 := by decide +kernel
theorem d3_63 : dc prog_1_method_17_code 63 (.iand) 1 := by decide +kernel
theorem d3_64 : dc prog_1_method_17_code 64 (.iconst 1) 1 := by decide +kernel
theorem d3_65 : dc prog_1_method_17_code 65 (.ishl) 1 := by decide +kernel
theorem d3_66 : dc prog_1_method_17_code 66 (.ior) 1 := by decide +kernel
theorem d3_67 : dc prog_1_method_17_code 67 (.iload_n 1) 1 := by decide +kernel
theorem d3_68 : dc prog_1_method_17_code 68 (.iconst 4) 1 := by decide +kernel
theorem d3_69 : dc prog_1_method_17_code 69 (.iand) 1 := by decide +kernel
theorem d3_70 : dc prog_1_method_17_code 70 (.iconst 1) 1 := by decide +kernel
theorem d3_71 : dc prog_1_method_17_code 71 (.ishr) 1 := by decide +kernel
theorem d3_72 : dc prog_1_method_17_code 72 (.ior) 1 := by decide +kernel
theorem d3_73 : dc prog_1_method_17_code 73 (.iload_n 1) 1 := by decide +kernel
theorem d3_74 : dc prog_1_method_17_code 74 (.bipush 8) 2 := by decide +kernel
theorem d3_76 : dc prog_1_method_17_code 76 (.iand) 1 := by decide +kernel
theorem d3_77 : dc prog_1_method_17_code 77 (.iconst 3) 1 := by decide +kernel
theorem d3_78 : dc prog_1_method_17_code 78 (.ishr) 1 := by decide +kernel
theorem d3_79 : dc prog_1_method_17_code 79 (.ior) 1 := by decide +kernel
theorem d3_80 : dc prog_1_method_17_code 80 (.iastore) 1 := by decide +kernel
theorem d3_81 : dc prog_1_method_17_code 81 (.iinc 1 1) 3 := by decide +kernel
theorem d3_84 : dc prog_1_method_17_code 84 (.goto (-39)) 3 := by decide +kernel
theorem d3_87 : dc prog_1_method_17_code 87 (.return_) 1 := by decide +kernel
abbrev y3 : MethodName := ⟨"RingLweKem", "initTables", "()V"⟩
theorem hy3 : y3.cls ≠ "java/lang/invoke/MethodHandle" ∧ y3.cls ≠ "java/lang/invoke/VarHandle" := by decide
theorem pd3 : parseMethodDescriptor y3.desc = some ⟨[], none⟩ := by decide +kernel
abbrev R3 : Room := { frames := 0, cells := 0, slots := 0, locals := 0 }
abbrev P3 (r : St) : Option Value → List OwnC → Prop := fun v H' => v = none ∧ H' = (Hb 0 r)
abbrev W3 (l : Launch) (Z : State) (n0 : Nat) (Q : Option Value → List OwnC → Prop) (k n pc : Nat) (L : List Slot) (S : List Value) (H : List OwnC) : Prop := WP l Z CN lay "RingLweKem" "initTables" prog_1_method_17_code 2 (none) R3 n0 0 Q k n pc L S H
def g_initTables_45 (k45 : Int32 → St → Option (St)) (n : Nat) (v1 : Int32) (s : St) : Option (St) :=
  if v1 < (16 : Int32) then
    (wrA s 2 v1 (((((v1 &&& (1 : Int32)) <<< ((3 : Int32) &&& 31)) ||| ((v1 &&& (2 : Int32)) <<< ((1 : Int32) &&& 31))) ||| ((v1 &&& (4 : Int32)) >>> ((1 : Int32) &&& 31))) ||| ((v1 &&& (8 : Int32)) >>> ((3 : Int32) &&& 31)))).bind fun s2 =>
    lt (v1 + (1 : Int32)) fun x3 =>
    k45 x3 s2
  else
    some s
set_option maxRecDepth 65536 in
set_option maxHeartbeats 4000000 in
theorem okg3_45 (l : Launch) (Z : State) (a0 : Array Value) (hw : HW a0 Z) (n0 : Nat) (k45 : Int32 → St → Option (St)) (hk45 : ∀ (v1 : Int32) (s : St) (r : St), k45 v1 s = some r → W3 l Z n0 (P3 r) 0 0 45 [.val (.ref 0), .val (.int v1)] [] (Hb 0 s)) (n : Nat) (v1 : Int32) (s : St) (r : St) (h : g_initTables_45 k45 n v1 s = some r) : W3 l Z n0 (P3 r) 0 0 45 [.val (.ref 0), .val (.int v1)] [] (Hb 0 s) := by
  unfold g_initTables_45 at h
  refine WP.iloadN d3_45 rfl ?_
  refine WP.bipush (16 : Int32) d3_46 rfl ?_
  rcases ite_e h with ⟨hc1, h⟩ | ⟨hc1, h⟩
  ·
    refine WP.icmpN d3_48 (XT.ii_ge_f hc1) ?_
    refine WP.aloadN d3_51 rfl ?_
    refine WP.getfield (i := 0) (j := 2) d3_52 (hw _ m_18) rfl rfl rfl ?_
    refine WP.iloadN d3_55 rfl ?_
    refine WP.iloadN d3_56 rfl ?_
    refine WP.iconst (1 : Int32) d3_57 rfl ?_
    refine WP.iand d3_58 ?_
    refine WP.iconst (3 : Int32) d3_59 rfl ?_
    refine WP.ishl d3_60 ?_
    refine WP.iloadN d3_61 rfl ?_
    refine WP.iconst (2 : Int32) d3_62 rfl ?_
    refine WP.iand d3_63 ?_
    refine WP.iconst (1 : Int32) d3_64 rfl ?_
    refine WP.ishl d3_65 ?_
    refine WP.ior d3_66 ?_
    refine WP.iloadN d3_67 rfl ?_
    refine WP.iconst (4 : Int32) d3_68 rfl ?_
    refine WP.iand d3_69 ?_
    refine WP.iconst (1 : Int32) d3_70 rfl ?_
    refine WP.ishr d3_71 ?_
    refine WP.ior d3_72 ?_
    refine WP.iloadN d3_73 rfl ?_
    refine WP.bipush (8 : Int32) d3_74 rfl ?_
    refine WP.iand d3_76 ?_
    refine WP.iconst (3 : Int32) d3_77 rfl ?_
    refine WP.ishr d3_78 ?_
    refine WP.ior d3_79 ?_
    obtain ⟨s2, hs2, h⟩ := Option.bind_eq_some_iff.mp h
    obtain ⟨ys2, gs2, es2⟩ := wrA_e hs2
    refine WP.iastore (i := 3) (xs := gA s 2) (H' := (Hb 0 s2)) d3_80 rfl (leb rfl) gs2 (by subst es2; rfl) ?_
    obtain ⟨x3, ex3, h⟩ := lt_e h
    refine WP.iinc (L' := [.val (.ref 0), .val (.int x3)]) (1 : Int32) d3_81 rfl rfl (by subst ex3; rfl) ?_
    refine WP.goto (pc' := 45) d3_84 (by decide) rfl ?_
    exact WP.weak (L' := [.val (.ref 0), .val (.int x3)]) ⟨rfl, rfl, trivial⟩ (hk45 x3 s2 _ h)
  ·
    refine WP.icmpY (pc' := 87) d3_48 (XT.ii_ge_t hc1) (by decide) rfl ?_
    cases h
    exact WP.vreturn d3_87 rfl (leb rfl) (leb rfl) ⟨rfl, rfl⟩
def f_initTables_45 : Nat → Int32 → St → Option (St)
  | 0 => fun _ _ => none
  | n + 1 => g_initTables_45 (f_initTables_45 n) n
theorem ok3_45 (l : Launch) (Z : State) (a0 : Array Value) (hw : HW a0 Z) (n0 : Nat) : ∀ (n : Nat) (v1 : Int32) (s : St) (r : St), f_initTables_45 n v1 s = some r → W3 l Z n0 (P3 r) 0 0 45 [.val (.ref 0), .val (.int v1)] [] (Hb 0 s)
  | 0, v1, s, r, h => nomatch (show none = some r from h)
  | n + 1, v1, s, r, h => okg3_45 l Z a0 hw n0 _ (ok3_45 l Z a0 hw n0 n) n v1 s r h
def g_initTables_9 (k9 : Int32 → St → Option (St)) (n : Nat) (v1 : Int32) (s : St) : Option (St) :=
  if v1 < (32 : Int32) then
    (rd (gA s 1) (v1 - (1 : Int32))).bind fun x2 =>
    (wrA s 1 v1 ((x2 * (136 : Int32)) % (257 : Int32))).bind fun s3 =>
    lt (v1 + (1 : Int32)) fun x4 =>
    k9 x4 s3
  else
    f_initTables_45 n (0 : Int32) s
set_option maxRecDepth 65536 in
set_option maxHeartbeats 4000000 in
theorem okg3_9 (l : Launch) (Z : State) (a0 : Array Value) (hw : HW a0 Z) (n0 : Nat) (k9 : Int32 → St → Option (St)) (hk9 : ∀ (v1 : Int32) (s : St) (r : St), k9 v1 s = some r → W3 l Z n0 (P3 r) 0 0 9 [.val (.ref 0), .val (.int v1)] [] (Hb 0 s)) (n : Nat) (v1 : Int32) (s : St) (r : St) (h : g_initTables_9 k9 n v1 s = some r) : W3 l Z n0 (P3 r) 0 0 9 [.val (.ref 0), .val (.int v1)] [] (Hb 0 s) := by
  unfold g_initTables_9 at h
  refine WP.iloadN d3_9 rfl ?_
  refine WP.bipush (32 : Int32) d3_10 rfl ?_
  rcases ite_e h with ⟨hc1, h⟩ | ⟨hc1, h⟩
  ·
    refine WP.icmpN d3_12 (XT.ii_ge_f hc1) ?_
    refine WP.aloadN d3_15 rfl ?_
    refine WP.getfield (i := 0) (j := 1) d3_16 (hw _ m_16) rfl rfl rfl ?_
    refine WP.iloadN d3_19 rfl ?_
    refine WP.aloadN d3_20 rfl ?_
    refine WP.getfield (i := 0) (j := 1) d3_21 (hw _ m_16) rfl rfl rfl ?_
    refine WP.iloadN d3_24 rfl ?_
    refine WP.iconst (1 : Int32) d3_25 rfl ?_
    refine WP.isub d3_26 ?_
    obtain ⟨x2, hx2, h⟩ := Option.bind_eq_some_iff.mp h
    refine WP.iaload (i := 2) d3_27 rfl hx2 ?_
    refine WP.sipush (136 : Int32) d3_28 rfl ?_
    refine WP.imul d3_31 ?_
    refine WP.sipush (257 : Int32) d3_32 rfl ?_
    refine WP.irem d3_35 (by decide) ?_
    obtain ⟨s3, hs3, h⟩ := Option.bind_eq_some_iff.mp h
    obtain ⟨ys3, gs3, es3⟩ := wrA_e hs3
    refine WP.iastore (i := 2) (xs := gA s 1) (H' := (Hb 0 s3)) d3_36 rfl (leb rfl) gs3 (by subst es3; rfl) ?_
    obtain ⟨x4, ex4, h⟩ := lt_e h
    refine WP.iinc (L' := [.val (.ref 0), .val (.int x4)]) (1 : Int32) d3_37 rfl rfl (by subst ex4; rfl) ?_
    refine WP.goto (pc' := 9) d3_40 (by decide) rfl ?_
    exact WP.weak (L' := [.val (.ref 0), .val (.int x4)]) ⟨rfl, rfl, trivial⟩ (hk9 x4 s3 _ h)
  ·
    refine WP.icmpY (pc' := 43) d3_12 (XT.ii_ge_t hc1) (by decide) rfl ?_
    refine WP.iconst (0 : Int32) d3_43 rfl ?_
    refine WP.istoreN (L' := [.val (.ref 0), .val (.int (0 : Int32))]) d3_44 (leb rfl) rfl ?_
    exact WP.weak (L' := [.val (.ref 0), .val (.int (0 : Int32))]) ⟨rfl, rfl, trivial⟩ (ok3_45 l Z a0 hw n0 n (0 : Int32) s _ h)
def f_initTables_9 : Nat → Int32 → St → Option (St)
  | 0 => fun _ _ => none
  | n + 1 => g_initTables_9 (f_initTables_9 n) n
theorem ok3_9 (l : Launch) (Z : State) (a0 : Array Value) (hw : HW a0 Z) (n0 : Nat) : ∀ (n : Nat) (v1 : Int32) (s : St) (r : St), f_initTables_9 n v1 s = some r → W3 l Z n0 (P3 r) 0 0 9 [.val (.ref 0), .val (.int v1)] [] (Hb 0 s)
  | 0, v1, s, r, h => nomatch (show none = some r from h)
  | n + 1, v1, s, r, h => okg3_9 l Z a0 hw n0 _ (ok3_9 l Z a0 hw n0 n) n v1 s r h
def f_initTables (n : Nat) (s : St) : Option (St) :=
  (wrA s 1 (0 : Int32) (1 : Int32)).bind fun s1 =>
  f_initTables_9 n (1 : Int32) s1
set_option maxRecDepth 65536 in
set_option maxHeartbeats 4000000 in
theorem ok3 (l : Launch) (Z : State) (a0 : Array Value) (hw : HW a0 Z) (n : Nat) (s : St) (r : St) (h : f_initTables n s = some r) : CS l Z CN lay y3 prog_1_method_17_code 2 (none) R3 0 [.ref 0] (Hb 0 s) (P3 r) := by
  refine CS.of_wp pn_cls (leb rfl) fun n0 => ?_
  show W3 l Z n0 (P3 r) 0 0 0 [.val (.ref 0), .unset] [] (Hb 0 s)
  unfold f_initTables at h
  refine WP.aloadN d3_0 rfl ?_
  refine WP.getfield (i := 0) (j := 1) d3_1 (hw _ m_16) rfl rfl rfl ?_
  refine WP.iconst (0 : Int32) d3_4 rfl ?_
  refine WP.iconst (1 : Int32) d3_5 rfl ?_
  obtain ⟨s1, hs1, h⟩ := Option.bind_eq_some_iff.mp h
  obtain ⟨ys1, gs1, es1⟩ := wrA_e hs1
  refine WP.iastore (i := 2) (xs := gA s 1) (H' := (Hb 0 s1)) d3_6 rfl (leb rfl) gs1 (by subst es1; rfl) ?_
  refine WP.iconst (1 : Int32) d3_7 rfl ?_
  refine WP.istoreN (L' := [.val (.ref 0), .val (.int (1 : Int32))]) d3_8 (leb rfl) rfl ?_
  exact WP.weak (L' := [.val (.ref 0), .val (.int (1 : Int32))]) ⟨rfl, rfl, trivial⟩ (ok3_9 l Z a0 hw n0 n (1 : Int32) s1 _ h)
theorem d1_0 : dc prog_1_method_1_code 0 (.aload_n 0) 1 := by decide +kernel
theorem d1_1 : dc prog_1_method_1_code 1 (.invokespecial 1) 3 := by decide +kernel
theorem d1_4 : dc prog_1_method_1_code 4 (.aload_n 0) 1 := by decide +kernel
theorem d1_5 : dc prog_1_method_1_code 5 (.sipush 272) 3 := by decide +kernel
theorem d1_8 : dc prog_1_method_1_code 8 (.newarray .int) 2 := by decide +kernel
theorem d1_10 : dc prog_1_method_1_code 10 (.putfield 7) 3 := by decide +kernel
theorem d1_13 : dc prog_1_method_1_code 13 (.aload_n 0) 1 := by decide +kernel
theorem d1_14 : dc prog_1_method_1_code 14 (.bipush 32) 2 := by decide +kernel
theorem d1_16 : dc prog_1_method_1_code 16 (.newarray .int) 2 := by decide +kernel
theorem d1_18 : dc prog_1_method_1_code 18 (.putfield 13) 3 := by decide +kernel
theorem d1_21 : dc prog_1_method_1_code 21 (.aload_n 0) 1 := by decide +kernel
theorem d1_22 : dc prog_1_method_1_code 22 (.bipush 16) 2 := by decide +kernel
theorem d1_24 : dc prog_1_method_1_code 24 (.newarray .int) 2 := by decide +kernel
theorem d1_26 : dc prog_1_method_1_code 26 (.putfield 16) 3 := by decide +kernel
theorem d1_29 : dc prog_1_method_1_code 29 (.aload_n 0) 1 := by decide +kernel
theorem d1_30 : dc prog_1_method_1_code 30 (.bipush 9) 2 := by decide +kernel
theorem d1_32 : dc prog_1_method_1_code 32 (.putfield 19) 3 := by decide +kernel
theorem d1_35 : dc prog_1_method_1_code 35 (.aload_n 0) 1 := by decide +kernel
theorem d1_36 : dc prog_1_method_1_code 36 (.bipush 10) 2 := by decide +kernel
theorem d1_38 : dc prog_1_method_1_code 38 (.putfield 23) 3 := by decide +kernel
theorem d1_41 : dc prog_1_method_1_code 41 (.aload_n 0) 1 := by decide +kernel
theorem d1_42 : dc prog_1_method_1_code 42 (.bipush 11) 2 := by decide +kernel
theorem d1_44 : dc prog_1_method_1_code 44 (.putfield 26) 3 := by decide +kernel
theorem d1_47 : dc prog_1_method_1_code 47 (.aload_n 0) 1 := by decide +kernel
theorem d1_48 : dc prog_1_method_1_code 48 (.bipush 12) 2 := by decide +kernel
theorem d1_50 : dc prog_1_method_1_code 50 (.putfield 29) 3 := by decide +kernel
theorem d1_53 : dc prog_1_method_1_code 53 (.aload_n 0) 1 := by decide +kernel
theorem d1_54 : dc prog_1_method_1_code 54 (.bipush 13) 2 := by decide +kernel
theorem d1_56 : dc prog_1_method_1_code 56 (.putfield 32) 3 := by decide +kernel
theorem d1_59 : dc prog_1_method_1_code 59 (.aload_n 0) 1 := by decide +kernel
theorem d1_60 : dc prog_1_method_1_code 60 (.bipush 14) 2 := by decide +kernel
theorem d1_62 : dc prog_1_method_1_code 62 (.putfield 35) 3 := by decide +kernel
theorem d1_65 : dc prog_1_method_1_code 65 (.aload_n 0) 1 := by decide +kernel
theorem d1_66 : dc prog_1_method_1_code 66 (.bipush 15) 2 := by decide +kernel
theorem d1_68 : dc prog_1_method_1_code 68 (.putfield 38) 3 := by decide +kernel
theorem d1_71 : dc prog_1_method_1_code 71 (.aload_n 0) 1 := by decide +kernel
theorem d1_72 : dc prog_1_method_1_code 72 (.bipush 16) 2 := by decide +kernel
theorem d1_74 : dc prog_1_method_1_code 74 (.putfield 41) 3 := by decide +kernel
theorem d1_77 : dc prog_1_method_1_code 77 (.aload_n 0) 1 := by decide +kernel
theorem d1_78 : dc prog_1_method_1_code 78 (.aload_n 0) 1 := by decide +kernel
theorem d1_79 : dc prog_1_method_1_code 79 (.iload_n 1) 1 := by decide +kernel
theorem d1_80 : dc prog_1_method_1_code 80 (.iconst 1) 1 := by decide +kernel
theorem d1_81 : dc prog_1_method_1_code 81 (.iconst 3) 1 := by decide +kernel
theorem d1_82 : dc prog_1_method_1_code 82 (.invokevirtual 44) 3 := by decide +kernel
theorem d1_85 : dc prog_1_method_1_code 85 (.putfield 48) 3 := by decide +kernel
theorem d1_88 : dc prog_1_method_1_code 88 (.aload_n 0) 1 := by decide +kernel
theorem d1_89 : dc prog_1_method_1_code 89 (.aload_n 0) 1 := by decide +kernel
theorem d1_90 : dc prog_1_method_1_code 90 (.iload_n 2) 1 := by decide +kernel
theorem d1_91 : dc prog_1_method_1_code 91 (.iconst 1) 1 := by decide +kernel
theorem d1_92 : dc prog_1_method_1_code 92 (.bipush 9) 2 := by decide +kernel
theorem d1_94 : dc prog_1_method_1_code 94 (.invokevirtual 44) 3 := by decide +kernel
theorem d1_97 : dc prog_1_method_1_code 97 (.putfield 51) 3 := by decide +kernel
theorem d1_100 : dc prog_1_method_1_code 100 (.aload_n 0) 1 := by decide +kernel
theorem d1_101 : dc prog_1_method_1_code 101 (.aload_n 0) 1 := by decide +kernel
theorem d1_102 : dc prog_1_method_1_code 102 (.iload_n 3) 1 := by decide +kernel
theorem d1_103 : dc prog_1_method_1_code 103 (.iconst 1) 1 := by decide +kernel
theorem d1_104 : dc prog_1_method_1_code 104 (.bipush 9) 2 := by decide +kernel
theorem d1_106 : dc prog_1_method_1_code 106 (.invokevirtual 44) 3 := by decide +kernel
theorem d1_109 : dc prog_1_method_1_code 109 (.putfield 54) 3 := by decide +kernel
theorem d1_112 : dc prog_1_method_1_code 112 (.aload_n 0) 1 := by decide +kernel
theorem d1_113 : dc prog_1_method_1_code 113 (.iconst 0) 1 := by decide +kernel
theorem d1_114 : dc prog_1_method_1_code 114 (.putfield 57) 3 := by decide +kernel
theorem d1_117 : dc prog_1_method_1_code 117 (.aload_n 0) 1 := by decide +kernel
theorem d1_118 : dc prog_1_method_1_code 118 (.iconst 0) 1 := by decide +kernel
theorem d1_119 : dc prog_1_method_1_code 119 (.putfield 60) 3 := by decide +kernel
theorem d1_122 : dc prog_1_method_1_code 122 (.aload_n 0) 1 := by decide +kernel
theorem d1_123 : dc prog_1_method_1_code 123 (.invokevirtual 63) 3 := by decide +kernel
theorem d1_126 : dc prog_1_method_1_code 126 (.return_) 1 := by decide +kernel
abbrev y1 : MethodName := ⟨"RingLweKem", "<init>", "(III)V"⟩
theorem hy1 : y1.cls ≠ "java/lang/invoke/MethodHandle" ∧ y1.cls ≠ "java/lang/invoke/VarHandle" := by decide
theorem pd1 : parseMethodDescriptor y1.desc = some ⟨[.int, .int, .int], none⟩ := by decide +kernel
abbrev R1 : Room := { frames := 1, cells := 3, slots := 320, locals := 16 }
abbrev P1 (r : St) : Option Value → List OwnC → Prop := fun v H' => v = none ∧ H' = (Hb 0 r)
abbrev W1 (l : Launch) (Z : State) (n0 : Nat) (Q : Option Value → List OwnC → Prop) (k n pc : Nat) (L : List Slot) (S : List Value) (H : List OwnC) : Prop := WP l Z CN lay "RingLweKem" "<init>" prog_1_method_1_code 4 (none) R1 n0 0 Q k n pc L S H
def f_init (n : Nat) (p1 : Int32) (p2 : Int32) (p3 : Int32) : Option (St) :=
  lt (st0) fun s1 =>
  lt (sI s1 0 (9 : Int32)) fun s2 =>
  lt (sI s2 1 (10 : Int32)) fun s3 =>
  lt (sI s3 2 (11 : Int32)) fun s4 =>
  lt (sI s4 3 (12 : Int32)) fun s5 =>
  lt (sI s5 4 (13 : Int32)) fun s6 =>
  lt (sI s6 5 (14 : Int32)) fun s7 =>
  lt (sI s7 6 (15 : Int32)) fun s8 =>
  lt (sI s8 7 (16 : Int32)) fun s9 =>
  (f_clamp p1 (1 : Int32) (3 : Int32) s9).bind fun c10 =>
  lt (sI s9 8 c10) fun s11 =>
  (f_clamp p2 (1 : Int32) (9 : Int32) s11).bind fun c12 =>
  lt (sI s11 9 c12) fun s13 =>
  (f_clamp p3 (1 : Int32) (9 : Int32) s13).bind fun c14 =>
  lt (sI s13 10 c14) fun s15 =>
  lt (sI s15 11 (0 : Int32)) fun s16 =>
  lt (sI s16 12 (0 : Int32)) fun s17 =>
  (f_initTables n s17).bind fun c18 =>
  some c18
set_option maxRecDepth 65536 in
set_option maxHeartbeats 4000000 in
theorem ok1 (l : Launch) (Z : State) (a0 : Array Value) (hw : HW a0 Z) (n : Nat) (p1 : Int32) (p2 : Int32) (p3 : Int32) (r : St) (h : f_init n p1 p2 p3 = some r) : CS l Z CN lay y1 prog_1_method_1_code 4 (none) R1 0 [.ref 0, .int p1, .int p2, .int p3] [cO vs0] (P1 r) := by
  refine CS.of_wp pn_cls (leb rfl) fun n0 => ?_
  show W1 l Z n0 (P1 r) 0 0 0 [.val (.ref 0), .val (.int p1), .val (.int p2), .val (.int p3)] [] [cO vs0]
  unfold f_init at h
  refine WP.aloadN d1_0 rfl ?_
  refine WP.initO d1_1 (hw _ m_10) (hw _ m_11) (hw _ m_12) (leb rfl) (leb rfl) ?_
  refine WP.aloadN d1_4 rfl ?_
  refine WP.sipush (272 : Int32) d1_5 rfl ?_
  refine WP.newarray d1_8 (hw _ m_13) (by decide) (leb rfl) (leb rfl) (leb rfl) (Or.inl ⟨rfl, rfl⟩) ?_
  show W1 l Z n0 (P1 r) 1 272 10 [.val (.ref 0), .val (.int p1), .val (.int p2), .val (.int p3)] [.ref 1, .ref 0] ([cO [.null, .null, .null, .int (0 : Int32), .int (0 : Int32), .int (0 : Int32), .int (0 : Int32), .int (0 : Int32), .int (0 : Int32), .int (0 : Int32), .int (0 : Int32), .int (0 : Int32), .int (0 : Int32), .int (0 : Int32), .int (0 : Int32), .int (0 : Int32)], cI (List.replicate 272 0)] : List OwnC)
  refine WP.putR (ty := .array .int) (i := 0) (j := 0) (H' := ([cO [.ref 1, .null, .null, .int (0 : Int32), .int (0 : Int32), .int (0 : Int32), .int (0 : Int32), .int (0 : Int32), .int (0 : Int32), .int (0 : Int32), .int (0 : Int32), .int (0 : Int32), .int (0 : Int32), .int (0 : Int32), .int (0 : Int32), .int (0 : Int32)], cI (List.replicate 272 0)] : List OwnC)) d1_10 (hw _ m_14) (Or.inr ⟨(hw _ m_15), rfl, rfl⟩) (hw _ m_1) (hlay hw) (by decide) (fun _ => rfl) (fun _ => rfl) rfl rfl rfl (leb rfl) rfl ?_
  refine WP.aloadN d1_13 rfl ?_
  refine WP.bipush (32 : Int32) d1_14 rfl ?_
  refine WP.newarray d1_16 (hw _ m_13) (by decide) (leb rfl) (leb rfl) (leb rfl) (Or.inl ⟨rfl, rfl⟩) ?_
  show W1 l Z n0 (P1 r) 2 304 18 [.val (.ref 0), .val (.int p1), .val (.int p2), .val (.int p3)] [.ref 2, .ref 0] ([cO [.ref 1, .null, .null, .int (0 : Int32), .int (0 : Int32), .int (0 : Int32), .int (0 : Int32), .int (0 : Int32), .int (0 : Int32), .int (0 : Int32), .int (0 : Int32), .int (0 : Int32), .int (0 : Int32), .int (0 : Int32), .int (0 : Int32), .int (0 : Int32)], cI (List.replicate 272 0), cI (List.replicate 32 0)] : List OwnC)
  refine WP.putR (ty := .array .int) (i := 0) (j := 1) (H' := ([cO [.ref 1, .ref 2, .null, .int (0 : Int32), .int (0 : Int32), .int (0 : Int32), .int (0 : Int32), .int (0 : Int32), .int (0 : Int32), .int (0 : Int32), .int (0 : Int32), .int (0 : Int32), .int (0 : Int32), .int (0 : Int32), .int (0 : Int32), .int (0 : Int32)], cI (List.replicate 272 0), cI (List.replicate 32 0)] : List OwnC)) d1_18 (hw _ m_16) (Or.inr ⟨(hw _ m_17), rfl, rfl⟩) (hw _ m_1) (hlay hw) (by decide) (fun _ => rfl) (fun _ => rfl) rfl rfl rfl (leb rfl) rfl ?_
  refine WP.aloadN d1_21 rfl ?_
  refine WP.bipush (16 : Int32) d1_22 rfl ?_
  refine WP.newarray d1_24 (hw _ m_13) (by decide) (leb rfl) (leb rfl) (leb rfl) (Or.inl ⟨rfl, rfl⟩) ?_
  show W1 l Z n0 (P1 r) 3 320 26 [.val (.ref 0), .val (.int p1), .val (.int p2), .val (.int p3)] [.ref 3, .ref 0] ([cO [.ref 1, .ref 2, .null, .int (0 : Int32), .int (0 : Int32), .int (0 : Int32), .int (0 : Int32), .int (0 : Int32), .int (0 : Int32), .int (0 : Int32), .int (0 : Int32), .int (0 : Int32), .int (0 : Int32), .int (0 : Int32), .int (0 : Int32), .int (0 : Int32)], cI (List.replicate 272 0), cI (List.replicate 32 0), cI (List.replicate 16 0)] : List OwnC)
  obtain ⟨s1, es1, h⟩ := lt_e h
  refine WP.putR (ty := .array .int) (i := 0) (j := 2) (H' := (Hb 0 s1)) d1_26 (hw _ m_18) (Or.inr ⟨(hw _ m_19), rfl, rfl⟩) (hw _ m_1) (hlay hw) (by decide) (fun _ => rfl) (fun _ => rfl) rfl rfl rfl (leb rfl) (by subst es1; rfl) ?_
  refine WP.aloadN d1_29 rfl ?_
  refine WP.bipush (9 : Int32) d1_30 rfl ?_
  obtain ⟨s2, es2, h⟩ := lt_e h
  refine WP.putI (i := 0) (j := 3) (H' := (Hb 0 s2)) d1_32 (hw _ m_20) (Or.inr ⟨(hw _ m_21), rfl, rfl⟩) (hw _ m_1) (hlay hw) rfl rfl rfl (leb rfl) (by subst es2; rfl) ?_
  refine WP.aloadN d1_35 rfl ?_
  refine WP.bipush (10 : Int32) d1_36 rfl ?_
  obtain ⟨s3, es3, h⟩ := lt_e h
  refine WP.putI (i := 0) (j := 4) (H' := (Hb 0 s3)) d1_38 (hw _ m_22) (Or.inr ⟨(hw _ m_23), rfl, rfl⟩) (hw _ m_1) (hlay hw) rfl rfl rfl (leb rfl) (by subst es3; rfl) ?_
  refine WP.aloadN d1_41 rfl ?_
  refine WP.bipush (11 : Int32) d1_42 rfl ?_
  obtain ⟨s4, es4, h⟩ := lt_e h
  refine WP.putI (i := 0) (j := 5) (H' := (Hb 0 s4)) d1_44 (hw _ m_24) (Or.inr ⟨(hw _ m_25), rfl, rfl⟩) (hw _ m_1) (hlay hw) rfl rfl rfl (leb rfl) (by subst es4; rfl) ?_
  refine WP.aloadN d1_47 rfl ?_
  refine WP.bipush (12 : Int32) d1_48 rfl ?_
  obtain ⟨s5, es5, h⟩ := lt_e h
  refine WP.putI (i := 0) (j := 6) (H' := (Hb 0 s5)) d1_50 (hw _ m_26) (Or.inr ⟨(hw _ m_27), rfl, rfl⟩) (hw _ m_1) (hlay hw) rfl rfl rfl (leb rfl) (by subst es5; rfl) ?_
  refine WP.aloadN d1_53 rfl ?_
  refine WP.bipush (13 : Int32) d1_54 rfl ?_
  obtain ⟨s6, es6, h⟩ := lt_e h
  refine WP.putI (i := 0) (j := 7) (H' := (Hb 0 s6)) d1_56 (hw _ m_28) (Or.inr ⟨(hw _ m_29), rfl, rfl⟩) (hw _ m_1) (hlay hw) rfl rfl rfl (leb rfl) (by subst es6; rfl) ?_
  refine WP.aloadN d1_59 rfl ?_
  refine WP.bipush (14 : Int32) d1_60 rfl ?_
  obtain ⟨s7, es7, h⟩ := lt_e h
  refine WP.putI (i := 0) (j := 8) (H' := (Hb 0 s7)) d1_62 (hw _ m_30) (Or.inr ⟨(hw _ m_31), rfl, rfl⟩) (hw _ m_1) (hlay hw) rfl rfl rfl (leb rfl) (by subst es7; rfl) ?_
  refine WP.aloadN d1_65 rfl ?_
  refine WP.bipush (15 : Int32) d1_66 rfl ?_
  obtain ⟨s8, es8, h⟩ := lt_e h
  refine WP.putI (i := 0) (j := 9) (H' := (Hb 0 s8)) d1_68 (hw _ m_32) (Or.inr ⟨(hw _ m_33), rfl, rfl⟩) (hw _ m_1) (hlay hw) rfl rfl rfl (leb rfl) (by subst es8; rfl) ?_
  refine WP.aloadN d1_71 rfl ?_
  refine WP.bipush (16 : Int32) d1_72 rfl ?_
  obtain ⟨s9, es9, h⟩ := lt_e h
  refine WP.putI (i := 0) (j := 10) (H' := (Hb 0 s9)) d1_74 (hw _ m_34) (Or.inr ⟨(hw _ m_35), rfl, rfl⟩) (hw _ m_1) (hlay hw) rfl rfl rfl (leb rfl) (by subst es9; rfl) ?_
  refine WP.aloadN d1_77 rfl ?_
  refine WP.aloadN d1_78 rfl ?_
  refine WP.iloadN d1_79 rfl ?_
  refine WP.iconst (1 : Int32) d1_80 rfl ?_
  refine WP.iconst (3 : Int32) d1_81 rfl ?_
  obtain ⟨c10, hc10, h⟩ := Option.bind_eq_some_iff.mp h
  refine WP.callP (i := 0) (y := y2) (as := [.int p1, .int (1 : Int32), .int (3 : Int32)]) (S := [.ref 0]) d1_82 (hw _ m_36) (hw _ m_38) (hw _ m_1) (hw _ m_37) (hw _ m_39) (hw _ m_2) hy2 rfl (ok2 l Z a0 hw p1 (1 : Int32) (3 : Int32) s9 _ hc10) rfl (lenOf pd2 rfl) (leb rfl) (leb rfl) (leb rfl) (leb rfl) ?_
  rintro _ _ ⟨rfl, rfl⟩
  show W1 l Z n0 (P1 r) 3 320 85 [.val (.ref 0), .val (.int p1), .val (.int p2), .val (.int p3)] [.int c10, .ref 0] (Hb 0 s9)
  obtain ⟨s11, es11, h⟩ := lt_e h
  refine WP.putI (i := 0) (j := 11) (H' := (Hb 0 s11)) d1_85 (hw _ m_40) (Or.inl (hw _ m_41)) (hw _ m_1) (hlay hw) rfl rfl rfl (leb rfl) (by subst es11; rfl) ?_
  refine WP.aloadN d1_88 rfl ?_
  refine WP.aloadN d1_89 rfl ?_
  refine WP.iloadN d1_90 rfl ?_
  refine WP.iconst (1 : Int32) d1_91 rfl ?_
  refine WP.bipush (9 : Int32) d1_92 rfl ?_
  obtain ⟨c12, hc12, h⟩ := Option.bind_eq_some_iff.mp h
  refine WP.callP (i := 0) (y := y2) (as := [.int p2, .int (1 : Int32), .int (9 : Int32)]) (S := [.ref 0]) d1_94 (hw _ m_36) (hw _ m_38) (hw _ m_1) (hw _ m_37) (hw _ m_39) (hw _ m_2) hy2 rfl (ok2 l Z a0 hw p2 (1 : Int32) (9 : Int32) s11 _ hc12) rfl (lenOf pd2 rfl) (leb rfl) (leb rfl) (leb rfl) (leb rfl) ?_
  rintro _ _ ⟨rfl, rfl⟩
  show W1 l Z n0 (P1 r) 3 320 97 [.val (.ref 0), .val (.int p1), .val (.int p2), .val (.int p3)] [.int c12, .ref 0] (Hb 0 s11)
  obtain ⟨s13, es13, h⟩ := lt_e h
  refine WP.putI (i := 0) (j := 12) (H' := (Hb 0 s13)) d1_97 (hw _ m_42) (Or.inl (hw _ m_43)) (hw _ m_1) (hlay hw) rfl rfl rfl (leb rfl) (by subst es13; rfl) ?_
  refine WP.aloadN d1_100 rfl ?_
  refine WP.aloadN d1_101 rfl ?_
  refine WP.iloadN d1_102 rfl ?_
  refine WP.iconst (1 : Int32) d1_103 rfl ?_
  refine WP.bipush (9 : Int32) d1_104 rfl ?_
  obtain ⟨c14, hc14, h⟩ := Option.bind_eq_some_iff.mp h
  refine WP.callP (i := 0) (y := y2) (as := [.int p3, .int (1 : Int32), .int (9 : Int32)]) (S := [.ref 0]) d1_106 (hw _ m_36) (hw _ m_38) (hw _ m_1) (hw _ m_37) (hw _ m_39) (hw _ m_2) hy2 rfl (ok2 l Z a0 hw p3 (1 : Int32) (9 : Int32) s13 _ hc14) rfl (lenOf pd2 rfl) (leb rfl) (leb rfl) (leb rfl) (leb rfl) ?_
  rintro _ _ ⟨rfl, rfl⟩
  show W1 l Z n0 (P1 r) 3 320 109 [.val (.ref 0), .val (.int p1), .val (.int p2), .val (.int p3)] [.int c14, .ref 0] (Hb 0 s13)
  obtain ⟨s15, es15, h⟩ := lt_e h
  refine WP.putI (i := 0) (j := 13) (H' := (Hb 0 s15)) d1_109 (hw _ m_44) (Or.inl (hw _ m_45)) (hw _ m_1) (hlay hw) rfl rfl rfl (leb rfl) (by subst es15; rfl) ?_
  refine WP.aloadN d1_112 rfl ?_
  refine WP.iconst (0 : Int32) d1_113 rfl ?_
  obtain ⟨s16, es16, h⟩ := lt_e h
  refine WP.putI (i := 0) (j := 14) (H' := (Hb 0 s16)) d1_114 (hw _ m_46) (Or.inl (hw _ m_47)) (hw _ m_1) (hlay hw) rfl rfl rfl (leb rfl) (by subst es16; rfl) ?_
  refine WP.aloadN d1_117 rfl ?_
  refine WP.iconst (0 : Int32) d1_118 rfl ?_
  obtain ⟨s17, es17, h⟩ := lt_e h
  refine WP.putI (i := 0) (j := 15) (H' := (Hb 0 s17)) d1_119 (hw _ m_48) (Or.inl (hw _ m_49)) (hw _ m_1) (hlay hw) rfl rfl rfl (leb rfl) (by subst es17; rfl) ?_
  refine WP.aloadN d1_122 rfl ?_
  obtain ⟨c18, hc18, h⟩ := Option.bind_eq_some_iff.mp h
  refine WP.callP (i := 0) (y := y3) (as := []) (S := []) d1_123 (hw _ m_50) (hw _ m_52) (hw _ m_1) (hw _ m_51) (hw _ m_53) (hw _ m_2) hy3 rfl (ok3 l Z a0 hw n s17 _ hc18) rfl (lenOf pd3 rfl) (leb rfl) (leb rfl) (leb rfl) (leb rfl) ?_
  rintro _ _ ⟨rfl, rfl⟩
  show W1 l Z n0 (P1 r) 3 320 126 [.val (.ref 0), .val (.int p1), .val (.int p2), .val (.int p3)] [] (Hb 0 c18)
  cases h
  exact WP.vreturn d1_126 rfl (leb rfl) (leb rfl) ⟨rfl, rfl⟩
theorem d4_0 : dc prog_1_method_15_code 0 (.iload_n 1) 1 := by decide +kernel
theorem d4_1 : dc prog_1_method_15_code 1 (.ifCond .ne 8) 3 := by decide +kernel
theorem d4_4 : dc prog_1_method_15_code 4 (.aload_n 0) 1 := by decide +kernel
theorem d4_5 : dc prog_1_method_15_code 5 (.getfield 48) 3 := by decide +kernel
theorem d4_8 : dc prog_1_method_15_code 8 (.ireturn) 1 := by decide +kernel
theorem d4_9 : dc prog_1_method_15_code 9 (.iload_n 1) 1 := by decide +kernel
theorem d4_10 : dc prog_1_method_15_code 10 (.iconst 1) 1 := by decide +kernel
theorem d4_11 : dc prog_1_method_15_code 11 (.if_icmp .ne 8) 3 := by decide +kernel
theorem d4_14 : dc prog_1_method_15_code 14 (.aload_n 0) 1 := by decide +kernel
theorem d4_15 : dc prog_1_method_15_code 15 (.getfield 51) 3 := by decide +kernel
theorem d4_18 : dc prog_1_method_15_code 18 (.ireturn) 1 := by decide +kernel
theorem d4_19 : dc prog_1_method_15_code 19 (.iload_n 1) 1 := by decide +kernel
theorem d4_20 : dc prog_1_method_15_code 20 (.iconst 2) 1 := by decide +kernel
theorem d4_21 : dc prog_1_method_15_code 21 (.if_icmp .ne 8) 3 := by decide +kernel
theorem d4_24 : dc prog_1_method_15_code 24 (.aload_n 0) 1 := by decide +kernel
theorem d4_25 : dc prog_1_method_15_code 25 (.getfield 54) 3 := by decide +kernel
theorem d4_28 : dc prog_1_method_15_code 28 (.ireturn) 1 := by decide +kernel
theorem d4_29 : dc prog_1_method_15_code 29 (.iconst (-1)) 1 := by decide +kernel
theorem d4_30 : dc prog_1_method_15_code 30 (.ireturn) 1 := by decide +kernel
abbrev y4 : MethodName := ⟨"RingLweKem", "param", "(I)I"⟩
theorem hy4 : y4.cls ≠ "java/lang/invoke/MethodHandle" ∧ y4.cls ≠ "java/lang/invoke/VarHandle" := by decide
theorem pd4 : parseMethodDescriptor y4.desc = some ⟨[.int], some .int⟩ := by decide +kernel
abbrev R4 : Room := { frames := 0, cells := 0, slots := 0, locals := 0 }
abbrev P4 (s : St) (r : Int32) : Option Value → List OwnC → Prop := fun v H' => v = some (.int r) ∧ H' = (Hb 0 s)
abbrev W4 (l : Launch) (Z : State) (n0 : Nat) (Q : Option Value → List OwnC → Prop) (k n pc : Nat) (L : List Slot) (S : List Value) (H : List OwnC) : Prop := WP l Z CN lay "RingLweKem" "param" prog_1_method_15_code 2 (some FieldType.int) R4 n0 0 Q k n pc L S H
def f_param (p1 : Int32) (s : St) : Option (Int32) :=
  if p1 = 0 then
    some (gI s 8)
  else
    if p1 = (1 : Int32) then
      some (gI s 9)
    else
      if p1 = (2 : Int32) then
        some (gI s 10)
      else
        some (-1 : Int32)
set_option maxRecDepth 65536 in
set_option maxHeartbeats 4000000 in
theorem ok4 (l : Launch) (Z : State) (a0 : Array Value) (hw : HW a0 Z) (p1 : Int32) (s : St) (r : Int32) (h : f_param p1 s = some r) : CS l Z CN lay y4 prog_1_method_15_code 2 (some FieldType.int) R4 0 [.ref 0, .int p1] (Hb 0 s) (P4 s r) := by
  refine CS.of_wp pn_cls (leb rfl) fun n0 => ?_
  show W4 l Z n0 (P4 s r) 0 0 0 [.val (.ref 0), .val (.int p1)] [] (Hb 0 s)
  unfold f_param at h
  refine WP.iloadN d4_0 rfl ?_
  rcases ite_e h with ⟨hc1, h⟩ | ⟨hc1, h⟩
  ·
    refine WP.ifN d4_1 (XT.i0_ne_f hc1) ?_
    refine WP.aloadN d4_4 rfl ?_
    refine WP.getfield (i := 0) (j := 11) d4_5 (hw _ m_40) rfl rfl rfl ?_
    cases h
    exact WP.ireturn d4_8 rfl (leb rfl) (leb rfl) ⟨rfl, rfl⟩
  ·
    refine WP.ifY (pc' := 9) d4_1 (XT.i0_ne_t hc1) (by decide) rfl ?_
    refine WP.iloadN d4_9 rfl ?_
    refine WP.iconst (1 : Int32) d4_10 rfl ?_
    rcases ite_e h with ⟨hc2, h⟩ | ⟨hc2, h⟩
    ·
      refine WP.icmpN d4_11 (XT.ii_ne_f hc2) ?_
      refine WP.aloadN d4_14 rfl ?_
      refine WP.getfield (i := 0) (j := 12) d4_15 (hw _ m_42) rfl rfl rfl ?_
      cases h
      exact WP.ireturn d4_18 rfl (leb rfl) (leb rfl) ⟨rfl, rfl⟩
    ·
      refine WP.icmpY (pc' := 19) d4_11 (XT.ii_ne_t hc2) (by decide) rfl ?_
      refine WP.iloadN d4_19 rfl ?_
      refine WP.iconst (2 : Int32) d4_20 rfl ?_
      rcases ite_e h with ⟨hc3, h⟩ | ⟨hc3, h⟩
      ·
        refine WP.icmpN d4_21 (XT.ii_ne_f hc3) ?_
        refine WP.aloadN d4_24 rfl ?_
        refine WP.getfield (i := 0) (j := 13) d4_25 (hw _ m_44) rfl rfl rfl ?_
        cases h
        exact WP.ireturn d4_28 rfl (leb rfl) (leb rfl) ⟨rfl, rfl⟩
      ·
        refine WP.icmpY (pc' := 29) d4_21 (XT.ii_ne_t hc3) (by decide) rfl ?_
        refine WP.iconst (-1 : Int32) d4_29 rfl ?_
        cases h
        exact WP.ireturn d4_30 rfl (leb rfl) (leb rfl) ⟨rfl, rfl⟩
theorem d5_0 : dc prog_1_method_2_code 0 (.aload_n 0) 1 := by decide +kernel
theorem d5_1 : dc prog_1_method_2_code 1 (.iload_n 1) 1 := by decide +kernel
theorem d5_2 : dc prog_1_method_2_code 2 (.putfield 57) 3 := by decide +kernel
theorem d5_5 : dc prog_1_method_2_code 5 (.return_) 1 := by decide +kernel
abbrev y5 : MethodName := ⟨"RingLweKem", "seed", "(I)V"⟩
theorem hy5 : y5.cls ≠ "java/lang/invoke/MethodHandle" ∧ y5.cls ≠ "java/lang/invoke/VarHandle" := by decide
theorem pd5 : parseMethodDescriptor y5.desc = some ⟨[.int], none⟩ := by decide +kernel
abbrev R5 : Room := { frames := 0, cells := 0, slots := 0, locals := 0 }
abbrev P5 (r : St) : Option Value → List OwnC → Prop := fun v H' => v = none ∧ H' = (Hb 0 r)
abbrev W5 (l : Launch) (Z : State) (n0 : Nat) (Q : Option Value → List OwnC → Prop) (k n pc : Nat) (L : List Slot) (S : List Value) (H : List OwnC) : Prop := WP l Z CN lay "RingLweKem" "seed" prog_1_method_2_code 2 (none) R5 n0 0 Q k n pc L S H
def f_seed (p1 : Int32) (s : St) : Option (St) :=
  lt (sI s 11 p1) fun s1 =>
  some s1
set_option maxRecDepth 65536 in
set_option maxHeartbeats 4000000 in
theorem ok5 (l : Launch) (Z : State) (a0 : Array Value) (hw : HW a0 Z) (p1 : Int32) (s : St) (r : St) (h : f_seed p1 s = some r) : CS l Z CN lay y5 prog_1_method_2_code 2 (none) R5 0 [.ref 0, .int p1] (Hb 0 s) (P5 r) := by
  refine CS.of_wp pn_cls (leb rfl) fun n0 => ?_
  show W5 l Z n0 (P5 r) 0 0 0 [.val (.ref 0), .val (.int p1)] [] (Hb 0 s)
  unfold f_seed at h
  refine WP.aloadN d5_0 rfl ?_
  refine WP.iloadN d5_1 rfl ?_
  obtain ⟨s1, es1, h⟩ := lt_e h
  refine WP.putI (i := 0) (j := 14) (H' := (Hb 0 s1)) d5_2 (hw _ m_46) (Or.inl (hw _ m_47)) (hw _ m_1) (hlay hw) rfl rfl rfl (leb rfl) (by subst es1; rfl) ?_
  cases h
  exact WP.vreturn d5_5 rfl (leb rfl) (leb rfl) ⟨rfl, rfl⟩
theorem d8_0 : dc prog_1_method_19_code 0 (.aload_n 0) 1 := by decide +kernel
theorem d8_1 : dc prog_1_method_19_code 1 (.aload_n 0) 1 := by decide +kernel
theorem d8_2 : dc prog_1_method_19_code 2 (.getfield 57) 3 := by decide +kernel
theorem d8_5 : dc prog_1_method_19_code 5 (.ldc 111) 2 := by decide +kernel
theorem d8_7 : dc prog_1_method_19_code 7 (.imul) 1 := by decide +kernel
theorem d8_8 : dc prog_1_method_19_code 8 (.sipush 12345) 3 := by decide +kernel
theorem d8_11 : dc prog_1_method_19_code 11 (.iadd) 1 := by decide +kernel
theorem d8_12 : dc prog_1_method_19_code 12 (.putfield 57) 3 := by decide +kernel
theorem d8_15 : dc prog_1_method_19_code 15 (.aload_n 0) 1 := by decide +kernel
theorem d8_16 : dc prog_1_method_19_code 16 (.getfield 57) 3 := by decide +kernel
theorem d8_19 : dc prog_1_method_19_code 19 (.bipush 16) 2 := by decide +kernel
theorem d8_21 : dc prog_1_method_19_code 21 (.iushr) 1 := by decide +kernel
theorem d8_22 : dc prog_1_method_19_code 22 (.ldc 112) 2 := by decide +kernel
theorem d8_24 : dc prog_1_method_19_code 24 (.iand) 1 := by decide +kernel
theorem d8_25 : dc prog_1_method_19_code 25 (.ireturn) 1 := by decide +kernel
abbrev y8 : MethodName := ⟨"RingLweKem", "draw", "()I"⟩
theorem hy8 : y8.cls ≠ "java/lang/invoke/MethodHandle" ∧ y8.cls ≠ "java/lang/invoke/VarHandle" := by decide
theorem pd8 : parseMethodDescriptor y8.desc = some ⟨[], some .int⟩ := by decide +kernel
abbrev R8 : Room := { frames := 0, cells := 0, slots := 0, locals := 0 }
abbrev P8 (r : Int32 × St) : Option Value → List OwnC → Prop := fun v H' => v = some (.int r.1) ∧ H' = (Hb 0 r.2)
abbrev W8 (l : Launch) (Z : State) (n0 : Nat) (Q : Option Value → List OwnC → Prop) (k n pc : Nat) (L : List Slot) (S : List Value) (H : List OwnC) : Prop := WP l Z CN lay "RingLweKem" "draw" prog_1_method_19_code 1 (some FieldType.int) R8 n0 0 Q k n pc L S H
def f_draw (s : St) : Option (Int32 × St) :=
  lt (sI s 11 (((gI s 11) * (1103515245 : Int32)) + (12345 : Int32))) fun s1 =>
  some ((XT.ushr (gI s1 11) (16 : Int32)) &&& (65535 : Int32), s1)
set_option maxRecDepth 65536 in
set_option maxHeartbeats 4000000 in
theorem ok8 (l : Launch) (Z : State) (a0 : Array Value) (hw : HW a0 Z) (s : St) (r : Int32 × St) (h : f_draw s = some r) : CS l Z CN lay y8 prog_1_method_19_code 1 (some FieldType.int) R8 0 [.ref 0] (Hb 0 s) (P8 r) := by
  refine CS.of_wp pn_cls (leb rfl) fun n0 => ?_
  show W8 l Z n0 (P8 r) 0 0 0 [.val (.ref 0)] [] (Hb 0 s)
  unfold f_draw at h
  refine WP.aloadN d8_0 rfl ?_
  refine WP.aloadN d8_1 rfl ?_
  refine WP.getfield (i := 0) (j := 14) d8_2 (hw _ m_46) rfl rfl rfl ?_
  refine WP.ldc d8_5 (hw _ m_77) ?_
  refine WP.imul d8_7 ?_
  refine WP.sipush (12345 : Int32) d8_8 rfl ?_
  refine WP.iadd d8_11 ?_
  obtain ⟨s1, es1, h⟩ := lt_e h
  refine WP.putI (i := 0) (j := 14) (H' := (Hb 0 s1)) d8_12 (hw _ m_46) (Or.inl (hw _ m_47)) (hw _ m_1) (hlay hw) rfl rfl rfl (leb rfl) (by subst es1; rfl) ?_
  refine WP.aloadN d8_15 rfl ?_
  refine WP.getfield (i := 0) (j := 14) d8_16 (hw _ m_46) rfl rfl rfl ?_
  refine WP.bipush (16 : Int32) d8_19 rfl ?_
  refine WP.iushr d8_21 ?_
  refine WP.ldc d8_22 (hw _ m_78) ?_
  refine WP.iand d8_24 ?_
  cases h
  exact WP.ireturn d8_25 rfl (leb rfl) (leb rfl) ⟨rfl, rfl⟩
theorem d7_0 : dc prog_1_method_21_code 0 (.iload_n 1) 1 := by decide +kernel
theorem d7_1 : dc prog_1_method_21_code 1 (.bipush 16) 2 := by decide +kernel
theorem d7_3 : dc prog_1_method_21_code 3 (.imul) 1 := by decide +kernel
theorem d7_4 : dc prog_1_method_21_code 4 (.istore_n 2) 1 := by decide +kernel
theorem d7_5 : dc prog_1_method_21_code 5 (.iconst 0) 1 := by decide +kernel
theorem d7_6 : dc prog_1_method_21_code 6 (.istore_n 3) 1 := by decide +kernel
theorem d7_7 : dc prog_1_method_21_code 7 (.iload_n 3) 1 := by decide +kernel
theorem d7_8 : dc prog_1_method_21_code 8 (.bipush 16) 2 := by decide +kernel
theorem d7_10 : dc prog_1_method_21_code 10 (.if_icmp .ge 29) 3 := by decide +kernel
theorem d7_13 : dc prog_1_method_21_code 13 (.aload_n 0) 1 := by decide +kernel
theorem d7_14 : dc prog_1_method_21_code 14 (.invokevirtual 66) 3 := by decide +kernel
theorem d7_17 : dc prog_1_method_21_code 17 (.istore 4) 2 := by decide +kernel
theorem d7_19 : dc prog_1_method_21_code 19 (.aload_n 0) 1 := by decide +kernel
theorem d7_20 : dc prog_1_method_21_code 20 (.getfield 7) 3 := by decide +kernel
theorem d7_23 : dc prog_1_method_21_code 23 (.iload_n 2) 1 := by decide +kernel
theorem d7_24 : dc prog_1_method_21_code 24 (.iload_n 3) 1 := by decide +kernel
theorem d7_25 : dc prog_1_method_21_code 25 (.iadd) 1 := by decide +kernel
theorem d7_26 : dc prog_1_method_21_code 26 (.iload 4) 2 := by decide +kernel
theorem d7_28 : dc prog_1_method_21_code 28 (.sipush 257) 3 := by decide +kernel
theorem d7_31 : dc prog_1_method_21_code 31 (.irem) 1 := by decide +kernel
theorem d7_32 : dc prog_1_method_21_code 32 (.iastore) 1 := by decide +kernel
theorem d7_33 : dc prog_1_method_21_code 33 (.iinc 3 1) 3 := by decide +kernel
theorem d7_36 : dc prog_1_method_21_code 36 (.goto (-29)) 3 := by decide +kernel
theorem d7_39 : dc prog_1_method_21_code 39 (.return_) 1 := by decide +kernel
abbrev y7 : MethodName := ⟨"RingLweKem", "drawUniform", "(I)V"⟩
theorem hy7 : y7.cls ≠ "java/lang/invoke/MethodHandle" ∧ y7.cls ≠ "java/lang/invoke/VarHandle" := by decide
theorem pd7 : parseMethodDescriptor y7.desc = some ⟨[.int], none⟩ := by decide +kernel
abbrev R7 : Room := { frames := 1, cells := 0, slots := 0, locals := 12 }
abbrev P7 (r : St) : Option Value → List OwnC → Prop := fun v H' => v = none ∧ H' = (Hb 0 r)
abbrev W7 (l : Launch) (Z : State) (n0 : Nat) (Q : Option Value → List OwnC → Prop) (k n pc : Nat) (L : List Slot) (S : List Value) (H : List OwnC) : Prop := WP l Z CN lay "RingLweKem" "drawUniform" prog_1_method_21_code 5 (none) R7 n0 0 Q k n pc L S H
def g_drawUniform_7 (k7 : Int32 → Int32 → St → Option (St)) (n : Nat) (v2 : Int32) (v3 : Int32) (s : St) : Option (St) :=
  if v3 < (16 : Int32) then
    (f_draw s).bind fun c2 =>
    (wrA c2.2 0 (v2 + v3) (c2.1 % (257 : Int32))).bind fun s3 =>
    lt (v3 + (1 : Int32)) fun x4 =>
    k7 v2 x4 s3
  else
    some s
set_option maxRecDepth 65536 in
set_option maxHeartbeats 4000000 in
theorem okg7_7 (l : Launch) (Z : State) (a0 : Array Value) (hw : HW a0 Z) (n0 : Nat) (k7 : Int32 → Int32 → St → Option (St)) (hk7 : ∀ (v2 : Int32) (v3 : Int32) (s : St) (r : St), k7 v2 v3 s = some r → W7 l Z n0 (P7 r) 0 0 7 [.val (.ref 0), .unset, .val (.int v2), .val (.int v3), .unset] [] (Hb 0 s)) (n : Nat) (v2 : Int32) (v3 : Int32) (s : St) (r : St) (h : g_drawUniform_7 k7 n v2 v3 s = some r) : W7 l Z n0 (P7 r) 0 0 7 [.val (.ref 0), .unset, .val (.int v2), .val (.int v3), .unset] [] (Hb 0 s) := by
  unfold g_drawUniform_7 at h
  refine WP.iloadN d7_7 rfl ?_
  refine WP.bipush (16 : Int32) d7_8 rfl ?_
  rcases ite_e h with ⟨hc1, h⟩ | ⟨hc1, h⟩
  ·
    refine WP.icmpN d7_10 (XT.ii_ge_f hc1) ?_
    refine WP.aloadN d7_13 rfl ?_
    obtain ⟨c2, hc2, h⟩ := Option.bind_eq_some_iff.mp h
    refine WP.callP (i := 0) (y := y8) (as := []) (S := []) d7_14 (hw _ m_73) (hw _ m_75) (hw _ m_1) (hw _ m_74) (hw _ m_76) (hw _ m_2) hy8 rfl (ok8 l Z a0 hw s _ hc2) rfl (lenOf pd8 rfl) (leb rfl) (leb rfl) (leb rfl) (leb rfl) ?_
    rintro _ _ ⟨rfl, rfl⟩
    show W7 l Z n0 (P7 r) 0 0 17 [.val (.ref 0), .unset, .val (.int v2), .val (.int v3), .unset] [.int c2.1] (Hb 0 c2.2)
    refine WP.istore (L' := [.val (.ref 0), .unset, .val (.int v2), .val (.int v3), .val (.int c2.1)]) d7_17 (leb rfl) rfl ?_
    refine WP.aloadN d7_19 rfl ?_
    refine WP.getfield (i := 0) (j := 0) d7_20 (hw _ m_14) rfl rfl rfl ?_
    refine WP.iloadN d7_23 rfl ?_
    refine WP.iloadN d7_24 rfl ?_
    refine WP.iadd d7_25 ?_
    refine WP.iload d7_26 rfl ?_
    refine WP.sipush (257 : Int32) d7_28 rfl ?_
    refine WP.irem d7_31 (by decide) ?_
    obtain ⟨s3, hs3, h⟩ := Option.bind_eq_some_iff.mp h
    obtain ⟨ys3, gs3, es3⟩ := wrA_e hs3
    refine WP.iastore (i := 1) (xs := gA c2.2 0) (H' := (Hb 0 s3)) d7_32 rfl (leb rfl) gs3 (by subst es3; rfl) ?_
    obtain ⟨x4, ex4, h⟩ := lt_e h
    refine WP.iinc (L' := [.val (.ref 0), .unset, .val (.int v2), .val (.int x4), .val (.int c2.1)]) (1 : Int32) d7_33 rfl rfl (by subst ex4; rfl) ?_
    refine WP.goto (pc' := 7) d7_36 (by decide) rfl ?_
    exact WP.weak (L' := [.val (.ref 0), .unset, .val (.int v2), .val (.int x4), .unset]) ⟨rfl, rfl, rfl, trivial⟩ (hk7 v2 x4 s3 _ h)
  ·
    refine WP.icmpY (pc' := 39) d7_10 (XT.ii_ge_t hc1) (by decide) rfl ?_
    cases h
    exact WP.vreturn d7_39 rfl (leb rfl) (leb rfl) ⟨rfl, rfl⟩
def f_drawUniform_7 : Nat → Int32 → Int32 → St → Option (St)
  | 0 => fun _ _ _ => none
  | n + 1 => g_drawUniform_7 (f_drawUniform_7 n) n
theorem ok7_7 (l : Launch) (Z : State) (a0 : Array Value) (hw : HW a0 Z) (n0 : Nat) : ∀ (n : Nat) (v2 : Int32) (v3 : Int32) (s : St) (r : St), f_drawUniform_7 n v2 v3 s = some r → W7 l Z n0 (P7 r) 0 0 7 [.val (.ref 0), .unset, .val (.int v2), .val (.int v3), .unset] [] (Hb 0 s)
  | 0, v2, v3, s, r, h => nomatch (show none = some r from h)
  | n + 1, v2, v3, s, r, h => okg7_7 l Z a0 hw n0 _ (ok7_7 l Z a0 hw n0 n) n v2 v3 s r h
def f_drawUniform (n : Nat) (p1 : Int32) (s : St) : Option (St) :=
  lt (p1 * (16 : Int32)) fun x1 =>
  f_drawUniform_7 n x1 (0 : Int32) s
set_option maxRecDepth 65536 in
set_option maxHeartbeats 4000000 in
theorem ok7 (l : Launch) (Z : State) (a0 : Array Value) (hw : HW a0 Z) (n : Nat) (p1 : Int32) (s : St) (r : St) (h : f_drawUniform n p1 s = some r) : CS l Z CN lay y7 prog_1_method_21_code 5 (none) R7 0 [.ref 0, .int p1] (Hb 0 s) (P7 r) := by
  refine CS.of_wp pn_cls (leb rfl) fun n0 => ?_
  show W7 l Z n0 (P7 r) 0 0 0 [.val (.ref 0), .val (.int p1), .unset, .unset, .unset] [] (Hb 0 s)
  unfold f_drawUniform at h
  refine WP.iloadN d7_0 rfl ?_
  refine WP.bipush (16 : Int32) d7_1 rfl ?_
  refine WP.imul d7_3 ?_
  obtain ⟨x1, ex1, h⟩ := lt_e h
  refine WP.istoreN (L' := [.val (.ref 0), .val (.int p1), .val (.int x1), .unset, .unset]) d7_4 (leb rfl) (by subst ex1; rfl) ?_
  refine WP.iconst (0 : Int32) d7_5 rfl ?_
  refine WP.istoreN (L' := [.val (.ref 0), .val (.int p1), .val (.int x1), .val (.int (0 : Int32)), .unset]) d7_6 (leb rfl) rfl ?_
  exact WP.weak (L' := [.val (.ref 0), .unset, .val (.int x1), .val (.int (0 : Int32)), .unset]) ⟨rfl, rfl, rfl, trivial⟩ (ok7_7 l Z a0 hw n0 n x1 (0 : Int32) s _ h)
theorem d10_0 : dc prog_1_method_20_code 0 (.aload_n 0) 1 := by decide +kernel
theorem d10_1 : dc prog_1_method_20_code 1 (.invokevirtual 66) 3 := by decide +kernel
theorem d10_4 : dc prog_1_method_20_code 4 (.istore_n 1) 1 := by decide +kernel
theorem d10_5 : dc prog_1_method_20_code 5 (.iconst 0) 1 := by decide +kernel
theorem d10_6 : dc prog_1_method_20_code 6 (.istore_n 2) 1 := by decide +kernel
theorem d10_7 : dc prog_1_method_20_code 7 (.iconst 0) 1 := by decide +kernel
theorem d10_8 : dc prog_1_method_20_code 8 (.istore_n 3) 1 := by decide +kernel
theorem d10_9 : dc prog_1_method_20_code 9 (.iload_n 3) 1 := by decide +kernel
theorem d10_10 : dc prog_1_method_20_code 10 (.iconst 3) 1 := by decide +kernel
theorem d10_11 : dc prog_1_method_20_code 11 (.if_icmp .ge 38) 3 := by decide +kernel
theorem d10_14 : dc prog_1_method_20_code 14 (.iload_n 3) 1 := by decide +kernel
theorem d10_15 : dc prog_1_method_20_code 15 (.aload_n 0) 1 := by decide +kernel
theorem d10_16 : dc prog_1_method_20_code 16 (.getfield 48) 3 := by decide +kernel
theorem d10_19 : dc prog_1_method_20_code 19 (.if_icmp .ge 24) 3 := by decide +kernel
theorem d10_22 : dc prog_1_method_20_code 22 (.iload_n 2) 1 := by decide +kernel
theorem d10_23 : dc prog_1_method_20_code 23 (.iload_n 1) 1 := by decide +kernel
theorem d10_24 : dc prog_1_method_20_code 24 (.iload_n 3) 1 := by decide +kernel
theorem d10_25 : dc prog_1_method_20_code 25 (.iushr) 1 := by decide +kernel
theorem d10_26 : dc prog_1_method_20_code 26 (.iconst 1) 1 := by decide +kernel
theorem d10_27 : dc prog_1_method_20_code 27 (.iand) 1 := by decide +kernel
theorem d10_28 : dc prog_1_method_20_code 28 (.iadd) 1 := by decide +kernel
theorem d10_29 : dc prog_1_method_20_code 29 (.istore_n 2) 1 := by decide +kernel
theorem d10_30 : dc prog_1_method_20_code 30 (.iload_n 2) 1 := by decide +kernel
theorem d10_31 : dc prog_1_method_20_code 31 (.iload_n 1) 1 := by decide +kernel
theorem d10_32 : dc prog_1_method_20_code 32 (.iload_n 3) 1 := by decide +kernel
theorem d10_33 : dc prog_1_method_20_code 33 (.aload_n 0) 1 := by decide +kernel
theorem d10_34 : dc prog_1_method_20_code 34 (.getfield 48) 3 := by decide +kernel
theorem d10_37 : dc prog_1_method_20_code 37 (.iadd) 1 := by decide +kernel
theorem d10_38 : dc prog_1_method_20_code 38 (.iushr) 1 := by decide +kernel
theorem d10_39 : dc prog_1_method_20_code 39 (.iconst 1) 1 := by decide +kernel
theorem d10_40 : dc prog_1_method_20_code 40 (.iand) 1 := by decide +kernel
theorem d10_41 : dc prog_1_method_20_code 41 (.isub) 1 := by decide +kernel
theorem d10_42 : dc prog_1_method_20_code 42 (.istore_n 2) 1 := by decide +kernel
theorem d10_43 : dc prog_1_method_20_code 43 (.iinc 3 1) 3 := by decide +kernel
theorem d10_46 : dc prog_1_method_20_code 46 (.goto (-37)) 3 := by decide +kernel
theorem d10_49 : dc prog_1_method_20_code 49 (.iload_n 2) 1 := by decide +kernel
theorem d10_50 : dc prog_1_method_20_code 50 (.ireturn) 1 := by decide +kernel
abbrev y10 : MethodName := ⟨"RingLweKem", "noise", "()I"⟩
theorem hy10 : y10.cls ≠ "java/lang/invoke/MethodHandle" ∧ y10.cls ≠ "java/lang/invoke/VarHandle" := by decide
theorem pd10 : parseMethodDescriptor y10.desc = some ⟨[], some .int⟩ := by decide +kernel
abbrev R10 : Room := { frames := 1, cells := 0, slots := 0, locals := 12 }
abbrev P10 (r : Int32 × St) : Option Value → List OwnC → Prop := fun v H' => v = some (.int r.1) ∧ H' = (Hb 0 r.2)
abbrev W10 (l : Launch) (Z : State) (n0 : Nat) (Q : Option Value → List OwnC → Prop) (k n pc : Nat) (L : List Slot) (S : List Value) (H : List OwnC) : Prop := WP l Z CN lay "RingLweKem" "noise" prog_1_method_20_code 4 (some FieldType.int) R10 n0 0 Q k n pc L S H
def f_noise_43 (k9 : Int32 → Int32 → Int32 → St → Option (Int32 × St)) (n : Nat) (v1 : Int32) (v2 : Int32) (v3 : Int32) (s : St) : Option (Int32 × St) :=
  lt (v3 + (1 : Int32)) fun x1 =>
  k9 v1 v2 x1 s
set_option maxRecDepth 65536 in
set_option maxHeartbeats 4000000 in
theorem ok10_43 (l : Launch) (Z : State) (a0 : Array Value) (hw : HW a0 Z) (n0 : Nat) (k9 : Int32 → Int32 → Int32 → St → Option (Int32 × St)) (hk9 : ∀ (v1 : Int32) (v2 : Int32) (v3 : Int32) (s : St) (r : Int32 × St), k9 v1 v2 v3 s = some r → W10 l Z n0 (P10 r) 0 0 9 [.val (.ref 0), .val (.int v1), .val (.int v2), .val (.int v3)] [] (Hb 0 s)) (n : Nat) (v1 : Int32) (v2 : Int32) (v3 : Int32) (s : St) (r : Int32 × St) (h : f_noise_43 k9 n v1 v2 v3 s = some r) : W10 l Z n0 (P10 r) 0 0 43 [.val (.ref 0), .val (.int v1), .val (.int v2), .val (.int v3)] [] (Hb 0 s) := by
  unfold f_noise_43 at h
  obtain ⟨x1, ex1, h⟩ := lt_e h
  refine WP.iinc (L' := [.val (.ref 0), .val (.int v1), .val (.int v2), .val (.int x1)]) (1 : Int32) d10_43 rfl rfl (by subst ex1; rfl) ?_
  refine WP.goto (pc' := 9) d10_46 (by decide) rfl ?_
  exact WP.weak (L' := [.val (.ref 0), .val (.int v1), .val (.int v2), .val (.int x1)]) ⟨rfl, rfl, rfl, rfl, trivial⟩ (hk9 v1 v2 x1 s _ h)
def g_noise_9 (k9 : Int32 → Int32 → Int32 → St → Option (Int32 × St)) (n : Nat) (v1 : Int32) (v2 : Int32) (v3 : Int32) (s : St) : Option (Int32 × St) :=
  if v3 < (3 : Int32) then
    if v3 < (gI s 8) then
      lt (v2 + ((XT.ushr v1 v3) &&& (1 : Int32))) fun x3 =>
      lt (x3 - ((XT.ushr v1 (v3 + (gI s 8))) &&& (1 : Int32))) fun x4 =>
      f_noise_43 k9 n v1 x4 v3 s
    else
      f_noise_43 k9 n v1 v2 v3 s
  else
    some (v2, s)
set_option maxRecDepth 65536 in
set_option maxHeartbeats 4000000 in
theorem okg10_9 (l : Launch) (Z : State) (a0 : Array Value) (hw : HW a0 Z) (n0 : Nat) (k9 : Int32 → Int32 → Int32 → St → Option (Int32 × St)) (hk9 : ∀ (v1 : Int32) (v2 : Int32) (v3 : Int32) (s : St) (r : Int32 × St), k9 v1 v2 v3 s = some r → W10 l Z n0 (P10 r) 0 0 9 [.val (.ref 0), .val (.int v1), .val (.int v2), .val (.int v3)] [] (Hb 0 s)) (n : Nat) (v1 : Int32) (v2 : Int32) (v3 : Int32) (s : St) (r : Int32 × St) (h : g_noise_9 k9 n v1 v2 v3 s = some r) : W10 l Z n0 (P10 r) 0 0 9 [.val (.ref 0), .val (.int v1), .val (.int v2), .val (.int v3)] [] (Hb 0 s) := by
  unfold g_noise_9 at h
  refine WP.iloadN d10_9 rfl ?_
  refine WP.iconst (3 : Int32) d10_10 rfl ?_
  rcases ite_e h with ⟨hc1, h⟩ | ⟨hc1, h⟩
  ·
    refine WP.icmpN d10_11 (XT.ii_ge_f hc1) ?_
    refine WP.iloadN d10_14 rfl ?_
    refine WP.aloadN d10_15 rfl ?_
    refine WP.getfield (i := 0) (j := 11) d10_16 (hw _ m_40) rfl rfl rfl ?_
    rcases ite_e h with ⟨hc2, h⟩ | ⟨hc2, h⟩
    ·
      refine WP.icmpN d10_19 (XT.ii_ge_f hc2) ?_
      refine WP.iloadN d10_22 rfl ?_
      refine WP.iloadN d10_23 rfl ?_
      refine WP.iloadN d10_24 rfl ?_
      refine WP.iushr d10_25 ?_
      refine WP.iconst (1 : Int32) d10_26 rfl ?_
      refine WP.iand d10_27 ?_
      refine WP.iadd d10_28 ?_
      obtain ⟨x3, ex3, h⟩ := lt_e h
      refine WP.istoreN (L' := [.val (.ref 0), .val (.int v1), .val (.int x3), .val (.int v3)]) d10_29 (leb rfl) (by subst ex3; rfl) ?_
      refine WP.iloadN d10_30 rfl ?_
      refine WP.iloadN d10_31 rfl ?_
      refine WP.iloadN d10_32 rfl ?_
      refine WP.aloadN d10_33 rfl ?_
      refine WP.getfield (i := 0) (j := 11) d10_34 (hw _ m_40) rfl rfl rfl ?_
      refine WP.iadd d10_37 ?_
      refine WP.iushr d10_38 ?_
      refine WP.iconst (1 : Int32) d10_39 rfl ?_
      refine WP.iand d10_40 ?_
      refine WP.isub d10_41 ?_
      obtain ⟨x4, ex4, h⟩ := lt_e h
      refine WP.istoreN (L' := [.val (.ref 0), .val (.int v1), .val (.int x4), .val (.int v3)]) d10_42 (leb rfl) (by subst ex4; rfl) ?_
      exact WP.weak (L' := [.val (.ref 0), .val (.int v1), .val (.int x4), .val (.int v3)]) ⟨rfl, rfl, rfl, rfl, trivial⟩ (ok10_43 l Z a0 hw n0 _ hk9 n v1 x4 v3 s _ h)
    ·
      refine WP.icmpY (pc' := 43) d10_19 (XT.ii_ge_t hc2) (by decide) rfl ?_
      exact WP.weak (L' := [.val (.ref 0), .val (.int v1), .val (.int v2), .val (.int v3)]) ⟨rfl, rfl, rfl, rfl, trivial⟩ (ok10_43 l Z a0 hw n0 _ hk9 n v1 v2 v3 s _ h)
  ·
    refine WP.icmpY (pc' := 49) d10_11 (XT.ii_ge_t hc1) (by decide) rfl ?_
    refine WP.iloadN d10_49 rfl ?_
    cases h
    exact WP.ireturn d10_50 rfl (leb rfl) (leb rfl) ⟨rfl, rfl⟩
def f_noise_9 : Nat → Int32 → Int32 → Int32 → St → Option (Int32 × St)
  | 0 => fun _ _ _ _ => none
  | n + 1 => g_noise_9 (f_noise_9 n) n
theorem ok10_9 (l : Launch) (Z : State) (a0 : Array Value) (hw : HW a0 Z) (n0 : Nat) : ∀ (n : Nat) (v1 : Int32) (v2 : Int32) (v3 : Int32) (s : St) (r : Int32 × St), f_noise_9 n v1 v2 v3 s = some r → W10 l Z n0 (P10 r) 0 0 9 [.val (.ref 0), .val (.int v1), .val (.int v2), .val (.int v3)] [] (Hb 0 s)
  | 0, v1, v2, v3, s, r, h => nomatch (show none = some r from h)
  | n + 1, v1, v2, v3, s, r, h => okg10_9 l Z a0 hw n0 _ (ok10_9 l Z a0 hw n0 n) n v1 v2 v3 s r h
def f_noise (n : Nat) (s : St) : Option (Int32 × St) :=
  (f_draw s).bind fun c1 =>
  f_noise_9 n c1.1 (0 : Int32) (0 : Int32) c1.2
set_option maxRecDepth 65536 in
set_option maxHeartbeats 4000000 in
theorem ok10 (l : Launch) (Z : State) (a0 : Array Value) (hw : HW a0 Z) (n : Nat) (s : St) (r : Int32 × St) (h : f_noise n s = some r) : CS l Z CN lay y10 prog_1_method_20_code 4 (some FieldType.int) R10 0 [.ref 0] (Hb 0 s) (P10 r) := by
  refine CS.of_wp pn_cls (leb rfl) fun n0 => ?_
  show W10 l Z n0 (P10 r) 0 0 0 [.val (.ref 0), .unset, .unset, .unset] [] (Hb 0 s)
  unfold f_noise at h
  refine WP.aloadN d10_0 rfl ?_
  obtain ⟨c1, hc1, h⟩ := Option.bind_eq_some_iff.mp h
  refine WP.callP (i := 0) (y := y8) (as := []) (S := []) d10_1 (hw _ m_73) (hw _ m_75) (hw _ m_1) (hw _ m_74) (hw _ m_76) (hw _ m_2) hy8 rfl (ok8 l Z a0 hw s _ hc1) rfl (lenOf pd8 rfl) (leb rfl) (leb rfl) (leb rfl) (leb rfl) ?_
  rintro _ _ ⟨rfl, rfl⟩
  show W10 l Z n0 (P10 r) 0 0 4 [.val (.ref 0), .unset, .unset, .unset] [.int c1.1] (Hb 0 c1.2)
  refine WP.istoreN (L' := [.val (.ref 0), .val (.int c1.1), .unset, .unset]) d10_4 (leb rfl) rfl ?_
  refine WP.iconst (0 : Int32) d10_5 rfl ?_
  refine WP.istoreN (L' := [.val (.ref 0), .val (.int c1.1), .val (.int (0 : Int32)), .unset]) d10_6 (leb rfl) rfl ?_
  refine WP.iconst (0 : Int32) d10_7 rfl ?_
  refine WP.istoreN (L' := [.val (.ref 0), .val (.int c1.1), .val (.int (0 : Int32)), .val (.int (0 : Int32))]) d10_8 (leb rfl) rfl ?_
  exact WP.weak (L' := [.val (.ref 0), .val (.int c1.1), .val (.int (0 : Int32)), .val (.int (0 : Int32))]) ⟨rfl, rfl, rfl, rfl, trivial⟩ (ok10_9 l Z a0 hw n0 n c1.1 (0 : Int32) (0 : Int32) c1.2 _ h)
theorem d11_0 : dc prog_1_method_18_code 0 (.iload_n 1) 1 := by decide +kernel
theorem d11_1 : dc prog_1_method_18_code 1 (.sipush 257) 3 := by decide +kernel
theorem d11_4 : dc prog_1_method_18_code 4 (.irem) 1 := by decide +kernel
theorem d11_5 : dc prog_1_method_18_code 5 (.istore_n 2) 1 := by decide +kernel
theorem d11_6 : dc prog_1_method_18_code 6 (.iload_n 2) 1 := by decide +kernel
theorem d11_7 : dc prog_1_method_18_code 7 (.ifCond .ge 9) 3 := by decide +kernel
theorem d11_10 : dc prog_1_method_18_code 10 (.iinc 2 257) 6 := by decide +kernel
theorem d11_16 : dc prog_1_method_18_code 16 (.iload_n 2) 1 := by decide +kernel
theorem d11_17 : dc prog_1_method_18_code 17 (.ireturn) 1 := by decide +kernel
abbrev y11 : MethodName := ⟨"RingLweKem", "mod", "(I)I"⟩
theorem hy11 : y11.cls ≠ "java/lang/invoke/MethodHandle" ∧ y11.cls ≠ "java/lang/invoke/VarHandle" := by decide
theorem pd11 : parseMethodDescriptor y11.desc = some ⟨[.int], some .int⟩ := by decide +kernel
abbrev R11 : Room := { frames := 0, cells := 0, slots := 0, locals := 0 }
abbrev P11 (s : St) (r : Int32) : Option Value → List OwnC → Prop := fun v H' => v = some (.int r) ∧ H' = (Hb 0 s)
abbrev W11 (l : Launch) (Z : State) (n0 : Nat) (Q : Option Value → List OwnC → Prop) (k n pc : Nat) (L : List Slot) (S : List Value) (H : List OwnC) : Prop := WP l Z CN lay "RingLweKem" "mod" prog_1_method_18_code 3 (some FieldType.int) R11 n0 0 Q k n pc L S H
def f_mod_16 (v2 : Int32) (s : St) : Option (Int32) :=
  some v2
set_option maxRecDepth 65536 in
set_option maxHeartbeats 4000000 in
theorem ok11_16 (l : Launch) (Z : State) (a0 : Array Value) (hw : HW a0 Z) (n0 : Nat) (v2 : Int32) (s : St) (r : Int32) (h : f_mod_16 v2 s = some r) : W11 l Z n0 (P11 s r) 0 0 16 [.unset, .unset, .val (.int v2)] [] (Hb 0 s) := by
  unfold f_mod_16 at h
  refine WP.iloadN d11_16 rfl ?_
  cases h
  exact WP.ireturn d11_17 rfl (leb rfl) (leb rfl) ⟨rfl, rfl⟩
def f_mod (p1 : Int32) (s : St) : Option (Int32) :=
  lt (p1 % (257 : Int32)) fun x1 =>
  if x1 < 0 then
    lt (x1 + (257 : Int32)) fun x3 =>
    f_mod_16 x3 s
  else
    f_mod_16 x1 s
set_option maxRecDepth 65536 in
set_option maxHeartbeats 4000000 in
theorem ok11 (l : Launch) (Z : State) (a0 : Array Value) (hw : HW a0 Z) (p1 : Int32) (s : St) (r : Int32) (h : f_mod p1 s = some r) : CS l Z CN lay y11 prog_1_method_18_code 3 (some FieldType.int) R11 0 [.ref 0, .int p1] (Hb 0 s) (P11 s r) := by
  refine CS.of_wp pn_cls (leb rfl) fun n0 => ?_
  show W11 l Z n0 (P11 s r) 0 0 0 [.val (.ref 0), .val (.int p1), .unset] [] (Hb 0 s)
  unfold f_mod at h
  refine WP.iloadN d11_0 rfl ?_
  refine WP.sipush (257 : Int32) d11_1 rfl ?_
  refine WP.irem d11_4 (by decide) ?_
  obtain ⟨x1, ex1, h⟩ := lt_e h
  refine WP.istoreN (L' := [.val (.ref 0), .val (.int p1), .val (.int x1)]) d11_5 (leb rfl) (by subst ex1; rfl) ?_
  refine WP.iloadN d11_6 rfl ?_
  rcases ite_e h with ⟨hc2, h⟩ | ⟨hc2, h⟩
  ·
    refine WP.ifN d11_7 (XT.i0_ge_f hc2) ?_
    obtain ⟨x3, ex3, h⟩ := lt_e h
    refine WP.iincW (L' := [.val (.ref 0), .val (.int p1), .val (.int x3)]) (257 : Int32) d11_10 rfl rfl (by subst ex3; rfl) ?_
    exact WP.weak (L' := [.unset, .unset, .val (.int x3)]) ⟨rfl, trivial⟩ (ok11_16 l Z a0 hw n0 x3 s _ h)
  ·
    refine WP.ifY (pc' := 16) d11_7 (XT.i0_ge_t hc2) (by decide) rfl ?_
    exact WP.weak (L' := [.unset, .unset, .val (.int x1)]) ⟨rfl, trivial⟩ (ok11_16 l Z a0 hw n0 x1 s _ h)
theorem d9_0 : dc prog_1_method_22_code 0 (.iload_n 1) 1 := by decide +kernel
theorem d9_1 : dc prog_1_method_22_code 1 (.bipush 16) 2 := by decide +kernel
theorem d9_3 : dc prog_1_method_22_code 3 (.imul) 1 := by decide +kernel
theorem d9_4 : dc prog_1_method_22_code 4 (.istore_n 2) 1 := by decide +kernel
theorem d9_5 : dc prog_1_method_22_code 5 (.iconst 0) 1 := by decide +kernel
theorem d9_6 : dc prog_1_method_22_code 6 (.istore_n 3) 1 := by decide +kernel
theorem d9_7 : dc prog_1_method_22_code 7 (.iload_n 3) 1 := by decide +kernel
theorem d9_8 : dc prog_1_method_22_code 8 (.bipush 16) 2 := by decide +kernel
theorem d9_10 : dc prog_1_method_22_code 10 (.if_icmp .ge 29) 3 := by decide +kernel
theorem d9_13 : dc prog_1_method_22_code 13 (.aload_n 0) 1 := by decide +kernel
theorem d9_14 : dc prog_1_method_22_code 14 (.invokevirtual 70) 3 := by decide +kernel
theorem d9_17 : dc prog_1_method_22_code 17 (.istore 4) 2 := by decide +kernel
theorem d9_19 : dc prog_1_method_22_code 19 (.aload_n 0) 1 := by decide +kernel
theorem d9_20 : dc prog_1_method_22_code 20 (.getfield 7) 3 := by decide +kernel
theorem d9_23 : dc prog_1_method_22_code 23 (.iload_n 2) 1 := by decide +kernel
theorem d9_24 : dc prog_1_method_22_code 24 (.iload_n 3) 1 := by decide +kernel
theorem d9_25 : dc prog_1_method_22_code 25 (.iadd) 1 := by decide +kernel
theorem d9_26 : dc prog_1_method_22_code 26 (.aload_n 0) 1 := by decide +kernel
theorem d9_27 : dc prog_1_method_22_code 27 (.iload 4) 2 := by decide +kernel
theorem d9_29 : dc prog_1_method_22_code 29 (.invokevirtual 73) 3 := by decide +kernel
theorem d9_32 : dc prog_1_method_22_code 32 (.iastore) 1 := by decide +kernel
theorem d9_33 : dc prog_1_method_22_code 33 (.iinc 3 1) 3 := by decide +kernel
theorem d9_36 : dc prog_1_method_22_code 36 (.goto (-29)) 3 := by decide +kernel
theorem d9_39 : dc prog_1_method_22_code 39 (.return_) 1 := by decide +kernel
abbrev y9 : MethodName := ⟨"RingLweKem", "drawNoise", "(I)V"⟩
theorem hy9 : y9.cls ≠ "java/lang/invoke/MethodHandle" ∧ y9.cls ≠ "java/lang/invoke/VarHandle" := by decide
theorem pd9 : parseMethodDescriptor y9.desc = some ⟨[.int], none⟩ := by decide +kernel
abbrev R9 : Room := { frames := 2, cells := 0, slots := 0, locals := 27 }
abbrev P9 (r : St) : Option Value → List OwnC → Prop := fun v H' => v = none ∧ H' = (Hb 0 r)
abbrev W9 (l : Launch) (Z : State) (n0 : Nat) (Q : Option Value → List OwnC → Prop) (k n pc : Nat) (L : List Slot) (S : List Value) (H : List OwnC) : Prop := WP l Z CN lay "RingLweKem" "drawNoise" prog_1_method_22_code 5 (none) R9 n0 0 Q k n pc L S H
def g_drawNoise_7 (k7 : Int32 → Int32 → St → Option (St)) (n : Nat) (v2 : Int32) (v3 : Int32) (s : St) : Option (St) :=
  if v3 < (16 : Int32) then
    (f_noise n s).bind fun c2 =>
    (f_mod c2.1 c2.2).bind fun c3 =>
    (wrA c2.2 0 (v2 + v3) c3).bind fun s4 =>
    lt (v3 + (1 : Int32)) fun x5 =>
    k7 v2 x5 s4
  else
    some s
set_option maxRecDepth 65536 in
set_option maxHeartbeats 4000000 in
theorem okg9_7 (l : Launch) (Z : State) (a0 : Array Value) (hw : HW a0 Z) (n0 : Nat) (k7 : Int32 → Int32 → St → Option (St)) (hk7 : ∀ (v2 : Int32) (v3 : Int32) (s : St) (r : St), k7 v2 v3 s = some r → W9 l Z n0 (P9 r) 0 0 7 [.val (.ref 0), .unset, .val (.int v2), .val (.int v3), .unset] [] (Hb 0 s)) (n : Nat) (v2 : Int32) (v3 : Int32) (s : St) (r : St) (h : g_drawNoise_7 k7 n v2 v3 s = some r) : W9 l Z n0 (P9 r) 0 0 7 [.val (.ref 0), .unset, .val (.int v2), .val (.int v3), .unset] [] (Hb 0 s) := by
  unfold g_drawNoise_7 at h
  refine WP.iloadN d9_7 rfl ?_
  refine WP.bipush (16 : Int32) d9_8 rfl ?_
  rcases ite_e h with ⟨hc1, h⟩ | ⟨hc1, h⟩
  ·
    refine WP.icmpN d9_10 (XT.ii_ge_f hc1) ?_
    refine WP.aloadN d9_13 rfl ?_
    obtain ⟨c2, hc2, h⟩ := Option.bind_eq_some_iff.mp h
    refine WP.callP (i := 0) (y := y10) (as := []) (S := []) d9_14 (hw _ m_83) (hw _ m_85) (hw _ m_1) (hw _ m_84) (hw _ m_86) (hw _ m_2) hy10 rfl (ok10 l Z a0 hw n s _ hc2) rfl (lenOf pd10 rfl) (leb rfl) (leb rfl) (leb rfl) (leb rfl) ?_
    rintro _ _ ⟨rfl, rfl⟩
    show W9 l Z n0 (P9 r) 0 0 17 [.val (.ref 0), .unset, .val (.int v2), .val (.int v3), .unset] [.int c2.1] (Hb 0 c2.2)
    refine WP.istore (L' := [.val (.ref 0), .unset, .val (.int v2), .val (.int v3), .val (.int c2.1)]) d9_17 (leb rfl) rfl ?_
    refine WP.aloadN d9_19 rfl ?_
    refine WP.getfield (i := 0) (j := 0) d9_20 (hw _ m_14) rfl rfl rfl ?_
    refine WP.iloadN d9_23 rfl ?_
    refine WP.iloadN d9_24 rfl ?_
    refine WP.iadd d9_25 ?_
    refine WP.aloadN d9_26 rfl ?_
    refine WP.iload d9_27 rfl ?_
    obtain ⟨c3, hc3, h⟩ := Option.bind_eq_some_iff.mp h
    refine WP.callP (i := 0) (y := y11) (as := [.int c2.1]) (S := [.int (v2 + v3), .ref 1]) d9_29 (hw _ m_87) (hw _ m_89) (hw _ m_1) (hw _ m_88) (hw _ m_90) (hw _ m_2) hy11 rfl (ok11 l Z a0 hw c2.1 c2.2 _ hc3) rfl (lenOf pd11 rfl) (leb rfl) (leb rfl) (leb rfl) (leb rfl) ?_
    rintro _ _ ⟨rfl, rfl⟩
    show W9 l Z n0 (P9 r) 0 0 32 [.val (.ref 0), .unset, .val (.int v2), .val (.int v3), .val (.int c2.1)] [.int c3, .int (v2 + v3), .ref 1] (Hb 0 c2.2)
    obtain ⟨s4, hs4, h⟩ := Option.bind_eq_some_iff.mp h
    obtain ⟨ys4, gs4, es4⟩ := wrA_e hs4
    refine WP.iastore (i := 1) (xs := gA c2.2 0) (H' := (Hb 0 s4)) d9_32 rfl (leb rfl) gs4 (by subst es4; rfl) ?_
    obtain ⟨x5, ex5, h⟩ := lt_e h
    refine WP.iinc (L' := [.val (.ref 0), .unset, .val (.int v2), .val (.int x5), .val (.int c2.1)]) (1 : Int32) d9_33 rfl rfl (by subst ex5; rfl) ?_
    refine WP.goto (pc' := 7) d9_36 (by decide) rfl ?_
    exact WP.weak (L' := [.val (.ref 0), .unset, .val (.int v2), .val (.int x5), .unset]) ⟨rfl, rfl, rfl, trivial⟩ (hk7 v2 x5 s4 _ h)
  ·
    refine WP.icmpY (pc' := 39) d9_10 (XT.ii_ge_t hc1) (by decide) rfl ?_
    cases h
    exact WP.vreturn d9_39 rfl (leb rfl) (leb rfl) ⟨rfl, rfl⟩
def f_drawNoise_7 : Nat → Int32 → Int32 → St → Option (St)
  | 0 => fun _ _ _ => none
  | n + 1 => g_drawNoise_7 (f_drawNoise_7 n) n
theorem ok9_7 (l : Launch) (Z : State) (a0 : Array Value) (hw : HW a0 Z) (n0 : Nat) : ∀ (n : Nat) (v2 : Int32) (v3 : Int32) (s : St) (r : St), f_drawNoise_7 n v2 v3 s = some r → W9 l Z n0 (P9 r) 0 0 7 [.val (.ref 0), .unset, .val (.int v2), .val (.int v3), .unset] [] (Hb 0 s)
  | 0, v2, v3, s, r, h => nomatch (show none = some r from h)
  | n + 1, v2, v3, s, r, h => okg9_7 l Z a0 hw n0 _ (ok9_7 l Z a0 hw n0 n) n v2 v3 s r h
def f_drawNoise (n : Nat) (p1 : Int32) (s : St) : Option (St) :=
  lt (p1 * (16 : Int32)) fun x1 =>
  f_drawNoise_7 n x1 (0 : Int32) s
set_option maxRecDepth 65536 in
set_option maxHeartbeats 4000000 in
theorem ok9 (l : Launch) (Z : State) (a0 : Array Value) (hw : HW a0 Z) (n : Nat) (p1 : Int32) (s : St) (r : St) (h : f_drawNoise n p1 s = some r) : CS l Z CN lay y9 prog_1_method_22_code 5 (none) R9 0 [.ref 0, .int p1] (Hb 0 s) (P9 r) := by
  refine CS.of_wp pn_cls (leb rfl) fun n0 => ?_
  show W9 l Z n0 (P9 r) 0 0 0 [.val (.ref 0), .val (.int p1), .unset, .unset, .unset] [] (Hb 0 s)
  unfold f_drawNoise at h
  refine WP.iloadN d9_0 rfl ?_
  refine WP.bipush (16 : Int32) d9_1 rfl ?_
  refine WP.imul d9_3 ?_
  obtain ⟨x1, ex1, h⟩ := lt_e h
  refine WP.istoreN (L' := [.val (.ref 0), .val (.int p1), .val (.int x1), .unset, .unset]) d9_4 (leb rfl) (by subst ex1; rfl) ?_
  refine WP.iconst (0 : Int32) d9_5 rfl ?_
  refine WP.istoreN (L' := [.val (.ref 0), .val (.int p1), .val (.int x1), .val (.int (0 : Int32)), .unset]) d9_6 (leb rfl) rfl ?_
  exact WP.weak (L' := [.val (.ref 0), .unset, .val (.int x1), .val (.int (0 : Int32)), .unset]) ⟨rfl, rfl, rfl, trivial⟩ (ok9_7 l Z a0 hw n0 n x1 (0 : Int32) s _ h)
theorem d13_0 : dc prog_1_method_28_code 0 (.iload_n 1) 1 := by decide +kernel
theorem d13_1 : dc prog_1_method_28_code 1 (.bipush 16) 2 := by decide +kernel
theorem d13_3 : dc prog_1_method_28_code 3 (.imul) 1 := by decide +kernel
theorem d13_4 : dc prog_1_method_28_code 4 (.istore_n 3) 1 := by decide +kernel
theorem d13_5 : dc prog_1_method_28_code 5 (.iload_n 2) 1 := by decide +kernel
theorem d13_6 : dc prog_1_method_28_code 6 (.bipush 16) 2 := by decide +kernel
theorem d13_8 : dc prog_1_method_28_code 8 (.imul) 1 := by decide +kernel
theorem d13_9 : dc prog_1_method_28_code 9 (.istore 4) 2 := by decide +kernel
theorem d13_11 : dc prog_1_method_28_code 11 (.iconst 0) 1 := by decide +kernel
theorem d13_12 : dc prog_1_method_28_code 12 (.istore 5) 2 := by decide +kernel
theorem d13_14 : dc prog_1_method_28_code 14 (.iload 5) 2 := by decide +kernel
theorem d13_16 : dc prog_1_method_28_code 16 (.bipush 16) 2 := by decide +kernel
theorem d13_18 : dc prog_1_method_28_code 18 (.if_icmp .ge 28) 3 := by decide +kernel
theorem d13_21 : dc prog_1_method_28_code 21 (.aload_n 0) 1 := by decide +kernel
theorem d13_22 : dc prog_1_method_28_code 22 (.getfield 7) 3 := by decide +kernel
theorem d13_25 : dc prog_1_method_28_code 25 (.iload 4) 2 := by decide +kernel
theorem d13_27 : dc prog_1_method_28_code 27 (.iload 5) 2 := by decide +kernel
theorem d13_29 : dc prog_1_method_28_code 29 (.iadd) 1 := by decide +kernel
theorem d13_30 : dc prog_1_method_28_code 30 (.aload_n 0) 1 := by decide +kernel
theorem d13_31 : dc prog_1_method_28_code 31 (.getfield 7) 3 := by decide +kernel
theorem d13_34 : dc prog_1_method_28_code 34 (.iload_n 3) 1 := by decide +kernel
theorem d13_35 : dc prog_1_method_28_code 35 (.iload 5) 2 := by decide +kernel
theorem d13_37 : dc prog_1_method_28_code 37 (.iadd) 1 := by decide +kernel
theorem d13_38 : dc prog_1_method_28_code 38 (.iaload) 1 := by decide +kernel
theorem d13_39 : dc prog_1_method_28_code 39 (.iastore) 1 := by decide +kernel
theorem d13_40 : dc prog_1_method_28_code 40 (.iinc 5 1) 3 := by decide +kernel
theorem d13_43 : dc prog_1_method_28_code 43 (.goto (-29)) 3 := by decide +kernel
theorem d13_46 : dc prog_1_method_28_code 46 (.return_) 1 := by decide +kernel
abbrev y13 : MethodName := ⟨"RingLweKem", "copy", "(II)V"⟩
theorem hy13 : y13.cls ≠ "java/lang/invoke/MethodHandle" ∧ y13.cls ≠ "java/lang/invoke/VarHandle" := by decide
theorem pd13 : parseMethodDescriptor y13.desc = some ⟨[.int, .int], none⟩ := by decide +kernel
abbrev R13 : Room := { frames := 0, cells := 0, slots := 0, locals := 0 }
abbrev P13 (r : St) : Option Value → List OwnC → Prop := fun v H' => v = none ∧ H' = (Hb 0 r)
abbrev W13 (l : Launch) (Z : State) (n0 : Nat) (Q : Option Value → List OwnC → Prop) (k n pc : Nat) (L : List Slot) (S : List Value) (H : List OwnC) : Prop := WP l Z CN lay "RingLweKem" "copy" prog_1_method_28_code 6 (none) R13 n0 0 Q k n pc L S H
def g_copy_14 (k14 : Int32 → Int32 → Int32 → St → Option (St)) (n : Nat) (v3 : Int32) (v4 : Int32) (v5 : Int32) (s : St) : Option (St) :=
  if v5 < (16 : Int32) then
    (rd (gA s 0) (v3 + v5)).bind fun x2 =>
    (wrA s 0 (v4 + v5) x2).bind fun s3 =>
    lt (v5 + (1 : Int32)) fun x4 =>
    k14 v3 v4 x4 s3
  else
    some s
set_option maxRecDepth 65536 in
set_option maxHeartbeats 4000000 in
theorem okg13_14 (l : Launch) (Z : State) (a0 : Array Value) (hw : HW a0 Z) (n0 : Nat) (k14 : Int32 → Int32 → Int32 → St → Option (St)) (hk14 : ∀ (v3 : Int32) (v4 : Int32) (v5 : Int32) (s : St) (r : St), k14 v3 v4 v5 s = some r → W13 l Z n0 (P13 r) 0 0 14 [.val (.ref 0), .unset, .unset, .val (.int v3), .val (.int v4), .val (.int v5)] [] (Hb 0 s)) (n : Nat) (v3 : Int32) (v4 : Int32) (v5 : Int32) (s : St) (r : St) (h : g_copy_14 k14 n v3 v4 v5 s = some r) : W13 l Z n0 (P13 r) 0 0 14 [.val (.ref 0), .unset, .unset, .val (.int v3), .val (.int v4), .val (.int v5)] [] (Hb 0 s) := by
  unfold g_copy_14 at h
  refine WP.iload d13_14 rfl ?_
  refine WP.bipush (16 : Int32) d13_16 rfl ?_
  rcases ite_e h with ⟨hc1, h⟩ | ⟨hc1, h⟩
  ·
    refine WP.icmpN d13_18 (XT.ii_ge_f hc1) ?_
    refine WP.aloadN d13_21 rfl ?_
    refine WP.getfield (i := 0) (j := 0) d13_22 (hw _ m_14) rfl rfl rfl ?_
    refine WP.iload d13_25 rfl ?_
    refine WP.iload d13_27 rfl ?_
    refine WP.iadd d13_29 ?_
    refine WP.aloadN d13_30 rfl ?_
    refine WP.getfield (i := 0) (j := 0) d13_31 (hw _ m_14) rfl rfl rfl ?_
    refine WP.iloadN d13_34 rfl ?_
    refine WP.iload d13_35 rfl ?_
    refine WP.iadd d13_37 ?_
    obtain ⟨x2, hx2, h⟩ := Option.bind_eq_some_iff.mp h
    refine WP.iaload (i := 1) d13_38 rfl hx2 ?_
    obtain ⟨s3, hs3, h⟩ := Option.bind_eq_some_iff.mp h
    obtain ⟨ys3, gs3, es3⟩ := wrA_e hs3
    refine WP.iastore (i := 1) (xs := gA s 0) (H' := (Hb 0 s3)) d13_39 rfl (leb rfl) gs3 (by subst es3; rfl) ?_
    obtain ⟨x4, ex4, h⟩ := lt_e h
    refine WP.iinc (L' := [.val (.ref 0), .unset, .unset, .val (.int v3), .val (.int v4), .val (.int x4)]) (1 : Int32) d13_40 rfl rfl (by subst ex4; rfl) ?_
    refine WP.goto (pc' := 14) d13_43 (by decide) rfl ?_
    exact WP.weak (L' := [.val (.ref 0), .unset, .unset, .val (.int v3), .val (.int v4), .val (.int x4)]) ⟨rfl, rfl, rfl, rfl, trivial⟩ (hk14 v3 v4 x4 s3 _ h)
  ·
    refine WP.icmpY (pc' := 46) d13_18 (XT.ii_ge_t hc1) (by decide) rfl ?_
    cases h
    exact WP.vreturn d13_46 rfl (leb rfl) (leb rfl) ⟨rfl, rfl⟩
def f_copy_14 : Nat → Int32 → Int32 → Int32 → St → Option (St)
  | 0 => fun _ _ _ _ => none
  | n + 1 => g_copy_14 (f_copy_14 n) n
theorem ok13_14 (l : Launch) (Z : State) (a0 : Array Value) (hw : HW a0 Z) (n0 : Nat) : ∀ (n : Nat) (v3 : Int32) (v4 : Int32) (v5 : Int32) (s : St) (r : St), f_copy_14 n v3 v4 v5 s = some r → W13 l Z n0 (P13 r) 0 0 14 [.val (.ref 0), .unset, .unset, .val (.int v3), .val (.int v4), .val (.int v5)] [] (Hb 0 s)
  | 0, v3, v4, v5, s, r, h => nomatch (show none = some r from h)
  | n + 1, v3, v4, v5, s, r, h => okg13_14 l Z a0 hw n0 _ (ok13_14 l Z a0 hw n0 n) n v3 v4 v5 s r h
def f_copy (n : Nat) (p1 : Int32) (p2 : Int32) (s : St) : Option (St) :=
  lt (p1 * (16 : Int32)) fun x1 =>
  lt (p2 * (16 : Int32)) fun x2 =>
  f_copy_14 n x1 x2 (0 : Int32) s
set_option maxRecDepth 65536 in
set_option maxHeartbeats 4000000 in
theorem ok13 (l : Launch) (Z : State) (a0 : Array Value) (hw : HW a0 Z) (n : Nat) (p1 : Int32) (p2 : Int32) (s : St) (r : St) (h : f_copy n p1 p2 s = some r) : CS l Z CN lay y13 prog_1_method_28_code 6 (none) R13 0 [.ref 0, .int p1, .int p2] (Hb 0 s) (P13 r) := by
  refine CS.of_wp pn_cls (leb rfl) fun n0 => ?_
  show W13 l Z n0 (P13 r) 0 0 0 [.val (.ref 0), .val (.int p1), .val (.int p2), .unset, .unset, .unset] [] (Hb 0 s)
  unfold f_copy at h
  refine WP.iloadN d13_0 rfl ?_
  refine WP.bipush (16 : Int32) d13_1 rfl ?_
  refine WP.imul d13_3 ?_
  obtain ⟨x1, ex1, h⟩ := lt_e h
  refine WP.istoreN (L' := [.val (.ref 0), .val (.int p1), .val (.int p2), .val (.int x1), .unset, .unset]) d13_4 (leb rfl) (by subst ex1; rfl) ?_
  refine WP.iloadN d13_5 rfl ?_
  refine WP.bipush (16 : Int32) d13_6 rfl ?_
  refine WP.imul d13_8 ?_
  obtain ⟨x2, ex2, h⟩ := lt_e h
  refine WP.istore (L' := [.val (.ref 0), .val (.int p1), .val (.int p2), .val (.int x1), .val (.int x2), .unset]) d13_9 (leb rfl) (by subst ex2; rfl) ?_
  refine WP.iconst (0 : Int32) d13_11 rfl ?_
  refine WP.istore (L' := [.val (.ref 0), .val (.int p1), .val (.int p2), .val (.int x1), .val (.int x2), .val (.int (0 : Int32))]) d13_12 (leb rfl) rfl ?_
  exact WP.weak (L' := [.val (.ref 0), .unset, .unset, .val (.int x1), .val (.int x2), .val (.int (0 : Int32))]) ⟨rfl, rfl, rfl, rfl, trivial⟩ (ok13_14 l Z a0 hw n0 n x1 x2 (0 : Int32) s _ h)
theorem d15_0 : dc prog_1_method_34_code 0 (.iload_n 1) 1 := by decide +kernel
theorem d15_1 : dc prog_1_method_34_code 1 (.bipush 16) 2 := by decide +kernel
theorem d15_3 : dc prog_1_method_34_code 3 (.imul) 1 := by decide +kernel
theorem d15_4 : dc prog_1_method_34_code 4 (.istore_n 2) 1 := by decide +kernel
theorem d15_5 : dc prog_1_method_34_code 5 (.iconst 0) 1 := by decide +kernel
theorem d15_6 : dc prog_1_method_34_code 6 (.istore_n 3) 1 := by decide +kernel
theorem d15_7 : dc prog_1_method_34_code 7 (.iload_n 3) 1 := by decide +kernel
theorem d15_8 : dc prog_1_method_34_code 8 (.bipush 16) 2 := by decide +kernel
theorem d15_10 : dc prog_1_method_34_code 10 (.if_icmp .ge 61) 3 := by decide +kernel
theorem d15_13 : dc prog_1_method_34_code 13 (.aload_n 0) 1 := by decide +kernel
theorem d15_14 : dc prog_1_method_34_code 14 (.getfield 16) 3 := by decide +kernel
theorem d15_17 : dc prog_1_method_34_code 17 (.iload_n 3) 1 := by decide +kernel
theorem d15_18 : dc prog_1_method_34_code 18 (.iaload) 1 := by decide +kernel
theorem d15_19 : dc prog_1_method_34_code 19 (.istore 4) 2 := by decide +kernel
theorem d15_21 : dc prog_1_method_34_code 21 (.iload_n 3) 1 := by decide +kernel
theorem d15_22 : dc prog_1_method_34_code 22 (.iload 4) 2 := by decide +kernel
theorem d15_24 : dc prog_1_method_34_code 24 (.if_icmp .ge 41) 3 := by decide +kernel
theorem d15_27 : dc prog_1_method_34_code 27 (.aload_n 0) 1 := by decide +kernel
theorem d15_28 : dc prog_1_method_34_code 28 (.getfield 7) 3 := by decide +kernel
theorem d15_31 : dc prog_1_method_34_code 31 (.iload_n 2) 1 := by decide +kernel
theorem d15_32 : dc prog_1_method_34_code 32 (.iload_n 3) 1 := by decide +kernel
theorem d15_33 : dc prog_1_method_34_code 33 (.iadd) 1 := by decide +kernel
theorem d15_34 : dc prog_1_method_34_code 34 (.iaload) 1 := by decide +kernel
theorem d15_35 : dc prog_1_method_34_code 35 (.istore 5) 2 := by decide +kernel
theorem d15_37 : dc prog_1_method_34_code 37 (.aload_n 0) 1 := by decide +kernel
theorem d15_38 : dc prog_1_method_34_code 38 (.getfield 7) 3 := by decide +kernel
theorem d15_41 : dc prog_1_method_34_code 41 (.iload_n 2) 1 := by decide +kernel
theorem d15_42 : dc prog_1_method_34_code 42 (.iload_n 3) 1 := by decide +kernel
theorem d15_43 : dc prog_1_method_34_code 43 (.iadd) 1 := by decide +kernel
theorem d15_44 : dc prog_1_method_34_code 44 (.aload_n 0) 1 := by decide +kernel
theorem d15_45 : dc prog_1_method_34_code 45 (.getfield 7) 3 := by decide +kernel
theorem d15_48 : dc prog_1_method_34_code 48 (.iload_n 2) 1 := by decide +kernel
theorem d15_49 : dc prog_1_method_34_code 49 (.iload 4) 2 := by decide +kernel
theorem d15_51 : dc prog_1_method_34_code 51 (.iadd) 1 := by decide +kernel
theorem d15_52 : dc prog_1_method_34_code 52 (.iaload) 1 := by decide +kernel
theorem d15_53 : dc prog_1_method_34_code 53 (.iastore) 1 := by decide +kernel
theorem d15_54 : dc prog_1_method_34_code 54 (.aload_n 0) 1 := by decide +kernel
theorem d15_55 : dc prog_1_method_34_code 55 (.getfield 7) 3 := by decide +kernel
theorem d15_58 : dc prog_1_method_34_code 58 (.iload_n 2) 1 := by decide +kernel
theorem d15_59 : dc prog_1_method_34_code 59 (.iload 4) 2 := by decide +kernel
theorem d15_61 : dc prog_1_method_34_code 61 (.iadd) 1 := by decide +kernel
theorem d15_62 : dc prog_1_method_34_code 62 (.iload 5) 2 := by decide +kernel
theorem d15_64 : dc prog_1_method_34_code 64 (.iastore) 1 := by decide +kernel
theorem d15_65 : dc prog_1_method_34_code 65 (.iinc 3 1) 3 := by decide +kernel
theorem d15_68 : dc prog_1_method_34_code 68 (.goto (-61)) 3 := by decide +kernel
theorem d15_71 : dc prog_1_method_34_code 71 (.return_) 1 := by decide +kernel
abbrev y15 : MethodName := ⟨"RingLweKem", "bitReverse", "(I)V"⟩
theorem hy15 : y15.cls ≠ "java/lang/invoke/MethodHandle" ∧ y15.cls ≠ "java/lang/invoke/VarHandle" := by decide
theorem pd15 : parseMethodDescriptor y15.desc = some ⟨[.int], none⟩ := by decide +kernel
abbrev R15 : Room := { frames := 0, cells := 0, slots := 0, locals := 0 }
abbrev P15 (r : St) : Option Value → List OwnC → Prop := fun v H' => v = none ∧ H' = (Hb 0 r)
abbrev W15 (l : Launch) (Z : State) (n0 : Nat) (Q : Option Value → List OwnC → Prop) (k n pc : Nat) (L : List Slot) (S : List Value) (H : List OwnC) : Prop := WP l Z CN lay "RingLweKem" "bitReverse" prog_1_method_34_code 6 (none) R15 n0 0 Q k n pc L S H
def f_bitReverse_65 (k7 : Int32 → Int32 → St → Option (St)) (n : Nat) (v2 : Int32) (v3 : Int32) (s : St) : Option (St) :=
  lt (v3 + (1 : Int32)) fun x1 =>
  k7 v2 x1 s
set_option maxRecDepth 65536 in
set_option maxHeartbeats 4000000 in
theorem ok15_65 (l : Launch) (Z : State) (a0 : Array Value) (hw : HW a0 Z) (n0 : Nat) (k7 : Int32 → Int32 → St → Option (St)) (hk7 : ∀ (v2 : Int32) (v3 : Int32) (s : St) (r : St), k7 v2 v3 s = some r → W15 l Z n0 (P15 r) 0 0 7 [.val (.ref 0), .unset, .val (.int v2), .val (.int v3), .unset, .unset] [] (Hb 0 s)) (n : Nat) (v2 : Int32) (v3 : Int32) (s : St) (r : St) (h : f_bitReverse_65 k7 n v2 v3 s = some r) : W15 l Z n0 (P15 r) 0 0 65 [.val (.ref 0), .unset, .val (.int v2), .val (.int v3), .unset, .unset] [] (Hb 0 s) := by
  unfold f_bitReverse_65 at h
  obtain ⟨x1, ex1, h⟩ := lt_e h
  refine WP.iinc (L' := [.val (.ref 0), .unset, .val (.int v2), .val (.int x1), .unset, .unset]) (1 : Int32) d15_65 rfl rfl (by subst ex1; rfl) ?_
  refine WP.goto (pc' := 7) d15_68 (by decide) rfl ?_
  exact WP.weak (L' := [.val (.ref 0), .unset, .val (.int v2), .val (.int x1), .unset, .unset]) ⟨rfl, rfl, rfl, trivial⟩ (hk7 v2 x1 s _ h)
def g_bitReverse_7 (k7 : Int32 → Int32 → St → Option (St)) (n : Nat) (v2 : Int32) (v3 : Int32) (s : St) : Option (St) :=
  if v3 < (16 : Int32) then
    (rd (gA s 2) v3).bind fun x2 =>
    if v3 < x2 then
      (rd (gA s 0) (v2 + v3)).bind fun x4 =>
      (rd (gA s 0) (v2 + x2)).bind fun x5 =>
      (wrA s 0 (v2 + v3) x5).bind fun s6 =>
      (wrA s6 0 (v2 + x2) x4).bind fun s7 =>
      f_bitReverse_65 k7 n v2 v3 s7
    else
      f_bitReverse_65 k7 n v2 v3 s
  else
    some s
set_option maxRecDepth 65536 in
set_option maxHeartbeats 4000000 in
theorem okg15_7 (l : Launch) (Z : State) (a0 : Array Value) (hw : HW a0 Z) (n0 : Nat) (k7 : Int32 → Int32 → St → Option (St)) (hk7 : ∀ (v2 : Int32) (v3 : Int32) (s : St) (r : St), k7 v2 v3 s = some r → W15 l Z n0 (P15 r) 0 0 7 [.val (.ref 0), .unset, .val (.int v2), .val (.int v3), .unset, .unset] [] (Hb 0 s)) (n : Nat) (v2 : Int32) (v3 : Int32) (s : St) (r : St) (h : g_bitReverse_7 k7 n v2 v3 s = some r) : W15 l Z n0 (P15 r) 0 0 7 [.val (.ref 0), .unset, .val (.int v2), .val (.int v3), .unset, .unset] [] (Hb 0 s) := by
  unfold g_bitReverse_7 at h
  refine WP.iloadN d15_7 rfl ?_
  refine WP.bipush (16 : Int32) d15_8 rfl ?_
  rcases ite_e h with ⟨hc1, h⟩ | ⟨hc1, h⟩
  ·
    refine WP.icmpN d15_10 (XT.ii_ge_f hc1) ?_
    refine WP.aloadN d15_13 rfl ?_
    refine WP.getfield (i := 0) (j := 2) d15_14 (hw _ m_18) rfl rfl rfl ?_
    refine WP.iloadN d15_17 rfl ?_
    obtain ⟨x2, hx2, h⟩ := Option.bind_eq_some_iff.mp h
    refine WP.iaload (i := 3) d15_18 rfl hx2 ?_
    refine WP.istore (L' := [.val (.ref 0), .unset, .val (.int v2), .val (.int v3), .val (.int x2), .unset]) d15_19 (leb rfl) rfl ?_
    refine WP.iloadN d15_21 rfl ?_
    refine WP.iload d15_22 rfl ?_
    rcases ite_e h with ⟨hc3, h⟩ | ⟨hc3, h⟩
    ·
      refine WP.icmpN d15_24 (XT.ii_ge_f hc3) ?_
      refine WP.aloadN d15_27 rfl ?_
      refine WP.getfield (i := 0) (j := 0) d15_28 (hw _ m_14) rfl rfl rfl ?_
      refine WP.iloadN d15_31 rfl ?_
      refine WP.iloadN d15_32 rfl ?_
      refine WP.iadd d15_33 ?_
      obtain ⟨x4, hx4, h⟩ := Option.bind_eq_some_iff.mp h
      refine WP.iaload (i := 1) d15_34 rfl hx4 ?_
      refine WP.istore (L' := [.val (.ref 0), .unset, .val (.int v2), .val (.int v3), .val (.int x2), .val (.int x4)]) d15_35 (leb rfl) rfl ?_
      refine WP.aloadN d15_37 rfl ?_
      refine WP.getfield (i := 0) (j := 0) d15_38 (hw _ m_14) rfl rfl rfl ?_
      refine WP.iloadN d15_41 rfl ?_
      refine WP.iloadN d15_42 rfl ?_
      refine WP.iadd d15_43 ?_
      refine WP.aloadN d15_44 rfl ?_
      refine WP.getfield (i := 0) (j := 0) d15_45 (hw _ m_14) rfl rfl rfl ?_
      refine WP.iloadN d15_48 rfl ?_
      refine WP.iload d15_49 rfl ?_
      refine WP.iadd d15_51 ?_
      obtain ⟨x5, hx5, h⟩ := Option.bind_eq_some_iff.mp h
      refine WP.iaload (i := 1) d15_52 rfl hx5 ?_
      obtain ⟨s6, hs6, h⟩ := Option.bind_eq_some_iff.mp h
      obtain ⟨ys6, gs6, es6⟩ := wrA_e hs6
      refine WP.iastore (i := 1) (xs := gA s 0) (H' := (Hb 0 s6)) d15_53 rfl (leb rfl) gs6 (by subst es6; rfl) ?_
      refine WP.aloadN d15_54 rfl ?_
      refine WP.getfield (i := 0) (j := 0) d15_55 (hw _ m_14) rfl rfl rfl ?_
      refine WP.iloadN d15_58 rfl ?_
      refine WP.iload d15_59 rfl ?_
      refine WP.iadd d15_61 ?_
      refine WP.iload d15_62 rfl ?_
      obtain ⟨s7, hs7, h⟩ := Option.bind_eq_some_iff.mp h
      obtain ⟨ys7, gs7, es7⟩ := wrA_e hs7
      refine WP.iastore (i := 1) (xs := gA s6 0) (H' := (Hb 0 s7)) d15_64 rfl (leb rfl) gs7 (by subst es7; rfl) ?_
      exact WP.weak (L' := [.val (.ref 0), .unset, .val (.int v2), .val (.int v3), .unset, .unset]) ⟨rfl, rfl, rfl, trivial⟩ (ok15_65 l Z a0 hw n0 _ hk7 n v2 v3 s7 _ h)
    ·
      refine WP.icmpY (pc' := 65) d15_24 (XT.ii_ge_t hc3) (by decide) rfl ?_
      exact WP.weak (L' := [.val (.ref 0), .unset, .val (.int v2), .val (.int v3), .unset, .unset]) ⟨rfl, rfl, rfl, trivial⟩ (ok15_65 l Z a0 hw n0 _ hk7 n v2 v3 s _ h)
  ·
    refine WP.icmpY (pc' := 71) d15_10 (XT.ii_ge_t hc1) (by decide) rfl ?_
    cases h
    exact WP.vreturn d15_71 rfl (leb rfl) (leb rfl) ⟨rfl, rfl⟩
def f_bitReverse_7 : Nat → Int32 → Int32 → St → Option (St)
  | 0 => fun _ _ _ => none
  | n + 1 => g_bitReverse_7 (f_bitReverse_7 n) n
theorem ok15_7 (l : Launch) (Z : State) (a0 : Array Value) (hw : HW a0 Z) (n0 : Nat) : ∀ (n : Nat) (v2 : Int32) (v3 : Int32) (s : St) (r : St), f_bitReverse_7 n v2 v3 s = some r → W15 l Z n0 (P15 r) 0 0 7 [.val (.ref 0), .unset, .val (.int v2), .val (.int v3), .unset, .unset] [] (Hb 0 s)
  | 0, v2, v3, s, r, h => nomatch (show none = some r from h)
  | n + 1, v2, v3, s, r, h => okg15_7 l Z a0 hw n0 _ (ok15_7 l Z a0 hw n0 n) n v2 v3 s r h
def f_bitReverse (n : Nat) (p1 : Int32) (s : St) : Option (St) :=
  lt (p1 * (16 : Int32)) fun x1 =>
  f_bitReverse_7 n x1 (0 : Int32) s
set_option maxRecDepth 65536 in
set_option maxHeartbeats 4000000 in
theorem ok15 (l : Launch) (Z : State) (a0 : Array Value) (hw : HW a0 Z) (n : Nat) (p1 : Int32) (s : St) (r : St) (h : f_bitReverse n p1 s = some r) : CS l Z CN lay y15 prog_1_method_34_code 6 (none) R15 0 [.ref 0, .int p1] (Hb 0 s) (P15 r) := by
  refine CS.of_wp pn_cls (leb rfl) fun n0 => ?_
  show W15 l Z n0 (P15 r) 0 0 0 [.val (.ref 0), .val (.int p1), .unset, .unset, .unset, .unset] [] (Hb 0 s)
  unfold f_bitReverse at h
  refine WP.iloadN d15_0 rfl ?_
  refine WP.bipush (16 : Int32) d15_1 rfl ?_
  refine WP.imul d15_3 ?_
  obtain ⟨x1, ex1, h⟩ := lt_e h
  refine WP.istoreN (L' := [.val (.ref 0), .val (.int p1), .val (.int x1), .unset, .unset, .unset]) d15_4 (leb rfl) (by subst ex1; rfl) ?_
  refine WP.iconst (0 : Int32) d15_5 rfl ?_
  refine WP.istoreN (L' := [.val (.ref 0), .val (.int p1), .val (.int x1), .val (.int (0 : Int32)), .unset, .unset]) d15_6 (leb rfl) rfl ?_
  exact WP.weak (L' := [.val (.ref 0), .unset, .val (.int x1), .val (.int (0 : Int32)), .unset, .unset]) ⟨rfl, rfl, rfl, trivial⟩ (ok15_7 l Z a0 hw n0 n x1 (0 : Int32) s _ h)
theorem d16_0 : dc prog_1_method_35_code 0 (.iload_n 1) 1 := by decide +kernel
theorem d16_1 : dc prog_1_method_35_code 1 (.bipush 16) 2 := by decide +kernel
theorem d16_3 : dc prog_1_method_35_code 3 (.imul) 1 := by decide +kernel
theorem d16_4 : dc prog_1_method_35_code 4 (.istore_n 3) 1 := by decide +kernel
theorem d16_5 : dc prog_1_method_35_code 5 (.iconst 2) 1 := by decide +kernel
theorem d16_6 : dc prog_1_method_35_code 6 (.istore 4) 2 := by decide +kernel
theorem d16_8 : dc prog_1_method_35_code 8 (.iload 4) 2 := by decide +kernel
theorem d16_10 : dc prog_1_method_35_code 10 (.bipush 16) 2 := by decide +kernel
theorem d16_12 : dc prog_1_method_35_code 12 (.if_icmp .gt 164) 3 := by decide +kernel
theorem d16_15 : dc prog_1_method_35_code 15 (.iload 4) 2 := by decide +kernel
theorem d16_17 : dc prog_1_method_35_code 17 (.iconst 1) 1 := by decide +kernel
theorem d16_18 : dc prog_1_method_35_code 18 (.ishr) 1 := by decide +kernel
theorem d16_19 : dc prog_1_method_35_code 19 (.istore 5) 2 := by decide +kernel
theorem d16_21 : dc prog_1_method_35_code 21 (.bipush 32) 2 := by decide +kernel
theorem d16_23 : dc prog_1_method_35_code 23 (.iload 4) 2 := by decide +kernel
theorem d16_25 : dc prog_1_method_35_code 25 (.idiv) 1 := by decide +kernel
theorem d16_26 : dc prog_1_method_35_code 26 (.istore 6) 2 := by decide +kernel
theorem d16_28 : dc prog_1_method_35_code 28 (.iconst 0) 1 := by decide +kernel
theorem d16_29 : dc prog_1_method_35_code 29 (.istore 7) 2 := by decide +kernel
theorem d16_31 : dc prog_1_method_35_code 31 (.iload 7) 2 := by decide +kernel
theorem d16_33 : dc prog_1_method_35_code 33 (.bipush 8) 2 := by decide +kernel
theorem d16_35 : dc prog_1_method_35_code 35 (.if_icmp .ge 132) 3 := by decide +kernel
theorem d16_38 : dc prog_1_method_35_code 38 (.iload 7) 2 := by decide +kernel
theorem d16_40 : dc prog_1_method_35_code 40 (.iload 5) 2 := by decide +kernel
theorem d16_42 : dc prog_1_method_35_code 42 (.idiv) 1 := by decide +kernel
theorem d16_43 : dc prog_1_method_35_code 43 (.istore 8) 2 := by decide +kernel
theorem d16_45 : dc prog_1_method_35_code 45 (.iload 7) 2 := by decide +kernel
theorem d16_47 : dc prog_1_method_35_code 47 (.iload 8) 2 := by decide +kernel
theorem d16_49 : dc prog_1_method_35_code 49 (.iload 5) 2 := by decide +kernel
theorem d16_51 : dc prog_1_method_35_code 51 (.imul) 1 := by decide +kernel
theorem d16_52 : dc prog_1_method_35_code 52 (.isub) 1 := by decide +kernel
theorem d16_53 : dc prog_1_method_35_code 53 (.istore 9) 2 := by decide +kernel
theorem d16_55 : dc prog_1_method_35_code 55 (.iload_n 3) 1 := by decide +kernel
theorem d16_56 : dc prog_1_method_35_code 56 (.iload 8) 2 := by decide +kernel
theorem d16_58 : dc prog_1_method_35_code 58 (.iload 4) 2 := by decide +kernel
theorem d16_60 : dc prog_1_method_35_code 60 (.imul) 1 := by decide +kernel
theorem d16_61 : dc prog_1_method_35_code 61 (.iadd) 1 := by decide +kernel
theorem d16_62 : dc prog_1_method_35_code 62 (.iload 9) 2 := by decide +kernel
theorem d16_64 : dc prog_1_method_35_code 64 (.iadd) 1 := by decide +kernel
theorem d16_65 : dc prog_1_method_35_code 65 (.istore 10) 2 := by decide +kernel
theorem d16_67 : dc prog_1_method_35_code 67 (.iload 10) 2 := by decide +kernel
theorem d16_69 : dc prog_1_method_35_code 69 (.iload 5) 2 := by decide +kernel
theorem d16_71 : dc prog_1_method_35_code 71 (.iadd) 1 := by decide +kernel
theorem d16_72 : dc prog_1_method_35_code 72 (.istore 11) 2 := by decide +kernel
theorem d16_74 : dc prog_1_method_35_code 74 (.iload 9) 2 := by decide +kernel
theorem d16_76 : dc prog_1_method_35_code 76 (.iload 6) 2 := by decide +kernel
theorem d16_78 : dc prog_1_method_35_code 78 (.imul) 1 := by decide +kernel
theorem d16_79 : dc prog_1_method_35_code 79 (.istore 12) 2 := by decide +kernel
theorem d16_81 : dc prog_1_method_35_code 81 (.iload_n 2) 1 := by decide +kernel
theorem d16_82 : dc prog_1_method_35_code 82 (.ifCond .eq 13) 3 := by decide +kernel
theorem d16_85 : dc prog_1_method_35_code 85 (.bipush 32) 2 := by decide +kernel
theorem d16_87 : dc prog_1_method_35_code 87 (.iload 12) 2 := by decide +kernel
theorem d16_89 : dc prog_1_method_35_code 89 (.isub) 1 := by decide +kernel
theorem d16_90 : dc prog_1_method_35_code 90 (.bipush 31) 2 := by decide +kernel
theorem d16_92 : dc prog_1_method_35_code 92 (.iand) 1 := by decide +kernel
theorem d16_93 : dc prog_1_method_35_code 93 (.istore 12) 2 := by decide +kernel
theorem d16_95 : dc prog_1_method_35_code 95 (.aload_n 0) 1 := by decide +kernel
theorem d16_96 : dc prog_1_method_35_code 96 (.getfield 7) 3 := by decide +kernel
theorem d16_99 : dc prog_1_method_35_code 99 (.iload 11) 2 := by decide +kernel
theorem d16_101 : dc prog_1_method_35_code 101 (.iaload) 1 := by decide +kernel
theorem d16_102 : dc prog_1_method_35_code 102 (.aload_n 0) 1 := by decide +kernel
theorem d16_103 : dc prog_1_method_35_code 103 (.getfield 13) 3 := by decide +kernel
theorem d16_106 : dc prog_1_method_35_code 106 (.iload 12) 2 := by decide +kernel
theorem d16_108 : dc prog_1_method_35_code 108 (.iaload) 1 := by decide +kernel
theorem d16_109 : dc prog_1_method_35_code 109 (.imul) 1 := by decide +kernel
theorem d16_110 : dc prog_1_method_35_code 110 (.sipush 257) 3 := by decide +kernel
theorem d16_113 : dc prog_1_method_35_code 113 (.irem) 1 := by decide +kernel
theorem d16_114 : dc prog_1_method_35_code 114 (.istore 13) 2 := by decide +kernel
theorem d16_116 : dc prog_1_method_35_code 116 (.aload_n 0) 1 := by decide +kernel
theorem d16_117 : dc prog_1_method_35_code 117 (.getfield 7) 3 := by decide +kernel
theorem d16_120 : dc prog_1_method_35_code 120 (.iload 10) 2 := by decide +kernel
theorem d16_122 : dc prog_1_method_35_code 122 (.iaload) 1 := by decide +kernel
theorem d16_123 : dc prog_1_method_35_code 123 (.istore 14) 2 := by decide +kernel
theorem d16_125 : dc prog_1_method_35_code 125 (.aload_n 0) 1 := by decide +kernel
theorem d16_126 : dc prog_1_method_35_code 126 (.getfield 7) 3 := by decide +kernel
theorem d16_129 : dc prog_1_method_35_code 129 (.iload 10) 2 := by decide +kernel
theorem d16_131 : dc prog_1_method_35_code 131 (.iload 14) 2 := by decide +kernel
theorem d16_133 : dc prog_1_method_35_code 133 (.iload 13) 2 := by decide +kernel
theorem d16_135 : dc prog_1_method_35_code 135 (.iadd) 1 := by decide +kernel
theorem d16_136 : dc prog_1_method_35_code 136 (.sipush 257) 3 := by decide +kernel
theorem d16_139 : dc prog_1_method_35_code 139 (.irem) 1 := by decide +kernel
theorem d16_140 : dc prog_1_method_35_code 140 (.iastore) 1 := by decide +kernel
theorem d16_141 : dc prog_1_method_35_code 141 (.aload_n 0) 1 := by decide +kernel
theorem d16_142 : dc prog_1_method_35_code 142 (.getfield 7) 3 := by decide +kernel
theorem d16_145 : dc prog_1_method_35_code 145 (.iload 11) 2 := by decide +kernel
theorem d16_147 : dc prog_1_method_35_code 147 (.iload 14) 2 := by decide +kernel
theorem d16_149 : dc prog_1_method_35_code 149 (.iload 13) 2 := by decide +kernel
theorem d16_151 : dc prog_1_method_35_code 151 (.isub) 1 := by decide +kernel
theorem d16_152 : dc prog_1_method_35_code 152 (.sipush 257) 3 := by decide +kernel
theorem d16_155 : dc prog_1_method_35_code 155 (.iadd) 1 := by decide +kernel
theorem d16_156 : dc prog_1_method_35_code 156 (.sipush 257) 3 := by decide +kernel
theorem d16_159 : dc prog_1_method_35_code 159 (.irem) 1 := by decide +kernel
theorem d16_160 : dc prog_1_method_35_code 160 (.iastore) 1 := by decide +kernel
theorem d16_161 : dc prog_1_method_35_code 161 (.iinc 7 1) 3 := by decide +kernel
theorem d16_164 : dc prog_1_method_35_code 164 (.goto (-133)) 3 := by decide +kernel
theorem d16_167 : dc prog_1_method_35_code 167 (.iload 4) 2 := by decide +kernel
theorem d16_169 : dc prog_1_method_35_code 169 (.iconst 1) 1 := by decide +kernel
theorem d16_170 : dc prog_1_method_35_code 170 (.ishl) 1 := by decide +kernel
theorem d16_171 : dc prog_1_method_35_code 171 (.istore 4) 2 := by decide +kernel
theorem d16_173 : dc prog_1_method_35_code 173 (.goto (-165)) 3 := by decide +kernel
theorem d16_176 : dc prog_1_method_35_code 176 (.return_) 1 := by decide +kernel
abbrev y16 : MethodName := ⟨"RingLweKem", "butterflies", "(IZ)V"⟩
theorem hy16 : y16.cls ≠ "java/lang/invoke/MethodHandle" ∧ y16.cls ≠ "java/lang/invoke/VarHandle" := by decide
theorem pd16 : parseMethodDescriptor y16.desc = some ⟨[.int, .boolean], none⟩ := by decide +kernel
abbrev R16 : Room := { frames := 0, cells := 0, slots := 0, locals := 0 }
abbrev P16 (r : St) : Option Value → List OwnC → Prop := fun v H' => v = none ∧ H' = (Hb 0 r)
abbrev W16 (l : Launch) (Z : State) (n0 : Nat) (Q : Option Value → List OwnC → Prop) (k n pc : Nat) (L : List Slot) (S : List Value) (H : List OwnC) : Prop := WP l Z CN lay "RingLweKem" "butterflies" prog_1_method_35_code 15 (none) R16 n0 0 Q k n pc L S H
def f_butterflies_95 (k8 : Int32 → Int32 → Int32 → St → Option (St)) (k31 : Int32 → Int32 → Int32 → Int32 → Int32 → Int32 → St → Option (St)) (n : Nat) (v2 : Int32) (v3 : Int32) (v4 : Int32) (v5 : Int32) (v6 : Int32) (v7 : Int32) (v10 : Int32) (v11 : Int32) (v12 : Int32) (s : St) : Option (St) :=
  (rd (gA s 0) v11).bind fun x1 =>
  (rd (gA s 1) v12).bind fun x2 =>
  lt ((x1 * x2) % (257 : Int32)) fun x3 =>
  (rd (gA s 0) v10).bind fun x4 =>
  (wrA s 0 v10 ((x4 + x3) % (257 : Int32))).bind fun s5 =>
  (wrA s5 0 v11 (((x4 - x3) + (257 : Int32)) % (257 : Int32))).bind fun s6 =>
  lt (v7 + (1 : Int32)) fun x7 =>
  k31 v2 v3 v4 v5 v6 x7 s6
set_option maxRecDepth 65536 in
set_option maxHeartbeats 4000000 in
theorem ok16_95 (l : Launch) (Z : State) (a0 : Array Value) (hw : HW a0 Z) (n0 : Nat) (k8 : Int32 → Int32 → Int32 → St → Option (St)) (hk8 : ∀ (v2 : Int32) (v3 : Int32) (v4 : Int32) (s : St) (r : St), k8 v2 v3 v4 s = some r → W16 l Z n0 (P16 r) 0 0 8 [.val (.ref 0), .unset, .val (.int v2), .val (.int v3), .val (.int v4), .unset, .unset, .unset, .unset, .unset, .unset, .unset, .unset, .unset, .unset] [] (Hb 0 s)) (k31 : Int32 → Int32 → Int32 → Int32 → Int32 → Int32 → St → Option (St)) (hk31 : ∀ (v2 : Int32) (v3 : Int32) (v4 : Int32) (v5 : Int32) (v6 : Int32) (v7 : Int32) (s : St) (r : St), k31 v2 v3 v4 v5 v6 v7 s = some r → W16 l Z n0 (P16 r) 0 0 31 [.val (.ref 0), .unset, .val (.int v2), .val (.int v3), .val (.int v4), .val (.int v5), .val (.int v6), .val (.int v7), .unset, .unset, .unset, .unset, .unset, .unset, .unset] [] (Hb 0 s)) (n : Nat) (v2 : Int32) (v3 : Int32) (v4 : Int32) (v5 : Int32) (v6 : Int32) (v7 : Int32) (v10 : Int32) (v11 : Int32) (v12 : Int32) (s : St) (r : St) (h : f_butterflies_95 k8 k31 n v2 v3 v4 v5 v6 v7 v10 v11 v12 s = some r) : W16 l Z n0 (P16 r) 0 0 95 [.val (.ref 0), .unset, .val (.int v2), .val (.int v3), .val (.int v4), .val (.int v5), .val (.int v6), .val (.int v7), .unset, .unset, .val (.int v10), .val (.int v11), .val (.int v12), .unset, .unset] [] (Hb 0 s) := by
  unfold f_butterflies_95 at h
  refine WP.aloadN d16_95 rfl ?_
  refine WP.getfield (i := 0) (j := 0) d16_96 (hw _ m_14) rfl rfl rfl ?_
  refine WP.iload d16_99 rfl ?_
  obtain ⟨x1, hx1, h⟩ := Option.bind_eq_some_iff.mp h
  refine WP.iaload (i := 1) d16_101 rfl hx1 ?_
  refine WP.aloadN d16_102 rfl ?_
  refine WP.getfield (i := 0) (j := 1) d16_103 (hw _ m_16) rfl rfl rfl ?_
  refine WP.iload d16_106 rfl ?_
  obtain ⟨x2, hx2, h⟩ := Option.bind_eq_some_iff.mp h
  refine WP.iaload (i := 2) d16_108 rfl hx2 ?_
  refine WP.imul d16_109 ?_
  refine WP.sipush (257 : Int32) d16_110 rfl ?_
  refine WP.irem d16_113 (by decide) ?_
  obtain ⟨x3, ex3, h⟩ := lt_e h
  refine WP.istore (L' := [.val (.ref 0), .unset, .val (.int v2), .val (.int v3), .val (.int v4), .val (.int v5), .val (.int v6), .val (.int v7), .unset, .unset, .val (.int v10), .val (.int v11), .val (.int v12), .val (.int x3), .unset]) d16_114 (leb rfl) (by subst ex3; rfl) ?_
  refine WP.aloadN d16_116 rfl ?_
  refine WP.getfield (i := 0) (j := 0) d16_117 (hw _ m_14) rfl rfl rfl ?_
  refine WP.iload d16_120 rfl ?_
  obtain ⟨x4, hx4, h⟩ := Option.bind_eq_some_iff.mp h
  refine WP.iaload (i := 1) d16_122 rfl hx4 ?_
  refine WP.istore (L' := [.val (.ref 0), .unset, .val (.int v2), .val (.int v3), .val (.int v4), .val (.int v5), .val (.int v6), .val (.int v7), .unset, .unset, .val (.int v10), .val (.int v11), .val (.int v12), .val (.int x3), .val (.int x4)]) d16_123 (leb rfl) rfl ?_
  refine WP.aloadN d16_125 rfl ?_
  refine WP.getfield (i := 0) (j := 0) d16_126 (hw _ m_14) rfl rfl rfl ?_
  refine WP.iload d16_129 rfl ?_
  refine WP.iload d16_131 rfl ?_
  refine WP.iload d16_133 rfl ?_
  refine WP.iadd d16_135 ?_
  refine WP.sipush (257 : Int32) d16_136 rfl ?_
  refine WP.irem d16_139 (by decide) ?_
  obtain ⟨s5, hs5, h⟩ := Option.bind_eq_some_iff.mp h
  obtain ⟨ys5, gs5, es5⟩ := wrA_e hs5
  refine WP.iastore (i := 1) (xs := gA s 0) (H' := (Hb 0 s5)) d16_140 rfl (leb rfl) gs5 (by subst es5; rfl) ?_
  refine WP.aloadN d16_141 rfl ?_
  refine WP.getfield (i := 0) (j := 0) d16_142 (hw _ m_14) rfl rfl rfl ?_
  refine WP.iload d16_145 rfl ?_
  refine WP.iload d16_147 rfl ?_
  refine WP.iload d16_149 rfl ?_
  refine WP.isub d16_151 ?_
  refine WP.sipush (257 : Int32) d16_152 rfl ?_
  refine WP.iadd d16_155 ?_
  refine WP.sipush (257 : Int32) d16_156 rfl ?_
  refine WP.irem d16_159 (by decide) ?_
  obtain ⟨s6, hs6, h⟩ := Option.bind_eq_some_iff.mp h
  obtain ⟨ys6, gs6, es6⟩ := wrA_e hs6
  refine WP.iastore (i := 1) (xs := gA s5 0) (H' := (Hb 0 s6)) d16_160 rfl (leb rfl) gs6 (by subst es6; rfl) ?_
  obtain ⟨x7, ex7, h⟩ := lt_e h
  refine WP.iinc (L' := [.val (.ref 0), .unset, .val (.int v2), .val (.int v3), .val (.int v4), .val (.int v5), .val (.int v6), .val (.int x7), .unset, .unset, .val (.int v10), .val (.int v11), .val (.int v12), .val (.int x3), .val (.int x4)]) (1 : Int32) d16_161 rfl rfl (by subst ex7; rfl) ?_
  refine WP.goto (pc' := 31) d16_164 (by decide) rfl ?_
  exact WP.weak (L' := [.val (.ref 0), .unset, .val (.int v2), .val (.int v3), .val (.int v4), .val (.int v5), .val (.int v6), .val (.int x7), .unset, .unset, .unset, .unset, .unset, .unset, .unset]) ⟨rfl, rfl, rfl, rfl, rfl, rfl, rfl, trivial⟩ (hk31 v2 v3 v4 v5 v6 x7 s6 _ h)
def g_butterflies_31 (k8 : Int32 → Int32 → Int32 → St → Option (St)) (k31 : Int32 → Int32 → Int32 → Int32 → Int32 → Int32 → St → Option (St)) (n : Nat) (v2 : Int32) (v3 : Int32) (v4 : Int32) (v5 : Int32) (v6 : Int32) (v7 : Int32) (s : St) : Option (St) :=
  if v7 < (8 : Int32) then
    if v5 = 0 then none else
    lt (v7 / v5) fun x3 =>
    lt (v7 - (x3 * v5)) fun x4 =>
    lt ((v3 + (x3 * v4)) + x4) fun x5 =>
    lt (x5 + v5) fun x6 =>
    lt (x4 * v6) fun x7 =>
    if v2 = 0 then
      f_butterflies_95 k8 k31 n v2 v3 v4 v5 v6 v7 x5 x6 x7 s
    else
      lt (((32 : Int32) - x7) &&& (31 : Int32)) fun x9 =>
      f_butterflies_95 k8 k31 n v2 v3 v4 v5 v6 v7 x5 x6 x9 s
  else
    lt (v4 <<< ((1 : Int32) &&& 31)) fun x10 =>
    k8 v2 v3 x10 s
set_option maxRecDepth 65536 in
set_option maxHeartbeats 4000000 in
theorem okg16_31 (l : Launch) (Z : State) (a0 : Array Value) (hw : HW a0 Z) (n0 : Nat) (k8 : Int32 → Int32 → Int32 → St → Option (St)) (hk8 : ∀ (v2 : Int32) (v3 : Int32) (v4 : Int32) (s : St) (r : St), k8 v2 v3 v4 s = some r → W16 l Z n0 (P16 r) 0 0 8 [.val (.ref 0), .unset, .val (.int v2), .val (.int v3), .val (.int v4), .unset, .unset, .unset, .unset, .unset, .unset, .unset, .unset, .unset, .unset] [] (Hb 0 s)) (k31 : Int32 → Int32 → Int32 → Int32 → Int32 → Int32 → St → Option (St)) (hk31 : ∀ (v2 : Int32) (v3 : Int32) (v4 : Int32) (v5 : Int32) (v6 : Int32) (v7 : Int32) (s : St) (r : St), k31 v2 v3 v4 v5 v6 v7 s = some r → W16 l Z n0 (P16 r) 0 0 31 [.val (.ref 0), .unset, .val (.int v2), .val (.int v3), .val (.int v4), .val (.int v5), .val (.int v6), .val (.int v7), .unset, .unset, .unset, .unset, .unset, .unset, .unset] [] (Hb 0 s)) (n : Nat) (v2 : Int32) (v3 : Int32) (v4 : Int32) (v5 : Int32) (v6 : Int32) (v7 : Int32) (s : St) (r : St) (h : g_butterflies_31 k8 k31 n v2 v3 v4 v5 v6 v7 s = some r) : W16 l Z n0 (P16 r) 0 0 31 [.val (.ref 0), .unset, .val (.int v2), .val (.int v3), .val (.int v4), .val (.int v5), .val (.int v6), .val (.int v7), .unset, .unset, .unset, .unset, .unset, .unset, .unset] [] (Hb 0 s) := by
  unfold g_butterflies_31 at h
  refine WP.iload d16_31 rfl ?_
  refine WP.bipush (8 : Int32) d16_33 rfl ?_
  rcases ite_e h with ⟨hc1, h⟩ | ⟨hc1, h⟩
  ·
    refine WP.icmpN d16_35 (XT.ii_ge_f hc1) ?_
    refine WP.iload d16_38 rfl ?_
    refine WP.iload d16_40 rfl ?_
    obtain ⟨hz2, h⟩ := nz_e h
    refine WP.idiv d16_42 hz2 ?_
    obtain ⟨x3, ex3, h⟩ := lt_e h
    refine WP.istore (L' := [.val (.ref 0), .unset, .val (.int v2), .val (.int v3), .val (.int v4), .val (.int v5), .val (.int v6), .val (.int v7), .val (.int x3), .unset, .unset, .unset, .unset, .unset, .unset]) d16_43 (leb rfl) (by subst ex3; rfl) ?_
    refine WP.iload d16_45 rfl ?_
    refine WP.iload d16_47 rfl ?_
    refine WP.iload d16_49 rfl ?_
    refine WP.imul d16_51 ?_
    refine WP.isub d16_52 ?_
    obtain ⟨x4, ex4, h⟩ := lt_e h
    refine WP.istore (L' := [.val (.ref 0), .unset, .val (.int v2), .val (.int v3), .val (.int v4), .val (.int v5), .val (.int v6), .val (.int v7), .val (.int x3), .val (.int x4), .unset, .unset, .unset, .unset, .unset]) d16_53 (leb rfl) (by subst ex4; rfl) ?_
    refine WP.iloadN d16_55 rfl ?_
    refine WP.iload d16_56 rfl ?_
    refine WP.iload d16_58 rfl ?_
    refine WP.imul d16_60 ?_
    refine WP.iadd d16_61 ?_
    refine WP.iload d16_62 rfl ?_
    refine WP.iadd d16_64 ?_
    obtain ⟨x5, ex5, h⟩ := lt_e h
    refine WP.istore (L' := [.val (.ref 0), .unset, .val (.int v2), .val (.int v3), .val (.int v4), .val (.int v5), .val (.int v6), .val (.int v7), .val (.int x3), .val (.int x4), .val (.int x5), .unset, .unset, .unset, .unset]) d16_65 (leb rfl) (by subst ex5; rfl) ?_
    refine WP.iload d16_67 rfl ?_
    refine WP.iload d16_69 rfl ?_
    refine WP.iadd d16_71 ?_
    obtain ⟨x6, ex6, h⟩ := lt_e h
    refine WP.istore (L' := [.val (.ref 0), .unset, .val (.int v2), .val (.int v3), .val (.int v4), .val (.int v5), .val (.int v6), .val (.int v7), .val (.int x3), .val (.int x4), .val (.int x5), .val (.int x6), .unset, .unset, .unset]) d16_72 (leb rfl) (by subst ex6; rfl) ?_
    refine WP.iload d16_74 rfl ?_
    refine WP.iload d16_76 rfl ?_
    refine WP.imul d16_78 ?_
    obtain ⟨x7, ex7, h⟩ := lt_e h
    refine WP.istore (L' := [.val (.ref 0), .unset, .val (.int v2), .val (.int v3), .val (.int v4), .val (.int v5), .val (.int v6), .val (.int v7), .val (.int x3), .val (.int x4), .val (.int x5), .val (.int x6), .val (.int x7), .unset, .unset]) d16_79 (leb rfl) (by subst ex7; rfl) ?_
    refine WP.iloadN d16_81 rfl ?_
    rcases ite_e h with ⟨hc8, h⟩ | ⟨hc8, h⟩
    ·
      refine WP.ifY (pc' := 95) d16_82 (XT.i0_eq_t hc8) (by decide) rfl ?_
      exact WP.weak (L' := [.val (.ref 0), .unset, .val (.int v2), .val (.int v3), .val (.int v4), .val (.int v5), .val (.int v6), .val (.int v7), .unset, .unset, .val (.int x5), .val (.int x6), .val (.int x7), .unset, .unset]) ⟨rfl, rfl, rfl, rfl, rfl, rfl, rfl, rfl, rfl, rfl, trivial⟩ (ok16_95 l Z a0 hw n0 _ hk8 _ hk31 n v2 v3 v4 v5 v6 v7 x5 x6 x7 s _ h)
    ·
      refine WP.ifN d16_82 (XT.i0_eq_f hc8) ?_
      refine WP.bipush (32 : Int32) d16_85 rfl ?_
      refine WP.iload d16_87 rfl ?_
      refine WP.isub d16_89 ?_
      refine WP.bipush (31 : Int32) d16_90 rfl ?_
      refine WP.iand d16_92 ?_
      obtain ⟨x9, ex9, h⟩ := lt_e h
      refine WP.istore (L' := [.val (.ref 0), .unset, .val (.int v2), .val (.int v3), .val (.int v4), .val (.int v5), .val (.int v6), .val (.int v7), .val (.int x3), .val (.int x4), .val (.int x5), .val (.int x6), .val (.int x9), .unset, .unset]) d16_93 (leb rfl) (by subst ex9; rfl) ?_
      exact WP.weak (L' := [.val (.ref 0), .unset, .val (.int v2), .val (.int v3), .val (.int v4), .val (.int v5), .val (.int v6), .val (.int v7), .unset, .unset, .val (.int x5), .val (.int x6), .val (.int x9), .unset, .unset]) ⟨rfl, rfl, rfl, rfl, rfl, rfl, rfl, rfl, rfl, rfl, trivial⟩ (ok16_95 l Z a0 hw n0 _ hk8 _ hk31 n v2 v3 v4 v5 v6 v7 x5 x6 x9 s _ h)
  ·
    refine WP.icmpY (pc' := 167) d16_35 (XT.ii_ge_t hc1) (by decide) rfl ?_
    refine WP.iload d16_167 rfl ?_
    refine WP.iconst (1 : Int32) d16_169 rfl ?_
    refine WP.ishl d16_170 ?_
    obtain ⟨x10, ex10, h⟩ := lt_e h
    refine WP.istore (L' := [.val (.ref 0), .unset, .val (.int v2), .val (.int v3), .val (.int x10), .val (.int v5), .val (.int v6), .val (.int v7), .unset, .unset, .unset, .unset, .unset, .unset, .unset]) d16_171 (leb rfl) (by subst ex10; rfl) ?_
    refine WP.goto (pc' := 8) d16_173 (by decide) rfl ?_
    exact WP.weak (L' := [.val (.ref 0), .unset, .val (.int v2), .val (.int v3), .val (.int x10), .unset, .unset, .unset, .unset, .unset, .unset, .unset, .unset, .unset, .unset]) ⟨rfl, rfl, rfl, rfl, trivial⟩ (hk8 v2 v3 x10 s _ h)
def f_butterflies_31 (k8 : Int32 → Int32 → Int32 → St → Option (St)) : Nat → Int32 → Int32 → Int32 → Int32 → Int32 → Int32 → St → Option (St)
  | 0 => fun _ _ _ _ _ _ _ => none
  | n + 1 => g_butterflies_31 k8 (f_butterflies_31 k8 n) n
theorem ok16_31 (l : Launch) (Z : State) (a0 : Array Value) (hw : HW a0 Z) (n0 : Nat) (k8 : Int32 → Int32 → Int32 → St → Option (St)) (hk8 : ∀ (v2 : Int32) (v3 : Int32) (v4 : Int32) (s : St) (r : St), k8 v2 v3 v4 s = some r → W16 l Z n0 (P16 r) 0 0 8 [.val (.ref 0), .unset, .val (.int v2), .val (.int v3), .val (.int v4), .unset, .unset, .unset, .unset, .unset, .unset, .unset, .unset, .unset, .unset] [] (Hb 0 s)) : ∀ (n : Nat) (v2 : Int32) (v3 : Int32) (v4 : Int32) (v5 : Int32) (v6 : Int32) (v7 : Int32) (s : St) (r : St), f_butterflies_31 k8 n v2 v3 v4 v5 v6 v7 s = some r → W16 l Z n0 (P16 r) 0 0 31 [.val (.ref 0), .unset, .val (.int v2), .val (.int v3), .val (.int v4), .val (.int v5), .val (.int v6), .val (.int v7), .unset, .unset, .unset, .unset, .unset, .unset, .unset] [] (Hb 0 s)
  | 0, v2, v3, v4, v5, v6, v7, s, r, h => nomatch (show none = some r from h)
  | n + 1, v2, v3, v4, v5, v6, v7, s, r, h => okg16_31 l Z a0 hw n0 _ hk8 _ (ok16_31 l Z a0 hw n0 k8 hk8 n) n v2 v3 v4 v5 v6 v7 s r h
def g_butterflies_8 (k8 : Int32 → Int32 → Int32 → St → Option (St)) (n : Nat) (v2 : Int32) (v3 : Int32) (v4 : Int32) (s : St) : Option (St) :=
  if (16 : Int32) < v4 then
    some s
  else
    lt (v4 >>> ((1 : Int32) &&& 31)) fun x2 =>
    if v4 = 0 then none else
    lt ((32 : Int32) / v4) fun x4 =>
    f_butterflies_31 k8 n v2 v3 v4 x2 x4 (0 : Int32) s
set_option maxRecDepth 65536 in
set_option maxHeartbeats 4000000 in
theorem okg16_8 (l : Launch) (Z : State) (a0 : Array Value) (hw : HW a0 Z) (n0 : Nat) (k8 : Int32 → Int32 → Int32 → St → Option (St)) (hk8 : ∀ (v2 : Int32) (v3 : Int32) (v4 : Int32) (s : St) (r : St), k8 v2 v3 v4 s = some r → W16 l Z n0 (P16 r) 0 0 8 [.val (.ref 0), .unset, .val (.int v2), .val (.int v3), .val (.int v4), .unset, .unset, .unset, .unset, .unset, .unset, .unset, .unset, .unset, .unset] [] (Hb 0 s)) (n : Nat) (v2 : Int32) (v3 : Int32) (v4 : Int32) (s : St) (r : St) (h : g_butterflies_8 k8 n v2 v3 v4 s = some r) : W16 l Z n0 (P16 r) 0 0 8 [.val (.ref 0), .unset, .val (.int v2), .val (.int v3), .val (.int v4), .unset, .unset, .unset, .unset, .unset, .unset, .unset, .unset, .unset, .unset] [] (Hb 0 s) := by
  unfold g_butterflies_8 at h
  refine WP.iload d16_8 rfl ?_
  refine WP.bipush (16 : Int32) d16_10 rfl ?_
  rcases ite_e h with ⟨hc1, h⟩ | ⟨hc1, h⟩
  ·
    refine WP.icmpY (pc' := 176) d16_12 (XT.ii_gt_t hc1) (by decide) rfl ?_
    cases h
    exact WP.vreturn d16_176 rfl (leb rfl) (leb rfl) ⟨rfl, rfl⟩
  ·
    refine WP.icmpN d16_12 (XT.ii_gt_f hc1) ?_
    refine WP.iload d16_15 rfl ?_
    refine WP.iconst (1 : Int32) d16_17 rfl ?_
    refine WP.ishr d16_18 ?_
    obtain ⟨x2, ex2, h⟩ := lt_e h
    refine WP.istore (L' := [.val (.ref 0), .unset, .val (.int v2), .val (.int v3), .val (.int v4), .val (.int x2), .unset, .unset, .unset, .unset, .unset, .unset, .unset, .unset, .unset]) d16_19 (leb rfl) (by subst ex2; rfl) ?_
    refine WP.bipush (32 : Int32) d16_21 rfl ?_
    refine WP.iload d16_23 rfl ?_
    obtain ⟨hz3, h⟩ := nz_e h
    refine WP.idiv d16_25 hz3 ?_
    obtain ⟨x4, ex4, h⟩ := lt_e h
    refine WP.istore (L' := [.val (.ref 0), .unset, .val (.int v2), .val (.int v3), .val (.int v4), .val (.int x2), .val (.int x4), .unset, .unset, .unset, .unset, .unset, .unset, .unset, .unset]) d16_26 (leb rfl) (by subst ex4; rfl) ?_
    refine WP.iconst (0 : Int32) d16_28 rfl ?_
    refine WP.istore (L' := [.val (.ref 0), .unset, .val (.int v2), .val (.int v3), .val (.int v4), .val (.int x2), .val (.int x4), .val (.int (0 : Int32)), .unset, .unset, .unset, .unset, .unset, .unset, .unset]) d16_29 (leb rfl) rfl ?_
    exact WP.weak (L' := [.val (.ref 0), .unset, .val (.int v2), .val (.int v3), .val (.int v4), .val (.int x2), .val (.int x4), .val (.int (0 : Int32)), .unset, .unset, .unset, .unset, .unset, .unset, .unset]) ⟨rfl, rfl, rfl, rfl, rfl, rfl, rfl, trivial⟩ (ok16_31 l Z a0 hw n0 _ hk8 n v2 v3 v4 x2 x4 (0 : Int32) s _ h)
def f_butterflies_8 : Nat → Int32 → Int32 → Int32 → St → Option (St)
  | 0 => fun _ _ _ _ => none
  | n + 1 => g_butterflies_8 (f_butterflies_8 n) n
theorem ok16_8 (l : Launch) (Z : State) (a0 : Array Value) (hw : HW a0 Z) (n0 : Nat) : ∀ (n : Nat) (v2 : Int32) (v3 : Int32) (v4 : Int32) (s : St) (r : St), f_butterflies_8 n v2 v3 v4 s = some r → W16 l Z n0 (P16 r) 0 0 8 [.val (.ref 0), .unset, .val (.int v2), .val (.int v3), .val (.int v4), .unset, .unset, .unset, .unset, .unset, .unset, .unset, .unset, .unset, .unset] [] (Hb 0 s)
  | 0, v2, v3, v4, s, r, h => nomatch (show none = some r from h)
  | n + 1, v2, v3, v4, s, r, h => okg16_8 l Z a0 hw n0 _ (ok16_8 l Z a0 hw n0 n) n v2 v3 v4 s r h
def f_butterflies (n : Nat) (p1 : Int32) (p2 : Int32) (s : St) : Option (St) :=
  lt (p1 * (16 : Int32)) fun x1 =>
  f_butterflies_8 n p2 x1 (2 : Int32) s
set_option maxRecDepth 65536 in
set_option maxHeartbeats 4000000 in
theorem ok16 (l : Launch) (Z : State) (a0 : Array Value) (hw : HW a0 Z) (n : Nat) (p1 : Int32) (p2 : Int32) (s : St) (r : St) (h : f_butterflies n p1 p2 s = some r) : CS l Z CN lay y16 prog_1_method_35_code 15 (none) R16 0 [.ref 0, .int p1, .int p2] (Hb 0 s) (P16 r) := by
  refine CS.of_wp pn_cls (leb rfl) fun n0 => ?_
  show W16 l Z n0 (P16 r) 0 0 0 [.val (.ref 0), .val (.int p1), .val (.int p2), .unset, .unset, .unset, .unset, .unset, .unset, .unset, .unset, .unset, .unset, .unset, .unset] [] (Hb 0 s)
  unfold f_butterflies at h
  refine WP.iloadN d16_0 rfl ?_
  refine WP.bipush (16 : Int32) d16_1 rfl ?_
  refine WP.imul d16_3 ?_
  obtain ⟨x1, ex1, h⟩ := lt_e h
  refine WP.istoreN (L' := [.val (.ref 0), .val (.int p1), .val (.int p2), .val (.int x1), .unset, .unset, .unset, .unset, .unset, .unset, .unset, .unset, .unset, .unset, .unset]) d16_4 (leb rfl) (by subst ex1; rfl) ?_
  refine WP.iconst (2 : Int32) d16_5 rfl ?_
  refine WP.istore (L' := [.val (.ref 0), .val (.int p1), .val (.int p2), .val (.int x1), .val (.int (2 : Int32)), .unset, .unset, .unset, .unset, .unset, .unset, .unset, .unset, .unset, .unset]) d16_6 (leb rfl) rfl ?_
  exact WP.weak (L' := [.val (.ref 0), .unset, .val (.int p2), .val (.int x1), .val (.int (2 : Int32)), .unset, .unset, .unset, .unset, .unset, .unset, .unset, .unset, .unset, .unset]) ⟨rfl, rfl, rfl, rfl, trivial⟩ (ok16_8 l Z a0 hw n0 n p2 x1 (2 : Int32) s _ h)
theorem d14_0 : dc prog_1_method_32_code 0 (.iload_n 1) 1 := by decide +kernel
theorem d14_1 : dc prog_1_method_32_code 1 (.bipush 16) 2 := by decide +kernel
theorem d14_3 : dc prog_1_method_32_code 3 (.imul) 1 := by decide +kernel
theorem d14_4 : dc prog_1_method_32_code 4 (.istore_n 2) 1 := by decide +kernel
theorem d14_5 : dc prog_1_method_32_code 5 (.iconst 0) 1 := by decide +kernel
theorem d14_6 : dc prog_1_method_32_code 6 (.istore_n 3) 1 := by decide +kernel
theorem d14_7 : dc prog_1_method_32_code 7 (.iload_n 3) 1 := by decide +kernel
theorem d14_8 : dc prog_1_method_32_code 8 (.bipush 16) 2 := by decide +kernel
theorem d14_10 : dc prog_1_method_32_code 10 (.if_icmp .ge 36) 3 := by decide +kernel
theorem d14_13 : dc prog_1_method_32_code 13 (.aload_n 0) 1 := by decide +kernel
theorem d14_14 : dc prog_1_method_32_code 14 (.getfield 7) 3 := by decide +kernel
theorem d14_17 : dc prog_1_method_32_code 17 (.iload_n 2) 1 := by decide +kernel
theorem d14_18 : dc prog_1_method_32_code 18 (.iload_n 3) 1 := by decide +kernel
theorem d14_19 : dc prog_1_method_32_code 19 (.iadd) 1 := by decide +kernel
theorem d14_20 : dc prog_1_method_32_code 20 (.aload_n 0) 1 := by decide +kernel
theorem d14_21 : dc prog_1_method_32_code 21 (.getfield 7) 3 := by decide +kernel
theorem d14_24 : dc prog_1_method_32_code 24 (.iload_n 2) 1 := by decide +kernel
theorem d14_25 : dc prog_1_method_32_code 25 (.iload_n 3) 1 := by decide +kernel
theorem d14_26 : dc prog_1_method_32_code 26 (.iadd) 1 := by decide +kernel
theorem d14_27 : dc prog_1_method_32_code 27 (.iaload) 1 := by decide +kernel
theorem d14_28 : dc prog_1_method_32_code 28 (.aload_n 0) 1 := by decide +kernel
theorem d14_29 : dc prog_1_method_32_code 29 (.getfield 13) 3 := by decide +kernel
theorem d14_32 : dc prog_1_method_32_code 32 (.iload_n 3) 1 := by decide +kernel
theorem d14_33 : dc prog_1_method_32_code 33 (.iaload) 1 := by decide +kernel
theorem d14_34 : dc prog_1_method_32_code 34 (.imul) 1 := by decide +kernel
theorem d14_35 : dc prog_1_method_32_code 35 (.sipush 257) 3 := by decide +kernel
theorem d14_38 : dc prog_1_method_32_code 38 (.irem) 1 := by decide +kernel
theorem d14_39 : dc prog_1_method_32_code 39 (.iastore) 1 := by decide +kernel
theorem d14_40 : dc prog_1_method_32_code 40 (.iinc 3 1) 3 := by decide +kernel
theorem d14_43 : dc prog_1_method_32_code 43 (.goto (-36)) 3 := by decide +kernel
theorem d14_46 : dc prog_1_method_32_code 46 (.aload_n 0) 1 := by decide +kernel
theorem d14_47 : dc prog_1_method_32_code 47 (.iload_n 1) 1 := by decide +kernel
theorem d14_48 : dc prog_1_method_32_code 48 (.invokevirtual 122) 3 := by decide +kernel
theorem d14_51 : dc prog_1_method_32_code 51 (.aload_n 0) 1 := by decide +kernel
theorem d14_52 : dc prog_1_method_32_code 52 (.iload_n 1) 1 := by decide +kernel
theorem d14_53 : dc prog_1_method_32_code 53 (.iconst 0) 1 := by decide +kernel
theorem d14_54 : dc prog_1_method_32_code 54 (.invokevirtual 125) 3 := by decide +kernel
theorem d14_57 : dc prog_1_method_32_code 57 (.return_) 1 := by decide +kernel
abbrev y14 : MethodName := ⟨"RingLweKem", "forward", "(I)V"⟩
theorem hy14 : y14.cls ≠ "java/lang/invoke/MethodHandle" ∧ y14.cls ≠ "java/lang/invoke/VarHandle" := by decide
theorem pd14 : parseMethodDescriptor y14.desc = some ⟨[.int], none⟩ := by decide +kernel
abbrev R14 : Room := { frames := 1, cells := 0, slots := 0, locals := 26 }
abbrev P14 (r : St) : Option Value → List OwnC → Prop := fun v H' => v = none ∧ H' = (Hb 0 r)
abbrev W14 (l : Launch) (Z : State) (n0 : Nat) (Q : Option Value → List OwnC → Prop) (k n pc : Nat) (L : List Slot) (S : List Value) (H : List OwnC) : Prop := WP l Z CN lay "RingLweKem" "forward" prog_1_method_32_code 4 (none) R14 n0 0 Q k n pc L S H
def g_forward_7 (k7 : Int32 → Int32 → Int32 → St → Option (St)) (n : Nat) (v1 : Int32) (v2 : Int32) (v3 : Int32) (s : St) : Option (St) :=
  if v3 < (16 : Int32) then
    (rd (gA s 0) (v2 + v3)).bind fun x2 =>
    (rd (gA s 1) v3).bind fun x3 =>
    (wrA s 0 (v2 + v3) ((x2 * x3) % (257 : Int32))).bind fun s4 =>
    lt (v3 + (1 : Int32)) fun x5 =>
    k7 v1 v2 x5 s4
  else
    (f_bitReverse n v1 s).bind fun c6 =>
    (f_butterflies n v1 (0 : Int32) c6).bind fun c7 =>
    some c7
set_option maxRecDepth 65536 in
set_option maxHeartbeats 4000000 in
theorem okg14_7 (l : Launch) (Z : State) (a0 : Array Value) (hw : HW a0 Z) (n0 : Nat) (k7 : Int32 → Int32 → Int32 → St → Option (St)) (hk7 : ∀ (v1 : Int32) (v2 : Int32) (v3 : Int32) (s : St) (r : St), k7 v1 v2 v3 s = some r → W14 l Z n0 (P14 r) 0 0 7 [.val (.ref 0), .val (.int v1), .val (.int v2), .val (.int v3)] [] (Hb 0 s)) (n : Nat) (v1 : Int32) (v2 : Int32) (v3 : Int32) (s : St) (r : St) (h : g_forward_7 k7 n v1 v2 v3 s = some r) : W14 l Z n0 (P14 r) 0 0 7 [.val (.ref 0), .val (.int v1), .val (.int v2), .val (.int v3)] [] (Hb 0 s) := by
  unfold g_forward_7 at h
  refine WP.iloadN d14_7 rfl ?_
  refine WP.bipush (16 : Int32) d14_8 rfl ?_
  rcases ite_e h with ⟨hc1, h⟩ | ⟨hc1, h⟩
  ·
    refine WP.icmpN d14_10 (XT.ii_ge_f hc1) ?_
    refine WP.aloadN d14_13 rfl ?_
    refine WP.getfield (i := 0) (j := 0) d14_14 (hw _ m_14) rfl rfl rfl ?_
    refine WP.iloadN d14_17 rfl ?_
    refine WP.iloadN d14_18 rfl ?_
    refine WP.iadd d14_19 ?_
    refine WP.aloadN d14_20 rfl ?_
    refine WP.getfield (i := 0) (j := 0) d14_21 (hw _ m_14) rfl rfl rfl ?_
    refine WP.iloadN d14_24 rfl ?_
    refine WP.iloadN d14_25 rfl ?_
    refine WP.iadd d14_26 ?_
    obtain ⟨x2, hx2, h⟩ := Option.bind_eq_some_iff.mp h
    refine WP.iaload (i := 1) d14_27 rfl hx2 ?_
    refine WP.aloadN d14_28 rfl ?_
    refine WP.getfield (i := 0) (j := 1) d14_29 (hw _ m_16) rfl rfl rfl ?_
    refine WP.iloadN d14_32 rfl ?_
    obtain ⟨x3, hx3, h⟩ := Option.bind_eq_some_iff.mp h
    refine WP.iaload (i := 2) d14_33 rfl hx3 ?_
    refine WP.imul d14_34 ?_
    refine WP.sipush (257 : Int32) d14_35 rfl ?_
    refine WP.irem d14_38 (by decide) ?_
    obtain ⟨s4, hs4, h⟩ := Option.bind_eq_some_iff.mp h
    obtain ⟨ys4, gs4, es4⟩ := wrA_e hs4
    refine WP.iastore (i := 1) (xs := gA s 0) (H' := (Hb 0 s4)) d14_39 rfl (leb rfl) gs4 (by subst es4; rfl) ?_
    obtain ⟨x5, ex5, h⟩ := lt_e h
    refine WP.iinc (L' := [.val (.ref 0), .val (.int v1), .val (.int v2), .val (.int x5)]) (1 : Int32) d14_40 rfl rfl (by subst ex5; rfl) ?_
    refine WP.goto (pc' := 7) d14_43 (by decide) rfl ?_
    exact WP.weak (L' := [.val (.ref 0), .val (.int v1), .val (.int v2), .val (.int x5)]) ⟨rfl, rfl, rfl, rfl, trivial⟩ (hk7 v1 v2 x5 s4 _ h)
  ·
    refine WP.icmpY (pc' := 46) d14_10 (XT.ii_ge_t hc1) (by decide) rfl ?_
    refine WP.aloadN d14_46 rfl ?_
    refine WP.iloadN d14_47 rfl ?_
    obtain ⟨c6, hc6, h⟩ := Option.bind_eq_some_iff.mp h
    refine WP.callP (i := 0) (y := y15) (as := [.int v1]) (S := []) d14_48 (hw _ m_103) (hw _ m_105) (hw _ m_1) (hw _ m_104) (hw _ m_106) (hw _ m_2) hy15 rfl (ok15 l Z a0 hw n v1 s _ hc6) rfl (lenOf pd15 rfl) (leb rfl) (leb rfl) (leb rfl) (leb rfl) ?_
    rintro _ _ ⟨rfl, rfl⟩
    show W14 l Z n0 (P14 r) 0 0 51 [.val (.ref 0), .val (.int v1), .val (.int v2), .val (.int v3)] [] (Hb 0 c6)
    refine WP.aloadN d14_51 rfl ?_
    refine WP.iloadN d14_52 rfl ?_
    refine WP.iconst (0 : Int32) d14_53 rfl ?_
    obtain ⟨c7, hc7, h⟩ := Option.bind_eq_some_iff.mp h
    refine WP.callP (i := 0) (y := y16) (as := [.int v1, .int (0 : Int32)]) (S := []) d14_54 (hw _ m_107) (hw _ m_109) (hw _ m_1) (hw _ m_108) (hw _ m_110) (hw _ m_2) hy16 rfl (ok16 l Z a0 hw n v1 (0 : Int32) c6 _ hc7) rfl (lenOf pd16 rfl) (leb rfl) (leb rfl) (leb rfl) (leb rfl) ?_
    rintro _ _ ⟨rfl, rfl⟩
    show W14 l Z n0 (P14 r) 0 0 57 [.val (.ref 0), .val (.int v1), .val (.int v2), .val (.int v3)] [] (Hb 0 c7)
    cases h
    exact WP.vreturn d14_57 rfl (leb rfl) (leb rfl) ⟨rfl, rfl⟩
def f_forward_7 : Nat → Int32 → Int32 → Int32 → St → Option (St)
  | 0 => fun _ _ _ _ => none
  | n + 1 => g_forward_7 (f_forward_7 n) n
theorem ok14_7 (l : Launch) (Z : State) (a0 : Array Value) (hw : HW a0 Z) (n0 : Nat) : ∀ (n : Nat) (v1 : Int32) (v2 : Int32) (v3 : Int32) (s : St) (r : St), f_forward_7 n v1 v2 v3 s = some r → W14 l Z n0 (P14 r) 0 0 7 [.val (.ref 0), .val (.int v1), .val (.int v2), .val (.int v3)] [] (Hb 0 s)
  | 0, v1, v2, v3, s, r, h => nomatch (show none = some r from h)
  | n + 1, v1, v2, v3, s, r, h => okg14_7 l Z a0 hw n0 _ (ok14_7 l Z a0 hw n0 n) n v1 v2 v3 s r h
def f_forward (n : Nat) (p1 : Int32) (s : St) : Option (St) :=
  lt (p1 * (16 : Int32)) fun x1 =>
  f_forward_7 n p1 x1 (0 : Int32) s
set_option maxRecDepth 65536 in
set_option maxHeartbeats 4000000 in
theorem ok14 (l : Launch) (Z : State) (a0 : Array Value) (hw : HW a0 Z) (n : Nat) (p1 : Int32) (s : St) (r : St) (h : f_forward n p1 s = some r) : CS l Z CN lay y14 prog_1_method_32_code 4 (none) R14 0 [.ref 0, .int p1] (Hb 0 s) (P14 r) := by
  refine CS.of_wp pn_cls (leb rfl) fun n0 => ?_
  show W14 l Z n0 (P14 r) 0 0 0 [.val (.ref 0), .val (.int p1), .unset, .unset] [] (Hb 0 s)
  unfold f_forward at h
  refine WP.iloadN d14_0 rfl ?_
  refine WP.bipush (16 : Int32) d14_1 rfl ?_
  refine WP.imul d14_3 ?_
  obtain ⟨x1, ex1, h⟩ := lt_e h
  refine WP.istoreN (L' := [.val (.ref 0), .val (.int p1), .val (.int x1), .unset]) d14_4 (leb rfl) (by subst ex1; rfl) ?_
  refine WP.iconst (0 : Int32) d14_5 rfl ?_
  refine WP.istoreN (L' := [.val (.ref 0), .val (.int p1), .val (.int x1), .val (.int (0 : Int32))]) d14_6 (leb rfl) rfl ?_
  exact WP.weak (L' := [.val (.ref 0), .val (.int p1), .val (.int x1), .val (.int (0 : Int32))]) ⟨rfl, rfl, rfl, rfl, trivial⟩ (ok14_7 l Z a0 hw n0 n p1 x1 (0 : Int32) s _ h)
theorem d17_0 : dc prog_1_method_33_code 0 (.iload_n 1) 1 := by decide +kernel
theorem d17_1 : dc prog_1_method_33_code 1 (.bipush 16) 2 := by decide +kernel
theorem d17_3 : dc prog_1_method_33_code 3 (.imul) 1 := by decide +kernel
theorem d17_4 : dc prog_1_method_33_code 4 (.istore_n 2) 1 := by decide +kernel
theorem d17_5 : dc prog_1_method_33_code 5 (.aload_n 0) 1 := by decide +kernel
theorem d17_6 : dc prog_1_method_33_code 6 (.iload_n 1) 1 := by decide +kernel
theorem d17_7 : dc prog_1_method_33_code 7 (.invokevirtual 122) 3 := by decide +kernel
theorem d17_10 : dc prog_1_method_33_code 10 (.aload_n 0) 1 := by decide +kernel
theorem d17_11 : dc prog_1_method_33_code 11 (.iload_n 1) 1 := by decide +kernel
theorem d17_12 : dc prog_1_method_33_code 12 (.iconst 1) 1 := by decide +kernel
theorem d17_13 : dc prog_1_method_33_code 13 (.invokevirtual 125) 3 := by decide +kernel
theorem d17_16 : dc prog_1_method_33_code 16 (.iconst 0) 1 := by decide +kernel
theorem d17_17 : dc prog_1_method_33_code 17 (.istore_n 3) 1 := by decide +kernel
theorem d17_18 : dc prog_1_method_33_code 18 (.iload_n 3) 1 := by decide +kernel
theorem d17_19 : dc prog_1_method_33_code 19 (.bipush 16) 2 := by decide +kernel
theorem d17_21 : dc prog_1_method_33_code 21 (.if_icmp .ge 54) 3 := by decide +kernel
theorem d17_24 : dc prog_1_method_33_code 24 (.aload_n 0) 1 := by decide +kernel
theorem d17_25 : dc prog_1_method_33_code 25 (.getfield 7) 3 := by decide +kernel
theorem d17_28 : dc prog_1_method_33_code 28 (.iload_n 2) 1 := by decide +kernel
theorem d17_29 : dc prog_1_method_33_code 29 (.iload_n 3) 1 := by decide +kernel
theorem d17_30 : dc prog_1_method_33_code 30 (.iadd) 1 := by decide +kernel
theorem d17_31 : dc prog_1_method_33_code 31 (.iaload) 1 := by decide +kernel
theorem d17_32 : dc prog_1_method_33_code 32 (.aload_n 0) 1 := by decide +kernel
theorem d17_33 : dc prog_1_method_33_code 33 (.getfield 13) 3 := by decide +kernel
theorem d17_36 : dc prog_1_method_33_code 36 (.bipush 32) 2 := by decide +kernel
theorem d17_38 : dc prog_1_method_33_code 38 (.iload_n 3) 1 := by decide +kernel
theorem d17_39 : dc prog_1_method_33_code 39 (.isub) 1 := by decide +kernel
theorem d17_40 : dc prog_1_method_33_code 40 (.bipush 31) 2 := by decide +kernel
theorem d17_42 : dc prog_1_method_33_code 42 (.iand) 1 := by decide +kernel
theorem d17_43 : dc prog_1_method_33_code 43 (.iaload) 1 := by decide +kernel
theorem d17_44 : dc prog_1_method_33_code 44 (.imul) 1 := by decide +kernel
theorem d17_45 : dc prog_1_method_33_code 45 (.sipush 257) 3 := by decide +kernel
theorem d17_48 : dc prog_1_method_33_code 48 (.irem) 1 := by decide +kernel
theorem d17_49 : dc prog_1_method_33_code 49 (.istore 4) 2 := by decide +kernel
theorem d17_51 : dc prog_1_method_33_code 51 (.aload_n 0) 1 := by decide +kernel
theorem d17_52 : dc prog_1_method_33_code 52 (.getfield 7) 3 := by decide +kernel
theorem d17_55 : dc prog_1_method_33_code 55 (.iload_n 2) 1 := by decide +kernel
theorem d17_56 : dc prog_1_method_33_code 56 (.iload_n 3) 1 := by decide +kernel
theorem d17_57 : dc prog_1_method_33_code 57 (.iadd) 1 := by decide +kernel
theorem d17_58 : dc prog_1_method_33_code 58 (.iload 4) 2 := by decide +kernel
theorem d17_60 : dc prog_1_method_33_code 60 (.sipush 241) 3 := by decide +kernel
theorem d17_63 : dc prog_1_method_33_code 63 (.imul) 1 := by decide +kernel
theorem d17_64 : dc prog_1_method_33_code 64 (.sipush 257) 3 := by decide +kernel
theorem d17_67 : dc prog_1_method_33_code 67 (.irem) 1 := by decide +kernel
theorem d17_68 : dc prog_1_method_33_code 68 (.iastore) 1 := by decide +kernel
theorem d17_69 : dc prog_1_method_33_code 69 (.iinc 3 1) 3 := by decide +kernel
theorem d17_72 : dc prog_1_method_33_code 72 (.goto (-54)) 3 := by decide +kernel
theorem d17_75 : dc prog_1_method_33_code 75 (.return_) 1 := by decide +kernel
abbrev y17 : MethodName := ⟨"RingLweKem", "inverse", "(I)V"⟩
theorem hy17 : y17.cls ≠ "java/lang/invoke/MethodHandle" ∧ y17.cls ≠ "java/lang/invoke/VarHandle" := by decide
theorem pd17 : parseMethodDescriptor y17.desc = some ⟨[.int], none⟩ := by decide +kernel
abbrev R17 : Room := { frames := 1, cells := 0, slots := 0, locals := 26 }
abbrev P17 (r : St) : Option Value → List OwnC → Prop := fun v H' => v = none ∧ H' = (Hb 0 r)
abbrev W17 (l : Launch) (Z : State) (n0 : Nat) (Q : Option Value → List OwnC → Prop) (k n pc : Nat) (L : List Slot) (S : List Value) (H : List OwnC) : Prop := WP l Z CN lay "RingLweKem" "inverse" prog_1_method_33_code 5 (none) R17 n0 0 Q k n pc L S H
def g_inverse_18 (k18 : Int32 → Int32 → St → Option (St)) (n : Nat) (v2 : Int32) (v3 : Int32) (s : St) : Option (St) :=
  if v3 < (16 : Int32) then
    (rd (gA s 0) (v2 + v3)).bind fun x2 =>
    (rd (gA s 1) (((32 : Int32) - v3) &&& (31 : Int32))).bind fun x3 =>
    lt ((x2 * x3) % (257 : Int32)) fun x4 =>
    (wrA s 0 (v2 + v3) ((x4 * (241 : Int32)) % (257 : Int32))).bind fun s5 =>
    lt (v3 + (1 : Int32)) fun x6 =>
    k18 v2 x6 s5
  else
    some s
set_option maxRecDepth 65536 in
set_option maxHeartbeats 4000000 in
theorem okg17_18 (l : Launch) (Z : State) (a0 : Array Value) (hw : HW a0 Z) (n0 : Nat) (k18 : Int32 → Int32 → St → Option (St)) (hk18 : ∀ (v2 : Int32) (v3 : Int32) (s : St) (r : St), k18 v2 v3 s = some r → W17 l Z n0 (P17 r) 0 0 18 [.val (.ref 0), .unset, .val (.int v2), .val (.int v3), .unset] [] (Hb 0 s)) (n : Nat) (v2 : Int32) (v3 : Int32) (s : St) (r : St) (h : g_inverse_18 k18 n v2 v3 s = some r) : W17 l Z n0 (P17 r) 0 0 18 [.val (.ref 0), .unset, .val (.int v2), .val (.int v3), .unset] [] (Hb 0 s) := by
  unfold g_inverse_18 at h
  refine WP.iloadN d17_18 rfl ?_
  refine WP.bipush (16 : Int32) d17_19 rfl ?_
  rcases ite_e h with ⟨hc1, h⟩ | ⟨hc1, h⟩
  ·
    refine WP.icmpN d17_21 (XT.ii_ge_f hc1) ?_
    refine WP.aloadN d17_24 rfl ?_
    refine WP.getfield (i := 0) (j := 0) d17_25 (hw _ m_14) rfl rfl rfl ?_
    refine WP.iloadN d17_28 rfl ?_
    refine WP.iloadN d17_29 rfl ?_
    refine WP.iadd d17_30 ?_
    obtain ⟨x2, hx2, h⟩ := Option.bind_eq_some_iff.mp h
    refine WP.iaload (i := 1) d17_31 rfl hx2 ?_
    refine WP.aloadN d17_32 rfl ?_
    refine WP.getfield (i := 0) (j := 1) d17_33 (hw _ m_16) rfl rfl rfl ?_
    refine WP.bipush (32 : Int32) d17_36 rfl ?_
    refine WP.iloadN d17_38 rfl ?_
    refine WP.isub d17_39 ?_
    refine WP.bipush (31 : Int32) d17_40 rfl ?_
    refine WP.iand d17_42 ?_
    obtain ⟨x3, hx3, h⟩ := Option.bind_eq_some_iff.mp h
    refine WP.iaload (i := 2) d17_43 rfl hx3 ?_
    refine WP.imul d17_44 ?_
    refine WP.sipush (257 : Int32) d17_45 rfl ?_
    refine WP.irem d17_48 (by decide) ?_
    obtain ⟨x4, ex4, h⟩ := lt_e h
    refine WP.istore (L' := [.val (.ref 0), .unset, .val (.int v2), .val (.int v3), .val (.int x4)]) d17_49 (leb rfl) (by subst ex4; rfl) ?_
    refine WP.aloadN d17_51 rfl ?_
    refine WP.getfield (i := 0) (j := 0) d17_52 (hw _ m_14) rfl rfl rfl ?_
    refine WP.iloadN d17_55 rfl ?_
    refine WP.iloadN d17_56 rfl ?_
    refine WP.iadd d17_57 ?_
    refine WP.iload d17_58 rfl ?_
    refine WP.sipush (241 : Int32) d17_60 rfl ?_
    refine WP.imul d17_63 ?_
    refine WP.sipush (257 : Int32) d17_64 rfl ?_
    refine WP.irem d17_67 (by decide) ?_
    obtain ⟨s5, hs5, h⟩ := Option.bind_eq_some_iff.mp h
    obtain ⟨ys5, gs5, es5⟩ := wrA_e hs5
    refine WP.iastore (i := 1) (xs := gA s 0) (H' := (Hb 0 s5)) d17_68 rfl (leb rfl) gs5 (by subst es5; rfl) ?_
    obtain ⟨x6, ex6, h⟩ := lt_e h
    refine WP.iinc (L' := [.val (.ref 0), .unset, .val (.int v2), .val (.int x6), .val (.int x4)]) (1 : Int32) d17_69 rfl rfl (by subst ex6; rfl) ?_
    refine WP.goto (pc' := 18) d17_72 (by decide) rfl ?_
    exact WP.weak (L' := [.val (.ref 0), .unset, .val (.int v2), .val (.int x6), .unset]) ⟨rfl, rfl, rfl, trivial⟩ (hk18 v2 x6 s5 _ h)
  ·
    refine WP.icmpY (pc' := 75) d17_21 (XT.ii_ge_t hc1) (by decide) rfl ?_
    cases h
    exact WP.vreturn d17_75 rfl (leb rfl) (leb rfl) ⟨rfl, rfl⟩
def f_inverse_18 : Nat → Int32 → Int32 → St → Option (St)
  | 0 => fun _ _ _ => none
  | n + 1 => g_inverse_18 (f_inverse_18 n) n
theorem ok17_18 (l : Launch) (Z : State) (a0 : Array Value) (hw : HW a0 Z) (n0 : Nat) : ∀ (n : Nat) (v2 : Int32) (v3 : Int32) (s : St) (r : St), f_inverse_18 n v2 v3 s = some r → W17 l Z n0 (P17 r) 0 0 18 [.val (.ref 0), .unset, .val (.int v2), .val (.int v3), .unset] [] (Hb 0 s)
  | 0, v2, v3, s, r, h => nomatch (show none = some r from h)
  | n + 1, v2, v3, s, r, h => okg17_18 l Z a0 hw n0 _ (ok17_18 l Z a0 hw n0 n) n v2 v3 s r h
def f_inverse (n : Nat) (p1 : Int32) (s : St) : Option (St) :=
  lt (p1 * (16 : Int32)) fun x1 =>
  (f_bitReverse n p1 s).bind fun c2 =>
  (f_butterflies n p1 (1 : Int32) c2).bind fun c3 =>
  f_inverse_18 n x1 (0 : Int32) c3
set_option maxRecDepth 65536 in
set_option maxHeartbeats 4000000 in
theorem ok17 (l : Launch) (Z : State) (a0 : Array Value) (hw : HW a0 Z) (n : Nat) (p1 : Int32) (s : St) (r : St) (h : f_inverse n p1 s = some r) : CS l Z CN lay y17 prog_1_method_33_code 5 (none) R17 0 [.ref 0, .int p1] (Hb 0 s) (P17 r) := by
  refine CS.of_wp pn_cls (leb rfl) fun n0 => ?_
  show W17 l Z n0 (P17 r) 0 0 0 [.val (.ref 0), .val (.int p1), .unset, .unset, .unset] [] (Hb 0 s)
  unfold f_inverse at h
  refine WP.iloadN d17_0 rfl ?_
  refine WP.bipush (16 : Int32) d17_1 rfl ?_
  refine WP.imul d17_3 ?_
  obtain ⟨x1, ex1, h⟩ := lt_e h
  refine WP.istoreN (L' := [.val (.ref 0), .val (.int p1), .val (.int x1), .unset, .unset]) d17_4 (leb rfl) (by subst ex1; rfl) ?_
  refine WP.aloadN d17_5 rfl ?_
  refine WP.iloadN d17_6 rfl ?_
  obtain ⟨c2, hc2, h⟩ := Option.bind_eq_some_iff.mp h
  refine WP.callP (i := 0) (y := y15) (as := [.int p1]) (S := []) d17_7 (hw _ m_103) (hw _ m_105) (hw _ m_1) (hw _ m_104) (hw _ m_106) (hw _ m_2) hy15 rfl (ok15 l Z a0 hw n p1 s _ hc2) rfl (lenOf pd15 rfl) (leb rfl) (leb rfl) (leb rfl) (leb rfl) ?_
  rintro _ _ ⟨rfl, rfl⟩
  show W17 l Z n0 (P17 r) 0 0 10 [.val (.ref 0), .val (.int p1), .val (.int x1), .unset, .unset] [] (Hb 0 c2)
  refine WP.aloadN d17_10 rfl ?_
  refine WP.iloadN d17_11 rfl ?_
  refine WP.iconst (1 : Int32) d17_12 rfl ?_
  obtain ⟨c3, hc3, h⟩ := Option.bind_eq_some_iff.mp h
  refine WP.callP (i := 0) (y := y16) (as := [.int p1, .int (1 : Int32)]) (S := []) d17_13 (hw _ m_107) (hw _ m_109) (hw _ m_1) (hw _ m_108) (hw _ m_110) (hw _ m_2) hy16 rfl (ok16 l Z a0 hw n p1 (1 : Int32) c2 _ hc3) rfl (lenOf pd16 rfl) (leb rfl) (leb rfl) (leb rfl) (leb rfl) ?_
  rintro _ _ ⟨rfl, rfl⟩
  show W17 l Z n0 (P17 r) 0 0 16 [.val (.ref 0), .val (.int p1), .val (.int x1), .unset, .unset] [] (Hb 0 c3)
  refine WP.iconst (0 : Int32) d17_16 rfl ?_
  refine WP.istoreN (L' := [.val (.ref 0), .val (.int p1), .val (.int x1), .val (.int (0 : Int32)), .unset]) d17_17 (leb rfl) rfl ?_
  exact WP.weak (L' := [.val (.ref 0), .unset, .val (.int x1), .val (.int (0 : Int32)), .unset]) ⟨rfl, rfl, rfl, trivial⟩ (ok17_18 l Z a0 hw n0 n x1 (0 : Int32) c3 _ h)
theorem d12_0 : dc prog_1_method_31_code 0 (.aload_n 0) 1 := by decide +kernel
theorem d12_1 : dc prog_1_method_31_code 1 (.iload_n 1) 1 := by decide +kernel
theorem d12_2 : dc prog_1_method_31_code 2 (.bipush 15) 2 := by decide +kernel
theorem d12_4 : dc prog_1_method_31_code 4 (.invokevirtual 113) 3 := by decide +kernel
theorem d12_7 : dc prog_1_method_31_code 7 (.aload_n 0) 1 := by decide +kernel
theorem d12_8 : dc prog_1_method_31_code 8 (.iload_n 2) 1 := by decide +kernel
theorem d12_9 : dc prog_1_method_31_code 9 (.bipush 16) 2 := by decide +kernel
theorem d12_11 : dc prog_1_method_31_code 11 (.invokevirtual 113) 3 := by decide +kernel
theorem d12_14 : dc prog_1_method_31_code 14 (.aload_n 0) 1 := by decide +kernel
theorem d12_15 : dc prog_1_method_31_code 15 (.bipush 15) 2 := by decide +kernel
theorem d12_17 : dc prog_1_method_31_code 17 (.invokevirtual 116) 3 := by decide +kernel
theorem d12_20 : dc prog_1_method_31_code 20 (.aload_n 0) 1 := by decide +kernel
theorem d12_21 : dc prog_1_method_31_code 21 (.bipush 16) 2 := by decide +kernel
theorem d12_23 : dc prog_1_method_31_code 23 (.invokevirtual 116) 3 := by decide +kernel
theorem d12_26 : dc prog_1_method_31_code 26 (.sipush 240) 3 := by decide +kernel
theorem d12_29 : dc prog_1_method_31_code 29 (.istore 4) 2 := by decide +kernel
theorem d12_31 : dc prog_1_method_31_code 31 (.sipush 256) 3 := by decide +kernel
theorem d12_34 : dc prog_1_method_31_code 34 (.istore 5) 2 := by decide +kernel
theorem d12_36 : dc prog_1_method_31_code 36 (.iconst 0) 1 := by decide +kernel
theorem d12_37 : dc prog_1_method_31_code 37 (.istore 6) 2 := by decide +kernel
theorem d12_39 : dc prog_1_method_31_code 39 (.iload 6) 2 := by decide +kernel
theorem d12_41 : dc prog_1_method_31_code 41 (.bipush 16) 2 := by decide +kernel
theorem d12_43 : dc prog_1_method_31_code 43 (.if_icmp .ge 44) 3 := by decide +kernel
theorem d12_46 : dc prog_1_method_31_code 46 (.aload_n 0) 1 := by decide +kernel
theorem d12_47 : dc prog_1_method_31_code 47 (.getfield 7) 3 := by decide +kernel
theorem d12_50 : dc prog_1_method_31_code 50 (.iload 4) 2 := by decide +kernel
theorem d12_52 : dc prog_1_method_31_code 52 (.iload 6) 2 := by decide +kernel
theorem d12_54 : dc prog_1_method_31_code 54 (.iadd) 1 := by decide +kernel
theorem d12_55 : dc prog_1_method_31_code 55 (.aload_n 0) 1 := by decide +kernel
theorem d12_56 : dc prog_1_method_31_code 56 (.getfield 7) 3 := by decide +kernel
theorem d12_59 : dc prog_1_method_31_code 59 (.iload 4) 2 := by decide +kernel
theorem d12_61 : dc prog_1_method_31_code 61 (.iload 6) 2 := by decide +kernel
theorem d12_63 : dc prog_1_method_31_code 63 (.iadd) 1 := by decide +kernel
theorem d12_64 : dc prog_1_method_31_code 64 (.iaload) 1 := by decide +kernel
theorem d12_65 : dc prog_1_method_31_code 65 (.aload_n 0) 1 := by decide +kernel
theorem d12_66 : dc prog_1_method_31_code 66 (.getfield 7) 3 := by decide +kernel
theorem d12_69 : dc prog_1_method_31_code 69 (.iload 5) 2 := by decide +kernel
theorem d12_71 : dc prog_1_method_31_code 71 (.iload 6) 2 := by decide +kernel
theorem d12_73 : dc prog_1_method_31_code 73 (.iadd) 1 := by decide +kernel
theorem d12_74 : dc prog_1_method_31_code 74 (.iaload) 1 := by decide +kernel
theorem d12_75 : dc prog_1_method_31_code 75 (.imul) 1 := by decide +kernel
theorem d12_76 : dc prog_1_method_31_code 76 (.sipush 257) 3 := by decide +kernel
theorem d12_79 : dc prog_1_method_31_code 79 (.irem) 1 := by decide +kernel
theorem d12_80 : dc prog_1_method_31_code 80 (.iastore) 1 := by decide +kernel
theorem d12_81 : dc prog_1_method_31_code 81 (.iinc 6 1) 3 := by decide +kernel
theorem d12_84 : dc prog_1_method_31_code 84 (.goto (-45)) 3 := by decide +kernel
theorem d12_87 : dc prog_1_method_31_code 87 (.aload_n 0) 1 := by decide +kernel
theorem d12_88 : dc prog_1_method_31_code 88 (.bipush 15) 2 := by decide +kernel
theorem d12_90 : dc prog_1_method_31_code 90 (.invokevirtual 119) 3 := by decide +kernel
theorem d12_93 : dc prog_1_method_31_code 93 (.aload_n 0) 1 := by decide +kernel
theorem d12_94 : dc prog_1_method_31_code 94 (.bipush 15) 2 := by decide +kernel
theorem d12_96 : dc prog_1_method_31_code 96 (.iload_n 3) 1 := by decide +kernel
theorem d12_97 : dc prog_1_method_31_code 97 (.invokevirtual 113) 3 := by decide +kernel
theorem d12_100 : dc prog_1_method_31_code 100 (.return_) 1 := by decide +kernel
abbrev y12 : MethodName := ⟨"RingLweKem", "mul", "(III)V"⟩
theorem hy12 : y12.cls ≠ "java/lang/invoke/MethodHandle" ∧ y12.cls ≠ "java/lang/invoke/VarHandle" := by decide
theorem pd12 : parseMethodDescriptor y12.desc = some ⟨[.int, .int, .int], none⟩ := by decide +kernel
abbrev R12 : Room := { frames := 2, cells := 0, slots := 0, locals := 42 }
abbrev P12 (r : St) : Option Value → List OwnC → Prop := fun v H' => v = none ∧ H' = (Hb 0 r)
abbrev W12 (l : Launch) (Z : State) (n0 : Nat) (Q : Option Value → List OwnC → Prop) (k n pc : Nat) (L : List Slot) (S : List Value) (H : List OwnC) : Prop := WP l Z CN lay "RingLweKem" "mul" prog_1_method_31_code 7 (none) R12 n0 0 Q k n pc L S H
def g_mul_39 (k39 : Int32 → Int32 → Int32 → Int32 → St → Option (St)) (n : Nat) (v3 : Int32) (v4 : Int32) (v5 : Int32) (v6 : Int32) (s : St) : Option (St) :=
  if v6 < (16 : Int32) then
    (rd (gA s 0) (v4 + v6)).bind fun x2 =>
    (rd (gA s 0) (v5 + v6)).bind fun x3 =>
    (wrA s 0 (v4 + v6) ((x2 * x3) % (257 : Int32))).bind fun s4 =>
    lt (v6 + (1 : Int32)) fun x5 =>
    k39 v3 v4 v5 x5 s4
  else
    (f_inverse n (15 : Int32) s).bind fun c6 =>
    (f_copy n (15 : Int32) v3 c6).bind fun c7 =>
    some c7
set_option maxRecDepth 65536 in
set_option maxHeartbeats 4000000 in
theorem okg12_39 (l : Launch) (Z : State) (a0 : Array Value) (hw : HW a0 Z) (n0 : Nat) (k39 : Int32 → Int32 → Int32 → Int32 → St → Option (St)) (hk39 : ∀ (v3 : Int32) (v4 : Int32) (v5 : Int32) (v6 : Int32) (s : St) (r : St), k39 v3 v4 v5 v6 s = some r → W12 l Z n0 (P12 r) 0 0 39 [.val (.ref 0), .unset, .unset, .val (.int v3), .val (.int v4), .val (.int v5), .val (.int v6)] [] (Hb 0 s)) (n : Nat) (v3 : Int32) (v4 : Int32) (v5 : Int32) (v6 : Int32) (s : St) (r : St) (h : g_mul_39 k39 n v3 v4 v5 v6 s = some r) : W12 l Z n0 (P12 r) 0 0 39 [.val (.ref 0), .unset, .unset, .val (.int v3), .val (.int v4), .val (.int v5), .val (.int v6)] [] (Hb 0 s) := by
  unfold g_mul_39 at h
  refine WP.iload d12_39 rfl ?_
  refine WP.bipush (16 : Int32) d12_41 rfl ?_
  rcases ite_e h with ⟨hc1, h⟩ | ⟨hc1, h⟩
  ·
    refine WP.icmpN d12_43 (XT.ii_ge_f hc1) ?_
    refine WP.aloadN d12_46 rfl ?_
    refine WP.getfield (i := 0) (j := 0) d12_47 (hw _ m_14) rfl rfl rfl ?_
    refine WP.iload d12_50 rfl ?_
    refine WP.iload d12_52 rfl ?_
    refine WP.iadd d12_54 ?_
    refine WP.aloadN d12_55 rfl ?_
    refine WP.getfield (i := 0) (j := 0) d12_56 (hw _ m_14) rfl rfl rfl ?_
    refine WP.iload d12_59 rfl ?_
    refine WP.iload d12_61 rfl ?_
    refine WP.iadd d12_63 ?_
    obtain ⟨x2, hx2, h⟩ := Option.bind_eq_some_iff.mp h
    refine WP.iaload (i := 1) d12_64 rfl hx2 ?_
    refine WP.aloadN d12_65 rfl ?_
    refine WP.getfield (i := 0) (j := 0) d12_66 (hw _ m_14) rfl rfl rfl ?_
    refine WP.iload d12_69 rfl ?_
    refine WP.iload d12_71 rfl ?_
    refine WP.iadd d12_73 ?_
    obtain ⟨x3, hx3, h⟩ := Option.bind_eq_some_iff.mp h
    refine WP.iaload (i := 1) d12_74 rfl hx3 ?_
    refine WP.imul d12_75 ?_
    refine WP.sipush (257 : Int32) d12_76 rfl ?_
    refine WP.irem d12_79 (by decide) ?_
    obtain ⟨s4, hs4, h⟩ := Option.bind_eq_some_iff.mp h
    obtain ⟨ys4, gs4, es4⟩ := wrA_e hs4
    refine WP.iastore (i := 1) (xs := gA s 0) (H' := (Hb 0 s4)) d12_80 rfl (leb rfl) gs4 (by subst es4; rfl) ?_
    obtain ⟨x5, ex5, h⟩ := lt_e h
    refine WP.iinc (L' := [.val (.ref 0), .unset, .unset, .val (.int v3), .val (.int v4), .val (.int v5), .val (.int x5)]) (1 : Int32) d12_81 rfl rfl (by subst ex5; rfl) ?_
    refine WP.goto (pc' := 39) d12_84 (by decide) rfl ?_
    exact WP.weak (L' := [.val (.ref 0), .unset, .unset, .val (.int v3), .val (.int v4), .val (.int v5), .val (.int x5)]) ⟨rfl, rfl, rfl, rfl, rfl, trivial⟩ (hk39 v3 v4 v5 x5 s4 _ h)
  ·
    refine WP.icmpY (pc' := 87) d12_43 (XT.ii_ge_t hc1) (by decide) rfl ?_
    refine WP.aloadN d12_87 rfl ?_
    refine WP.bipush (15 : Int32) d12_88 rfl ?_
    obtain ⟨c6, hc6, h⟩ := Option.bind_eq_some_iff.mp h
    refine WP.callP (i := 0) (y := y17) (as := [.int (15 : Int32)]) (S := []) d12_90 (hw _ m_111) (hw _ m_113) (hw _ m_1) (hw _ m_112) (hw _ m_114) (hw _ m_2) hy17 rfl (ok17 l Z a0 hw n (15 : Int32) s _ hc6) rfl (lenOf pd17 rfl) (leb rfl) (leb rfl) (leb rfl) (leb rfl) ?_
    rintro _ _ ⟨rfl, rfl⟩
    show W12 l Z n0 (P12 r) 0 0 93 [.val (.ref 0), .unset, .unset, .val (.int v3), .val (.int v4), .val (.int v5), .val (.int v6)] [] (Hb 0 c6)
    refine WP.aloadN d12_93 rfl ?_
    refine WP.bipush (15 : Int32) d12_94 rfl ?_
    refine WP.iloadN d12_96 rfl ?_
    obtain ⟨c7, hc7, h⟩ := Option.bind_eq_some_iff.mp h
    refine WP.callP (i := 0) (y := y13) (as := [.int (15 : Int32), .int v3]) (S := []) d12_97 (hw _ m_95) (hw _ m_97) (hw _ m_1) (hw _ m_96) (hw _ m_98) (hw _ m_2) hy13 rfl (ok13 l Z a0 hw n (15 : Int32) v3 c6 _ hc7) rfl (lenOf pd13 rfl) (leb rfl) (leb rfl) (leb rfl) (leb rfl) ?_
    rintro _ _ ⟨rfl, rfl⟩
    show W12 l Z n0 (P12 r) 0 0 100 [.val (.ref 0), .unset, .unset, .val (.int v3), .val (.int v4), .val (.int v5), .val (.int v6)] [] (Hb 0 c7)
    cases h
    exact WP.vreturn d12_100 rfl (leb rfl) (leb rfl) ⟨rfl, rfl⟩
def f_mul_39 : Nat → Int32 → Int32 → Int32 → Int32 → St → Option (St)
  | 0 => fun _ _ _ _ _ => none
  | n + 1 => g_mul_39 (f_mul_39 n) n
theorem ok12_39 (l : Launch) (Z : State) (a0 : Array Value) (hw : HW a0 Z) (n0 : Nat) : ∀ (n : Nat) (v3 : Int32) (v4 : Int32) (v5 : Int32) (v6 : Int32) (s : St) (r : St), f_mul_39 n v3 v4 v5 v6 s = some r → W12 l Z n0 (P12 r) 0 0 39 [.val (.ref 0), .unset, .unset, .val (.int v3), .val (.int v4), .val (.int v5), .val (.int v6)] [] (Hb 0 s)
  | 0, v3, v4, v5, v6, s, r, h => nomatch (show none = some r from h)
  | n + 1, v3, v4, v5, v6, s, r, h => okg12_39 l Z a0 hw n0 _ (ok12_39 l Z a0 hw n0 n) n v3 v4 v5 v6 s r h
def f_mul (n : Nat) (p1 : Int32) (p2 : Int32) (p3 : Int32) (s : St) : Option (St) :=
  (f_copy n p1 (15 : Int32) s).bind fun c1 =>
  (f_copy n p2 (16 : Int32) c1).bind fun c2 =>
  (f_forward n (15 : Int32) c2).bind fun c3 =>
  (f_forward n (16 : Int32) c3).bind fun c4 =>
  f_mul_39 n p3 (240 : Int32) (256 : Int32) (0 : Int32) c4
set_option maxRecDepth 65536 in
set_option maxHeartbeats 4000000 in
theorem ok12 (l : Launch) (Z : State) (a0 : Array Value) (hw : HW a0 Z) (n : Nat) (p1 : Int32) (p2 : Int32) (p3 : Int32) (s : St) (r : St) (h : f_mul n p1 p2 p3 s = some r) : CS l Z CN lay y12 prog_1_method_31_code 7 (none) R12 0 [.ref 0, .int p1, .int p2, .int p3] (Hb 0 s) (P12 r) := by
  refine CS.of_wp pn_cls (leb rfl) fun n0 => ?_
  show W12 l Z n0 (P12 r) 0 0 0 [.val (.ref 0), .val (.int p1), .val (.int p2), .val (.int p3), .unset, .unset, .unset] [] (Hb 0 s)
  unfold f_mul at h
  refine WP.aloadN d12_0 rfl ?_
  refine WP.iloadN d12_1 rfl ?_
  refine WP.bipush (15 : Int32) d12_2 rfl ?_
  obtain ⟨c1, hc1, h⟩ := Option.bind_eq_some_iff.mp h
  refine WP.callP (i := 0) (y := y13) (as := [.int p1, .int (15 : Int32)]) (S := []) d12_4 (hw _ m_95) (hw _ m_97) (hw _ m_1) (hw _ m_96) (hw _ m_98) (hw _ m_2) hy13 rfl (ok13 l Z a0 hw n p1 (15 : Int32) s _ hc1) rfl (lenOf pd13 rfl) (leb rfl) (leb rfl) (leb rfl) (leb rfl) ?_
  rintro _ _ ⟨rfl, rfl⟩
  show W12 l Z n0 (P12 r) 0 0 7 [.val (.ref 0), .val (.int p1), .val (.int p2), .val (.int p3), .unset, .unset, .unset] [] (Hb 0 c1)
  refine WP.aloadN d12_7 rfl ?_
  refine WP.iloadN d12_8 rfl ?_
  refine WP.bipush (16 : Int32) d12_9 rfl ?_
  obtain ⟨c2, hc2, h⟩ := Option.bind_eq_some_iff.mp h
  refine WP.callP (i := 0) (y := y13) (as := [.int p2, .int (16 : Int32)]) (S := []) d12_11 (hw _ m_95) (hw _ m_97) (hw _ m_1) (hw _ m_96) (hw _ m_98) (hw _ m_2) hy13 rfl (ok13 l Z a0 hw n p2 (16 : Int32) c1 _ hc2) rfl (lenOf pd13 rfl) (leb rfl) (leb rfl) (leb rfl) (leb rfl) ?_
  rintro _ _ ⟨rfl, rfl⟩
  show W12 l Z n0 (P12 r) 0 0 14 [.val (.ref 0), .val (.int p1), .val (.int p2), .val (.int p3), .unset, .unset, .unset] [] (Hb 0 c2)
  refine WP.aloadN d12_14 rfl ?_
  refine WP.bipush (15 : Int32) d12_15 rfl ?_
  obtain ⟨c3, hc3, h⟩ := Option.bind_eq_some_iff.mp h
  refine WP.callP (i := 0) (y := y14) (as := [.int (15 : Int32)]) (S := []) d12_17 (hw _ m_99) (hw _ m_101) (hw _ m_1) (hw _ m_100) (hw _ m_102) (hw _ m_2) hy14 rfl (ok14 l Z a0 hw n (15 : Int32) c2 _ hc3) rfl (lenOf pd14 rfl) (leb rfl) (leb rfl) (leb rfl) (leb rfl) ?_
  rintro _ _ ⟨rfl, rfl⟩
  show W12 l Z n0 (P12 r) 0 0 20 [.val (.ref 0), .val (.int p1), .val (.int p2), .val (.int p3), .unset, .unset, .unset] [] (Hb 0 c3)
  refine WP.aloadN d12_20 rfl ?_
  refine WP.bipush (16 : Int32) d12_21 rfl ?_
  obtain ⟨c4, hc4, h⟩ := Option.bind_eq_some_iff.mp h
  refine WP.callP (i := 0) (y := y14) (as := [.int (16 : Int32)]) (S := []) d12_23 (hw _ m_99) (hw _ m_101) (hw _ m_1) (hw _ m_100) (hw _ m_102) (hw _ m_2) hy14 rfl (ok14 l Z a0 hw n (16 : Int32) c3 _ hc4) rfl (lenOf pd14 rfl) (leb rfl) (leb rfl) (leb rfl) (leb rfl) ?_
  rintro _ _ ⟨rfl, rfl⟩
  show W12 l Z n0 (P12 r) 0 0 26 [.val (.ref 0), .val (.int p1), .val (.int p2), .val (.int p3), .unset, .unset, .unset] [] (Hb 0 c4)
  refine WP.sipush (240 : Int32) d12_26 rfl ?_
  refine WP.istore (L' := [.val (.ref 0), .val (.int p1), .val (.int p2), .val (.int p3), .val (.int (240 : Int32)), .unset, .unset]) d12_29 (leb rfl) rfl ?_
  refine WP.sipush (256 : Int32) d12_31 rfl ?_
  refine WP.istore (L' := [.val (.ref 0), .val (.int p1), .val (.int p2), .val (.int p3), .val (.int (240 : Int32)), .val (.int (256 : Int32)), .unset]) d12_34 (leb rfl) rfl ?_
  refine WP.iconst (0 : Int32) d12_36 rfl ?_
  refine WP.istore (L' := [.val (.ref 0), .val (.int p1), .val (.int p2), .val (.int p3), .val (.int (240 : Int32)), .val (.int (256 : Int32)), .val (.int (0 : Int32))]) d12_37 (leb rfl) rfl ?_
  exact WP.weak (L' := [.val (.ref 0), .unset, .unset, .val (.int p3), .val (.int (240 : Int32)), .val (.int (256 : Int32)), .val (.int (0 : Int32))]) ⟨rfl, rfl, rfl, rfl, rfl, trivial⟩ (ok12_39 l Z a0 hw n0 n p3 (240 : Int32) (256 : Int32) (0 : Int32) c4 _ h)
theorem d18_0 : dc prog_1_method_30_code 0 (.iload_n 2) 1 := by decide +kernel
theorem d18_1 : dc prog_1_method_30_code 1 (.bipush 16) 2 := by decide +kernel
theorem d18_3 : dc prog_1_method_30_code 3 (.imul) 1 := by decide +kernel
theorem d18_4 : dc prog_1_method_30_code 4 (.istore_n 3) 1 := by decide +kernel
theorem d18_5 : dc prog_1_method_30_code 5 (.iload_n 1) 1 := by decide +kernel
theorem d18_6 : dc prog_1_method_30_code 6 (.bipush 16) 2 := by decide +kernel
theorem d18_8 : dc prog_1_method_30_code 8 (.imul) 1 := by decide +kernel
theorem d18_9 : dc prog_1_method_30_code 9 (.istore 4) 2 := by decide +kernel
theorem d18_11 : dc prog_1_method_30_code 11 (.iconst 0) 1 := by decide +kernel
theorem d18_12 : dc prog_1_method_30_code 12 (.istore 5) 2 := by decide +kernel
theorem d18_14 : dc prog_1_method_30_code 14 (.iload 5) 2 := by decide +kernel
theorem d18_16 : dc prog_1_method_30_code 16 (.bipush 16) 2 := by decide +kernel
theorem d18_18 : dc prog_1_method_30_code 18 (.if_icmp .ge 43) 3 := by decide +kernel
theorem d18_21 : dc prog_1_method_30_code 21 (.aload_n 0) 1 := by decide +kernel
theorem d18_22 : dc prog_1_method_30_code 22 (.getfield 7) 3 := by decide +kernel
theorem d18_25 : dc prog_1_method_30_code 25 (.iload 4) 2 := by decide +kernel
theorem d18_27 : dc prog_1_method_30_code 27 (.iload 5) 2 := by decide +kernel
theorem d18_29 : dc prog_1_method_30_code 29 (.iadd) 1 := by decide +kernel
theorem d18_30 : dc prog_1_method_30_code 30 (.aload_n 0) 1 := by decide +kernel
theorem d18_31 : dc prog_1_method_30_code 31 (.getfield 7) 3 := by decide +kernel
theorem d18_34 : dc prog_1_method_30_code 34 (.iload 4) 2 := by decide +kernel
theorem d18_36 : dc prog_1_method_30_code 36 (.iload 5) 2 := by decide +kernel
theorem d18_38 : dc prog_1_method_30_code 38 (.iadd) 1 := by decide +kernel
theorem d18_39 : dc prog_1_method_30_code 39 (.iaload) 1 := by decide +kernel
theorem d18_40 : dc prog_1_method_30_code 40 (.aload_n 0) 1 := by decide +kernel
theorem d18_41 : dc prog_1_method_30_code 41 (.getfield 7) 3 := by decide +kernel
theorem d18_44 : dc prog_1_method_30_code 44 (.iload_n 3) 1 := by decide +kernel
theorem d18_45 : dc prog_1_method_30_code 45 (.iload 5) 2 := by decide +kernel
theorem d18_47 : dc prog_1_method_30_code 47 (.iadd) 1 := by decide +kernel
theorem d18_48 : dc prog_1_method_30_code 48 (.iaload) 1 := by decide +kernel
theorem d18_49 : dc prog_1_method_30_code 49 (.iadd) 1 := by decide +kernel
theorem d18_50 : dc prog_1_method_30_code 50 (.sipush 257) 3 := by decide +kernel
theorem d18_53 : dc prog_1_method_30_code 53 (.irem) 1 := by decide +kernel
theorem d18_54 : dc prog_1_method_30_code 54 (.iastore) 1 := by decide +kernel
theorem d18_55 : dc prog_1_method_30_code 55 (.iinc 5 1) 3 := by decide +kernel
theorem d18_58 : dc prog_1_method_30_code 58 (.goto (-44)) 3 := by decide +kernel
theorem d18_61 : dc prog_1_method_30_code 61 (.return_) 1 := by decide +kernel
abbrev y18 : MethodName := ⟨"RingLweKem", "addInto", "(II)V"⟩
theorem hy18 : y18.cls ≠ "java/lang/invoke/MethodHandle" ∧ y18.cls ≠ "java/lang/invoke/VarHandle" := by decide
theorem pd18 : parseMethodDescriptor y18.desc = some ⟨[.int, .int], none⟩ := by decide +kernel
abbrev R18 : Room := { frames := 0, cells := 0, slots := 0, locals := 0 }
abbrev P18 (r : St) : Option Value → List OwnC → Prop := fun v H' => v = none ∧ H' = (Hb 0 r)
abbrev W18 (l : Launch) (Z : State) (n0 : Nat) (Q : Option Value → List OwnC → Prop) (k n pc : Nat) (L : List Slot) (S : List Value) (H : List OwnC) : Prop := WP l Z CN lay "RingLweKem" "addInto" prog_1_method_30_code 6 (none) R18 n0 0 Q k n pc L S H
def g_addInto_14 (k14 : Int32 → Int32 → Int32 → St → Option (St)) (n : Nat) (v3 : Int32) (v4 : Int32) (v5 : Int32) (s : St) : Option (St) :=
  if v5 < (16 : Int32) then
    (rd (gA s 0) (v4 + v5)).bind fun x2 =>
    (rd (gA s 0) (v3 + v5)).bind fun x3 =>
    (wrA s 0 (v4 + v5) ((x2 + x3) % (257 : Int32))).bind fun s4 =>
    lt (v5 + (1 : Int32)) fun x5 =>
    k14 v3 v4 x5 s4
  else
    some s
set_option maxRecDepth 65536 in
set_option maxHeartbeats 4000000 in
theorem okg18_14 (l : Launch) (Z : State) (a0 : Array Value) (hw : HW a0 Z) (n0 : Nat) (k14 : Int32 → Int32 → Int32 → St → Option (St)) (hk14 : ∀ (v3 : Int32) (v4 : Int32) (v5 : Int32) (s : St) (r : St), k14 v3 v4 v5 s = some r → W18 l Z n0 (P18 r) 0 0 14 [.val (.ref 0), .unset, .unset, .val (.int v3), .val (.int v4), .val (.int v5)] [] (Hb 0 s)) (n : Nat) (v3 : Int32) (v4 : Int32) (v5 : Int32) (s : St) (r : St) (h : g_addInto_14 k14 n v3 v4 v5 s = some r) : W18 l Z n0 (P18 r) 0 0 14 [.val (.ref 0), .unset, .unset, .val (.int v3), .val (.int v4), .val (.int v5)] [] (Hb 0 s) := by
  unfold g_addInto_14 at h
  refine WP.iload d18_14 rfl ?_
  refine WP.bipush (16 : Int32) d18_16 rfl ?_
  rcases ite_e h with ⟨hc1, h⟩ | ⟨hc1, h⟩
  ·
    refine WP.icmpN d18_18 (XT.ii_ge_f hc1) ?_
    refine WP.aloadN d18_21 rfl ?_
    refine WP.getfield (i := 0) (j := 0) d18_22 (hw _ m_14) rfl rfl rfl ?_
    refine WP.iload d18_25 rfl ?_
    refine WP.iload d18_27 rfl ?_
    refine WP.iadd d18_29 ?_
    refine WP.aloadN d18_30 rfl ?_
    refine WP.getfield (i := 0) (j := 0) d18_31 (hw _ m_14) rfl rfl rfl ?_
    refine WP.iload d18_34 rfl ?_
    refine WP.iload d18_36 rfl ?_
    refine WP.iadd d18_38 ?_
    obtain ⟨x2, hx2, h⟩ := Option.bind_eq_some_iff.mp h
    refine WP.iaload (i := 1) d18_39 rfl hx2 ?_
    refine WP.aloadN d18_40 rfl ?_
    refine WP.getfield (i := 0) (j := 0) d18_41 (hw _ m_14) rfl rfl rfl ?_
    refine WP.iloadN d18_44 rfl ?_
    refine WP.iload d18_45 rfl ?_
    refine WP.iadd d18_47 ?_
    obtain ⟨x3, hx3, h⟩ := Option.bind_eq_some_iff.mp h
    refine WP.iaload (i := 1) d18_48 rfl hx3 ?_
    refine WP.iadd d18_49 ?_
    refine WP.sipush (257 : Int32) d18_50 rfl ?_
    refine WP.irem d18_53 (by decide) ?_
    obtain ⟨s4, hs4, h⟩ := Option.bind_eq_some_iff.mp h
    obtain ⟨ys4, gs4, es4⟩ := wrA_e hs4
    refine WP.iastore (i := 1) (xs := gA s 0) (H' := (Hb 0 s4)) d18_54 rfl (leb rfl) gs4 (by subst es4; rfl) ?_
    obtain ⟨x5, ex5, h⟩ := lt_e h
    refine WP.iinc (L' := [.val (.ref 0), .unset, .unset, .val (.int v3), .val (.int v4), .val (.int x5)]) (1 : Int32) d18_55 rfl rfl (by subst ex5; rfl) ?_
    refine WP.goto (pc' := 14) d18_58 (by decide) rfl ?_
    exact WP.weak (L' := [.val (.ref 0), .unset, .unset, .val (.int v3), .val (.int v4), .val (.int x5)]) ⟨rfl, rfl, rfl, rfl, trivial⟩ (hk14 v3 v4 x5 s4 _ h)
  ·
    refine WP.icmpY (pc' := 61) d18_18 (XT.ii_ge_t hc1) (by decide) rfl ?_
    cases h
    exact WP.vreturn d18_61 rfl (leb rfl) (leb rfl) ⟨rfl, rfl⟩
def f_addInto_14 : Nat → Int32 → Int32 → Int32 → St → Option (St)
  | 0 => fun _ _ _ _ => none
  | n + 1 => g_addInto_14 (f_addInto_14 n) n
theorem ok18_14 (l : Launch) (Z : State) (a0 : Array Value) (hw : HW a0 Z) (n0 : Nat) : ∀ (n : Nat) (v3 : Int32) (v4 : Int32) (v5 : Int32) (s : St) (r : St), f_addInto_14 n v3 v4 v5 s = some r → W18 l Z n0 (P18 r) 0 0 14 [.val (.ref 0), .unset, .unset, .val (.int v3), .val (.int v4), .val (.int v5)] [] (Hb 0 s)
  | 0, v3, v4, v5, s, r, h => nomatch (show none = some r from h)
  | n + 1, v3, v4, v5, s, r, h => okg18_14 l Z a0 hw n0 _ (ok18_14 l Z a0 hw n0 n) n v3 v4 v5 s r h
def f_addInto (n : Nat) (p1 : Int32) (p2 : Int32) (s : St) : Option (St) :=
  lt (p2 * (16 : Int32)) fun x1 =>
  lt (p1 * (16 : Int32)) fun x2 =>
  f_addInto_14 n x1 x2 (0 : Int32) s
set_option maxRecDepth 65536 in
set_option maxHeartbeats 4000000 in
theorem ok18 (l : Launch) (Z : State) (a0 : Array Value) (hw : HW a0 Z) (n : Nat) (p1 : Int32) (p2 : Int32) (s : St) (r : St) (h : f_addInto n p1 p2 s = some r) : CS l Z CN lay y18 prog_1_method_30_code 6 (none) R18 0 [.ref 0, .int p1, .int p2] (Hb 0 s) (P18 r) := by
  refine CS.of_wp pn_cls (leb rfl) fun n0 => ?_
  show W18 l Z n0 (P18 r) 0 0 0 [.val (.ref 0), .val (.int p1), .val (.int p2), .unset, .unset, .unset] [] (Hb 0 s)
  unfold f_addInto at h
  refine WP.iloadN d18_0 rfl ?_
  refine WP.bipush (16 : Int32) d18_1 rfl ?_
  refine WP.imul d18_3 ?_
  obtain ⟨x1, ex1, h⟩ := lt_e h
  refine WP.istoreN (L' := [.val (.ref 0), .val (.int p1), .val (.int p2), .val (.int x1), .unset, .unset]) d18_4 (leb rfl) (by subst ex1; rfl) ?_
  refine WP.iloadN d18_5 rfl ?_
  refine WP.bipush (16 : Int32) d18_6 rfl ?_
  refine WP.imul d18_8 ?_
  obtain ⟨x2, ex2, h⟩ := lt_e h
  refine WP.istore (L' := [.val (.ref 0), .val (.int p1), .val (.int p2), .val (.int x1), .val (.int x2), .unset]) d18_9 (leb rfl) (by subst ex2; rfl) ?_
  refine WP.iconst (0 : Int32) d18_11 rfl ?_
  refine WP.istore (L' := [.val (.ref 0), .val (.int p1), .val (.int p2), .val (.int x1), .val (.int x2), .val (.int (0 : Int32))]) d18_12 (leb rfl) rfl ?_
  exact WP.weak (L' := [.val (.ref 0), .unset, .unset, .val (.int x1), .val (.int x2), .val (.int (0 : Int32))]) ⟨rfl, rfl, rfl, rfl, trivial⟩ (ok18_14 l Z a0 hw n0 n x1 x2 (0 : Int32) s _ h)
theorem d19_0 : dc prog_1_method_29_code 0 (.iload_n 1) 1 := by decide +kernel
theorem d19_1 : dc prog_1_method_29_code 1 (.bipush 16) 2 := by decide +kernel
theorem d19_3 : dc prog_1_method_29_code 3 (.imul) 1 := by decide +kernel
theorem d19_4 : dc prog_1_method_29_code 4 (.istore_n 2) 1 := by decide +kernel
theorem d19_5 : dc prog_1_method_29_code 5 (.iconst 0) 1 := by decide +kernel
theorem d19_6 : dc prog_1_method_29_code 6 (.istore_n 3) 1 := by decide +kernel
theorem d19_7 : dc prog_1_method_29_code 7 (.iload_n 3) 1 := by decide +kernel
theorem d19_8 : dc prog_1_method_29_code 8 (.bipush 16) 2 := by decide +kernel
theorem d19_10 : dc prog_1_method_29_code 10 (.if_icmp .ge 18) 3 := by decide +kernel
theorem d19_13 : dc prog_1_method_29_code 13 (.aload_n 0) 1 := by decide +kernel
theorem d19_14 : dc prog_1_method_29_code 14 (.getfield 7) 3 := by decide +kernel
theorem d19_17 : dc prog_1_method_29_code 17 (.iload_n 2) 1 := by decide +kernel
theorem d19_18 : dc prog_1_method_29_code 18 (.iload_n 3) 1 := by decide +kernel
theorem d19_19 : dc prog_1_method_29_code 19 (.iadd) 1 := by decide +kernel
theorem d19_20 : dc prog_1_method_29_code 20 (.iconst 0) 1 := by decide +kernel
theorem d19_21 : dc prog_1_method_29_code 21 (.iastore) 1 := by decide +kernel
theorem d19_22 : dc prog_1_method_29_code 22 (.iinc 3 1) 3 := by decide +kernel
theorem d19_25 : dc prog_1_method_29_code 25 (.goto (-18)) 3 := by decide +kernel
theorem d19_28 : dc prog_1_method_29_code 28 (.return_) 1 := by decide +kernel
abbrev y19 : MethodName := ⟨"RingLweKem", "clear", "(I)V"⟩
theorem hy19 : y19.cls ≠ "java/lang/invoke/MethodHandle" ∧ y19.cls ≠ "java/lang/invoke/VarHandle" := by decide
theorem pd19 : parseMethodDescriptor y19.desc = some ⟨[.int], none⟩ := by decide +kernel
abbrev R19 : Room := { frames := 0, cells := 0, slots := 0, locals := 0 }
abbrev P19 (r : St) : Option Value → List OwnC → Prop := fun v H' => v = none ∧ H' = (Hb 0 r)
abbrev W19 (l : Launch) (Z : State) (n0 : Nat) (Q : Option Value → List OwnC → Prop) (k n pc : Nat) (L : List Slot) (S : List Value) (H : List OwnC) : Prop := WP l Z CN lay "RingLweKem" "clear" prog_1_method_29_code 4 (none) R19 n0 0 Q k n pc L S H
def g_clear_7 (k7 : Int32 → Int32 → St → Option (St)) (n : Nat) (v2 : Int32) (v3 : Int32) (s : St) : Option (St) :=
  if v3 < (16 : Int32) then
    (wrA s 0 (v2 + v3) (0 : Int32)).bind fun s2 =>
    lt (v3 + (1 : Int32)) fun x3 =>
    k7 v2 x3 s2
  else
    some s
set_option maxRecDepth 65536 in
set_option maxHeartbeats 4000000 in
theorem okg19_7 (l : Launch) (Z : State) (a0 : Array Value) (hw : HW a0 Z) (n0 : Nat) (k7 : Int32 → Int32 → St → Option (St)) (hk7 : ∀ (v2 : Int32) (v3 : Int32) (s : St) (r : St), k7 v2 v3 s = some r → W19 l Z n0 (P19 r) 0 0 7 [.val (.ref 0), .unset, .val (.int v2), .val (.int v3)] [] (Hb 0 s)) (n : Nat) (v2 : Int32) (v3 : Int32) (s : St) (r : St) (h : g_clear_7 k7 n v2 v3 s = some r) : W19 l Z n0 (P19 r) 0 0 7 [.val (.ref 0), .unset, .val (.int v2), .val (.int v3)] [] (Hb 0 s) := by
  unfold g_clear_7 at h
  refine WP.iloadN d19_7 rfl ?_
  refine WP.bipush (16 : Int32) d19_8 rfl ?_
  rcases ite_e h with ⟨hc1, h⟩ | ⟨hc1, h⟩
  ·
    refine WP.icmpN d19_10 (XT.ii_ge_f hc1) ?_
    refine WP.aloadN d19_13 rfl ?_
    refine WP.getfield (i := 0) (j := 0) d19_14 (hw _ m_14) rfl rfl rfl ?_
    refine WP.iloadN d19_17 rfl ?_
    refine WP.iloadN d19_18 rfl ?_
    refine WP.iadd d19_19 ?_
    refine WP.iconst (0 : Int32) d19_20 rfl ?_
    obtain ⟨s2, hs2, h⟩ := Option.bind_eq_some_iff.mp h
    obtain ⟨ys2, gs2, es2⟩ := wrA_e hs2
    refine WP.iastore (i := 1) (xs := gA s 0) (H' := (Hb 0 s2)) d19_21 rfl (leb rfl) gs2 (by subst es2; rfl) ?_
    obtain ⟨x3, ex3, h⟩ := lt_e h
    refine WP.iinc (L' := [.val (.ref 0), .unset, .val (.int v2), .val (.int x3)]) (1 : Int32) d19_22 rfl rfl (by subst ex3; rfl) ?_
    refine WP.goto (pc' := 7) d19_25 (by decide) rfl ?_
    exact WP.weak (L' := [.val (.ref 0), .unset, .val (.int v2), .val (.int x3)]) ⟨rfl, rfl, rfl, trivial⟩ (hk7 v2 x3 s2 _ h)
  ·
    refine WP.icmpY (pc' := 28) d19_10 (XT.ii_ge_t hc1) (by decide) rfl ?_
    cases h
    exact WP.vreturn d19_28 rfl (leb rfl) (leb rfl) ⟨rfl, rfl⟩
def f_clear_7 : Nat → Int32 → Int32 → St → Option (St)
  | 0 => fun _ _ _ => none
  | n + 1 => g_clear_7 (f_clear_7 n) n
theorem ok19_7 (l : Launch) (Z : State) (a0 : Array Value) (hw : HW a0 Z) (n0 : Nat) : ∀ (n : Nat) (v2 : Int32) (v3 : Int32) (s : St) (r : St), f_clear_7 n v2 v3 s = some r → W19 l Z n0 (P19 r) 0 0 7 [.val (.ref 0), .unset, .val (.int v2), .val (.int v3)] [] (Hb 0 s)
  | 0, v2, v3, s, r, h => nomatch (show none = some r from h)
  | n + 1, v2, v3, s, r, h => okg19_7 l Z a0 hw n0 _ (ok19_7 l Z a0 hw n0 n) n v2 v3 s r h
def f_clear (n : Nat) (p1 : Int32) (s : St) : Option (St) :=
  lt (p1 * (16 : Int32)) fun x1 =>
  f_clear_7 n x1 (0 : Int32) s
set_option maxRecDepth 65536 in
set_option maxHeartbeats 4000000 in
theorem ok19 (l : Launch) (Z : State) (a0 : Array Value) (hw : HW a0 Z) (n : Nat) (p1 : Int32) (s : St) (r : St) (h : f_clear n p1 s = some r) : CS l Z CN lay y19 prog_1_method_29_code 4 (none) R19 0 [.ref 0, .int p1] (Hb 0 s) (P19 r) := by
  refine CS.of_wp pn_cls (leb rfl) fun n0 => ?_
  show W19 l Z n0 (P19 r) 0 0 0 [.val (.ref 0), .val (.int p1), .unset, .unset] [] (Hb 0 s)
  unfold f_clear at h
  refine WP.iloadN d19_0 rfl ?_
  refine WP.bipush (16 : Int32) d19_1 rfl ?_
  refine WP.imul d19_3 ?_
  obtain ⟨x1, ex1, h⟩ := lt_e h
  refine WP.istoreN (L' := [.val (.ref 0), .val (.int p1), .val (.int x1), .unset]) d19_4 (leb rfl) (by subst ex1; rfl) ?_
  refine WP.iconst (0 : Int32) d19_5 rfl ?_
  refine WP.istoreN (L' := [.val (.ref 0), .val (.int p1), .val (.int x1), .val (.int (0 : Int32))]) d19_6 (leb rfl) rfl ?_
  exact WP.weak (L' := [.val (.ref 0), .unset, .val (.int x1), .val (.int (0 : Int32))]) ⟨rfl, rfl, rfl, trivial⟩ (ok19_7 l Z a0 hw n0 n x1 (0 : Int32) s _ h)
theorem d6_0 : dc prog_1_method_8_code 0 (.aload_n 0) 1 := by decide +kernel
theorem d6_1 : dc prog_1_method_8_code 1 (.iconst 3) 1 := by decide +kernel
theorem d6_2 : dc prog_1_method_8_code 2 (.invokevirtual 81) 3 := by decide +kernel
theorem d6_5 : dc prog_1_method_8_code 5 (.aload_n 0) 1 := by decide +kernel
theorem d6_6 : dc prog_1_method_8_code 6 (.iconst 5) 1 := by decide +kernel
theorem d6_7 : dc prog_1_method_8_code 7 (.invokevirtual 85) 3 := by decide +kernel
theorem d6_10 : dc prog_1_method_8_code 10 (.aload_n 0) 1 := by decide +kernel
theorem d6_11 : dc prog_1_method_8_code 11 (.bipush 10) 2 := by decide +kernel
theorem d6_13 : dc prog_1_method_8_code 13 (.invokevirtual 85) 3 := by decide +kernel
theorem d6_16 : dc prog_1_method_8_code 16 (.aload_n 0) 1 := by decide +kernel
theorem d6_17 : dc prog_1_method_8_code 17 (.iconst 3) 1 := by decide +kernel
theorem d6_18 : dc prog_1_method_8_code 18 (.iconst 5) 1 := by decide +kernel
theorem d6_19 : dc prog_1_method_8_code 19 (.iconst 4) 1 := by decide +kernel
theorem d6_20 : dc prog_1_method_8_code 20 (.invokevirtual 77) 3 := by decide +kernel
theorem d6_23 : dc prog_1_method_8_code 23 (.aload_n 0) 1 := by decide +kernel
theorem d6_24 : dc prog_1_method_8_code 24 (.iconst 4) 1 := by decide +kernel
theorem d6_25 : dc prog_1_method_8_code 25 (.bipush 10) 2 := by decide +kernel
theorem d6_27 : dc prog_1_method_8_code 27 (.invokevirtual 88) 3 := by decide +kernel
theorem d6_30 : dc prog_1_method_8_code 30 (.aload_n 0) 1 := by decide +kernel
theorem d6_31 : dc prog_1_method_8_code 31 (.bipush 6) 2 := by decide +kernel
theorem d6_33 : dc prog_1_method_8_code 33 (.invokevirtual 92) 3 := by decide +kernel
theorem d6_36 : dc prog_1_method_8_code 36 (.aload_n 0) 1 := by decide +kernel
theorem d6_37 : dc prog_1_method_8_code 37 (.bipush 7) 2 := by decide +kernel
theorem d6_39 : dc prog_1_method_8_code 39 (.invokevirtual 92) 3 := by decide +kernel
theorem d6_42 : dc prog_1_method_8_code 42 (.aload_n 0) 1 := by decide +kernel
theorem d6_43 : dc prog_1_method_8_code 43 (.bipush 8) 2 := by decide +kernel
theorem d6_45 : dc prog_1_method_8_code 45 (.invokevirtual 92) 3 := by decide +kernel
theorem d6_48 : dc prog_1_method_8_code 48 (.aload_n 0) 1 := by decide +kernel
theorem d6_49 : dc prog_1_method_8_code 49 (.iconst 1) 1 := by decide +kernel
theorem d6_50 : dc prog_1_method_8_code 50 (.putfield 60) 3 := by decide +kernel
theorem d6_53 : dc prog_1_method_8_code 53 (.return_) 1 := by decide +kernel
abbrev y6 : MethodName := ⟨"RingLweKem", "keygen", "()V"⟩
theorem hy6 : y6.cls ≠ "java/lang/invoke/MethodHandle" ∧ y6.cls ≠ "java/lang/invoke/VarHandle" := by decide
theorem pd6 : parseMethodDescriptor y6.desc = some ⟨[], none⟩ := by decide +kernel
abbrev R6 : Room := { frames := 3, cells := 0, slots := 0, locals := 60 }
abbrev P6 (r : St) : Option Value → List OwnC → Prop := fun v H' => v = none ∧ H' = (Hb 0 r)
abbrev W6 (l : Launch) (Z : State) (n0 : Nat) (Q : Option Value → List OwnC → Prop) (k n pc : Nat) (L : List Slot) (S : List Value) (H : List OwnC) : Prop := WP l Z CN lay "RingLweKem" "keygen" prog_1_method_8_code 1 (none) R6 n0 0 Q k n pc L S H
def f_keygen (n : Nat) (s : St) : Option (St) :=
  (f_drawUniform n (3 : Int32) s).bind fun c1 =>
  (f_drawNoise n (5 : Int32) c1).bind fun c2 =>
  (f_drawNoise n (10 : Int32) c2).bind fun c3 =>
  (f_mul n (3 : Int32) (5 : Int32) (4 : Int32) c3).bind fun c4 =>
  (f_addInto n (4 : Int32) (10 : Int32) c4).bind fun c5 =>
  (f_clear n (6 : Int32) c5).bind fun c6 =>
  (f_clear n (7 : Int32) c6).bind fun c7 =>
  (f_clear n (8 : Int32) c7).bind fun c8 =>
  lt (sI c8 12 (1 : Int32)) fun s9 =>
  some s9
set_option maxRecDepth 65536 in
set_option maxHeartbeats 4000000 in
theorem ok6 (l : Launch) (Z : State) (a0 : Array Value) (hw : HW a0 Z) (n : Nat) (s : St) (r : St) (h : f_keygen n s = some r) : CS l Z CN lay y6 prog_1_method_8_code 1 (none) R6 0 [.ref 0] (Hb 0 s) (P6 r) := by
  refine CS.of_wp pn_cls (leb rfl) fun n0 => ?_
  show W6 l Z n0 (P6 r) 0 0 0 [.val (.ref 0)] [] (Hb 0 s)
  unfold f_keygen at h
  refine WP.aloadN d6_0 rfl ?_
  refine WP.iconst (3 : Int32) d6_1 rfl ?_
  obtain ⟨c1, hc1, h⟩ := Option.bind_eq_some_iff.mp h
  refine WP.callP (i := 0) (y := y7) (as := [.int (3 : Int32)]) (S := []) d6_2 (hw _ m_69) (hw _ m_71) (hw _ m_1) (hw _ m_70) (hw _ m_72) (hw _ m_2) hy7 rfl (ok7 l Z a0 hw n (3 : Int32) s _ hc1) rfl (lenOf pd7 rfl) (leb rfl) (leb rfl) (leb rfl) (leb rfl) ?_
  rintro _ _ ⟨rfl, rfl⟩
  show W6 l Z n0 (P6 r) 0 0 5 [.val (.ref 0)] [] (Hb 0 c1)
  refine WP.aloadN d6_5 rfl ?_
  refine WP.iconst (5 : Int32) d6_6 rfl ?_
  obtain ⟨c2, hc2, h⟩ := Option.bind_eq_some_iff.mp h
  refine WP.callP (i := 0) (y := y9) (as := [.int (5 : Int32)]) (S := []) d6_7 (hw _ m_79) (hw _ m_81) (hw _ m_1) (hw _ m_80) (hw _ m_82) (hw _ m_2) hy9 rfl (ok9 l Z a0 hw n (5 : Int32) c1 _ hc2) rfl (lenOf pd9 rfl) (leb rfl) (leb rfl) (leb rfl) (leb rfl) ?_
  rintro _ _ ⟨rfl, rfl⟩
  show W6 l Z n0 (P6 r) 0 0 10 [.val (.ref 0)] [] (Hb 0 c2)
  refine WP.aloadN d6_10 rfl ?_
  refine WP.bipush (10 : Int32) d6_11 rfl ?_
  obtain ⟨c3, hc3, h⟩ := Option.bind_eq_some_iff.mp h
  refine WP.callP (i := 0) (y := y9) (as := [.int (10 : Int32)]) (S := []) d6_13 (hw _ m_79) (hw _ m_81) (hw _ m_1) (hw _ m_80) (hw _ m_82) (hw _ m_2) hy9 rfl (ok9 l Z a0 hw n (10 : Int32) c2 _ hc3) rfl (lenOf pd9 rfl) (leb rfl) (leb rfl) (leb rfl) (leb rfl) ?_
  rintro _ _ ⟨rfl, rfl⟩
  show W6 l Z n0 (P6 r) 0 0 16 [.val (.ref 0)] [] (Hb 0 c3)
  refine WP.aloadN d6_16 rfl ?_
  refine WP.iconst (3 : Int32) d6_17 rfl ?_
  refine WP.iconst (5 : Int32) d6_18 rfl ?_
  refine WP.iconst (4 : Int32) d6_19 rfl ?_
  obtain ⟨c4, hc4, h⟩ := Option.bind_eq_some_iff.mp h
  refine WP.callP (i := 0) (y := y12) (as := [.int (3 : Int32), .int (5 : Int32), .int (4 : Int32)]) (S := []) d6_20 (hw _ m_91) (hw _ m_93) (hw _ m_1) (hw _ m_92) (hw _ m_94) (hw _ m_2) hy12 rfl (ok12 l Z a0 hw n (3 : Int32) (5 : Int32) (4 : Int32) c3 _ hc4) rfl (lenOf pd12 rfl) (leb rfl) (leb rfl) (leb rfl) (leb rfl) ?_
  rintro _ _ ⟨rfl, rfl⟩
  show W6 l Z n0 (P6 r) 0 0 23 [.val (.ref 0)] [] (Hb 0 c4)
  refine WP.aloadN d6_23 rfl ?_
  refine WP.iconst (4 : Int32) d6_24 rfl ?_
  refine WP.bipush (10 : Int32) d6_25 rfl ?_
  obtain ⟨c5, hc5, h⟩ := Option.bind_eq_some_iff.mp h
  refine WP.callP (i := 0) (y := y18) (as := [.int (4 : Int32), .int (10 : Int32)]) (S := []) d6_27 (hw _ m_115) (hw _ m_117) (hw _ m_1) (hw _ m_116) (hw _ m_118) (hw _ m_2) hy18 rfl (ok18 l Z a0 hw n (4 : Int32) (10 : Int32) c4 _ hc5) rfl (lenOf pd18 rfl) (leb rfl) (leb rfl) (leb rfl) (leb rfl) ?_
  rintro _ _ ⟨rfl, rfl⟩
  show W6 l Z n0 (P6 r) 0 0 30 [.val (.ref 0)] [] (Hb 0 c5)
  refine WP.aloadN d6_30 rfl ?_
  refine WP.bipush (6 : Int32) d6_31 rfl ?_
  obtain ⟨c6, hc6, h⟩ := Option.bind_eq_some_iff.mp h
  refine WP.callP (i := 0) (y := y19) (as := [.int (6 : Int32)]) (S := []) d6_33 (hw _ m_119) (hw _ m_121) (hw _ m_1) (hw _ m_120) (hw _ m_122) (hw _ m_2) hy19 rfl (ok19 l Z a0 hw n (6 : Int32) c5 _ hc6) rfl (lenOf pd19 rfl) (leb rfl) (leb rfl) (leb rfl) (leb rfl) ?_
  rintro _ _ ⟨rfl, rfl⟩
  show W6 l Z n0 (P6 r) 0 0 36 [.val (.ref 0)] [] (Hb 0 c6)
  refine WP.aloadN d6_36 rfl ?_
  refine WP.bipush (7 : Int32) d6_37 rfl ?_
  obtain ⟨c7, hc7, h⟩ := Option.bind_eq_some_iff.mp h
  refine WP.callP (i := 0) (y := y19) (as := [.int (7 : Int32)]) (S := []) d6_39 (hw _ m_119) (hw _ m_121) (hw _ m_1) (hw _ m_120) (hw _ m_122) (hw _ m_2) hy19 rfl (ok19 l Z a0 hw n (7 : Int32) c6 _ hc7) rfl (lenOf pd19 rfl) (leb rfl) (leb rfl) (leb rfl) (leb rfl) ?_
  rintro _ _ ⟨rfl, rfl⟩
  show W6 l Z n0 (P6 r) 0 0 42 [.val (.ref 0)] [] (Hb 0 c7)
  refine WP.aloadN d6_42 rfl ?_
  refine WP.bipush (8 : Int32) d6_43 rfl ?_
  obtain ⟨c8, hc8, h⟩ := Option.bind_eq_some_iff.mp h
  refine WP.callP (i := 0) (y := y19) (as := [.int (8 : Int32)]) (S := []) d6_45 (hw _ m_119) (hw _ m_121) (hw _ m_1) (hw _ m_120) (hw _ m_122) (hw _ m_2) hy19 rfl (ok19 l Z a0 hw n (8 : Int32) c7 _ hc8) rfl (lenOf pd19 rfl) (leb rfl) (leb rfl) (leb rfl) (leb rfl) ?_
  rintro _ _ ⟨rfl, rfl⟩
  show W6 l Z n0 (P6 r) 0 0 48 [.val (.ref 0)] [] (Hb 0 c8)
  refine WP.aloadN d6_48 rfl ?_
  refine WP.iconst (1 : Int32) d6_49 rfl ?_
  obtain ⟨s9, es9, h⟩ := lt_e h
  refine WP.putI (i := 0) (j := 15) (H' := (Hb 0 s9)) d6_50 (hw _ m_48) (Or.inl (hw _ m_49)) (hw _ m_1) (hlay hw) rfl rfl rfl (leb rfl) (by subst es9; rfl) ?_
  cases h
  exact WP.vreturn d6_53 rfl (leb rfl) (leb rfl) ⟨rfl, rfl⟩
theorem d21_0 : dc prog_1_method_27_code 0 (.sipush 224) 3 := by decide +kernel
theorem d21_3 : dc prog_1_method_27_code 3 (.istore_n 2) 1 := by decide +kernel
theorem d21_4 : dc prog_1_method_27_code 4 (.iconst 0) 1 := by decide +kernel
theorem d21_5 : dc prog_1_method_27_code 5 (.istore_n 3) 1 := by decide +kernel
theorem d21_6 : dc prog_1_method_27_code 6 (.iload_n 3) 1 := by decide +kernel
theorem d21_7 : dc prog_1_method_27_code 7 (.bipush 16) 2 := by decide +kernel
theorem d21_9 : dc prog_1_method_27_code 9 (.if_icmp .ge 42) 3 := by decide +kernel
theorem d21_12 : dc prog_1_method_27_code 12 (.iload_n 1) 1 := by decide +kernel
theorem d21_13 : dc prog_1_method_27_code 13 (.iload_n 3) 1 := by decide +kernel
theorem d21_14 : dc prog_1_method_27_code 14 (.iushr) 1 := by decide +kernel
theorem d21_15 : dc prog_1_method_27_code 15 (.iconst 1) 1 := by decide +kernel
theorem d21_16 : dc prog_1_method_27_code 16 (.iand) 1 := by decide +kernel
theorem d21_17 : dc prog_1_method_27_code 17 (.iconst 1) 1 := by decide +kernel
theorem d21_18 : dc prog_1_method_27_code 18 (.if_icmp .ne 27) 3 := by decide +kernel
theorem d21_21 : dc prog_1_method_27_code 21 (.aload_n 0) 1 := by decide +kernel
theorem d21_22 : dc prog_1_method_27_code 22 (.getfield 7) 3 := by decide +kernel
theorem d21_25 : dc prog_1_method_27_code 25 (.iload_n 2) 1 := by decide +kernel
theorem d21_26 : dc prog_1_method_27_code 26 (.iload_n 3) 1 := by decide +kernel
theorem d21_27 : dc prog_1_method_27_code 27 (.iadd) 1 := by decide +kernel
theorem d21_28 : dc prog_1_method_27_code 28 (.aload_n 0) 1 := by decide +kernel
theorem d21_29 : dc prog_1_method_27_code 29 (.getfield 7) 3 := by decide +kernel
theorem d21_32 : dc prog_1_method_27_code 32 (.iload_n 2) 1 := by decide +kernel
theorem d21_33 : dc prog_1_method_27_code 33 (.iload_n 3) 1 := by decide +kernel
theorem d21_34 : dc prog_1_method_27_code 34 (.iadd) 1 := by decide +kernel
theorem d21_35 : dc prog_1_method_27_code 35 (.iaload) 1 := by decide +kernel
theorem d21_36 : dc prog_1_method_27_code 36 (.sipush 129) 3 := by decide +kernel
theorem d21_39 : dc prog_1_method_27_code 39 (.iadd) 1 := by decide +kernel
theorem d21_40 : dc prog_1_method_27_code 40 (.sipush 257) 3 := by decide +kernel
theorem d21_43 : dc prog_1_method_27_code 43 (.irem) 1 := by decide +kernel
theorem d21_44 : dc prog_1_method_27_code 44 (.iastore) 1 := by decide +kernel
theorem d21_45 : dc prog_1_method_27_code 45 (.iinc 3 1) 3 := by decide +kernel
theorem d21_48 : dc prog_1_method_27_code 48 (.goto (-42)) 3 := by decide +kernel
theorem d21_51 : dc prog_1_method_27_code 51 (.return_) 1 := by decide +kernel
abbrev y21 : MethodName := ⟨"RingLweKem", "addMessage", "(I)V"⟩
theorem hy21 : y21.cls ≠ "java/lang/invoke/MethodHandle" ∧ y21.cls ≠ "java/lang/invoke/VarHandle" := by decide
theorem pd21 : parseMethodDescriptor y21.desc = some ⟨[.int], none⟩ := by decide +kernel
abbrev R21 : Room := { frames := 0, cells := 0, slots := 0, locals := 0 }
abbrev P21 (r : St) : Option Value → List OwnC → Prop := fun v H' => v = none ∧ H' = (Hb 0 r)
abbrev W21 (l : Launch) (Z : State) (n0 : Nat) (Q : Option Value → List OwnC → Prop) (k n pc : Nat) (L : List Slot) (S : List Value) (H : List OwnC) : Prop := WP l Z CN lay "RingLweKem" "addMessage" prog_1_method_27_code 4 (none) R21 n0 0 Q k n pc L S H
def f_addMessage_45 (k6 : Int32 → Int32 → Int32 → St → Option (St)) (n : Nat) (v1 : Int32) (v2 : Int32) (v3 : Int32) (s : St) : Option (St) :=
  lt (v3 + (1 : Int32)) fun x1 =>
  k6 v1 v2 x1 s
set_option maxRecDepth 65536 in
set_option maxHeartbeats 4000000 in
theorem ok21_45 (l : Launch) (Z : State) (a0 : Array Value) (hw : HW a0 Z) (n0 : Nat) (k6 : Int32 → Int32 → Int32 → St → Option (St)) (hk6 : ∀ (v1 : Int32) (v2 : Int32) (v3 : Int32) (s : St) (r : St), k6 v1 v2 v3 s = some r → W21 l Z n0 (P21 r) 0 0 6 [.val (.ref 0), .val (.int v1), .val (.int v2), .val (.int v3)] [] (Hb 0 s)) (n : Nat) (v1 : Int32) (v2 : Int32) (v3 : Int32) (s : St) (r : St) (h : f_addMessage_45 k6 n v1 v2 v3 s = some r) : W21 l Z n0 (P21 r) 0 0 45 [.val (.ref 0), .val (.int v1), .val (.int v2), .val (.int v3)] [] (Hb 0 s) := by
  unfold f_addMessage_45 at h
  obtain ⟨x1, ex1, h⟩ := lt_e h
  refine WP.iinc (L' := [.val (.ref 0), .val (.int v1), .val (.int v2), .val (.int x1)]) (1 : Int32) d21_45 rfl rfl (by subst ex1; rfl) ?_
  refine WP.goto (pc' := 6) d21_48 (by decide) rfl ?_
  exact WP.weak (L' := [.val (.ref 0), .val (.int v1), .val (.int v2), .val (.int x1)]) ⟨rfl, rfl, rfl, rfl, trivial⟩ (hk6 v1 v2 x1 s _ h)
def g_addMessage_6 (k6 : Int32 → Int32 → Int32 → St → Option (St)) (n : Nat) (v1 : Int32) (v2 : Int32) (v3 : Int32) (s : St) : Option (St) :=
  if v3 < (16 : Int32) then
    if ((XT.ushr v1 v3) &&& (1 : Int32)) = (1 : Int32) then
      (rd (gA s 0) (v2 + v3)).bind fun x3 =>
      (wrA s 0 (v2 + v3) ((x3 + (129 : Int32)) % (257 : Int32))).bind fun s4 =>
      f_addMessage_45 k6 n v1 v2 v3 s4
    else
      f_addMessage_45 k6 n v1 v2 v3 s
  else
    some s
set_option maxRecDepth 65536 in
set_option maxHeartbeats 4000000 in
theorem okg21_6 (l : Launch) (Z : State) (a0 : Array Value) (hw : HW a0 Z) (n0 : Nat) (k6 : Int32 → Int32 → Int32 → St → Option (St)) (hk6 : ∀ (v1 : Int32) (v2 : Int32) (v3 : Int32) (s : St) (r : St), k6 v1 v2 v3 s = some r → W21 l Z n0 (P21 r) 0 0 6 [.val (.ref 0), .val (.int v1), .val (.int v2), .val (.int v3)] [] (Hb 0 s)) (n : Nat) (v1 : Int32) (v2 : Int32) (v3 : Int32) (s : St) (r : St) (h : g_addMessage_6 k6 n v1 v2 v3 s = some r) : W21 l Z n0 (P21 r) 0 0 6 [.val (.ref 0), .val (.int v1), .val (.int v2), .val (.int v3)] [] (Hb 0 s) := by
  unfold g_addMessage_6 at h
  refine WP.iloadN d21_6 rfl ?_
  refine WP.bipush (16 : Int32) d21_7 rfl ?_
  rcases ite_e h with ⟨hc1, h⟩ | ⟨hc1, h⟩
  ·
    refine WP.icmpN d21_9 (XT.ii_ge_f hc1) ?_
    refine WP.iloadN d21_12 rfl ?_
    refine WP.iloadN d21_13 rfl ?_
    refine WP.iushr d21_14 ?_
    refine WP.iconst (1 : Int32) d21_15 rfl ?_
    refine WP.iand d21_16 ?_
    refine WP.iconst (1 : Int32) d21_17 rfl ?_
    rcases ite_e h with ⟨hc2, h⟩ | ⟨hc2, h⟩
    ·
      refine WP.icmpN d21_18 (XT.ii_ne_f hc2) ?_
      refine WP.aloadN d21_21 rfl ?_
      refine WP.getfield (i := 0) (j := 0) d21_22 (hw _ m_14) rfl rfl rfl ?_
      refine WP.iloadN d21_25 rfl ?_
      refine WP.iloadN d21_26 rfl ?_
      refine WP.iadd d21_27 ?_
      refine WP.aloadN d21_28 rfl ?_
      refine WP.getfield (i := 0) (j := 0) d21_29 (hw _ m_14) rfl rfl rfl ?_
      refine WP.iloadN d21_32 rfl ?_
      refine WP.iloadN d21_33 rfl ?_
      refine WP.iadd d21_34 ?_
      obtain ⟨x3, hx3, h⟩ := Option.bind_eq_some_iff.mp h
      refine WP.iaload (i := 1) d21_35 rfl hx3 ?_
      refine WP.sipush (129 : Int32) d21_36 rfl ?_
      refine WP.iadd d21_39 ?_
      refine WP.sipush (257 : Int32) d21_40 rfl ?_
      refine WP.irem d21_43 (by decide) ?_
      obtain ⟨s4, hs4, h⟩ := Option.bind_eq_some_iff.mp h
      obtain ⟨ys4, gs4, es4⟩ := wrA_e hs4
      refine WP.iastore (i := 1) (xs := gA s 0) (H' := (Hb 0 s4)) d21_44 rfl (leb rfl) gs4 (by subst es4; rfl) ?_
      exact WP.weak (L' := [.val (.ref 0), .val (.int v1), .val (.int v2), .val (.int v3)]) ⟨rfl, rfl, rfl, rfl, trivial⟩ (ok21_45 l Z a0 hw n0 _ hk6 n v1 v2 v3 s4 _ h)
    ·
      refine WP.icmpY (pc' := 45) d21_18 (XT.ii_ne_t hc2) (by decide) rfl ?_
      exact WP.weak (L' := [.val (.ref 0), .val (.int v1), .val (.int v2), .val (.int v3)]) ⟨rfl, rfl, rfl, rfl, trivial⟩ (ok21_45 l Z a0 hw n0 _ hk6 n v1 v2 v3 s _ h)
  ·
    refine WP.icmpY (pc' := 51) d21_9 (XT.ii_ge_t hc1) (by decide) rfl ?_
    cases h
    exact WP.vreturn d21_51 rfl (leb rfl) (leb rfl) ⟨rfl, rfl⟩
def f_addMessage_6 : Nat → Int32 → Int32 → Int32 → St → Option (St)
  | 0 => fun _ _ _ _ => none
  | n + 1 => g_addMessage_6 (f_addMessage_6 n) n
theorem ok21_6 (l : Launch) (Z : State) (a0 : Array Value) (hw : HW a0 Z) (n0 : Nat) : ∀ (n : Nat) (v1 : Int32) (v2 : Int32) (v3 : Int32) (s : St) (r : St), f_addMessage_6 n v1 v2 v3 s = some r → W21 l Z n0 (P21 r) 0 0 6 [.val (.ref 0), .val (.int v1), .val (.int v2), .val (.int v3)] [] (Hb 0 s)
  | 0, v1, v2, v3, s, r, h => nomatch (show none = some r from h)
  | n + 1, v1, v2, v3, s, r, h => okg21_6 l Z a0 hw n0 _ (ok21_6 l Z a0 hw n0 n) n v1 v2 v3 s r h
def f_addMessage (n : Nat) (p1 : Int32) (s : St) : Option (St) :=
  f_addMessage_6 n p1 (224 : Int32) (0 : Int32) s
set_option maxRecDepth 65536 in
set_option maxHeartbeats 4000000 in
theorem ok21 (l : Launch) (Z : State) (a0 : Array Value) (hw : HW a0 Z) (n : Nat) (p1 : Int32) (s : St) (r : St) (h : f_addMessage n p1 s = some r) : CS l Z CN lay y21 prog_1_method_27_code 4 (none) R21 0 [.ref 0, .int p1] (Hb 0 s) (P21 r) := by
  refine CS.of_wp pn_cls (leb rfl) fun n0 => ?_
  show W21 l Z n0 (P21 r) 0 0 0 [.val (.ref 0), .val (.int p1), .unset, .unset] [] (Hb 0 s)
  unfold f_addMessage at h
  refine WP.sipush (224 : Int32) d21_0 rfl ?_
  refine WP.istoreN (L' := [.val (.ref 0), .val (.int p1), .val (.int (224 : Int32)), .unset]) d21_3 (leb rfl) rfl ?_
  refine WP.iconst (0 : Int32) d21_4 rfl ?_
  refine WP.istoreN (L' := [.val (.ref 0), .val (.int p1), .val (.int (224 : Int32)), .val (.int (0 : Int32))]) d21_5 (leb rfl) rfl ?_
  exact WP.weak (L' := [.val (.ref 0), .val (.int p1), .val (.int (224 : Int32)), .val (.int (0 : Int32))]) ⟨rfl, rfl, rfl, rfl, trivial⟩ (ok21_6 l Z a0 hw n0 n p1 (224 : Int32) (0 : Int32) s _ h)
theorem d23_0 : dc prog_1_method_23_code 0 (.iload_n 1) 1 := by decide +kernel
theorem d23_1 : dc prog_1_method_23_code 1 (.iload_n 2) 1 := by decide +kernel
theorem d23_2 : dc prog_1_method_23_code 2 (.ishl) 1 := by decide +kernel
theorem d23_3 : dc prog_1_method_23_code 3 (.sipush 128) 3 := by decide +kernel
theorem d23_6 : dc prog_1_method_23_code 6 (.iadd) 1 := by decide +kernel
theorem d23_7 : dc prog_1_method_23_code 7 (.sipush 257) 3 := by decide +kernel
theorem d23_10 : dc prog_1_method_23_code 10 (.idiv) 1 := by decide +kernel
theorem d23_11 : dc prog_1_method_23_code 11 (.iconst 1) 1 := by decide +kernel
theorem d23_12 : dc prog_1_method_23_code 12 (.iload_n 2) 1 := by decide +kernel
theorem d23_13 : dc prog_1_method_23_code 13 (.ishl) 1 := by decide +kernel
theorem d23_14 : dc prog_1_method_23_code 14 (.iconst 1) 1 := by decide +kernel
theorem d23_15 : dc prog_1_method_23_code 15 (.isub) 1 := by decide +kernel
theorem d23_16 : dc prog_1_method_23_code 16 (.iand) 1 := by decide +kernel
theorem d23_17 : dc prog_1_method_23_code 17 (.ireturn) 1 := by decide +kernel
abbrev y23 : MethodName := ⟨"RingLweKem", "cmp", "(II)I"⟩
theorem hy23 : y23.cls ≠ "java/lang/invoke/MethodHandle" ∧ y23.cls ≠ "java/lang/invoke/VarHandle" := by decide
theorem pd23 : parseMethodDescriptor y23.desc = some ⟨[.int, .int], some .int⟩ := by decide +kernel
abbrev R23 : Room := { frames := 0, cells := 0, slots := 0, locals := 0 }
abbrev P23 (s : St) (r : Int32) : Option Value → List OwnC → Prop := fun v H' => v = some (.int r) ∧ H' = (Hb 0 s)
abbrev W23 (l : Launch) (Z : State) (n0 : Nat) (Q : Option Value → List OwnC → Prop) (k n pc : Nat) (L : List Slot) (S : List Value) (H : List OwnC) : Prop := WP l Z CN lay "RingLweKem" "cmp" prog_1_method_23_code 3 (some FieldType.int) R23 n0 0 Q k n pc L S H
def f_cmp (p1 : Int32) (p2 : Int32) (s : St) : Option (Int32) :=
  some ((((p1 <<< (p2 &&& 31)) + (128 : Int32)) / (257 : Int32)) &&& (((1 : Int32) <<< (p2 &&& 31)) - (1 : Int32)))
set_option maxRecDepth 65536 in
set_option maxHeartbeats 4000000 in
theorem ok23 (l : Launch) (Z : State) (a0 : Array Value) (hw : HW a0 Z) (p1 : Int32) (p2 : Int32) (s : St) (r : Int32) (h : f_cmp p1 p2 s = some r) : CS l Z CN lay y23 prog_1_method_23_code 3 (some FieldType.int) R23 0 [.ref 0, .int p1, .int p2] (Hb 0 s) (P23 s r) := by
  refine CS.of_wp pn_cls (leb rfl) fun n0 => ?_
  show W23 l Z n0 (P23 s r) 0 0 0 [.val (.ref 0), .val (.int p1), .val (.int p2)] [] (Hb 0 s)
  unfold f_cmp at h
  refine WP.iloadN d23_0 rfl ?_
  refine WP.iloadN d23_1 rfl ?_
  refine WP.ishl d23_2 ?_
  refine WP.sipush (128 : Int32) d23_3 rfl ?_
  refine WP.iadd d23_6 ?_
  refine WP.sipush (257 : Int32) d23_7 rfl ?_
  refine WP.idiv d23_10 (by decide) ?_
  refine WP.iconst (1 : Int32) d23_11 rfl ?_
  refine WP.iloadN d23_12 rfl ?_
  refine WP.ishl d23_13 ?_
  refine WP.iconst (1 : Int32) d23_14 rfl ?_
  refine WP.isub d23_15 ?_
  refine WP.iand d23_16 ?_
  cases h
  exact WP.ireturn d23_17 rfl (leb rfl) (leb rfl) ⟨rfl, rfl⟩
theorem d22_0 : dc prog_1_method_25_code 0 (.iload_n 1) 1 := by decide +kernel
theorem d22_1 : dc prog_1_method_25_code 1 (.bipush 16) 2 := by decide +kernel
theorem d22_3 : dc prog_1_method_25_code 3 (.imul) 1 := by decide +kernel
theorem d22_4 : dc prog_1_method_25_code 4 (.istore 4) 2 := by decide +kernel
theorem d22_6 : dc prog_1_method_25_code 6 (.iload_n 2) 1 := by decide +kernel
theorem d22_7 : dc prog_1_method_25_code 7 (.bipush 16) 2 := by decide +kernel
theorem d22_9 : dc prog_1_method_25_code 9 (.imul) 1 := by decide +kernel
theorem d22_10 : dc prog_1_method_25_code 10 (.istore 5) 2 := by decide +kernel
theorem d22_12 : dc prog_1_method_25_code 12 (.iconst 0) 1 := by decide +kernel
theorem d22_13 : dc prog_1_method_25_code 13 (.istore 6) 2 := by decide +kernel
theorem d22_15 : dc prog_1_method_25_code 15 (.iload 6) 2 := by decide +kernel
theorem d22_17 : dc prog_1_method_25_code 17 (.bipush 16) 2 := by decide +kernel
theorem d22_19 : dc prog_1_method_25_code 19 (.if_icmp .ge 34) 3 := by decide +kernel
theorem d22_22 : dc prog_1_method_25_code 22 (.aload_n 0) 1 := by decide +kernel
theorem d22_23 : dc prog_1_method_25_code 23 (.getfield 7) 3 := by decide +kernel
theorem d22_26 : dc prog_1_method_25_code 26 (.iload 5) 2 := by decide +kernel
theorem d22_28 : dc prog_1_method_25_code 28 (.iload 6) 2 := by decide +kernel
theorem d22_30 : dc prog_1_method_25_code 30 (.iadd) 1 := by decide +kernel
theorem d22_31 : dc prog_1_method_25_code 31 (.aload_n 0) 1 := by decide +kernel
theorem d22_32 : dc prog_1_method_25_code 32 (.aload_n 0) 1 := by decide +kernel
theorem d22_33 : dc prog_1_method_25_code 33 (.getfield 7) 3 := by decide +kernel
theorem d22_36 : dc prog_1_method_25_code 36 (.iload 4) 2 := by decide +kernel
theorem d22_38 : dc prog_1_method_25_code 38 (.iload 6) 2 := by decide +kernel
theorem d22_40 : dc prog_1_method_25_code 40 (.iadd) 1 := by decide +kernel
theorem d22_41 : dc prog_1_method_25_code 41 (.iaload) 1 := by decide +kernel
theorem d22_42 : dc prog_1_method_25_code 42 (.iload_n 3) 1 := by decide +kernel
theorem d22_43 : dc prog_1_method_25_code 43 (.invokevirtual 104) 3 := by decide +kernel
theorem d22_46 : dc prog_1_method_25_code 46 (.iastore) 1 := by decide +kernel
theorem d22_47 : dc prog_1_method_25_code 47 (.iinc 6 1) 3 := by decide +kernel
theorem d22_50 : dc prog_1_method_25_code 50 (.goto (-35)) 3 := by decide +kernel
theorem d22_53 : dc prog_1_method_25_code 53 (.return_) 1 := by decide +kernel
abbrev y22 : MethodName := ⟨"RingLweKem", "compressInto", "(III)V"⟩
theorem hy22 : y22.cls ≠ "java/lang/invoke/MethodHandle" ∧ y22.cls ≠ "java/lang/invoke/VarHandle" := by decide
theorem pd22 : parseMethodDescriptor y22.desc = some ⟨[.int, .int, .int], none⟩ := by decide +kernel
abbrev R22 : Room := { frames := 1, cells := 0, slots := 0, locals := 16 }
abbrev P22 (r : St) : Option Value → List OwnC → Prop := fun v H' => v = none ∧ H' = (Hb 0 r)
abbrev W22 (l : Launch) (Z : State) (n0 : Nat) (Q : Option Value → List OwnC → Prop) (k n pc : Nat) (L : List Slot) (S : List Value) (H : List OwnC) : Prop := WP l Z CN lay "RingLweKem" "compressInto" prog_1_method_25_code 7 (none) R22 n0 0 Q k n pc L S H
def g_compressInto_15 (k15 : Int32 → Int32 → Int32 → Int32 → St → Option (St)) (n : Nat) (v3 : Int32) (v4 : Int32) (v5 : Int32) (v6 : Int32) (s : St) : Option (St) :=
  if v6 < (16 : Int32) then
    (rd (gA s 0) (v4 + v6)).bind fun x2 =>
    (f_cmp x2 v3 s).bind fun c3 =>
    (wrA s 0 (v5 + v6) c3).bind fun s4 =>
    lt (v6 + (1 : Int32)) fun x5 =>
    k15 v3 v4 v5 x5 s4
  else
    some s
set_option maxRecDepth 65536 in
set_option maxHeartbeats 4000000 in
theorem okg22_15 (l : Launch) (Z : State) (a0 : Array Value) (hw : HW a0 Z) (n0 : Nat) (k15 : Int32 → Int32 → Int32 → Int32 → St → Option (St)) (hk15 : ∀ (v3 : Int32) (v4 : Int32) (v5 : Int32) (v6 : Int32) (s : St) (r : St), k15 v3 v4 v5 v6 s = some r → W22 l Z n0 (P22 r) 0 0 15 [.val (.ref 0), .unset, .unset, .val (.int v3), .val (.int v4), .val (.int v5), .val (.int v6)] [] (Hb 0 s)) (n : Nat) (v3 : Int32) (v4 : Int32) (v5 : Int32) (v6 : Int32) (s : St) (r : St) (h : g_compressInto_15 k15 n v3 v4 v5 v6 s = some r) : W22 l Z n0 (P22 r) 0 0 15 [.val (.ref 0), .unset, .unset, .val (.int v3), .val (.int v4), .val (.int v5), .val (.int v6)] [] (Hb 0 s) := by
  unfold g_compressInto_15 at h
  refine WP.iload d22_15 rfl ?_
  refine WP.bipush (16 : Int32) d22_17 rfl ?_
  rcases ite_e h with ⟨hc1, h⟩ | ⟨hc1, h⟩
  ·
    refine WP.icmpN d22_19 (XT.ii_ge_f hc1) ?_
    refine WP.aloadN d22_22 rfl ?_
    refine WP.getfield (i := 0) (j := 0) d22_23 (hw _ m_14) rfl rfl rfl ?_
    refine WP.iload d22_26 rfl ?_
    refine WP.iload d22_28 rfl ?_
    refine WP.iadd d22_30 ?_
    refine WP.aloadN d22_31 rfl ?_
    refine WP.aloadN d22_32 rfl ?_
    refine WP.getfield (i := 0) (j := 0) d22_33 (hw _ m_14) rfl rfl rfl ?_
    refine WP.iload d22_36 rfl ?_
    refine WP.iload d22_38 rfl ?_
    refine WP.iadd d22_40 ?_
    obtain ⟨x2, hx2, h⟩ := Option.bind_eq_some_iff.mp h
    refine WP.iaload (i := 1) d22_41 rfl hx2 ?_
    refine WP.iloadN d22_42 rfl ?_
    obtain ⟨c3, hc3, h⟩ := Option.bind_eq_some_iff.mp h
    refine WP.callP (i := 0) (y := y23) (as := [.int x2, .int v3]) (S := [.int (v5 + v6), .ref 1]) d22_43 (hw _ m_136) (hw _ m_138) (hw _ m_1) (hw _ m_137) (hw _ m_139) (hw _ m_2) hy23 rfl (ok23 l Z a0 hw x2 v3 s _ hc3) rfl (lenOf pd23 rfl) (leb rfl) (leb rfl) (leb rfl) (leb rfl) ?_
    rintro _ _ ⟨rfl, rfl⟩
    show W22 l Z n0 (P22 r) 0 0 46 [.val (.ref 0), .unset, .unset, .val (.int v3), .val (.int v4), .val (.int v5), .val (.int v6)] [.int c3, .int (v5 + v6), .ref 1] (Hb 0 s)
    obtain ⟨s4, hs4, h⟩ := Option.bind_eq_some_iff.mp h
    obtain ⟨ys4, gs4, es4⟩ := wrA_e hs4
    refine WP.iastore (i := 1) (xs := gA s 0) (H' := (Hb 0 s4)) d22_46 rfl (leb rfl) gs4 (by subst es4; rfl) ?_
    obtain ⟨x5, ex5, h⟩ := lt_e h
    refine WP.iinc (L' := [.val (.ref 0), .unset, .unset, .val (.int v3), .val (.int v4), .val (.int v5), .val (.int x5)]) (1 : Int32) d22_47 rfl rfl (by subst ex5; rfl) ?_
    refine WP.goto (pc' := 15) d22_50 (by decide) rfl ?_
    exact WP.weak (L' := [.val (.ref 0), .unset, .unset, .val (.int v3), .val (.int v4), .val (.int v5), .val (.int x5)]) ⟨rfl, rfl, rfl, rfl, rfl, trivial⟩ (hk15 v3 v4 v5 x5 s4 _ h)
  ·
    refine WP.icmpY (pc' := 53) d22_19 (XT.ii_ge_t hc1) (by decide) rfl ?_
    cases h
    exact WP.vreturn d22_53 rfl (leb rfl) (leb rfl) ⟨rfl, rfl⟩
def f_compressInto_15 : Nat → Int32 → Int32 → Int32 → Int32 → St → Option (St)
  | 0 => fun _ _ _ _ _ => none
  | n + 1 => g_compressInto_15 (f_compressInto_15 n) n
theorem ok22_15 (l : Launch) (Z : State) (a0 : Array Value) (hw : HW a0 Z) (n0 : Nat) : ∀ (n : Nat) (v3 : Int32) (v4 : Int32) (v5 : Int32) (v6 : Int32) (s : St) (r : St), f_compressInto_15 n v3 v4 v5 v6 s = some r → W22 l Z n0 (P22 r) 0 0 15 [.val (.ref 0), .unset, .unset, .val (.int v3), .val (.int v4), .val (.int v5), .val (.int v6)] [] (Hb 0 s)
  | 0, v3, v4, v5, v6, s, r, h => nomatch (show none = some r from h)
  | n + 1, v3, v4, v5, v6, s, r, h => okg22_15 l Z a0 hw n0 _ (ok22_15 l Z a0 hw n0 n) n v3 v4 v5 v6 s r h
def f_compressInto (n : Nat) (p1 : Int32) (p2 : Int32) (p3 : Int32) (s : St) : Option (St) :=
  lt (p1 * (16 : Int32)) fun x1 =>
  lt (p2 * (16 : Int32)) fun x2 =>
  f_compressInto_15 n p3 x1 x2 (0 : Int32) s
set_option maxRecDepth 65536 in
set_option maxHeartbeats 4000000 in
theorem ok22 (l : Launch) (Z : State) (a0 : Array Value) (hw : HW a0 Z) (n : Nat) (p1 : Int32) (p2 : Int32) (p3 : Int32) (s : St) (r : St) (h : f_compressInto n p1 p2 p3 s = some r) : CS l Z CN lay y22 prog_1_method_25_code 7 (none) R22 0 [.ref 0, .int p1, .int p2, .int p3] (Hb 0 s) (P22 r) := by
  refine CS.of_wp pn_cls (leb rfl) fun n0 => ?_
  show W22 l Z n0 (P22 r) 0 0 0 [.val (.ref 0), .val (.int p1), .val (.int p2), .val (.int p3), .unset, .unset, .unset] [] (Hb 0 s)
  unfold f_compressInto at h
  refine WP.iloadN d22_0 rfl ?_
  refine WP.bipush (16 : Int32) d22_1 rfl ?_
  refine WP.imul d22_3 ?_
  obtain ⟨x1, ex1, h⟩ := lt_e h
  refine WP.istore (L' := [.val (.ref 0), .val (.int p1), .val (.int p2), .val (.int p3), .val (.int x1), .unset, .unset]) d22_4 (leb rfl) (by subst ex1; rfl) ?_
  refine WP.iloadN d22_6 rfl ?_
  refine WP.bipush (16 : Int32) d22_7 rfl ?_
  refine WP.imul d22_9 ?_
  obtain ⟨x2, ex2, h⟩ := lt_e h
  refine WP.istore (L' := [.val (.ref 0), .val (.int p1), .val (.int p2), .val (.int p3), .val (.int x1), .val (.int x2), .unset]) d22_10 (leb rfl) (by subst ex2; rfl) ?_
  refine WP.iconst (0 : Int32) d22_12 rfl ?_
  refine WP.istore (L' := [.val (.ref 0), .val (.int p1), .val (.int p2), .val (.int p3), .val (.int x1), .val (.int x2), .val (.int (0 : Int32))]) d22_13 (leb rfl) rfl ?_
  exact WP.weak (L' := [.val (.ref 0), .unset, .unset, .val (.int p3), .val (.int x1), .val (.int x2), .val (.int (0 : Int32))]) ⟨rfl, rfl, rfl, rfl, rfl, trivial⟩ (ok22_15 l Z a0 hw n0 n p3 x1 x2 (0 : Int32) s _ h)
theorem d20_0 : dc prog_1_method_9_code 0 (.aload_n 0) 1 := by decide +kernel
theorem d20_1 : dc prog_1_method_9_code 1 (.getfield 60) 3 := by decide +kernel
theorem d20_4 : dc prog_1_method_9_code 4 (.ifCond .ne 5) 3 := by decide +kernel
theorem d20_7 : dc prog_1_method_9_code 7 (.iconst (-1)) 1 := by decide +kernel
theorem d20_8 : dc prog_1_method_9_code 8 (.ireturn) 1 := by decide +kernel
theorem d20_9 : dc prog_1_method_9_code 9 (.aload_n 0) 1 := by decide +kernel
theorem d20_10 : dc prog_1_method_9_code 10 (.invokevirtual 66) 3 := by decide +kernel
theorem d20_13 : dc prog_1_method_9_code 13 (.istore_n 1) 1 := by decide +kernel
theorem d20_14 : dc prog_1_method_9_code 14 (.aload_n 0) 1 := by decide +kernel
theorem d20_15 : dc prog_1_method_9_code 15 (.bipush 9) 2 := by decide +kernel
theorem d20_17 : dc prog_1_method_9_code 17 (.invokevirtual 85) 3 := by decide +kernel
theorem d20_20 : dc prog_1_method_9_code 20 (.aload_n 0) 1 := by decide +kernel
theorem d20_21 : dc prog_1_method_9_code 21 (.bipush 11) 2 := by decide +kernel
theorem d20_23 : dc prog_1_method_9_code 23 (.invokevirtual 85) 3 := by decide +kernel
theorem d20_26 : dc prog_1_method_9_code 26 (.aload_n 0) 1 := by decide +kernel
theorem d20_27 : dc prog_1_method_9_code 27 (.bipush 12) 2 := by decide +kernel
theorem d20_29 : dc prog_1_method_9_code 29 (.invokevirtual 85) 3 := by decide +kernel
theorem d20_32 : dc prog_1_method_9_code 32 (.aload_n 0) 1 := by decide +kernel
theorem d20_33 : dc prog_1_method_9_code 33 (.iconst 3) 1 := by decide +kernel
theorem d20_34 : dc prog_1_method_9_code 34 (.bipush 9) 2 := by decide +kernel
theorem d20_36 : dc prog_1_method_9_code 36 (.bipush 13) 2 := by decide +kernel
theorem d20_38 : dc prog_1_method_9_code 38 (.invokevirtual 77) 3 := by decide +kernel
theorem d20_41 : dc prog_1_method_9_code 41 (.aload_n 0) 1 := by decide +kernel
theorem d20_42 : dc prog_1_method_9_code 42 (.bipush 13) 2 := by decide +kernel
theorem d20_44 : dc prog_1_method_9_code 44 (.bipush 11) 2 := by decide +kernel
theorem d20_46 : dc prog_1_method_9_code 46 (.invokevirtual 88) 3 := by decide +kernel
theorem d20_49 : dc prog_1_method_9_code 49 (.aload_n 0) 1 := by decide +kernel
theorem d20_50 : dc prog_1_method_9_code 50 (.iconst 4) 1 := by decide +kernel
theorem d20_51 : dc prog_1_method_9_code 51 (.bipush 9) 2 := by decide +kernel
theorem d20_53 : dc prog_1_method_9_code 53 (.bipush 14) 2 := by decide +kernel
theorem d20_55 : dc prog_1_method_9_code 55 (.invokevirtual 77) 3 := by decide +kernel
theorem d20_58 : dc prog_1_method_9_code 58 (.aload_n 0) 1 := by decide +kernel
theorem d20_59 : dc prog_1_method_9_code 59 (.bipush 14) 2 := by decide +kernel
theorem d20_61 : dc prog_1_method_9_code 61 (.bipush 12) 2 := by decide +kernel
theorem d20_63 : dc prog_1_method_9_code 63 (.invokevirtual 88) 3 := by decide +kernel
theorem d20_66 : dc prog_1_method_9_code 66 (.aload_n 0) 1 := by decide +kernel
theorem d20_67 : dc prog_1_method_9_code 67 (.iload_n 1) 1 := by decide +kernel
theorem d20_68 : dc prog_1_method_9_code 68 (.invokevirtual 95) 3 := by decide +kernel
theorem d20_71 : dc prog_1_method_9_code 71 (.aload_n 0) 1 := by decide +kernel
theorem d20_72 : dc prog_1_method_9_code 72 (.bipush 13) 2 := by decide +kernel
theorem d20_74 : dc prog_1_method_9_code 74 (.bipush 6) 2 := by decide +kernel
theorem d20_76 : dc prog_1_method_9_code 76 (.aload_n 0) 1 := by decide +kernel
theorem d20_77 : dc prog_1_method_9_code 77 (.getfield 51) 3 := by decide +kernel
theorem d20_80 : dc prog_1_method_9_code 80 (.invokevirtual 98) 3 := by decide +kernel
theorem d20_83 : dc prog_1_method_9_code 83 (.aload_n 0) 1 := by decide +kernel
theorem d20_84 : dc prog_1_method_9_code 84 (.bipush 14) 2 := by decide +kernel
theorem d20_86 : dc prog_1_method_9_code 86 (.bipush 7) 2 := by decide +kernel
theorem d20_88 : dc prog_1_method_9_code 88 (.aload_n 0) 1 := by decide +kernel
theorem d20_89 : dc prog_1_method_9_code 89 (.getfield 54) 3 := by decide +kernel
theorem d20_92 : dc prog_1_method_9_code 92 (.invokevirtual 98) 3 := by decide +kernel
theorem d20_95 : dc prog_1_method_9_code 95 (.aload_n 0) 1 := by decide +kernel
theorem d20_96 : dc prog_1_method_9_code 96 (.iconst 2) 1 := by decide +kernel
theorem d20_97 : dc prog_1_method_9_code 97 (.putfield 60) 3 := by decide +kernel
theorem d20_100 : dc prog_1_method_9_code 100 (.iload_n 1) 1 := by decide +kernel
theorem d20_101 : dc prog_1_method_9_code 101 (.ireturn) 1 := by decide +kernel
abbrev y20 : MethodName := ⟨"RingLweKem", "encaps", "()I"⟩
theorem hy20 : y20.cls ≠ "java/lang/invoke/MethodHandle" ∧ y20.cls ≠ "java/lang/invoke/VarHandle" := by decide
theorem pd20 : parseMethodDescriptor y20.desc = some ⟨[], some .int⟩ := by decide +kernel
abbrev R20 : Room := { frames := 3, cells := 0, slots := 0, locals := 60 }
abbrev P20 (r : Int32 × St) : Option Value → List OwnC → Prop := fun v H' => v = some (.int r.1) ∧ H' = (Hb 0 r.2)
abbrev W20 (l : Launch) (Z : State) (n0 : Nat) (Q : Option Value → List OwnC → Prop) (k n pc : Nat) (L : List Slot) (S : List Value) (H : List OwnC) : Prop := WP l Z CN lay "RingLweKem" "encaps" prog_1_method_9_code 2 (some FieldType.int) R20 n0 0 Q k n pc L S H
def f_encaps (n : Nat) (s : St) : Option (Int32 × St) :=
  if (gI s 12) = 0 then
    some ((-1 : Int32), s)
  else
    (f_draw s).bind fun c2 =>
    (f_drawNoise n (9 : Int32) c2.2).bind fun c3 =>
    (f_drawNoise n (11 : Int32) c3).bind fun c4 =>
    (f_drawNoise n (12 : Int32) c4).bind fun c5 =>
    (f_mul n (3 : Int32) (9 : Int32) (13 : Int32) c5).bind fun c6 =>
    (f_addInto n (13 : Int32) (11 : Int32) c6).bind fun c7 =>
    (f_mul n (4 : Int32) (9 : Int32) (14 : Int32) c7).bind fun c8 =>
    (f_addInto n (14 : Int32) (12 : Int32) c8).bind fun c9 =>
    (f_addMessage n c2.1 c9).bind fun c10 =>
    (f_compressInto n (13 : Int32) (6 : Int32) (gI c10 9) c10).bind fun c11 =>
    (f_compressInto n (14 : Int32) (7 : Int32) (gI c11 10) c11).bind fun c12 =>
    lt (sI c12 12 (2 : Int32)) fun s13 =>
    some (c2.1, s13)
set_option maxRecDepth 65536 in
set_option maxHeartbeats 4000000 in
theorem ok20 (l : Launch) (Z : State) (a0 : Array Value) (hw : HW a0 Z) (n : Nat) (s : St) (r : Int32 × St) (h : f_encaps n s = some r) : CS l Z CN lay y20 prog_1_method_9_code 2 (some FieldType.int) R20 0 [.ref 0] (Hb 0 s) (P20 r) := by
  refine CS.of_wp pn_cls (leb rfl) fun n0 => ?_
  show W20 l Z n0 (P20 r) 0 0 0 [.val (.ref 0), .unset] [] (Hb 0 s)
  unfold f_encaps at h
  refine WP.aloadN d20_0 rfl ?_
  refine WP.getfield (i := 0) (j := 15) d20_1 (hw _ m_48) rfl rfl rfl ?_
  rcases ite_e h with ⟨hc1, h⟩ | ⟨hc1, h⟩
  ·
    refine WP.ifN d20_4 (XT.i0_ne_f hc1) ?_
    refine WP.iconst (-1 : Int32) d20_7 rfl ?_
    cases h
    exact WP.ireturn d20_8 rfl (leb rfl) (leb rfl) ⟨rfl, rfl⟩
  ·
    refine WP.ifY (pc' := 9) d20_4 (XT.i0_ne_t hc1) (by decide) rfl ?_
    refine WP.aloadN d20_9 rfl ?_
    obtain ⟨c2, hc2, h⟩ := Option.bind_eq_some_iff.mp h
    refine WP.callP (i := 0) (y := y8) (as := []) (S := []) d20_10 (hw _ m_73) (hw _ m_75) (hw _ m_1) (hw _ m_74) (hw _ m_76) (hw _ m_2) hy8 rfl (ok8 l Z a0 hw s _ hc2) rfl (lenOf pd8 rfl) (leb rfl) (leb rfl) (leb rfl) (leb rfl) ?_
    rintro _ _ ⟨rfl, rfl⟩
    show W20 l Z n0 (P20 r) 0 0 13 [.val (.ref 0), .unset] [.int c2.1] (Hb 0 c2.2)
    refine WP.istoreN (L' := [.val (.ref 0), .val (.int c2.1)]) d20_13 (leb rfl) rfl ?_
    refine WP.aloadN d20_14 rfl ?_
    refine WP.bipush (9 : Int32) d20_15 rfl ?_
    obtain ⟨c3, hc3, h⟩ := Option.bind_eq_some_iff.mp h
    refine WP.callP (i := 0) (y := y9) (as := [.int (9 : Int32)]) (S := []) d20_17 (hw _ m_79) (hw _ m_81) (hw _ m_1) (hw _ m_80) (hw _ m_82) (hw _ m_2) hy9 rfl (ok9 l Z a0 hw n (9 : Int32) c2.2 _ hc3) rfl (lenOf pd9 rfl) (leb rfl) (leb rfl) (leb rfl) (leb rfl) ?_
    rintro _ _ ⟨rfl, rfl⟩
    show W20 l Z n0 (P20 r) 0 0 20 [.val (.ref 0), .val (.int c2.1)] [] (Hb 0 c3)
    refine WP.aloadN d20_20 rfl ?_
    refine WP.bipush (11 : Int32) d20_21 rfl ?_
    obtain ⟨c4, hc4, h⟩ := Option.bind_eq_some_iff.mp h
    refine WP.callP (i := 0) (y := y9) (as := [.int (11 : Int32)]) (S := []) d20_23 (hw _ m_79) (hw _ m_81) (hw _ m_1) (hw _ m_80) (hw _ m_82) (hw _ m_2) hy9 rfl (ok9 l Z a0 hw n (11 : Int32) c3 _ hc4) rfl (lenOf pd9 rfl) (leb rfl) (leb rfl) (leb rfl) (leb rfl) ?_
    rintro _ _ ⟨rfl, rfl⟩
    show W20 l Z n0 (P20 r) 0 0 26 [.val (.ref 0), .val (.int c2.1)] [] (Hb 0 c4)
    refine WP.aloadN d20_26 rfl ?_
    refine WP.bipush (12 : Int32) d20_27 rfl ?_
    obtain ⟨c5, hc5, h⟩ := Option.bind_eq_some_iff.mp h
    refine WP.callP (i := 0) (y := y9) (as := [.int (12 : Int32)]) (S := []) d20_29 (hw _ m_79) (hw _ m_81) (hw _ m_1) (hw _ m_80) (hw _ m_82) (hw _ m_2) hy9 rfl (ok9 l Z a0 hw n (12 : Int32) c4 _ hc5) rfl (lenOf pd9 rfl) (leb rfl) (leb rfl) (leb rfl) (leb rfl) ?_
    rintro _ _ ⟨rfl, rfl⟩
    show W20 l Z n0 (P20 r) 0 0 32 [.val (.ref 0), .val (.int c2.1)] [] (Hb 0 c5)
    refine WP.aloadN d20_32 rfl ?_
    refine WP.iconst (3 : Int32) d20_33 rfl ?_
    refine WP.bipush (9 : Int32) d20_34 rfl ?_
    refine WP.bipush (13 : Int32) d20_36 rfl ?_
    obtain ⟨c6, hc6, h⟩ := Option.bind_eq_some_iff.mp h
    refine WP.callP (i := 0) (y := y12) (as := [.int (3 : Int32), .int (9 : Int32), .int (13 : Int32)]) (S := []) d20_38 (hw _ m_91) (hw _ m_93) (hw _ m_1) (hw _ m_92) (hw _ m_94) (hw _ m_2) hy12 rfl (ok12 l Z a0 hw n (3 : Int32) (9 : Int32) (13 : Int32) c5 _ hc6) rfl (lenOf pd12 rfl) (leb rfl) (leb rfl) (leb rfl) (leb rfl) ?_
    rintro _ _ ⟨rfl, rfl⟩
    show W20 l Z n0 (P20 r) 0 0 41 [.val (.ref 0), .val (.int c2.1)] [] (Hb 0 c6)
    refine WP.aloadN d20_41 rfl ?_
    refine WP.bipush (13 : Int32) d20_42 rfl ?_
    refine WP.bipush (11 : Int32) d20_44 rfl ?_
    obtain ⟨c7, hc7, h⟩ := Option.bind_eq_some_iff.mp h
    refine WP.callP (i := 0) (y := y18) (as := [.int (13 : Int32), .int (11 : Int32)]) (S := []) d20_46 (hw _ m_115) (hw _ m_117) (hw _ m_1) (hw _ m_116) (hw _ m_118) (hw _ m_2) hy18 rfl (ok18 l Z a0 hw n (13 : Int32) (11 : Int32) c6 _ hc7) rfl (lenOf pd18 rfl) (leb rfl) (leb rfl) (leb rfl) (leb rfl) ?_
    rintro _ _ ⟨rfl, rfl⟩
    show W20 l Z n0 (P20 r) 0 0 49 [.val (.ref 0), .val (.int c2.1)] [] (Hb 0 c7)
    refine WP.aloadN d20_49 rfl ?_
    refine WP.iconst (4 : Int32) d20_50 rfl ?_
    refine WP.bipush (9 : Int32) d20_51 rfl ?_
    refine WP.bipush (14 : Int32) d20_53 rfl ?_
    obtain ⟨c8, hc8, h⟩ := Option.bind_eq_some_iff.mp h
    refine WP.callP (i := 0) (y := y12) (as := [.int (4 : Int32), .int (9 : Int32), .int (14 : Int32)]) (S := []) d20_55 (hw _ m_91) (hw _ m_93) (hw _ m_1) (hw _ m_92) (hw _ m_94) (hw _ m_2) hy12 rfl (ok12 l Z a0 hw n (4 : Int32) (9 : Int32) (14 : Int32) c7 _ hc8) rfl (lenOf pd12 rfl) (leb rfl) (leb rfl) (leb rfl) (leb rfl) ?_
    rintro _ _ ⟨rfl, rfl⟩
    show W20 l Z n0 (P20 r) 0 0 58 [.val (.ref 0), .val (.int c2.1)] [] (Hb 0 c8)
    refine WP.aloadN d20_58 rfl ?_
    refine WP.bipush (14 : Int32) d20_59 rfl ?_
    refine WP.bipush (12 : Int32) d20_61 rfl ?_
    obtain ⟨c9, hc9, h⟩ := Option.bind_eq_some_iff.mp h
    refine WP.callP (i := 0) (y := y18) (as := [.int (14 : Int32), .int (12 : Int32)]) (S := []) d20_63 (hw _ m_115) (hw _ m_117) (hw _ m_1) (hw _ m_116) (hw _ m_118) (hw _ m_2) hy18 rfl (ok18 l Z a0 hw n (14 : Int32) (12 : Int32) c8 _ hc9) rfl (lenOf pd18 rfl) (leb rfl) (leb rfl) (leb rfl) (leb rfl) ?_
    rintro _ _ ⟨rfl, rfl⟩
    show W20 l Z n0 (P20 r) 0 0 66 [.val (.ref 0), .val (.int c2.1)] [] (Hb 0 c9)
    refine WP.aloadN d20_66 rfl ?_
    refine WP.iloadN d20_67 rfl ?_
    obtain ⟨c10, hc10, h⟩ := Option.bind_eq_some_iff.mp h
    refine WP.callP (i := 0) (y := y21) (as := [.int c2.1]) (S := []) d20_68 (hw _ m_128) (hw _ m_130) (hw _ m_1) (hw _ m_129) (hw _ m_131) (hw _ m_2) hy21 rfl (ok21 l Z a0 hw n c2.1 c9 _ hc10) rfl (lenOf pd21 rfl) (leb rfl) (leb rfl) (leb rfl) (leb rfl) ?_
    rintro _ _ ⟨rfl, rfl⟩
    show W20 l Z n0 (P20 r) 0 0 71 [.val (.ref 0), .val (.int c2.1)] [] (Hb 0 c10)
    refine WP.aloadN d20_71 rfl ?_
    refine WP.bipush (13 : Int32) d20_72 rfl ?_
    refine WP.bipush (6 : Int32) d20_74 rfl ?_
    refine WP.aloadN d20_76 rfl ?_
    refine WP.getfield (i := 0) (j := 12) d20_77 (hw _ m_42) rfl rfl rfl ?_
    obtain ⟨c11, hc11, h⟩ := Option.bind_eq_some_iff.mp h
    refine WP.callP (i := 0) (y := y22) (as := [.int (13 : Int32), .int (6 : Int32), .int (gI c10 9)]) (S := []) d20_80 (hw _ m_132) (hw _ m_134) (hw _ m_1) (hw _ m_133) (hw _ m_135) (hw _ m_2) hy22 rfl (ok22 l Z a0 hw n (13 : Int32) (6 : Int32) (gI c10 9) c10 _ hc11) rfl (lenOf pd22 rfl) (leb rfl) (leb rfl) (leb rfl) (leb rfl) ?_
    rintro _ _ ⟨rfl, rfl⟩
    show W20 l Z n0 (P20 r) 0 0 83 [.val (.ref 0), .val (.int c2.1)] [] (Hb 0 c11)
    refine WP.aloadN d20_83 rfl ?_
    refine WP.bipush (14 : Int32) d20_84 rfl ?_
    refine WP.bipush (7 : Int32) d20_86 rfl ?_
    refine WP.aloadN d20_88 rfl ?_
    refine WP.getfield (i := 0) (j := 13) d20_89 (hw _ m_44) rfl rfl rfl ?_
    obtain ⟨c12, hc12, h⟩ := Option.bind_eq_some_iff.mp h
    refine WP.callP (i := 0) (y := y22) (as := [.int (14 : Int32), .int (7 : Int32), .int (gI c11 10)]) (S := []) d20_92 (hw _ m_132) (hw _ m_134) (hw _ m_1) (hw _ m_133) (hw _ m_135) (hw _ m_2) hy22 rfl (ok22 l Z a0 hw n (14 : Int32) (7 : Int32) (gI c11 10) c11 _ hc12) rfl (lenOf pd22 rfl) (leb rfl) (leb rfl) (leb rfl) (leb rfl) ?_
    rintro _ _ ⟨rfl, rfl⟩
    show W20 l Z n0 (P20 r) 0 0 95 [.val (.ref 0), .val (.int c2.1)] [] (Hb 0 c12)
    refine WP.aloadN d20_95 rfl ?_
    refine WP.iconst (2 : Int32) d20_96 rfl ?_
    obtain ⟨s13, es13, h⟩ := lt_e h
    refine WP.putI (i := 0) (j := 15) (H' := (Hb 0 s13)) d20_97 (hw _ m_48) (Or.inl (hw _ m_49)) (hw _ m_1) (hlay hw) rfl rfl rfl (leb rfl) (by subst es13; rfl) ?_
    refine WP.iloadN d20_100 rfl ?_
    cases h
    exact WP.ireturn d20_101 rfl (leb rfl) (leb rfl) ⟨rfl, rfl⟩
theorem d24_0 : dc prog_1_method_14_code 0 (.aload_n 0) 1 := by decide +kernel
theorem d24_1 : dc prog_1_method_14_code 1 (.getfield 60) 3 := by decide +kernel
theorem d24_4 : dc prog_1_method_14_code 4 (.ireturn) 1 := by decide +kernel
abbrev y24 : MethodName := ⟨"RingLweKem", "status", "()I"⟩
theorem hy24 : y24.cls ≠ "java/lang/invoke/MethodHandle" ∧ y24.cls ≠ "java/lang/invoke/VarHandle" := by decide
theorem pd24 : parseMethodDescriptor y24.desc = some ⟨[], some .int⟩ := by decide +kernel
abbrev R24 : Room := { frames := 0, cells := 0, slots := 0, locals := 0 }
abbrev P24 (s : St) (r : Int32) : Option Value → List OwnC → Prop := fun v H' => v = some (.int r) ∧ H' = (Hb 0 s)
abbrev W24 (l : Launch) (Z : State) (n0 : Nat) (Q : Option Value → List OwnC → Prop) (k n pc : Nat) (L : List Slot) (S : List Value) (H : List OwnC) : Prop := WP l Z CN lay "RingLweKem" "status" prog_1_method_14_code 1 (some FieldType.int) R24 n0 0 Q k n pc L S H
def f_status (s : St) : Option (Int32) :=
  some (gI s 12)
set_option maxRecDepth 65536 in
set_option maxHeartbeats 4000000 in
theorem ok24 (l : Launch) (Z : State) (a0 : Array Value) (hw : HW a0 Z) (s : St) (r : Int32) (h : f_status s = some r) : CS l Z CN lay y24 prog_1_method_14_code 1 (some FieldType.int) R24 0 [.ref 0] (Hb 0 s) (P24 s r) := by
  refine CS.of_wp pn_cls (leb rfl) fun n0 => ?_
  show W24 l Z n0 (P24 s r) 0 0 0 [.val (.ref 0)] [] (Hb 0 s)
  unfold f_status at h
  refine WP.aloadN d24_0 rfl ?_
  refine WP.getfield (i := 0) (j := 15) d24_1 (hw _ m_48) rfl rfl rfl ?_
  cases h
  exact WP.ireturn d24_4 rfl (leb rfl) (leb rfl) ⟨rfl, rfl⟩
theorem d27_0 : dc prog_1_method_24_code 0 (.sipush 257) 3 := by decide +kernel
theorem d27_3 : dc prog_1_method_24_code 3 (.iload_n 1) 1 := by decide +kernel
theorem d27_4 : dc prog_1_method_24_code 4 (.imul) 1 := by decide +kernel
theorem d27_5 : dc prog_1_method_24_code 5 (.iconst 1) 1 := by decide +kernel
theorem d27_6 : dc prog_1_method_24_code 6 (.iload_n 2) 1 := by decide +kernel
theorem d27_7 : dc prog_1_method_24_code 7 (.iconst 1) 1 := by decide +kernel
theorem d27_8 : dc prog_1_method_24_code 8 (.isub) 1 := by decide +kernel
theorem d27_9 : dc prog_1_method_24_code 9 (.ishl) 1 := by decide +kernel
theorem d27_10 : dc prog_1_method_24_code 10 (.iadd) 1 := by decide +kernel
theorem d27_11 : dc prog_1_method_24_code 11 (.iload_n 2) 1 := by decide +kernel
theorem d27_12 : dc prog_1_method_24_code 12 (.ishr) 1 := by decide +kernel
theorem d27_13 : dc prog_1_method_24_code 13 (.ireturn) 1 := by decide +kernel
abbrev y27 : MethodName := ⟨"RingLweKem", "dcmp", "(II)I"⟩
theorem hy27 : y27.cls ≠ "java/lang/invoke/MethodHandle" ∧ y27.cls ≠ "java/lang/invoke/VarHandle" := by decide
theorem pd27 : parseMethodDescriptor y27.desc = some ⟨[.int, .int], some .int⟩ := by decide +kernel
abbrev R27 : Room := { frames := 0, cells := 0, slots := 0, locals := 0 }
abbrev P27 (s : St) (r : Int32) : Option Value → List OwnC → Prop := fun v H' => v = some (.int r) ∧ H' = (Hb 0 s)
abbrev W27 (l : Launch) (Z : State) (n0 : Nat) (Q : Option Value → List OwnC → Prop) (k n pc : Nat) (L : List Slot) (S : List Value) (H : List OwnC) : Prop := WP l Z CN lay "RingLweKem" "dcmp" prog_1_method_24_code 3 (some FieldType.int) R27 n0 0 Q k n pc L S H
def f_dcmp (p1 : Int32) (p2 : Int32) (s : St) : Option (Int32) :=
  some ((((257 : Int32) * p1) + ((1 : Int32) <<< ((p2 - (1 : Int32)) &&& 31))) >>> (p2 &&& 31))
set_option maxRecDepth 65536 in
set_option maxHeartbeats 4000000 in
theorem ok27 (l : Launch) (Z : State) (a0 : Array Value) (hw : HW a0 Z) (p1 : Int32) (p2 : Int32) (s : St) (r : Int32) (h : f_dcmp p1 p2 s = some r) : CS l Z CN lay y27 prog_1_method_24_code 3 (some FieldType.int) R27 0 [.ref 0, .int p1, .int p2] (Hb 0 s) (P27 s r) := by
  refine CS.of_wp pn_cls (leb rfl) fun n0 => ?_
  show W27 l Z n0 (P27 s r) 0 0 0 [.val (.ref 0), .val (.int p1), .val (.int p2)] [] (Hb 0 s)
  unfold f_dcmp at h
  refine WP.sipush (257 : Int32) d27_0 rfl ?_
  refine WP.iloadN d27_3 rfl ?_
  refine WP.imul d27_4 ?_
  refine WP.iconst (1 : Int32) d27_5 rfl ?_
  refine WP.iloadN d27_6 rfl ?_
  refine WP.iconst (1 : Int32) d27_7 rfl ?_
  refine WP.isub d27_8 ?_
  refine WP.ishl d27_9 ?_
  refine WP.iadd d27_10 ?_
  refine WP.iloadN d27_11 rfl ?_
  refine WP.ishr d27_12 ?_
  cases h
  exact WP.ireturn d27_13 rfl (leb rfl) (leb rfl) ⟨rfl, rfl⟩
theorem d26_0 : dc prog_1_method_26_code 0 (.iload_n 1) 1 := by decide +kernel
theorem d26_1 : dc prog_1_method_26_code 1 (.bipush 16) 2 := by decide +kernel
theorem d26_3 : dc prog_1_method_26_code 3 (.imul) 1 := by decide +kernel
theorem d26_4 : dc prog_1_method_26_code 4 (.istore 4) 2 := by decide +kernel
theorem d26_6 : dc prog_1_method_26_code 6 (.iload_n 2) 1 := by decide +kernel
theorem d26_7 : dc prog_1_method_26_code 7 (.bipush 16) 2 := by decide +kernel
theorem d26_9 : dc prog_1_method_26_code 9 (.imul) 1 := by decide +kernel
theorem d26_10 : dc prog_1_method_26_code 10 (.istore 5) 2 := by decide +kernel
theorem d26_12 : dc prog_1_method_26_code 12 (.iconst 0) 1 := by decide +kernel
theorem d26_13 : dc prog_1_method_26_code 13 (.istore 6) 2 := by decide +kernel
theorem d26_15 : dc prog_1_method_26_code 15 (.iload 6) 2 := by decide +kernel
theorem d26_17 : dc prog_1_method_26_code 17 (.bipush 16) 2 := by decide +kernel
theorem d26_19 : dc prog_1_method_26_code 19 (.if_icmp .ge 34) 3 := by decide +kernel
theorem d26_22 : dc prog_1_method_26_code 22 (.aload_n 0) 1 := by decide +kernel
theorem d26_23 : dc prog_1_method_26_code 23 (.getfield 7) 3 := by decide +kernel
theorem d26_26 : dc prog_1_method_26_code 26 (.iload 5) 2 := by decide +kernel
theorem d26_28 : dc prog_1_method_26_code 28 (.iload 6) 2 := by decide +kernel
theorem d26_30 : dc prog_1_method_26_code 30 (.iadd) 1 := by decide +kernel
theorem d26_31 : dc prog_1_method_26_code 31 (.aload_n 0) 1 := by decide +kernel
theorem d26_32 : dc prog_1_method_26_code 32 (.aload_n 0) 1 := by decide +kernel
theorem d26_33 : dc prog_1_method_26_code 33 (.getfield 7) 3 := by decide +kernel
theorem d26_36 : dc prog_1_method_26_code 36 (.iload 4) 2 := by decide +kernel
theorem d26_38 : dc prog_1_method_26_code 38 (.iload 6) 2 := by decide +kernel
theorem d26_40 : dc prog_1_method_26_code 40 (.iadd) 1 := by decide +kernel
theorem d26_41 : dc prog_1_method_26_code 41 (.iaload) 1 := by decide +kernel
theorem d26_42 : dc prog_1_method_26_code 42 (.iload_n 3) 1 := by decide +kernel
theorem d26_43 : dc prog_1_method_26_code 43 (.invokevirtual 108) 3 := by decide +kernel
theorem d26_46 : dc prog_1_method_26_code 46 (.iastore) 1 := by decide +kernel
theorem d26_47 : dc prog_1_method_26_code 47 (.iinc 6 1) 3 := by decide +kernel
theorem d26_50 : dc prog_1_method_26_code 50 (.goto (-35)) 3 := by decide +kernel
theorem d26_53 : dc prog_1_method_26_code 53 (.return_) 1 := by decide +kernel
abbrev y26 : MethodName := ⟨"RingLweKem", "decompressInto", "(III)V"⟩
theorem hy26 : y26.cls ≠ "java/lang/invoke/MethodHandle" ∧ y26.cls ≠ "java/lang/invoke/VarHandle" := by decide
theorem pd26 : parseMethodDescriptor y26.desc = some ⟨[.int, .int, .int], none⟩ := by decide +kernel
abbrev R26 : Room := { frames := 1, cells := 0, slots := 0, locals := 16 }
abbrev P26 (r : St) : Option Value → List OwnC → Prop := fun v H' => v = none ∧ H' = (Hb 0 r)
abbrev W26 (l : Launch) (Z : State) (n0 : Nat) (Q : Option Value → List OwnC → Prop) (k n pc : Nat) (L : List Slot) (S : List Value) (H : List OwnC) : Prop := WP l Z CN lay "RingLweKem" "decompressInto" prog_1_method_26_code 7 (none) R26 n0 0 Q k n pc L S H
def g_decompressInto_15 (k15 : Int32 → Int32 → Int32 → Int32 → St → Option (St)) (n : Nat) (v3 : Int32) (v4 : Int32) (v5 : Int32) (v6 : Int32) (s : St) : Option (St) :=
  if v6 < (16 : Int32) then
    (rd (gA s 0) (v4 + v6)).bind fun x2 =>
    (f_dcmp x2 v3 s).bind fun c3 =>
    (wrA s 0 (v5 + v6) c3).bind fun s4 =>
    lt (v6 + (1 : Int32)) fun x5 =>
    k15 v3 v4 v5 x5 s4
  else
    some s
set_option maxRecDepth 65536 in
set_option maxHeartbeats 4000000 in
theorem okg26_15 (l : Launch) (Z : State) (a0 : Array Value) (hw : HW a0 Z) (n0 : Nat) (k15 : Int32 → Int32 → Int32 → Int32 → St → Option (St)) (hk15 : ∀ (v3 : Int32) (v4 : Int32) (v5 : Int32) (v6 : Int32) (s : St) (r : St), k15 v3 v4 v5 v6 s = some r → W26 l Z n0 (P26 r) 0 0 15 [.val (.ref 0), .unset, .unset, .val (.int v3), .val (.int v4), .val (.int v5), .val (.int v6)] [] (Hb 0 s)) (n : Nat) (v3 : Int32) (v4 : Int32) (v5 : Int32) (v6 : Int32) (s : St) (r : St) (h : g_decompressInto_15 k15 n v3 v4 v5 v6 s = some r) : W26 l Z n0 (P26 r) 0 0 15 [.val (.ref 0), .unset, .unset, .val (.int v3), .val (.int v4), .val (.int v5), .val (.int v6)] [] (Hb 0 s) := by
  unfold g_decompressInto_15 at h
  refine WP.iload d26_15 rfl ?_
  refine WP.bipush (16 : Int32) d26_17 rfl ?_
  rcases ite_e h with ⟨hc1, h⟩ | ⟨hc1, h⟩
  ·
    refine WP.icmpN d26_19 (XT.ii_ge_f hc1) ?_
    refine WP.aloadN d26_22 rfl ?_
    refine WP.getfield (i := 0) (j := 0) d26_23 (hw _ m_14) rfl rfl rfl ?_
    refine WP.iload d26_26 rfl ?_
    refine WP.iload d26_28 rfl ?_
    refine WP.iadd d26_30 ?_
    refine WP.aloadN d26_31 rfl ?_
    refine WP.aloadN d26_32 rfl ?_
    refine WP.getfield (i := 0) (j := 0) d26_33 (hw _ m_14) rfl rfl rfl ?_
    refine WP.iload d26_36 rfl ?_
    refine WP.iload d26_38 rfl ?_
    refine WP.iadd d26_40 ?_
    obtain ⟨x2, hx2, h⟩ := Option.bind_eq_some_iff.mp h
    refine WP.iaload (i := 1) d26_41 rfl hx2 ?_
    refine WP.iloadN d26_42 rfl ?_
    obtain ⟨c3, hc3, h⟩ := Option.bind_eq_some_iff.mp h
    refine WP.callP (i := 0) (y := y27) (as := [.int x2, .int v3]) (S := [.int (v5 + v6), .ref 1]) d26_43 (hw _ m_154) (hw _ m_156) (hw _ m_1) (hw _ m_155) (hw _ m_157) (hw _ m_2) hy27 rfl (ok27 l Z a0 hw x2 v3 s _ hc3) rfl (lenOf pd27 rfl) (leb rfl) (leb rfl) (leb rfl) (leb rfl) ?_
    rintro _ _ ⟨rfl, rfl⟩
    show W26 l Z n0 (P26 r) 0 0 46 [.val (.ref 0), .unset, .unset, .val (.int v3), .val (.int v4), .val (.int v5), .val (.int v6)] [.int c3, .int (v5 + v6), .ref 1] (Hb 0 s)
    obtain ⟨s4, hs4, h⟩ := Option.bind_eq_some_iff.mp h
    obtain ⟨ys4, gs4, es4⟩ := wrA_e hs4
    refine WP.iastore (i := 1) (xs := gA s 0) (H' := (Hb 0 s4)) d26_46 rfl (leb rfl) gs4 (by subst es4; rfl) ?_
    obtain ⟨x5, ex5, h⟩ := lt_e h
    refine WP.iinc (L' := [.val (.ref 0), .unset, .unset, .val (.int v3), .val (.int v4), .val (.int v5), .val (.int x5)]) (1 : Int32) d26_47 rfl rfl (by subst ex5; rfl) ?_
    refine WP.goto (pc' := 15) d26_50 (by decide) rfl ?_
    exact WP.weak (L' := [.val (.ref 0), .unset, .unset, .val (.int v3), .val (.int v4), .val (.int v5), .val (.int x5)]) ⟨rfl, rfl, rfl, rfl, rfl, trivial⟩ (hk15 v3 v4 v5 x5 s4 _ h)
  ·
    refine WP.icmpY (pc' := 53) d26_19 (XT.ii_ge_t hc1) (by decide) rfl ?_
    cases h
    exact WP.vreturn d26_53 rfl (leb rfl) (leb rfl) ⟨rfl, rfl⟩
def f_decompressInto_15 : Nat → Int32 → Int32 → Int32 → Int32 → St → Option (St)
  | 0 => fun _ _ _ _ _ => none
  | n + 1 => g_decompressInto_15 (f_decompressInto_15 n) n
theorem ok26_15 (l : Launch) (Z : State) (a0 : Array Value) (hw : HW a0 Z) (n0 : Nat) : ∀ (n : Nat) (v3 : Int32) (v4 : Int32) (v5 : Int32) (v6 : Int32) (s : St) (r : St), f_decompressInto_15 n v3 v4 v5 v6 s = some r → W26 l Z n0 (P26 r) 0 0 15 [.val (.ref 0), .unset, .unset, .val (.int v3), .val (.int v4), .val (.int v5), .val (.int v6)] [] (Hb 0 s)
  | 0, v3, v4, v5, v6, s, r, h => nomatch (show none = some r from h)
  | n + 1, v3, v4, v5, v6, s, r, h => okg26_15 l Z a0 hw n0 _ (ok26_15 l Z a0 hw n0 n) n v3 v4 v5 v6 s r h
def f_decompressInto (n : Nat) (p1 : Int32) (p2 : Int32) (p3 : Int32) (s : St) : Option (St) :=
  lt (p1 * (16 : Int32)) fun x1 =>
  lt (p2 * (16 : Int32)) fun x2 =>
  f_decompressInto_15 n p3 x1 x2 (0 : Int32) s
set_option maxRecDepth 65536 in
set_option maxHeartbeats 4000000 in
theorem ok26 (l : Launch) (Z : State) (a0 : Array Value) (hw : HW a0 Z) (n : Nat) (p1 : Int32) (p2 : Int32) (p3 : Int32) (s : St) (r : St) (h : f_decompressInto n p1 p2 p3 s = some r) : CS l Z CN lay y26 prog_1_method_26_code 7 (none) R26 0 [.ref 0, .int p1, .int p2, .int p3] (Hb 0 s) (P26 r) := by
  refine CS.of_wp pn_cls (leb rfl) fun n0 => ?_
  show W26 l Z n0 (P26 r) 0 0 0 [.val (.ref 0), .val (.int p1), .val (.int p2), .val (.int p3), .unset, .unset, .unset] [] (Hb 0 s)
  unfold f_decompressInto at h
  refine WP.iloadN d26_0 rfl ?_
  refine WP.bipush (16 : Int32) d26_1 rfl ?_
  refine WP.imul d26_3 ?_
  obtain ⟨x1, ex1, h⟩ := lt_e h
  refine WP.istore (L' := [.val (.ref 0), .val (.int p1), .val (.int p2), .val (.int p3), .val (.int x1), .unset, .unset]) d26_4 (leb rfl) (by subst ex1; rfl) ?_
  refine WP.iloadN d26_6 rfl ?_
  refine WP.bipush (16 : Int32) d26_7 rfl ?_
  refine WP.imul d26_9 ?_
  obtain ⟨x2, ex2, h⟩ := lt_e h
  refine WP.istore (L' := [.val (.ref 0), .val (.int p1), .val (.int p2), .val (.int p3), .val (.int x1), .val (.int x2), .unset]) d26_10 (leb rfl) (by subst ex2; rfl) ?_
  refine WP.iconst (0 : Int32) d26_12 rfl ?_
  refine WP.istore (L' := [.val (.ref 0), .val (.int p1), .val (.int p2), .val (.int p3), .val (.int x1), .val (.int x2), .val (.int (0 : Int32))]) d26_13 (leb rfl) rfl ?_
  exact WP.weak (L' := [.val (.ref 0), .unset, .unset, .val (.int p3), .val (.int x1), .val (.int x2), .val (.int (0 : Int32))]) ⟨rfl, rfl, rfl, rfl, rfl, trivial⟩ (ok26_15 l Z a0 hw n0 n p3 x1 x2 (0 : Int32) s _ h)
theorem d25_0 : dc prog_1_method_10_code 0 (.aload_n 0) 1 := by decide +kernel
theorem d25_1 : dc prog_1_method_10_code 1 (.getfield 60) 3 := by decide +kernel
theorem d25_4 : dc prog_1_method_10_code 4 (.iconst 2) 1 := by decide +kernel
theorem d25_5 : dc prog_1_method_10_code 5 (.if_icmp .eq 5) 3 := by decide +kernel
theorem d25_8 : dc prog_1_method_10_code 8 (.iconst (-1)) 1 := by decide +kernel
theorem d25_9 : dc prog_1_method_10_code 9 (.ireturn) 1 := by decide +kernel
theorem d25_10 : dc prog_1_method_10_code 10 (.aload_n 0) 1 := by decide +kernel
theorem d25_11 : dc prog_1_method_10_code 11 (.bipush 6) 2 := by decide +kernel
theorem d25_13 : dc prog_1_method_10_code 13 (.bipush 13) 2 := by decide +kernel
theorem d25_15 : dc prog_1_method_10_code 15 (.aload_n 0) 1 := by decide +kernel
theorem d25_16 : dc prog_1_method_10_code 16 (.getfield 51) 3 := by decide +kernel
theorem d25_19 : dc prog_1_method_10_code 19 (.invokevirtual 101) 3 := by decide +kernel
theorem d25_22 : dc prog_1_method_10_code 22 (.aload_n 0) 1 := by decide +kernel
theorem d25_23 : dc prog_1_method_10_code 23 (.bipush 7) 2 := by decide +kernel
theorem d25_25 : dc prog_1_method_10_code 25 (.bipush 14) 2 := by decide +kernel
theorem d25_27 : dc prog_1_method_10_code 27 (.aload_n 0) 1 := by decide +kernel
theorem d25_28 : dc prog_1_method_10_code 28 (.getfield 54) 3 := by decide +kernel
theorem d25_31 : dc prog_1_method_10_code 31 (.invokevirtual 101) 3 := by decide +kernel
theorem d25_34 : dc prog_1_method_10_code 34 (.aload_n 0) 1 := by decide +kernel
theorem d25_35 : dc prog_1_method_10_code 35 (.iconst 5) 1 := by decide +kernel
theorem d25_36 : dc prog_1_method_10_code 36 (.bipush 13) 2 := by decide +kernel
theorem d25_38 : dc prog_1_method_10_code 38 (.bipush 8) 2 := by decide +kernel
theorem d25_40 : dc prog_1_method_10_code 40 (.invokevirtual 77) 3 := by decide +kernel
theorem d25_43 : dc prog_1_method_10_code 43 (.sipush 128) 3 := by decide +kernel
theorem d25_46 : dc prog_1_method_10_code 46 (.istore_n 1) 1 := by decide +kernel
theorem d25_47 : dc prog_1_method_10_code 47 (.sipush 224) 3 := by decide +kernel
theorem d25_50 : dc prog_1_method_10_code 50 (.istore_n 2) 1 := by decide +kernel
theorem d25_51 : dc prog_1_method_10_code 51 (.iconst 0) 1 := by decide +kernel
theorem d25_52 : dc prog_1_method_10_code 52 (.istore_n 3) 1 := by decide +kernel
theorem d25_53 : dc prog_1_method_10_code 53 (.iconst 0) 1 := by decide +kernel
theorem d25_54 : dc prog_1_method_10_code 54 (.istore 4) 2 := by decide +kernel
theorem d25_56 : dc prog_1_method_10_code 56 (.iload 4) 2 := by decide +kernel
theorem d25_58 : dc prog_1_method_10_code 58 (.bipush 16) 2 := by decide +kernel
theorem d25_60 : dc prog_1_method_10_code 60 (.if_icmp .ge 62) 3 := by decide +kernel
theorem d25_63 : dc prog_1_method_10_code 63 (.aload_n 0) 1 := by decide +kernel
theorem d25_64 : dc prog_1_method_10_code 64 (.aload_n 0) 1 := by decide +kernel
theorem d25_65 : dc prog_1_method_10_code 65 (.getfield 7) 3 := by decide +kernel
theorem d25_68 : dc prog_1_method_10_code 68 (.iload_n 2) 1 := by decide +kernel
theorem d25_69 : dc prog_1_method_10_code 69 (.iload 4) 2 := by decide +kernel
theorem d25_71 : dc prog_1_method_10_code 71 (.iadd) 1 := by decide +kernel
theorem d25_72 : dc prog_1_method_10_code 72 (.iaload) 1 := by decide +kernel
theorem d25_73 : dc prog_1_method_10_code 73 (.aload_n 0) 1 := by decide +kernel
theorem d25_74 : dc prog_1_method_10_code 74 (.getfield 7) 3 := by decide +kernel
theorem d25_77 : dc prog_1_method_10_code 77 (.iload_n 1) 1 := by decide +kernel
theorem d25_78 : dc prog_1_method_10_code 78 (.iload 4) 2 := by decide +kernel
theorem d25_80 : dc prog_1_method_10_code 80 (.iadd) 1 := by decide +kernel
theorem d25_81 : dc prog_1_method_10_code 81 (.iaload) 1 := by decide +kernel
theorem d25_82 : dc prog_1_method_10_code 82 (.isub) 1 := by decide +kernel
theorem d25_83 : dc prog_1_method_10_code 83 (.invokevirtual 73) 3 := by decide +kernel
theorem d25_86 : dc prog_1_method_10_code 86 (.istore 5) 2 := by decide +kernel
theorem d25_88 : dc prog_1_method_10_code 88 (.aload_n 0) 1 := by decide +kernel
theorem d25_89 : dc prog_1_method_10_code 89 (.getfield 7) 3 := by decide +kernel
theorem d25_92 : dc prog_1_method_10_code 92 (.iload_n 1) 1 := by decide +kernel
theorem d25_93 : dc prog_1_method_10_code 93 (.iload 4) 2 := by decide +kernel
theorem d25_95 : dc prog_1_method_10_code 95 (.iadd) 1 := by decide +kernel
theorem d25_96 : dc prog_1_method_10_code 96 (.iload 5) 2 := by decide +kernel
theorem d25_98 : dc prog_1_method_10_code 98 (.iastore) 1 := by decide +kernel
theorem d25_99 : dc prog_1_method_10_code 99 (.aload_n 0) 1 := by decide +kernel
theorem d25_100 : dc prog_1_method_10_code 100 (.iload 5) 2 := by decide +kernel
theorem d25_102 : dc prog_1_method_10_code 102 (.iconst 1) 1 := by decide +kernel
theorem d25_103 : dc prog_1_method_10_code 103 (.invokevirtual 104) 3 := by decide +kernel
theorem d25_106 : dc prog_1_method_10_code 106 (.istore 6) 2 := by decide +kernel
theorem d25_108 : dc prog_1_method_10_code 108 (.iload_n 3) 1 := by decide +kernel
theorem d25_109 : dc prog_1_method_10_code 109 (.iload 6) 2 := by decide +kernel
theorem d25_111 : dc prog_1_method_10_code 111 (.iload 4) 2 := by decide +kernel
theorem d25_113 : dc prog_1_method_10_code 113 (.ishl) 1 := by decide +kernel
theorem d25_114 : dc prog_1_method_10_code 114 (.ior) 1 := by decide +kernel
theorem d25_115 : dc prog_1_method_10_code 115 (.istore_n 3) 1 := by decide +kernel
theorem d25_116 : dc prog_1_method_10_code 116 (.iinc 4 1) 3 := by decide +kernel
theorem d25_119 : dc prog_1_method_10_code 119 (.goto (-63)) 3 := by decide +kernel
theorem d25_122 : dc prog_1_method_10_code 122 (.iload_n 3) 1 := by decide +kernel
theorem d25_123 : dc prog_1_method_10_code 123 (.ireturn) 1 := by decide +kernel
abbrev y25 : MethodName := ⟨"RingLweKem", "decaps", "()I"⟩
theorem hy25 : y25.cls ≠ "java/lang/invoke/MethodHandle" ∧ y25.cls ≠ "java/lang/invoke/VarHandle" := by decide
theorem pd25 : parseMethodDescriptor y25.desc = some ⟨[], some .int⟩ := by decide +kernel
abbrev R25 : Room := { frames := 3, cells := 0, slots := 0, locals := 60 }
abbrev P25 (r : Int32 × St) : Option Value → List OwnC → Prop := fun v H' => v = some (.int r.1) ∧ H' = (Hb 0 r.2)
abbrev W25 (l : Launch) (Z : State) (n0 : Nat) (Q : Option Value → List OwnC → Prop) (k n pc : Nat) (L : List Slot) (S : List Value) (H : List OwnC) : Prop := WP l Z CN lay "RingLweKem" "decaps" prog_1_method_10_code 7 (some FieldType.int) R25 n0 0 Q k n pc L S H
def g_decaps_56 (k56 : Int32 → Int32 → Int32 → Int32 → St → Option (Int32 × St)) (n : Nat) (v1 : Int32) (v2 : Int32) (v3 : Int32) (v4 : Int32) (s : St) : Option (Int32 × St) :=
  if v4 < (16 : Int32) then
    (rd (gA s 0) (v2 + v4)).bind fun x2 =>
    (rd (gA s 0) (v1 + v4)).bind fun x3 =>
    (f_mod (x2 - x3) s).bind fun c4 =>
    (wrA s 0 (v1 + v4) c4).bind fun s5 =>
    (f_cmp c4 (1 : Int32) s5).bind fun c6 =>
    lt (v3 ||| (c6 <<< (v4 &&& 31))) fun x7 =>
    lt (v4 + (1 : Int32)) fun x8 =>
    k56 v1 v2 x7 x8 s5
  else
    some (v3, s)
set_option maxRecDepth 65536 in
set_option maxHeartbeats 4000000 in
theorem okg25_56 (l : Launch) (Z : State) (a0 : Array Value) (hw : HW a0 Z) (n0 : Nat) (k56 : Int32 → Int32 → Int32 → Int32 → St → Option (Int32 × St)) (hk56 : ∀ (v1 : Int32) (v2 : Int32) (v3 : Int32) (v4 : Int32) (s : St) (r : Int32 × St), k56 v1 v2 v3 v4 s = some r → W25 l Z n0 (P25 r) 0 0 56 [.val (.ref 0), .val (.int v1), .val (.int v2), .val (.int v3), .val (.int v4), .unset, .unset] [] (Hb 0 s)) (n : Nat) (v1 : Int32) (v2 : Int32) (v3 : Int32) (v4 : Int32) (s : St) (r : Int32 × St) (h : g_decaps_56 k56 n v1 v2 v3 v4 s = some r) : W25 l Z n0 (P25 r) 0 0 56 [.val (.ref 0), .val (.int v1), .val (.int v2), .val (.int v3), .val (.int v4), .unset, .unset] [] (Hb 0 s) := by
  unfold g_decaps_56 at h
  refine WP.iload d25_56 rfl ?_
  refine WP.bipush (16 : Int32) d25_58 rfl ?_
  rcases ite_e h with ⟨hc1, h⟩ | ⟨hc1, h⟩
  ·
    refine WP.icmpN d25_60 (XT.ii_ge_f hc1) ?_
    refine WP.aloadN d25_63 rfl ?_
    refine WP.aloadN d25_64 rfl ?_
    refine WP.getfield (i := 0) (j := 0) d25_65 (hw _ m_14) rfl rfl rfl ?_
    refine WP.iloadN d25_68 rfl ?_
    refine WP.iload d25_69 rfl ?_
    refine WP.iadd d25_71 ?_
    obtain ⟨x2, hx2, h⟩ := Option.bind_eq_some_iff.mp h
    refine WP.iaload (i := 1) d25_72 rfl hx2 ?_
    refine WP.aloadN d25_73 rfl ?_
    refine WP.getfield (i := 0) (j := 0) d25_74 (hw _ m_14) rfl rfl rfl ?_
    refine WP.iloadN d25_77 rfl ?_
    refine WP.iload d25_78 rfl ?_
    refine WP.iadd d25_80 ?_
    obtain ⟨x3, hx3, h⟩ := Option.bind_eq_some_iff.mp h
    refine WP.iaload (i := 1) d25_81 rfl hx3 ?_
    refine WP.isub d25_82 ?_
    obtain ⟨c4, hc4, h⟩ := Option.bind_eq_some_iff.mp h
    refine WP.callP (i := 0) (y := y11) (as := [.int (x2 - x3)]) (S := []) d25_83 (hw _ m_87) (hw _ m_89) (hw _ m_1) (hw _ m_88) (hw _ m_90) (hw _ m_2) hy11 rfl (ok11 l Z a0 hw (x2 - x3) s _ hc4) rfl (lenOf pd11 rfl) (leb rfl) (leb rfl) (leb rfl) (leb rfl) ?_
    rintro _ _ ⟨rfl, rfl⟩
    show W25 l Z n0 (P25 r) 0 0 86 [.val (.ref 0), .val (.int v1), .val (.int v2), .val (.int v3), .val (.int v4), .unset, .unset] [.int c4] (Hb 0 s)
    refine WP.istore (L' := [.val (.ref 0), .val (.int v1), .val (.int v2), .val (.int v3), .val (.int v4), .val (.int c4), .unset]) d25_86 (leb rfl) rfl ?_
    refine WP.aloadN d25_88 rfl ?_
    refine WP.getfield (i := 0) (j := 0) d25_89 (hw _ m_14) rfl rfl rfl ?_
    refine WP.iloadN d25_92 rfl ?_
    refine WP.iload d25_93 rfl ?_
    refine WP.iadd d25_95 ?_
    refine WP.iload d25_96 rfl ?_
    obtain ⟨s5, hs5, h⟩ := Option.bind_eq_some_iff.mp h
    obtain ⟨ys5, gs5, es5⟩ := wrA_e hs5
    refine WP.iastore (i := 1) (xs := gA s 0) (H' := (Hb 0 s5)) d25_98 rfl (leb rfl) gs5 (by subst es5; rfl) ?_
    refine WP.aloadN d25_99 rfl ?_
    refine WP.iload d25_100 rfl ?_
    refine WP.iconst (1 : Int32) d25_102 rfl ?_
    obtain ⟨c6, hc6, h⟩ := Option.bind_eq_some_iff.mp h
    refine WP.callP (i := 0) (y := y23) (as := [.int c4, .int (1 : Int32)]) (S := []) d25_103 (hw _ m_136) (hw _ m_138) (hw _ m_1) (hw _ m_137) (hw _ m_139) (hw _ m_2) hy23 rfl (ok23 l Z a0 hw c4 (1 : Int32) s5 _ hc6) rfl (lenOf pd23 rfl) (leb rfl) (leb rfl) (leb rfl) (leb rfl) ?_
    rintro _ _ ⟨rfl, rfl⟩
    show W25 l Z n0 (P25 r) 0 0 106 [.val (.ref 0), .val (.int v1), .val (.int v2), .val (.int v3), .val (.int v4), .val (.int c4), .unset] [.int c6] (Hb 0 s5)
    refine WP.istore (L' := [.val (.ref 0), .val (.int v1), .val (.int v2), .val (.int v3), .val (.int v4), .val (.int c4), .val (.int c6)]) d25_106 (leb rfl) rfl ?_
    refine WP.iloadN d25_108 rfl ?_
    refine WP.iload d25_109 rfl ?_
    refine WP.iload d25_111 rfl ?_
    refine WP.ishl d25_113 ?_
    refine WP.ior d25_114 ?_
    obtain ⟨x7, ex7, h⟩ := lt_e h
    refine WP.istoreN (L' := [.val (.ref 0), .val (.int v1), .val (.int v2), .val (.int x7), .val (.int v4), .val (.int c4), .val (.int c6)]) d25_115 (leb rfl) (by subst ex7; rfl) ?_
    obtain ⟨x8, ex8, h⟩ := lt_e h
    refine WP.iinc (L' := [.val (.ref 0), .val (.int v1), .val (.int v2), .val (.int x7), .val (.int x8), .val (.int c4), .val (.int c6)]) (1 : Int32) d25_116 rfl rfl (by subst ex8; rfl) ?_
    refine WP.goto (pc' := 56) d25_119 (by decide) rfl ?_
    exact WP.weak (L' := [.val (.ref 0), .val (.int v1), .val (.int v2), .val (.int x7), .val (.int x8), .unset, .unset]) ⟨rfl, rfl, rfl, rfl, rfl, trivial⟩ (hk56 v1 v2 x7 x8 s5 _ h)
  ·
    refine WP.icmpY (pc' := 122) d25_60 (XT.ii_ge_t hc1) (by decide) rfl ?_
    refine WP.iloadN d25_122 rfl ?_
    cases h
    exact WP.ireturn d25_123 rfl (leb rfl) (leb rfl) ⟨rfl, rfl⟩
def f_decaps_56 : Nat → Int32 → Int32 → Int32 → Int32 → St → Option (Int32 × St)
  | 0 => fun _ _ _ _ _ => none
  | n + 1 => g_decaps_56 (f_decaps_56 n) n
theorem ok25_56 (l : Launch) (Z : State) (a0 : Array Value) (hw : HW a0 Z) (n0 : Nat) : ∀ (n : Nat) (v1 : Int32) (v2 : Int32) (v3 : Int32) (v4 : Int32) (s : St) (r : Int32 × St), f_decaps_56 n v1 v2 v3 v4 s = some r → W25 l Z n0 (P25 r) 0 0 56 [.val (.ref 0), .val (.int v1), .val (.int v2), .val (.int v3), .val (.int v4), .unset, .unset] [] (Hb 0 s)
  | 0, v1, v2, v3, v4, s, r, h => nomatch (show none = some r from h)
  | n + 1, v1, v2, v3, v4, s, r, h => okg25_56 l Z a0 hw n0 _ (ok25_56 l Z a0 hw n0 n) n v1 v2 v3 v4 s r h
def f_decaps (n : Nat) (s : St) : Option (Int32 × St) :=
  if (gI s 12) = (2 : Int32) then
    (f_decompressInto n (6 : Int32) (13 : Int32) (gI s 9) s).bind fun c2 =>
    (f_decompressInto n (7 : Int32) (14 : Int32) (gI c2 10) c2).bind fun c3 =>
    (f_mul n (5 : Int32) (13 : Int32) (8 : Int32) c3).bind fun c4 =>
    f_decaps_56 n (128 : Int32) (224 : Int32) (0 : Int32) (0 : Int32) c4
  else
    some ((-1 : Int32), s)
set_option maxRecDepth 65536 in
set_option maxHeartbeats 4000000 in
theorem ok25 (l : Launch) (Z : State) (a0 : Array Value) (hw : HW a0 Z) (n : Nat) (s : St) (r : Int32 × St) (h : f_decaps n s = some r) : CS l Z CN lay y25 prog_1_method_10_code 7 (some FieldType.int) R25 0 [.ref 0] (Hb 0 s) (P25 r) := by
  refine CS.of_wp pn_cls (leb rfl) fun n0 => ?_
  show W25 l Z n0 (P25 r) 0 0 0 [.val (.ref 0), .unset, .unset, .unset, .unset, .unset, .unset] [] (Hb 0 s)
  unfold f_decaps at h
  refine WP.aloadN d25_0 rfl ?_
  refine WP.getfield (i := 0) (j := 15) d25_1 (hw _ m_48) rfl rfl rfl ?_
  refine WP.iconst (2 : Int32) d25_4 rfl ?_
  rcases ite_e h with ⟨hc1, h⟩ | ⟨hc1, h⟩
  ·
    refine WP.icmpY (pc' := 10) d25_5 (XT.ii_eq_t hc1) (by decide) rfl ?_
    refine WP.aloadN d25_10 rfl ?_
    refine WP.bipush (6 : Int32) d25_11 rfl ?_
    refine WP.bipush (13 : Int32) d25_13 rfl ?_
    refine WP.aloadN d25_15 rfl ?_
    refine WP.getfield (i := 0) (j := 12) d25_16 (hw _ m_42) rfl rfl rfl ?_
    obtain ⟨c2, hc2, h⟩ := Option.bind_eq_some_iff.mp h
    refine WP.callP (i := 0) (y := y26) (as := [.int (6 : Int32), .int (13 : Int32), .int (gI s 9)]) (S := []) d25_19 (hw _ m_150) (hw _ m_152) (hw _ m_1) (hw _ m_151) (hw _ m_153) (hw _ m_2) hy26 rfl (ok26 l Z a0 hw n (6 : Int32) (13 : Int32) (gI s 9) s _ hc2) rfl (lenOf pd26 rfl) (leb rfl) (leb rfl) (leb rfl) (leb rfl) ?_
    rintro _ _ ⟨rfl, rfl⟩
    show W25 l Z n0 (P25 r) 0 0 22 [.val (.ref 0), .unset, .unset, .unset, .unset, .unset, .unset] [] (Hb 0 c2)
    refine WP.aloadN d25_22 rfl ?_
    refine WP.bipush (7 : Int32) d25_23 rfl ?_
    refine WP.bipush (14 : Int32) d25_25 rfl ?_
    refine WP.aloadN d25_27 rfl ?_
    refine WP.getfield (i := 0) (j := 13) d25_28 (hw _ m_44) rfl rfl rfl ?_
    obtain ⟨c3, hc3, h⟩ := Option.bind_eq_some_iff.mp h
    refine WP.callP (i := 0) (y := y26) (as := [.int (7 : Int32), .int (14 : Int32), .int (gI c2 10)]) (S := []) d25_31 (hw _ m_150) (hw _ m_152) (hw _ m_1) (hw _ m_151) (hw _ m_153) (hw _ m_2) hy26 rfl (ok26 l Z a0 hw n (7 : Int32) (14 : Int32) (gI c2 10) c2 _ hc3) rfl (lenOf pd26 rfl) (leb rfl) (leb rfl) (leb rfl) (leb rfl) ?_
    rintro _ _ ⟨rfl, rfl⟩
    show W25 l Z n0 (P25 r) 0 0 34 [.val (.ref 0), .unset, .unset, .unset, .unset, .unset, .unset] [] (Hb 0 c3)
    refine WP.aloadN d25_34 rfl ?_
    refine WP.iconst (5 : Int32) d25_35 rfl ?_
    refine WP.bipush (13 : Int32) d25_36 rfl ?_
    refine WP.bipush (8 : Int32) d25_38 rfl ?_
    obtain ⟨c4, hc4, h⟩ := Option.bind_eq_some_iff.mp h
    refine WP.callP (i := 0) (y := y12) (as := [.int (5 : Int32), .int (13 : Int32), .int (8 : Int32)]) (S := []) d25_40 (hw _ m_91) (hw _ m_93) (hw _ m_1) (hw _ m_92) (hw _ m_94) (hw _ m_2) hy12 rfl (ok12 l Z a0 hw n (5 : Int32) (13 : Int32) (8 : Int32) c3 _ hc4) rfl (lenOf pd12 rfl) (leb rfl) (leb rfl) (leb rfl) (leb rfl) ?_
    rintro _ _ ⟨rfl, rfl⟩
    show W25 l Z n0 (P25 r) 0 0 43 [.val (.ref 0), .unset, .unset, .unset, .unset, .unset, .unset] [] (Hb 0 c4)
    refine WP.sipush (128 : Int32) d25_43 rfl ?_
    refine WP.istoreN (L' := [.val (.ref 0), .val (.int (128 : Int32)), .unset, .unset, .unset, .unset, .unset]) d25_46 (leb rfl) rfl ?_
    refine WP.sipush (224 : Int32) d25_47 rfl ?_
    refine WP.istoreN (L' := [.val (.ref 0), .val (.int (128 : Int32)), .val (.int (224 : Int32)), .unset, .unset, .unset, .unset]) d25_50 (leb rfl) rfl ?_
    refine WP.iconst (0 : Int32) d25_51 rfl ?_
    refine WP.istoreN (L' := [.val (.ref 0), .val (.int (128 : Int32)), .val (.int (224 : Int32)), .val (.int (0 : Int32)), .unset, .unset, .unset]) d25_52 (leb rfl) rfl ?_
    refine WP.iconst (0 : Int32) d25_53 rfl ?_
    refine WP.istore (L' := [.val (.ref 0), .val (.int (128 : Int32)), .val (.int (224 : Int32)), .val (.int (0 : Int32)), .val (.int (0 : Int32)), .unset, .unset]) d25_54 (leb rfl) rfl ?_
    exact WP.weak (L' := [.val (.ref 0), .val (.int (128 : Int32)), .val (.int (224 : Int32)), .val (.int (0 : Int32)), .val (.int (0 : Int32)), .unset, .unset]) ⟨rfl, rfl, rfl, rfl, rfl, trivial⟩ (ok25_56 l Z a0 hw n0 n (128 : Int32) (224 : Int32) (0 : Int32) (0 : Int32) c4 _ h)
  ·
    refine WP.icmpN d25_5 (XT.ii_eq_f hc1) ?_
    refine WP.iconst (-1 : Int32) d25_8 rfl ?_
    cases h
    exact WP.ireturn d25_9 rfl (leb rfl) (leb rfl) ⟨rfl, rfl⟩
theorem d33_0 : dc prog_1_method_11_code 0 (.aload_n 0) 1 := by decide +kernel
theorem d33_1 : dc prog_1_method_11_code 1 (.getfield 60) 3 := by decide +kernel
theorem d33_4 : dc prog_1_method_11_code 4 (.iconst 2) 1 := by decide +kernel
theorem d33_5 : dc prog_1_method_11_code 5 (.if_icmp .eq 5) 3 := by decide +kernel
theorem d33_8 : dc prog_1_method_11_code 8 (.iconst 0) 1 := by decide +kernel
theorem d33_9 : dc prog_1_method_11_code 9 (.ireturn) 1 := by decide +kernel
theorem d33_10 : dc prog_1_method_11_code 10 (.iload_n 1) 1 := by decide +kernel
theorem d33_11 : dc prog_1_method_11_code 11 (.ifCond .eq 10) 3 := by decide +kernel
theorem d33_14 : dc prog_1_method_11_code 14 (.iload_n 1) 1 := by decide +kernel
theorem d33_15 : dc prog_1_method_11_code 15 (.iconst 1) 1 := by decide +kernel
theorem d33_16 : dc prog_1_method_11_code 16 (.if_icmp .eq 5) 3 := by decide +kernel
theorem d33_19 : dc prog_1_method_11_code 19 (.iconst 0) 1 := by decide +kernel
theorem d33_20 : dc prog_1_method_11_code 20 (.ireturn) 1 := by decide +kernel
theorem d33_21 : dc prog_1_method_11_code 21 (.iload_n 2) 1 := by decide +kernel
theorem d33_22 : dc prog_1_method_11_code 22 (.ifCond .lt 9) 3 := by decide +kernel
theorem d33_25 : dc prog_1_method_11_code 25 (.iload_n 2) 1 := by decide +kernel
theorem d33_26 : dc prog_1_method_11_code 26 (.bipush 15) 2 := by decide +kernel
theorem d33_28 : dc prog_1_method_11_code 28 (.if_icmp .le 5) 3 := by decide +kernel
theorem d33_31 : dc prog_1_method_11_code 31 (.iconst 0) 1 := by decide +kernel
theorem d33_32 : dc prog_1_method_11_code 32 (.ireturn) 1 := by decide +kernel
theorem d33_33 : dc prog_1_method_11_code 33 (.iload_n 1) 1 := by decide +kernel
theorem d33_34 : dc prog_1_method_11_code 34 (.ifCond .ne 10) 3 := by decide +kernel
theorem d33_37 : dc prog_1_method_11_code 37 (.aload_n 0) 1 := by decide +kernel
theorem d33_38 : dc prog_1_method_11_code 38 (.getfield 51) 3 := by decide +kernel
theorem d33_41 : dc prog_1_method_11_code 41 (.goto 7) 3 := by decide +kernel
theorem d33_44 : dc prog_1_method_11_code 44 (.aload_n 0) 1 := by decide +kernel
theorem d33_45 : dc prog_1_method_11_code 45 (.getfield 54) 3 := by decide +kernel
theorem d33_48 : dc prog_1_method_11_code 48 (.istore 4) 2 := by decide +kernel
theorem d33_50 : dc prog_1_method_11_code 50 (.iload_n 3) 1 := by decide +kernel
theorem d33_51 : dc prog_1_method_11_code 51 (.ifCond .lt 13) 3 := by decide +kernel
theorem d33_54 : dc prog_1_method_11_code 54 (.iload_n 3) 1 := by decide +kernel
theorem d33_55 : dc prog_1_method_11_code 55 (.iconst 1) 1 := by decide +kernel
theorem d33_56 : dc prog_1_method_11_code 56 (.iload 4) 2 := by decide +kernel
theorem d33_58 : dc prog_1_method_11_code 58 (.ishl) 1 := by decide +kernel
theorem d33_59 : dc prog_1_method_11_code 59 (.iconst 1) 1 := by decide +kernel
theorem d33_60 : dc prog_1_method_11_code 60 (.isub) 1 := by decide +kernel
theorem d33_61 : dc prog_1_method_11_code 61 (.if_icmp .le 5) 3 := by decide +kernel
theorem d33_64 : dc prog_1_method_11_code 64 (.iconst 0) 1 := by decide +kernel
theorem d33_65 : dc prog_1_method_11_code 65 (.ireturn) 1 := by decide +kernel
theorem d33_66 : dc prog_1_method_11_code 66 (.aload_n 0) 1 := by decide +kernel
theorem d33_67 : dc prog_1_method_11_code 67 (.getfield 7) 3 := by decide +kernel
theorem d33_70 : dc prog_1_method_11_code 70 (.bipush 6) 2 := by decide +kernel
theorem d33_72 : dc prog_1_method_11_code 72 (.iload_n 1) 1 := by decide +kernel
theorem d33_73 : dc prog_1_method_11_code 73 (.iadd) 1 := by decide +kernel
theorem d33_74 : dc prog_1_method_11_code 74 (.bipush 16) 2 := by decide +kernel
theorem d33_76 : dc prog_1_method_11_code 76 (.imul) 1 := by decide +kernel
theorem d33_77 : dc prog_1_method_11_code 77 (.iload_n 2) 1 := by decide +kernel
theorem d33_78 : dc prog_1_method_11_code 78 (.iadd) 1 := by decide +kernel
theorem d33_79 : dc prog_1_method_11_code 79 (.iload_n 3) 1 := by decide +kernel
theorem d33_80 : dc prog_1_method_11_code 80 (.iastore) 1 := by decide +kernel
theorem d33_81 : dc prog_1_method_11_code 81 (.iconst 1) 1 := by decide +kernel
theorem d33_82 : dc prog_1_method_11_code 82 (.ireturn) 1 := by decide +kernel
abbrev y33 : MethodName := ⟨"RingLweKem", "setCipher", "(III)Z"⟩
theorem hy33 : y33.cls ≠ "java/lang/invoke/MethodHandle" ∧ y33.cls ≠ "java/lang/invoke/VarHandle" := by decide
theorem pd33 : parseMethodDescriptor y33.desc = some ⟨[.int, .int, .int], some .boolean⟩ := by decide +kernel
abbrev R33 : Room := { frames := 0, cells := 0, slots := 0, locals := 0 }
abbrev P33 (r : Int32 × St) : Option Value → List OwnC → Prop := fun v H' => v = some (.int r.1) ∧ H' = (Hb 0 r.2)
abbrev W33 (l : Launch) (Z : State) (n0 : Nat) (Q : Option Value → List OwnC → Prop) (k n pc : Nat) (L : List Slot) (S : List Value) (H : List OwnC) : Prop := WP l Z CN lay "RingLweKem" "setCipher" prog_1_method_11_code 5 (some FieldType.boolean) R33 n0 0 Q k n pc L S H
def f_setCipher_31 (s : St) : Option (Int32 × St) :=
  some ((0 : Int32), s)
set_option maxRecDepth 65536 in
set_option maxHeartbeats 4000000 in
theorem ok33_31 (l : Launch) (Z : State) (a0 : Array Value) (hw : HW a0 Z) (n0 : Nat) (s : St) (r : Int32 × St) (h : f_setCipher_31 s = some r) : W33 l Z n0 (P33 r) 0 0 31 [.unset, .unset, .unset, .unset, .unset] [] (Hb 0 s) := by
  unfold f_setCipher_31 at h
  refine WP.iconst (0 : Int32) d33_31 rfl ?_
  cases h
  exact WP.zreturn d33_32 rfl (leb rfl) (leb rfl) ⟨rfl, rfl⟩
def f_setCipher_64 (s : St) : Option (Int32 × St) :=
  some ((0 : Int32), s)
set_option maxRecDepth 65536 in
set_option maxHeartbeats 4000000 in
theorem ok33_64 (l : Launch) (Z : State) (a0 : Array Value) (hw : HW a0 Z) (n0 : Nat) (s : St) (r : Int32 × St) (h : f_setCipher_64 s = some r) : W33 l Z n0 (P33 r) 0 0 64 [.unset, .unset, .unset, .unset, .unset] [] (Hb 0 s) := by
  unfold f_setCipher_64 at h
  refine WP.iconst (0 : Int32) d33_64 rfl ?_
  cases h
  exact WP.zreturn d33_65 rfl (leb rfl) (leb rfl) ⟨rfl, rfl⟩
def f_setCipher_48 (v1 : Int32) (v2 : Int32) (v3 : Int32) (t0 : Int32) (s : St) : Option (Int32 × St) :=
  if v3 < 0 then
    f_setCipher_64 s
  else
    if (((1 : Int32) <<< (t0 &&& 31)) - (1 : Int32)) < v3 then
      f_setCipher_64 s
    else
      (wrA s 0 ((((6 : Int32) + v1) * (16 : Int32)) + v2) v3).bind fun s3 =>
      some ((1 : Int32), s3)
set_option maxRecDepth 65536 in
set_option maxHeartbeats 4000000 in
theorem ok33_48 (l : Launch) (Z : State) (a0 : Array Value) (hw : HW a0 Z) (n0 : Nat) (v1 : Int32) (v2 : Int32) (v3 : Int32) (t0 : Int32) (s : St) (r : Int32 × St) (h : f_setCipher_48 v1 v2 v3 t0 s = some r) : W33 l Z n0 (P33 r) 0 0 48 [.val (.ref 0), .val (.int v1), .val (.int v2), .val (.int v3), .unset] [.int t0] (Hb 0 s) := by
  unfold f_setCipher_48 at h
  refine WP.istore (L' := [.val (.ref 0), .val (.int v1), .val (.int v2), .val (.int v3), .val (.int t0)]) d33_48 (leb rfl) rfl ?_
  refine WP.iloadN d33_50 rfl ?_
  rcases ite_e h with ⟨hc1, h⟩ | ⟨hc1, h⟩
  ·
    refine WP.ifY (pc' := 64) d33_51 (XT.i0_lt_t hc1) (by decide) rfl ?_
    exact WP.weak (L' := [.unset, .unset, .unset, .unset, .unset]) trivial (ok33_64 l Z a0 hw n0 s _ h)
  ·
    refine WP.ifN d33_51 (XT.i0_lt_f hc1) ?_
    refine WP.iloadN d33_54 rfl ?_
    refine WP.iconst (1 : Int32) d33_55 rfl ?_
    refine WP.iload d33_56 rfl ?_
    refine WP.ishl d33_58 ?_
    refine WP.iconst (1 : Int32) d33_59 rfl ?_
    refine WP.isub d33_60 ?_
    rcases ite_e h with ⟨hc2, h⟩ | ⟨hc2, h⟩
    ·
      refine WP.icmpN d33_61 (XT.ii_le_f hc2) ?_
      exact WP.weak (L' := [.unset, .unset, .unset, .unset, .unset]) trivial (ok33_64 l Z a0 hw n0 s _ h)
    ·
      refine WP.icmpY (pc' := 66) d33_61 (XT.ii_le_t hc2) (by decide) rfl ?_
      refine WP.aloadN d33_66 rfl ?_
      refine WP.getfield (i := 0) (j := 0) d33_67 (hw _ m_14) rfl rfl rfl ?_
      refine WP.bipush (6 : Int32) d33_70 rfl ?_
      refine WP.iloadN d33_72 rfl ?_
      refine WP.iadd d33_73 ?_
      refine WP.bipush (16 : Int32) d33_74 rfl ?_
      refine WP.imul d33_76 ?_
      refine WP.iloadN d33_77 rfl ?_
      refine WP.iadd d33_78 ?_
      refine WP.iloadN d33_79 rfl ?_
      obtain ⟨s3, hs3, h⟩ := Option.bind_eq_some_iff.mp h
      obtain ⟨ys3, gs3, es3⟩ := wrA_e hs3
      refine WP.iastore (i := 1) (xs := gA s 0) (H' := (Hb 0 s3)) d33_80 rfl (leb rfl) gs3 (by subst es3; rfl) ?_
      refine WP.iconst (1 : Int32) d33_81 rfl ?_
      cases h
      exact WP.zreturn d33_82 rfl (leb rfl) (leb rfl) ⟨rfl, rfl⟩
def f_setCipher_21 (v1 : Int32) (v2 : Int32) (v3 : Int32) (s : St) : Option (Int32 × St) :=
  if v2 < 0 then
    f_setCipher_31 s
  else
    if (15 : Int32) < v2 then
      f_setCipher_31 s
    else
      if v1 = 0 then
        f_setCipher_48 v1 v2 v3 (gI s 9) s
      else
        f_setCipher_48 v1 v2 v3 (gI s 10) s
set_option maxRecDepth 65536 in
set_option maxHeartbeats 4000000 in
theorem ok33_21 (l : Launch) (Z : State) (a0 : Array Value) (hw : HW a0 Z) (n0 : Nat) (v1 : Int32) (v2 : Int32) (v3 : Int32) (s : St) (r : Int32 × St) (h : f_setCipher_21 v1 v2 v3 s = some r) : W33 l Z n0 (P33 r) 0 0 21 [.val (.ref 0), .val (.int v1), .val (.int v2), .val (.int v3), .unset] [] (Hb 0 s) := by
  unfold f_setCipher_21 at h
  refine WP.iloadN d33_21 rfl ?_
  rcases ite_e h with ⟨hc1, h⟩ | ⟨hc1, h⟩
  ·
    refine WP.ifY (pc' := 31) d33_22 (XT.i0_lt_t hc1) (by decide) rfl ?_
    exact WP.weak (L' := [.unset, .unset, .unset, .unset, .unset]) trivial (ok33_31 l Z a0 hw n0 s _ h)
  ·
    refine WP.ifN d33_22 (XT.i0_lt_f hc1) ?_
    refine WP.iloadN d33_25 rfl ?_
    refine WP.bipush (15 : Int32) d33_26 rfl ?_
    rcases ite_e h with ⟨hc2, h⟩ | ⟨hc2, h⟩
    ·
      refine WP.icmpN d33_28 (XT.ii_le_f hc2) ?_
      exact WP.weak (L' := [.unset, .unset, .unset, .unset, .unset]) trivial (ok33_31 l Z a0 hw n0 s _ h)
    ·
      refine WP.icmpY (pc' := 33) d33_28 (XT.ii_le_t hc2) (by decide) rfl ?_
      refine WP.iloadN d33_33 rfl ?_
      rcases ite_e h with ⟨hc3, h⟩ | ⟨hc3, h⟩
      ·
        refine WP.ifN d33_34 (XT.i0_ne_f hc3) ?_
        refine WP.aloadN d33_37 rfl ?_
        refine WP.getfield (i := 0) (j := 12) d33_38 (hw _ m_42) rfl rfl rfl ?_
        refine WP.goto (pc' := 48) d33_41 (by decide) rfl ?_
        exact WP.weak (L' := [.val (.ref 0), .val (.int v1), .val (.int v2), .val (.int v3), .unset]) ⟨rfl, rfl, rfl, rfl, trivial⟩ (ok33_48 l Z a0 hw n0 v1 v2 v3 (gI s 9) s _ h)
      ·
        refine WP.ifY (pc' := 44) d33_34 (XT.i0_ne_t hc3) (by decide) rfl ?_
        refine WP.aloadN d33_44 rfl ?_
        refine WP.getfield (i := 0) (j := 13) d33_45 (hw _ m_44) rfl rfl rfl ?_
        exact WP.weak (L' := [.val (.ref 0), .val (.int v1), .val (.int v2), .val (.int v3), .unset]) ⟨rfl, rfl, rfl, rfl, trivial⟩ (ok33_48 l Z a0 hw n0 v1 v2 v3 (gI s 10) s _ h)
def f_setCipher (p1 : Int32) (p2 : Int32) (p3 : Int32) (s : St) : Option (Int32 × St) :=
  if (gI s 12) = (2 : Int32) then
    if p1 = 0 then
      f_setCipher_21 p1 p2 p3 s
    else
      if p1 = (1 : Int32) then
        f_setCipher_21 p1 p2 p3 s
      else
        some ((0 : Int32), s)
  else
    some ((0 : Int32), s)
set_option maxRecDepth 65536 in
set_option maxHeartbeats 4000000 in
theorem ok33 (l : Launch) (Z : State) (a0 : Array Value) (hw : HW a0 Z) (p1 : Int32) (p2 : Int32) (p3 : Int32) (s : St) (r : Int32 × St) (h : f_setCipher p1 p2 p3 s = some r) : CS l Z CN lay y33 prog_1_method_11_code 5 (some FieldType.boolean) R33 0 [.ref 0, .int p1, .int p2, .int p3] (Hb 0 s) (P33 r) := by
  refine CS.of_wp pn_cls (leb rfl) fun n0 => ?_
  show W33 l Z n0 (P33 r) 0 0 0 [.val (.ref 0), .val (.int p1), .val (.int p2), .val (.int p3), .unset] [] (Hb 0 s)
  unfold f_setCipher at h
  refine WP.aloadN d33_0 rfl ?_
  refine WP.getfield (i := 0) (j := 15) d33_1 (hw _ m_48) rfl rfl rfl ?_
  refine WP.iconst (2 : Int32) d33_4 rfl ?_
  rcases ite_e h with ⟨hc1, h⟩ | ⟨hc1, h⟩
  ·
    refine WP.icmpY (pc' := 10) d33_5 (XT.ii_eq_t hc1) (by decide) rfl ?_
    refine WP.iloadN d33_10 rfl ?_
    rcases ite_e h with ⟨hc2, h⟩ | ⟨hc2, h⟩
    ·
      refine WP.ifY (pc' := 21) d33_11 (XT.i0_eq_t hc2) (by decide) rfl ?_
      exact WP.weak (L' := [.val (.ref 0), .val (.int p1), .val (.int p2), .val (.int p3), .unset]) ⟨rfl, rfl, rfl, rfl, trivial⟩ (ok33_21 l Z a0 hw n0 p1 p2 p3 s _ h)
    ·
      refine WP.ifN d33_11 (XT.i0_eq_f hc2) ?_
      refine WP.iloadN d33_14 rfl ?_
      refine WP.iconst (1 : Int32) d33_15 rfl ?_
      rcases ite_e h with ⟨hc3, h⟩ | ⟨hc3, h⟩
      ·
        refine WP.icmpY (pc' := 21) d33_16 (XT.ii_eq_t hc3) (by decide) rfl ?_
        exact WP.weak (L' := [.val (.ref 0), .val (.int p1), .val (.int p2), .val (.int p3), .unset]) ⟨rfl, rfl, rfl, rfl, trivial⟩ (ok33_21 l Z a0 hw n0 p1 p2 p3 s _ h)
      ·
        refine WP.icmpN d33_16 (XT.ii_eq_f hc3) ?_
        refine WP.iconst (0 : Int32) d33_19 rfl ?_
        cases h
        exact WP.zreturn d33_20 rfl (leb rfl) (leb rfl) ⟨rfl, rfl⟩
  ·
    refine WP.icmpN d33_5 (XT.ii_eq_f hc1) ?_
    refine WP.iconst (0 : Int32) d33_8 rfl ?_
    cases h
    exact WP.zreturn d33_9 rfl (leb rfl) (leb rfl) ⟨rfl, rfl⟩
theorem d34_0 : dc prog_1_method_3_code 0 (.aload_n 0) 1 := by decide +kernel
theorem d34_1 : dc prog_1_method_3_code 1 (.invokevirtual 66) 3 := by decide +kernel
theorem d34_4 : dc prog_1_method_3_code 4 (.ireturn) 1 := by decide +kernel
abbrev y34 : MethodName := ⟨"RingLweKem", "random", "()I"⟩
theorem hy34 : y34.cls ≠ "java/lang/invoke/MethodHandle" ∧ y34.cls ≠ "java/lang/invoke/VarHandle" := by decide
theorem pd34 : parseMethodDescriptor y34.desc = some ⟨[], some .int⟩ := by decide +kernel
abbrev R34 : Room := { frames := 1, cells := 0, slots := 0, locals := 12 }
abbrev P34 (r : Int32 × St) : Option Value → List OwnC → Prop := fun v H' => v = some (.int r.1) ∧ H' = (Hb 0 r.2)
abbrev W34 (l : Launch) (Z : State) (n0 : Nat) (Q : Option Value → List OwnC → Prop) (k n pc : Nat) (L : List Slot) (S : List Value) (H : List OwnC) : Prop := WP l Z CN lay "RingLweKem" "random" prog_1_method_3_code 1 (some FieldType.int) R34 n0 0 Q k n pc L S H
def f_random (s : St) : Option (Int32 × St) :=
  (f_draw s).bind fun c1 =>
  some (c1.1, c1.2)
set_option maxRecDepth 65536 in
set_option maxHeartbeats 4000000 in
theorem ok34 (l : Launch) (Z : State) (a0 : Array Value) (hw : HW a0 Z) (s : St) (r : Int32 × St) (h : f_random s = some r) : CS l Z CN lay y34 prog_1_method_3_code 1 (some FieldType.int) R34 0 [.ref 0] (Hb 0 s) (P34 r) := by
  refine CS.of_wp pn_cls (leb rfl) fun n0 => ?_
  show W34 l Z n0 (P34 r) 0 0 0 [.val (.ref 0)] [] (Hb 0 s)
  unfold f_random at h
  refine WP.aloadN d34_0 rfl ?_
  obtain ⟨c1, hc1, h⟩ := Option.bind_eq_some_iff.mp h
  refine WP.callP (i := 0) (y := y8) (as := []) (S := []) d34_1 (hw _ m_73) (hw _ m_75) (hw _ m_1) (hw _ m_74) (hw _ m_76) (hw _ m_2) hy8 rfl (ok8 l Z a0 hw s _ hc1) rfl (lenOf pd8 rfl) (leb rfl) (leb rfl) (leb rfl) (leb rfl) ?_
  rintro _ _ ⟨rfl, rfl⟩
  show W34 l Z n0 (P34 r) 0 0 4 [.val (.ref 0)] [.int c1.1] (Hb 0 c1.2)
  cases h
  exact WP.ireturn d34_4 rfl (leb rfl) (leb rfl) ⟨rfl, rfl⟩
theorem d30_0 : dc prog_1_method_4_code 0 (.aload_n 0) 1 := by decide +kernel
theorem d30_1 : dc prog_1_method_4_code 1 (.invokevirtual 70) 3 := by decide +kernel
theorem d30_4 : dc prog_1_method_4_code 4 (.ireturn) 1 := by decide +kernel
abbrev y30 : MethodName := ⟨"RingLweKem", "sample", "()I"⟩
theorem hy30 : y30.cls ≠ "java/lang/invoke/MethodHandle" ∧ y30.cls ≠ "java/lang/invoke/VarHandle" := by decide
theorem pd30 : parseMethodDescriptor y30.desc = some ⟨[], some .int⟩ := by decide +kernel
abbrev R30 : Room := { frames := 2, cells := 0, slots := 0, locals := 27 }
abbrev P30 (r : Int32 × St) : Option Value → List OwnC → Prop := fun v H' => v = some (.int r.1) ∧ H' = (Hb 0 r.2)
abbrev W30 (l : Launch) (Z : State) (n0 : Nat) (Q : Option Value → List OwnC → Prop) (k n pc : Nat) (L : List Slot) (S : List Value) (H : List OwnC) : Prop := WP l Z CN lay "RingLweKem" "sample" prog_1_method_4_code 1 (some FieldType.int) R30 n0 0 Q k n pc L S H
def f_sample (n : Nat) (s : St) : Option (Int32 × St) :=
  (f_noise n s).bind fun c1 =>
  some (c1.1, c1.2)
set_option maxRecDepth 65536 in
set_option maxHeartbeats 4000000 in
theorem ok30 (l : Launch) (Z : State) (a0 : Array Value) (hw : HW a0 Z) (n : Nat) (s : St) (r : Int32 × St) (h : f_sample n s = some r) : CS l Z CN lay y30 prog_1_method_4_code 1 (some FieldType.int) R30 0 [.ref 0] (Hb 0 s) (P30 r) := by
  refine CS.of_wp pn_cls (leb rfl) fun n0 => ?_
  show W30 l Z n0 (P30 r) 0 0 0 [.val (.ref 0)] [] (Hb 0 s)
  unfold f_sample at h
  refine WP.aloadN d30_0 rfl ?_
  obtain ⟨c1, hc1, h⟩ := Option.bind_eq_some_iff.mp h
  refine WP.callP (i := 0) (y := y10) (as := []) (S := []) d30_1 (hw _ m_83) (hw _ m_85) (hw _ m_1) (hw _ m_84) (hw _ m_86) (hw _ m_2) hy10 rfl (ok10 l Z a0 hw n s _ hc1) rfl (lenOf pd10 rfl) (leb rfl) (leb rfl) (leb rfl) (leb rfl) ?_
  rintro _ _ ⟨rfl, rfl⟩
  show W30 l Z n0 (P30 r) 0 0 4 [.val (.ref 0)] [.int c1.1] (Hb 0 c1.2)
  cases h
  exact WP.ireturn d30_4 rfl (leb rfl) (leb rfl) ⟨rfl, rfl⟩
theorem d28_0 : dc prog_1_method_5_code 0 (.iload_n 1) 1 := by decide +kernel
theorem d28_1 : dc prog_1_method_5_code 1 (.ifCond .eq 10) 3 := by decide +kernel
theorem d28_4 : dc prog_1_method_5_code 4 (.iload_n 1) 1 := by decide +kernel
theorem d28_5 : dc prog_1_method_5_code 5 (.iconst 1) 1 := by decide +kernel
theorem d28_6 : dc prog_1_method_5_code 6 (.if_icmp .eq 5) 3 := by decide +kernel
theorem d28_9 : dc prog_1_method_5_code 9 (.iconst 0) 1 := by decide +kernel
theorem d28_10 : dc prog_1_method_5_code 10 (.ireturn) 1 := by decide +kernel
theorem d28_11 : dc prog_1_method_5_code 11 (.iload_n 2) 1 := by decide +kernel
theorem d28_12 : dc prog_1_method_5_code 12 (.ifCond .lt 9) 3 := by decide +kernel
theorem d28_15 : dc prog_1_method_5_code 15 (.iload_n 2) 1 := by decide +kernel
theorem d28_16 : dc prog_1_method_5_code 16 (.bipush 15) 2 := by decide +kernel
theorem d28_18 : dc prog_1_method_5_code 18 (.if_icmp .le 5) 3 := by decide +kernel
theorem d28_21 : dc prog_1_method_5_code 21 (.iconst 0) 1 := by decide +kernel
theorem d28_22 : dc prog_1_method_5_code 22 (.ireturn) 1 := by decide +kernel
theorem d28_23 : dc prog_1_method_5_code 23 (.aload_n 0) 1 := by decide +kernel
theorem d28_24 : dc prog_1_method_5_code 24 (.getfield 7) 3 := by decide +kernel
theorem d28_27 : dc prog_1_method_5_code 27 (.iload_n 1) 1 := by decide +kernel
theorem d28_28 : dc prog_1_method_5_code 28 (.bipush 16) 2 := by decide +kernel
theorem d28_30 : dc prog_1_method_5_code 30 (.imul) 1 := by decide +kernel
theorem d28_31 : dc prog_1_method_5_code 31 (.iload_n 2) 1 := by decide +kernel
theorem d28_32 : dc prog_1_method_5_code 32 (.iadd) 1 := by decide +kernel
theorem d28_33 : dc prog_1_method_5_code 33 (.aload_n 0) 1 := by decide +kernel
theorem d28_34 : dc prog_1_method_5_code 34 (.iload_n 3) 1 := by decide +kernel
theorem d28_35 : dc prog_1_method_5_code 35 (.invokevirtual 73) 3 := by decide +kernel
theorem d28_38 : dc prog_1_method_5_code 38 (.iastore) 1 := by decide +kernel
theorem d28_39 : dc prog_1_method_5_code 39 (.iconst 1) 1 := by decide +kernel
theorem d28_40 : dc prog_1_method_5_code 40 (.ireturn) 1 := by decide +kernel
abbrev y28 : MethodName := ⟨"RingLweKem", "setOperand", "(III)Z"⟩
theorem hy28 : y28.cls ≠ "java/lang/invoke/MethodHandle" ∧ y28.cls ≠ "java/lang/invoke/VarHandle" := by decide
theorem pd28 : parseMethodDescriptor y28.desc = some ⟨[.int, .int, .int], some .boolean⟩ := by decide +kernel
abbrev R28 : Room := { frames := 1, cells := 0, slots := 0, locals := 16 }
abbrev P28 (r : Int32 × St) : Option Value → List OwnC → Prop := fun v H' => v = some (.int r.1) ∧ H' = (Hb 0 r.2)
abbrev W28 (l : Launch) (Z : State) (n0 : Nat) (Q : Option Value → List OwnC → Prop) (k n pc : Nat) (L : List Slot) (S : List Value) (H : List OwnC) : Prop := WP l Z CN lay "RingLweKem" "setOperand" prog_1_method_5_code 4 (some FieldType.boolean) R28 n0 0 Q k n pc L S H
def f_setOperand_21 (s : St) : Option (Int32 × St) :=
  some ((0 : Int32), s)
set_option maxRecDepth 65536 in
set_option maxHeartbeats 4000000 in
theorem ok28_21 (l : Launch) (Z : State) (a0 : Array Value) (hw : HW a0 Z) (n0 : Nat) (s : St) (r : Int32 × St) (h : f_setOperand_21 s = some r) : W28 l Z n0 (P28 r) 0 0 21 [.unset, .unset, .unset, .unset] [] (Hb 0 s) := by
  unfold f_setOperand_21 at h
  refine WP.iconst (0 : Int32) d28_21 rfl ?_
  cases h
  exact WP.zreturn d28_22 rfl (leb rfl) (leb rfl) ⟨rfl, rfl⟩
def f_setOperand_11 (v1 : Int32) (v2 : Int32) (v3 : Int32) (s : St) : Option (Int32 × St) :=
  if v2 < 0 then
    f_setOperand_21 s
  else
    if (15 : Int32) < v2 then
      f_setOperand_21 s
    else
      (f_mod v3 s).bind fun c3 =>
      (wrA s 0 ((v1 * (16 : Int32)) + v2) c3).bind fun s4 =>
      some ((1 : Int32), s4)
set_option maxRecDepth 65536 in
set_option maxHeartbeats 4000000 in
theorem ok28_11 (l : Launch) (Z : State) (a0 : Array Value) (hw : HW a0 Z) (n0 : Nat) (v1 : Int32) (v2 : Int32) (v3 : Int32) (s : St) (r : Int32 × St) (h : f_setOperand_11 v1 v2 v3 s = some r) : W28 l Z n0 (P28 r) 0 0 11 [.val (.ref 0), .val (.int v1), .val (.int v2), .val (.int v3)] [] (Hb 0 s) := by
  unfold f_setOperand_11 at h
  refine WP.iloadN d28_11 rfl ?_
  rcases ite_e h with ⟨hc1, h⟩ | ⟨hc1, h⟩
  ·
    refine WP.ifY (pc' := 21) d28_12 (XT.i0_lt_t hc1) (by decide) rfl ?_
    exact WP.weak (L' := [.unset, .unset, .unset, .unset]) trivial (ok28_21 l Z a0 hw n0 s _ h)
  ·
    refine WP.ifN d28_12 (XT.i0_lt_f hc1) ?_
    refine WP.iloadN d28_15 rfl ?_
    refine WP.bipush (15 : Int32) d28_16 rfl ?_
    rcases ite_e h with ⟨hc2, h⟩ | ⟨hc2, h⟩
    ·
      refine WP.icmpN d28_18 (XT.ii_le_f hc2) ?_
      exact WP.weak (L' := [.unset, .unset, .unset, .unset]) trivial (ok28_21 l Z a0 hw n0 s _ h)
    ·
      refine WP.icmpY (pc' := 23) d28_18 (XT.ii_le_t hc2) (by decide) rfl ?_
      refine WP.aloadN d28_23 rfl ?_
      refine WP.getfield (i := 0) (j := 0) d28_24 (hw _ m_14) rfl rfl rfl ?_
      refine WP.iloadN d28_27 rfl ?_
      refine WP.bipush (16 : Int32) d28_28 rfl ?_
      refine WP.imul d28_30 ?_
      refine WP.iloadN d28_31 rfl ?_
      refine WP.iadd d28_32 ?_
      refine WP.aloadN d28_33 rfl ?_
      refine WP.iloadN d28_34 rfl ?_
      obtain ⟨c3, hc3, h⟩ := Option.bind_eq_some_iff.mp h
      refine WP.callP (i := 0) (y := y11) (as := [.int v3]) (S := [.int ((v1 * (16 : Int32)) + v2), .ref 1]) d28_35 (hw _ m_87) (hw _ m_89) (hw _ m_1) (hw _ m_88) (hw _ m_90) (hw _ m_2) hy11 rfl (ok11 l Z a0 hw v3 s _ hc3) rfl (lenOf pd11 rfl) (leb rfl) (leb rfl) (leb rfl) (leb rfl) ?_
      rintro _ _ ⟨rfl, rfl⟩
      show W28 l Z n0 (P28 r) 0 0 38 [.val (.ref 0), .val (.int v1), .val (.int v2), .val (.int v3)] [.int c3, .int ((v1 * (16 : Int32)) + v2), .ref 1] (Hb 0 s)
      obtain ⟨s4, hs4, h⟩ := Option.bind_eq_some_iff.mp h
      obtain ⟨ys4, gs4, es4⟩ := wrA_e hs4
      refine WP.iastore (i := 1) (xs := gA s 0) (H' := (Hb 0 s4)) d28_38 rfl (leb rfl) gs4 (by subst es4; rfl) ?_
      refine WP.iconst (1 : Int32) d28_39 rfl ?_
      cases h
      exact WP.zreturn d28_40 rfl (leb rfl) (leb rfl) ⟨rfl, rfl⟩
def f_setOperand (p1 : Int32) (p2 : Int32) (p3 : Int32) (s : St) : Option (Int32 × St) :=
  if p1 = 0 then
    f_setOperand_11 p1 p2 p3 s
  else
    if p1 = (1 : Int32) then
      f_setOperand_11 p1 p2 p3 s
    else
      some ((0 : Int32), s)
set_option maxRecDepth 65536 in
set_option maxHeartbeats 4000000 in
theorem ok28 (l : Launch) (Z : State) (a0 : Array Value) (hw : HW a0 Z) (p1 : Int32) (p2 : Int32) (p3 : Int32) (s : St) (r : Int32 × St) (h : f_setOperand p1 p2 p3 s = some r) : CS l Z CN lay y28 prog_1_method_5_code 4 (some FieldType.boolean) R28 0 [.ref 0, .int p1, .int p2, .int p3] (Hb 0 s) (P28 r) := by
  refine CS.of_wp pn_cls (leb rfl) fun n0 => ?_
  show W28 l Z n0 (P28 r) 0 0 0 [.val (.ref 0), .val (.int p1), .val (.int p2), .val (.int p3)] [] (Hb 0 s)
  unfold f_setOperand at h
  refine WP.iloadN d28_0 rfl ?_
  rcases ite_e h with ⟨hc1, h⟩ | ⟨hc1, h⟩
  ·
    refine WP.ifY (pc' := 11) d28_1 (XT.i0_eq_t hc1) (by decide) rfl ?_
    exact WP.weak (L' := [.val (.ref 0), .val (.int p1), .val (.int p2), .val (.int p3)]) ⟨rfl, rfl, rfl, rfl, trivial⟩ (ok28_11 l Z a0 hw n0 p1 p2 p3 s _ h)
  ·
    refine WP.ifN d28_1 (XT.i0_eq_f hc1) ?_
    refine WP.iloadN d28_4 rfl ?_
    refine WP.iconst (1 : Int32) d28_5 rfl ?_
    rcases ite_e h with ⟨hc2, h⟩ | ⟨hc2, h⟩
    ·
      refine WP.icmpY (pc' := 11) d28_6 (XT.ii_eq_t hc2) (by decide) rfl ?_
      exact WP.weak (L' := [.val (.ref 0), .val (.int p1), .val (.int p2), .val (.int p3)]) ⟨rfl, rfl, rfl, rfl, trivial⟩ (ok28_11 l Z a0 hw n0 p1 p2 p3 s _ h)
    ·
      refine WP.icmpN d28_6 (XT.ii_eq_f hc2) ?_
      refine WP.iconst (0 : Int32) d28_9 rfl ?_
      cases h
      exact WP.zreturn d28_10 rfl (leb rfl) (leb rfl) ⟨rfl, rfl⟩
theorem d29_0 : dc prog_1_method_6_code 0 (.aload_n 0) 1 := by decide +kernel
theorem d29_1 : dc prog_1_method_6_code 1 (.iconst 0) 1 := by decide +kernel
theorem d29_2 : dc prog_1_method_6_code 2 (.iconst 1) 1 := by decide +kernel
theorem d29_3 : dc prog_1_method_6_code 3 (.iconst 2) 1 := by decide +kernel
theorem d29_4 : dc prog_1_method_6_code 4 (.invokevirtual 77) 3 := by decide +kernel
theorem d29_7 : dc prog_1_method_6_code 7 (.return_) 1 := by decide +kernel
abbrev y29 : MethodName := ⟨"RingLweKem", "multiply", "()V"⟩
theorem hy29 : y29.cls ≠ "java/lang/invoke/MethodHandle" ∧ y29.cls ≠ "java/lang/invoke/VarHandle" := by decide
theorem pd29 : parseMethodDescriptor y29.desc = some ⟨[], none⟩ := by decide +kernel
abbrev R29 : Room := { frames := 3, cells := 0, slots := 0, locals := 60 }
abbrev P29 (r : St) : Option Value → List OwnC → Prop := fun v H' => v = none ∧ H' = (Hb 0 r)
abbrev W29 (l : Launch) (Z : State) (n0 : Nat) (Q : Option Value → List OwnC → Prop) (k n pc : Nat) (L : List Slot) (S : List Value) (H : List OwnC) : Prop := WP l Z CN lay "RingLweKem" "multiply" prog_1_method_6_code 1 (none) R29 n0 0 Q k n pc L S H
def f_multiply (n : Nat) (s : St) : Option (St) :=
  (f_mul n (0 : Int32) (1 : Int32) (2 : Int32) s).bind fun c1 =>
  some c1
set_option maxRecDepth 65536 in
set_option maxHeartbeats 4000000 in
theorem ok29 (l : Launch) (Z : State) (a0 : Array Value) (hw : HW a0 Z) (n : Nat) (s : St) (r : St) (h : f_multiply n s = some r) : CS l Z CN lay y29 prog_1_method_6_code 1 (none) R29 0 [.ref 0] (Hb 0 s) (P29 r) := by
  refine CS.of_wp pn_cls (leb rfl) fun n0 => ?_
  show W29 l Z n0 (P29 r) 0 0 0 [.val (.ref 0)] [] (Hb 0 s)
  unfold f_multiply at h
  refine WP.aloadN d29_0 rfl ?_
  refine WP.iconst (0 : Int32) d29_1 rfl ?_
  refine WP.iconst (1 : Int32) d29_2 rfl ?_
  refine WP.iconst (2 : Int32) d29_3 rfl ?_
  obtain ⟨c1, hc1, h⟩ := Option.bind_eq_some_iff.mp h
  refine WP.callP (i := 0) (y := y12) (as := [.int (0 : Int32), .int (1 : Int32), .int (2 : Int32)]) (S := []) d29_4 (hw _ m_91) (hw _ m_93) (hw _ m_1) (hw _ m_92) (hw _ m_94) (hw _ m_2) hy12 rfl (ok12 l Z a0 hw n (0 : Int32) (1 : Int32) (2 : Int32) s _ hc1) rfl (lenOf pd12 rfl) (leb rfl) (leb rfl) (leb rfl) (leb rfl) ?_
  rintro _ _ ⟨rfl, rfl⟩
  show W29 l Z n0 (P29 r) 0 0 7 [.val (.ref 0)] [] (Hb 0 c1)
  cases h
  exact WP.vreturn d29_7 rfl (leb rfl) (leb rfl) ⟨rfl, rfl⟩
theorem d31_0 : dc prog_1_method_12_code 0 (.iload_n 2) 1 := by decide +kernel
theorem d31_1 : dc prog_1_method_12_code 1 (.iconst 1) 1 := by decide +kernel
theorem d31_2 : dc prog_1_method_12_code 2 (.if_icmp .lt 20) 3 := by decide +kernel
theorem d31_5 : dc prog_1_method_12_code 5 (.iload_n 2) 1 := by decide +kernel
theorem d31_6 : dc prog_1_method_12_code 6 (.bipush 9) 2 := by decide +kernel
theorem d31_8 : dc prog_1_method_12_code 8 (.if_icmp .gt 14) 3 := by decide +kernel
theorem d31_11 : dc prog_1_method_12_code 11 (.iload_n 1) 1 := by decide +kernel
theorem d31_12 : dc prog_1_method_12_code 12 (.ifCond .lt 10) 3 := by decide +kernel
theorem d31_15 : dc prog_1_method_12_code 15 (.iload_n 1) 1 := by decide +kernel
theorem d31_16 : dc prog_1_method_12_code 16 (.sipush 256) 3 := by decide +kernel
theorem d31_19 : dc prog_1_method_12_code 19 (.if_icmp .le 5) 3 := by decide +kernel
theorem d31_22 : dc prog_1_method_12_code 22 (.iconst (-1)) 1 := by decide +kernel
theorem d31_23 : dc prog_1_method_12_code 23 (.ireturn) 1 := by decide +kernel
theorem d31_24 : dc prog_1_method_12_code 24 (.aload_n 0) 1 := by decide +kernel
theorem d31_25 : dc prog_1_method_12_code 25 (.iload_n 1) 1 := by decide +kernel
theorem d31_26 : dc prog_1_method_12_code 26 (.iload_n 2) 1 := by decide +kernel
theorem d31_27 : dc prog_1_method_12_code 27 (.invokevirtual 104) 3 := by decide +kernel
theorem d31_30 : dc prog_1_method_12_code 30 (.ireturn) 1 := by decide +kernel
abbrev y31 : MethodName := ⟨"RingLweKem", "compress", "(II)I"⟩
theorem hy31 : y31.cls ≠ "java/lang/invoke/MethodHandle" ∧ y31.cls ≠ "java/lang/invoke/VarHandle" := by decide
theorem pd31 : parseMethodDescriptor y31.desc = some ⟨[.int, .int], some .int⟩ := by decide +kernel
abbrev R31 : Room := { frames := 1, cells := 0, slots := 0, locals := 14 }
abbrev P31 (s : St) (r : Int32) : Option Value → List OwnC → Prop := fun v H' => v = some (.int r) ∧ H' = (Hb 0 s)
abbrev W31 (l : Launch) (Z : State) (n0 : Nat) (Q : Option Value → List OwnC → Prop) (k n pc : Nat) (L : List Slot) (S : List Value) (H : List OwnC) : Prop := WP l Z CN lay "RingLweKem" "compress" prog_1_method_12_code 3 (some FieldType.int) R31 n0 0 Q k n pc L S H
def f_compress_22 (s : St) : Option (Int32) :=
  some (-1 : Int32)
set_option maxRecDepth 65536 in
set_option maxHeartbeats 4000000 in
theorem ok31_22 (l : Launch) (Z : State) (a0 : Array Value) (hw : HW a0 Z) (n0 : Nat) (s : St) (r : Int32) (h : f_compress_22 s = some r) : W31 l Z n0 (P31 s r) 0 0 22 [.unset, .unset, .unset] [] (Hb 0 s) := by
  unfold f_compress_22 at h
  refine WP.iconst (-1 : Int32) d31_22 rfl ?_
  cases h
  exact WP.ireturn d31_23 rfl (leb rfl) (leb rfl) ⟨rfl, rfl⟩
def f_compress (p1 : Int32) (p2 : Int32) (s : St) : Option (Int32) :=
  if p2 < (1 : Int32) then
    f_compress_22 s
  else
    if (9 : Int32) < p2 then
      f_compress_22 s
    else
      if p1 < 0 then
        f_compress_22 s
      else
        if (256 : Int32) < p1 then
          f_compress_22 s
        else
          (f_cmp p1 p2 s).bind fun c5 =>
          some c5
set_option maxRecDepth 65536 in
set_option maxHeartbeats 4000000 in
theorem ok31 (l : Launch) (Z : State) (a0 : Array Value) (hw : HW a0 Z) (p1 : Int32) (p2 : Int32) (s : St) (r : Int32) (h : f_compress p1 p2 s = some r) : CS l Z CN lay y31 prog_1_method_12_code 3 (some FieldType.int) R31 0 [.ref 0, .int p1, .int p2] (Hb 0 s) (P31 s r) := by
  refine CS.of_wp pn_cls (leb rfl) fun n0 => ?_
  show W31 l Z n0 (P31 s r) 0 0 0 [.val (.ref 0), .val (.int p1), .val (.int p2)] [] (Hb 0 s)
  unfold f_compress at h
  refine WP.iloadN d31_0 rfl ?_
  refine WP.iconst (1 : Int32) d31_1 rfl ?_
  rcases ite_e h with ⟨hc1, h⟩ | ⟨hc1, h⟩
  ·
    refine WP.icmpY (pc' := 22) d31_2 (XT.ii_lt_t hc1) (by decide) rfl ?_
    exact WP.weak (L' := [.unset, .unset, .unset]) trivial (ok31_22 l Z a0 hw n0 s _ h)
  ·
    refine WP.icmpN d31_2 (XT.ii_lt_f hc1) ?_
    refine WP.iloadN d31_5 rfl ?_
    refine WP.bipush (9 : Int32) d31_6 rfl ?_
    rcases ite_e h with ⟨hc2, h⟩ | ⟨hc2, h⟩
    ·
      refine WP.icmpY (pc' := 22) d31_8 (XT.ii_gt_t hc2) (by decide) rfl ?_
      exact WP.weak (L' := [.unset, .unset, .unset]) trivial (ok31_22 l Z a0 hw n0 s _ h)
    ·
      refine WP.icmpN d31_8 (XT.ii_gt_f hc2) ?_
      refine WP.iloadN d31_11 rfl ?_
      rcases ite_e h with ⟨hc3, h⟩ | ⟨hc3, h⟩
      ·
        refine WP.ifY (pc' := 22) d31_12 (XT.i0_lt_t hc3) (by decide) rfl ?_
        exact WP.weak (L' := [.unset, .unset, .unset]) trivial (ok31_22 l Z a0 hw n0 s _ h)
      ·
        refine WP.ifN d31_12 (XT.i0_lt_f hc3) ?_
        refine WP.iloadN d31_15 rfl ?_
        refine WP.sipush (256 : Int32) d31_16 rfl ?_
        rcases ite_e h with ⟨hc4, h⟩ | ⟨hc4, h⟩
        ·
          refine WP.icmpN d31_19 (XT.ii_le_f hc4) ?_
          exact WP.weak (L' := [.unset, .unset, .unset]) trivial (ok31_22 l Z a0 hw n0 s _ h)
        ·
          refine WP.icmpY (pc' := 24) d31_19 (XT.ii_le_t hc4) (by decide) rfl ?_
          refine WP.aloadN d31_24 rfl ?_
          refine WP.iloadN d31_25 rfl ?_
          refine WP.iloadN d31_26 rfl ?_
          obtain ⟨c5, hc5, h⟩ := Option.bind_eq_some_iff.mp h
          refine WP.callP (i := 0) (y := y23) (as := [.int p1, .int p2]) (S := []) d31_27 (hw _ m_136) (hw _ m_138) (hw _ m_1) (hw _ m_137) (hw _ m_139) (hw _ m_2) hy23 rfl (ok23 l Z a0 hw p1 p2 s _ hc5) rfl (lenOf pd23 rfl) (leb rfl) (leb rfl) (leb rfl) (leb rfl) ?_
          rintro _ _ ⟨rfl, rfl⟩
          show W31 l Z n0 (P31 s r) 0 0 30 [.val (.ref 0), .val (.int p1), .val (.int p2)] [.int c5] (Hb 0 s)
          cases h
          exact WP.ireturn d31_30 rfl (leb rfl) (leb rfl) ⟨rfl, rfl⟩
theorem d32_0 : dc prog_1_method_13_code 0 (.iload_n 2) 1 := by decide +kernel
theorem d32_1 : dc prog_1_method_13_code 1 (.iconst 1) 1 := by decide +kernel
theorem d32_2 : dc prog_1_method_13_code 2 (.if_icmp .lt 9) 3 := by decide +kernel
theorem d32_5 : dc prog_1_method_13_code 5 (.iload_n 2) 1 := by decide +kernel
theorem d32_6 : dc prog_1_method_13_code 6 (.bipush 9) 2 := by decide +kernel
theorem d32_8 : dc prog_1_method_13_code 8 (.if_icmp .le 5) 3 := by decide +kernel
theorem d32_11 : dc prog_1_method_13_code 11 (.iconst (-1)) 1 := by decide +kernel
theorem d32_12 : dc prog_1_method_13_code 12 (.ireturn) 1 := by decide +kernel
theorem d32_13 : dc prog_1_method_13_code 13 (.iload_n 1) 1 := by decide +kernel
theorem d32_14 : dc prog_1_method_13_code 14 (.ifCond .lt 12) 3 := by decide +kernel
theorem d32_17 : dc prog_1_method_13_code 17 (.iload_n 1) 1 := by decide +kernel
theorem d32_18 : dc prog_1_method_13_code 18 (.iconst 1) 1 := by decide +kernel
theorem d32_19 : dc prog_1_method_13_code 19 (.iload_n 2) 1 := by decide +kernel
theorem d32_20 : dc prog_1_method_13_code 20 (.ishl) 1 := by decide +kernel
theorem d32_21 : dc prog_1_method_13_code 21 (.iconst 1) 1 := by decide +kernel
theorem d32_22 : dc prog_1_method_13_code 22 (.isub) 1 := by decide +kernel
theorem d32_23 : dc prog_1_method_13_code 23 (.if_icmp .le 5) 3 := by decide +kernel
theorem d32_26 : dc prog_1_method_13_code 26 (.iconst (-1)) 1 := by decide +kernel
theorem d32_27 : dc prog_1_method_13_code 27 (.ireturn) 1 := by decide +kernel
theorem d32_28 : dc prog_1_method_13_code 28 (.aload_n 0) 1 := by decide +kernel
theorem d32_29 : dc prog_1_method_13_code 29 (.iload_n 1) 1 := by decide +kernel
theorem d32_30 : dc prog_1_method_13_code 30 (.iload_n 2) 1 := by decide +kernel
theorem d32_31 : dc prog_1_method_13_code 31 (.invokevirtual 108) 3 := by decide +kernel
theorem d32_34 : dc prog_1_method_13_code 34 (.ireturn) 1 := by decide +kernel
abbrev y32 : MethodName := ⟨"RingLweKem", "decompress", "(II)I"⟩
theorem hy32 : y32.cls ≠ "java/lang/invoke/MethodHandle" ∧ y32.cls ≠ "java/lang/invoke/VarHandle" := by decide
theorem pd32 : parseMethodDescriptor y32.desc = some ⟨[.int, .int], some .int⟩ := by decide +kernel
abbrev R32 : Room := { frames := 1, cells := 0, slots := 0, locals := 14 }
abbrev P32 (s : St) (r : Int32) : Option Value → List OwnC → Prop := fun v H' => v = some (.int r) ∧ H' = (Hb 0 s)
abbrev W32 (l : Launch) (Z : State) (n0 : Nat) (Q : Option Value → List OwnC → Prop) (k n pc : Nat) (L : List Slot) (S : List Value) (H : List OwnC) : Prop := WP l Z CN lay "RingLweKem" "decompress" prog_1_method_13_code 3 (some FieldType.int) R32 n0 0 Q k n pc L S H
def f_decompress_11 (s : St) : Option (Int32) :=
  some (-1 : Int32)
set_option maxRecDepth 65536 in
set_option maxHeartbeats 4000000 in
theorem ok32_11 (l : Launch) (Z : State) (a0 : Array Value) (hw : HW a0 Z) (n0 : Nat) (s : St) (r : Int32) (h : f_decompress_11 s = some r) : W32 l Z n0 (P32 s r) 0 0 11 [.unset, .unset, .unset] [] (Hb 0 s) := by
  unfold f_decompress_11 at h
  refine WP.iconst (-1 : Int32) d32_11 rfl ?_
  cases h
  exact WP.ireturn d32_12 rfl (leb rfl) (leb rfl) ⟨rfl, rfl⟩
def f_decompress_26 (s : St) : Option (Int32) :=
  some (-1 : Int32)
set_option maxRecDepth 65536 in
set_option maxHeartbeats 4000000 in
theorem ok32_26 (l : Launch) (Z : State) (a0 : Array Value) (hw : HW a0 Z) (n0 : Nat) (s : St) (r : Int32) (h : f_decompress_26 s = some r) : W32 l Z n0 (P32 s r) 0 0 26 [.unset, .unset, .unset] [] (Hb 0 s) := by
  unfold f_decompress_26 at h
  refine WP.iconst (-1 : Int32) d32_26 rfl ?_
  cases h
  exact WP.ireturn d32_27 rfl (leb rfl) (leb rfl) ⟨rfl, rfl⟩
def f_decompress (p1 : Int32) (p2 : Int32) (s : St) : Option (Int32) :=
  if p2 < (1 : Int32) then
    f_decompress_11 s
  else
    if (9 : Int32) < p2 then
      f_decompress_11 s
    else
      if p1 < 0 then
        f_decompress_26 s
      else
        if (((1 : Int32) <<< (p2 &&& 31)) - (1 : Int32)) < p1 then
          f_decompress_26 s
        else
          (f_dcmp p1 p2 s).bind fun c5 =>
          some c5
set_option maxRecDepth 65536 in
set_option maxHeartbeats 4000000 in
theorem ok32 (l : Launch) (Z : State) (a0 : Array Value) (hw : HW a0 Z) (p1 : Int32) (p2 : Int32) (s : St) (r : Int32) (h : f_decompress p1 p2 s = some r) : CS l Z CN lay y32 prog_1_method_13_code 3 (some FieldType.int) R32 0 [.ref 0, .int p1, .int p2] (Hb 0 s) (P32 s r) := by
  refine CS.of_wp pn_cls (leb rfl) fun n0 => ?_
  show W32 l Z n0 (P32 s r) 0 0 0 [.val (.ref 0), .val (.int p1), .val (.int p2)] [] (Hb 0 s)
  unfold f_decompress at h
  refine WP.iloadN d32_0 rfl ?_
  refine WP.iconst (1 : Int32) d32_1 rfl ?_
  rcases ite_e h with ⟨hc1, h⟩ | ⟨hc1, h⟩
  ·
    refine WP.icmpY (pc' := 11) d32_2 (XT.ii_lt_t hc1) (by decide) rfl ?_
    exact WP.weak (L' := [.unset, .unset, .unset]) trivial (ok32_11 l Z a0 hw n0 s _ h)
  ·
    refine WP.icmpN d32_2 (XT.ii_lt_f hc1) ?_
    refine WP.iloadN d32_5 rfl ?_
    refine WP.bipush (9 : Int32) d32_6 rfl ?_
    rcases ite_e h with ⟨hc2, h⟩ | ⟨hc2, h⟩
    ·
      refine WP.icmpN d32_8 (XT.ii_le_f hc2) ?_
      exact WP.weak (L' := [.unset, .unset, .unset]) trivial (ok32_11 l Z a0 hw n0 s _ h)
    ·
      refine WP.icmpY (pc' := 13) d32_8 (XT.ii_le_t hc2) (by decide) rfl ?_
      refine WP.iloadN d32_13 rfl ?_
      rcases ite_e h with ⟨hc3, h⟩ | ⟨hc3, h⟩
      ·
        refine WP.ifY (pc' := 26) d32_14 (XT.i0_lt_t hc3) (by decide) rfl ?_
        exact WP.weak (L' := [.unset, .unset, .unset]) trivial (ok32_26 l Z a0 hw n0 s _ h)
      ·
        refine WP.ifN d32_14 (XT.i0_lt_f hc3) ?_
        refine WP.iloadN d32_17 rfl ?_
        refine WP.iconst (1 : Int32) d32_18 rfl ?_
        refine WP.iloadN d32_19 rfl ?_
        refine WP.ishl d32_20 ?_
        refine WP.iconst (1 : Int32) d32_21 rfl ?_
        refine WP.isub d32_22 ?_
        rcases ite_e h with ⟨hc4, h⟩ | ⟨hc4, h⟩
        ·
          refine WP.icmpN d32_23 (XT.ii_le_f hc4) ?_
          exact WP.weak (L' := [.unset, .unset, .unset]) trivial (ok32_26 l Z a0 hw n0 s _ h)
        ·
          refine WP.icmpY (pc' := 28) d32_23 (XT.ii_le_t hc4) (by decide) rfl ?_
          refine WP.aloadN d32_28 rfl ?_
          refine WP.iloadN d32_29 rfl ?_
          refine WP.iloadN d32_30 rfl ?_
          obtain ⟨c5, hc5, h⟩ := Option.bind_eq_some_iff.mp h
          refine WP.callP (i := 0) (y := y27) (as := [.int p1, .int p2]) (S := []) d32_31 (hw _ m_154) (hw _ m_156) (hw _ m_1) (hw _ m_155) (hw _ m_157) (hw _ m_2) hy27 rfl (ok27 l Z a0 hw p1 p2 s _ hc5) rfl (lenOf pd27 rfl) (leb rfl) (leb rfl) (leb rfl) (leb rfl) ?_
          rintro _ _ ⟨rfl, rfl⟩
          show W32 l Z n0 (P32 s r) 0 0 34 [.val (.ref 0), .val (.int p1), .val (.int p2)] [.int c5] (Hb 0 s)
          cases h
          exact WP.ireturn d32_34 rfl (leb rfl) (leb rfl) ⟨rfl, rfl⟩
def fr0_f : List Nat := [0]
theorem fr0_c (x0 : List Int32) (x1 : St) : fr0_f.map (fun i => ([cI x0] ++ Hb 1 x1)[i]?) = ([cI x0]).map (fun c => some (rnC (ro1 fr0_f ([cI x0] ++ Hb 1 x1).length) c)) := rfl
theorem fr0_l (x0 : List Int32) (x1 : St) : ∀ x ∈ fr0_f, x < ([cI x0] ++ Hb 1 x1).length := by show ∀ x ∈ fr0_f, x < 5; decide
theorem fr0_p (x0 : List Int32) (x1 : St) : patch (ro1 fr0_f ([cI x0] ++ Hb 1 x1).length) fr0_f ([cI x0]) ([cI x0] ++ Hb 1 x1) = ([cI x0] ++ Hb 1 x1) := rfl
def fr1_f : List Nat := [1, 2, 3, 4]
theorem fr1_c (x0 : List Int32) (x1 : St) : fr1_f.map (fun i => ([cI x0] ++ Hb 1 x1)[i]?) = (Hb 0 x1).map (fun c => some (rnC (ro1 fr1_f ([cI x0] ++ Hb 1 x1).length) c)) := rfl
theorem fr1_l (x0 : List Int32) (x1 : St) : ∀ x ∈ fr1_f, x < ([cI x0] ++ Hb 1 x1).length := by show ∀ x ∈ fr1_f, x < 5; decide
theorem fr1_p (x0 : List Int32) (x1 : St) (y1 : St) : patch (ro1 fr1_f ([cI x0] ++ Hb 1 x1).length) fr1_f (Hb 0 y1) ([cI x0] ++ Hb 1 x1) = ([cI x0] ++ Hb 1 y1) := rfl
def fr2_f : List Nat := [0]
theorem fr2_c (x0 : List Int32) : fr2_f.map (fun i => ([cI x0] ++ [cO vs0])[i]?) = ([cI x0]).map (fun c => some (rnC (ro1 fr2_f ([cI x0] ++ [cO vs0]).length) c)) := rfl
theorem fr2_l (x0 : List Int32) : ∀ x ∈ fr2_f, x < ([cI x0] ++ [cO vs0]).length := by show ∀ x ∈ fr2_f, x < 2; decide
theorem fr2_p (x0 : List Int32) : patch (ro1 fr2_f ([cI x0] ++ [cO vs0]).length) fr2_f ([cI x0]) ([cI x0] ++ [cO vs0]) = ([cI x0] ++ [cO vs0]) := rfl
def fr3_f : List Nat := [1]
theorem fr3_c (x0 : List Int32) : fr3_f.map (fun i => ([cI x0] ++ [cO vs0])[i]?) = ([cO vs0]).map (fun c => some (rnC (ro1 fr3_f ([cI x0] ++ [cO vs0]).length) c)) := rfl
theorem fr3_l (x0 : List Int32) : ∀ x ∈ fr3_f, x < ([cI x0] ++ [cO vs0]).length := by show ∀ x ∈ fr3_f, x < 2; decide
theorem fr3_p (x0 : List Int32) (y1 : St) : patch (ro1 fr3_f ([cI x0] ++ [cO vs0]).length) fr3_f (Hb 0 y1) ([cI x0] ++ [cO vs0]) = ([cI x0] ++ Hb 1 y1) := rfl
abbrev PLAW (r : Int32) : Option Value → List OwnC → Prop := fun v _ => v = some (.int r)
abbrev WLAW (l : Launch) (Z : State) (n0 : Nat) (Q : Option Value → List OwnC → Prop) (k n pc : Nat) (L : List Slot) (S : List Value) (H : List OwnC) : Prop := WP l Z CN lay "RingLweKemOwnLaw" "law" code maxLocals ret room_1 n0 1 Q k n pc L S H
def f_law_66 (n : Nat) (a : List Int32) (s0 : St) : Option (Int32) :=
  some (1 : Int32)
set_option maxRecDepth 65536 in
set_option maxHeartbeats 4000000 in
theorem okLAW_66 (l : Launch) (Z : State) (a0 : Array Value) (hw : HW a0 Z) (n0 : Nat) (n : Nat) (a : List Int32) (s0 : St) (r : Int32) (h : f_law_66 n a s0 = some r) : WLAW l Z n0 (PLAW r) 4 336 66 [.unset, .unset, .unset, .unset, .unset, .unset, .unset, .unset, .unset, .unset, .unset, .unset, .unset] [] ([cI a] ++ Hb 1 s0) := by
  unfold f_law_66 at h
  refine WP.iconst (1 : Int32) at_66 rfl ?_
  cases h
  exact WP.zreturn at_67 rfl (leb rfl) (leb rfl) rfl
def f_law_452 (k96 : Int32 → Int32 → Int32 → Int32 → Int32 → List Int32 → St → Option (Int32)) (n : Nat) (v2 : Int32) (v3 : Int32) (v4 : Int32) (v5 : Int32) (v6 : Int32) (a : List Int32) (s0 : St) : Option (Int32) :=
  lt (v6 + (1 : Int32)) fun x1 =>
  k96 v2 v3 v4 v5 x1 a s0
set_option maxRecDepth 65536 in
set_option maxHeartbeats 4000000 in
theorem okLAW_452 (l : Launch) (Z : State) (a0 : Array Value) (hw : HW a0 Z) (n0 : Nat) (k96 : Int32 → Int32 → Int32 → Int32 → Int32 → List Int32 → St → Option (Int32)) (hk96 : ∀ (v2 : Int32) (v3 : Int32) (v4 : Int32) (v5 : Int32) (v6 : Int32) (a : List Int32) (s0 : St) (r : Int32), k96 v2 v3 v4 v5 v6 a s0 = some r → WLAW l Z n0 (PLAW r) 4 336 96 [.val (.ref 0), .val (.ref 1), .val (.int v2), .val (.int v3), .val (.int v4), .val (.int v5), .val (.int v6), .unset, .unset, .unset, .unset, .unset, .unset] [] ([cI a] ++ Hb 1 s0)) (n : Nat) (v2 : Int32) (v3 : Int32) (v4 : Int32) (v5 : Int32) (v6 : Int32) (a : List Int32) (s0 : St) (r : Int32) (h : f_law_452 k96 n v2 v3 v4 v5 v6 a s0 = some r) : WLAW l Z n0 (PLAW r) 4 336 452 [.val (.ref 0), .val (.ref 1), .val (.int v2), .val (.int v3), .val (.int v4), .val (.int v5), .val (.int v6), .unset, .unset, .unset, .unset, .unset, .unset] [] ([cI a] ++ Hb 1 s0) := by
  unfold f_law_452 at h
  obtain ⟨x1, ex1, h⟩ := lt_e h
  refine WP.iinc (L' := [.val (.ref 0), .val (.ref 1), .val (.int v2), .val (.int v3), .val (.int v4), .val (.int v5), .val (.int x1), .unset, .unset, .unset, .unset, .unset, .unset]) (1 : Int32) at_452 rfl rfl (by subst ex1; rfl) ?_
  refine WP.goto (pc' := 96) at_455 (by decide) rfl ?_
  exact WP.weak (L' := [.val (.ref 0), .val (.ref 1), .val (.int v2), .val (.int v3), .val (.int v4), .val (.int v5), .val (.int x1), .unset, .unset, .unset, .unset, .unset, .unset]) ⟨rfl, rfl, rfl, rfl, rfl, rfl, rfl, trivial⟩ (hk96 v2 v3 v4 v5 x1 a s0 _ h)
def f_law_268 (k96 : Int32 → Int32 → Int32 → Int32 → Int32 → List Int32 → St → Option (Int32)) (n : Nat) (v2 : Int32) (v3 : Int32) (v4 : Int32) (v5 : Int32) (v6 : Int32) (a : List Int32) (s0 : St) : Option (Int32) :=
  f_law_452 k96 n v2 v3 v4 v5 v6 a s0
set_option maxRecDepth 65536 in
set_option maxHeartbeats 4000000 in
theorem okLAW_268 (l : Launch) (Z : State) (a0 : Array Value) (hw : HW a0 Z) (n0 : Nat) (k96 : Int32 → Int32 → Int32 → Int32 → Int32 → List Int32 → St → Option (Int32)) (hk96 : ∀ (v2 : Int32) (v3 : Int32) (v4 : Int32) (v5 : Int32) (v6 : Int32) (a : List Int32) (s0 : St) (r : Int32), k96 v2 v3 v4 v5 v6 a s0 = some r → WLAW l Z n0 (PLAW r) 4 336 96 [.val (.ref 0), .val (.ref 1), .val (.int v2), .val (.int v3), .val (.int v4), .val (.int v5), .val (.int v6), .unset, .unset, .unset, .unset, .unset, .unset] [] ([cI a] ++ Hb 1 s0)) (n : Nat) (v2 : Int32) (v3 : Int32) (v4 : Int32) (v5 : Int32) (v6 : Int32) (a : List Int32) (s0 : St) (r : Int32) (h : f_law_268 k96 n v2 v3 v4 v5 v6 a s0 = some r) : WLAW l Z n0 (PLAW r) 4 336 268 [.val (.ref 0), .val (.ref 1), .val (.int v2), .val (.int v3), .val (.int v4), .val (.int v5), .val (.int v6), .unset, .unset, .unset, .unset, .unset, .unset] [] ([cI a] ++ Hb 1 s0) := by
  unfold f_law_268 at h
  refine WP.goto (pc' := 452) at_268 (by decide) rfl ?_
  exact WP.weak (L' := [.val (.ref 0), .val (.ref 1), .val (.int v2), .val (.int v3), .val (.int v4), .val (.int v5), .val (.int v6), .unset, .unset, .unset, .unset, .unset, .unset]) ⟨rfl, rfl, rfl, rfl, rfl, rfl, rfl, trivial⟩ (okLAW_452 l Z a0 hw n0 _ hk96 n v2 v3 v4 v5 v6 a s0 _ h)
def f_law_321 (k96 : Int32 → Int32 → Int32 → Int32 → Int32 → List Int32 → St → Option (Int32)) (n : Nat) (v2 : Int32) (v3 : Int32) (v4 : Int32) (v5 : Int32) (v6 : Int32) (a : List Int32) (s0 : St) : Option (Int32) :=
  f_law_452 k96 n v2 v3 v4 v5 v6 a s0
set_option maxRecDepth 65536 in
set_option maxHeartbeats 4000000 in
theorem okLAW_321 (l : Launch) (Z : State) (a0 : Array Value) (hw : HW a0 Z) (n0 : Nat) (k96 : Int32 → Int32 → Int32 → Int32 → Int32 → List Int32 → St → Option (Int32)) (hk96 : ∀ (v2 : Int32) (v3 : Int32) (v4 : Int32) (v5 : Int32) (v6 : Int32) (a : List Int32) (s0 : St) (r : Int32), k96 v2 v3 v4 v5 v6 a s0 = some r → WLAW l Z n0 (PLAW r) 4 336 96 [.val (.ref 0), .val (.ref 1), .val (.int v2), .val (.int v3), .val (.int v4), .val (.int v5), .val (.int v6), .unset, .unset, .unset, .unset, .unset, .unset] [] ([cI a] ++ Hb 1 s0)) (n : Nat) (v2 : Int32) (v3 : Int32) (v4 : Int32) (v5 : Int32) (v6 : Int32) (a : List Int32) (s0 : St) (r : Int32) (h : f_law_321 k96 n v2 v3 v4 v5 v6 a s0 = some r) : WLAW l Z n0 (PLAW r) 4 336 321 [.val (.ref 0), .val (.ref 1), .val (.int v2), .val (.int v3), .val (.int v4), .val (.int v5), .val (.int v6), .unset, .unset, .unset, .unset, .unset, .unset] [] ([cI a] ++ Hb 1 s0) := by
  unfold f_law_321 at h
  refine WP.goto (pc' := 452) at_321 (by decide) rfl ?_
  exact WP.weak (L' := [.val (.ref 0), .val (.ref 1), .val (.int v2), .val (.int v3), .val (.int v4), .val (.int v5), .val (.int v6), .unset, .unset, .unset, .unset, .unset, .unset]) ⟨rfl, rfl, rfl, rfl, rfl, rfl, rfl, trivial⟩ (okLAW_452 l Z a0 hw n0 _ hk96 n v2 v3 v4 v5 v6 a s0 _ h)
def f_law_299 (k96 : Int32 → Int32 → Int32 → Int32 → Int32 → List Int32 → St → Option (Int32)) (n : Nat) (v2 : Int32) (v3 : Int32) (v4 : Int32) (v5 : Int32) (v6 : Int32) (t0 : Int32) (a : List Int32) (s0 : St) : Option (Int32) :=
  (f_decaps n s0).bind fun c1 =>
  if t0 = 0 then
    f_law_321 k96 n v2 v3 v4 v5 v6 a c1.2
  else
    if c1.1 = v4 then
      f_law_321 k96 n v2 v3 v4 v5 v6 a c1.2
    else
      some (0 : Int32)
set_option maxRecDepth 65536 in
set_option maxHeartbeats 4000000 in
theorem okLAW_299 (l : Launch) (Z : State) (a0 : Array Value) (hw : HW a0 Z) (n0 : Nat) (k96 : Int32 → Int32 → Int32 → Int32 → Int32 → List Int32 → St → Option (Int32)) (hk96 : ∀ (v2 : Int32) (v3 : Int32) (v4 : Int32) (v5 : Int32) (v6 : Int32) (a : List Int32) (s0 : St) (r : Int32), k96 v2 v3 v4 v5 v6 a s0 = some r → WLAW l Z n0 (PLAW r) 4 336 96 [.val (.ref 0), .val (.ref 1), .val (.int v2), .val (.int v3), .val (.int v4), .val (.int v5), .val (.int v6), .unset, .unset, .unset, .unset, .unset, .unset] [] ([cI a] ++ Hb 1 s0)) (n : Nat) (v2 : Int32) (v3 : Int32) (v4 : Int32) (v5 : Int32) (v6 : Int32) (t0 : Int32) (a : List Int32) (s0 : St) (r : Int32) (h : f_law_299 k96 n v2 v3 v4 v5 v6 t0 a s0 = some r) : WLAW l Z n0 (PLAW r) 4 336 299 [.val (.ref 0), .val (.ref 1), .val (.int v2), .val (.int v3), .val (.int v4), .val (.int v5), .val (.int v6), .unset, .unset, .unset, .unset, .unset, .unset] [.int t0] ([cI a] ++ Hb 1 s0) := by
  unfold f_law_299 at h
  refine WP.istore (L' := [.val (.ref 0), .val (.ref 1), .val (.int v2), .val (.int v3), .val (.int v4), .val (.int v5), .val (.int v6), .unset, .unset, .unset, .unset, .val (.int t0), .unset]) at_299 (leb rfl) rfl ?_
  refine WP.aloadN at_301 rfl ?_
  obtain ⟨c1, hc1, h⟩ := Option.bind_eq_some_iff.mp h
  refine WP.callV (i := 1) (y := y25) (as := []) (S := []) at_302 (hw _ m_145) (hw _ m_146) (hw _ m_148) (hw _ m_147) (hw _ m_149) (hw _ m_2) hy25 rfl (CS.frame (ro := 1) (H := ([cI a] ++ Hb 1 s0)) (as := [.ref 1]) fr1_f (ok25 l Z a0 hw n s0 _ hc1) rfl (by decide) (fr1_l a s0) (fr1_c a s0) (by decide) rfl) rfl (lenOf pd25 rfl) (leb rfl) (leb rfl) (leb rfl) (leb rfl) ?_
  rintro _ _ ⟨_, _, ⟨rfl, rfl⟩, rfl, rfl⟩
  rw [fr1_p a s0 c1.2]
  show WLAW l Z n0 (PLAW r) 4 336 305 [.val (.ref 0), .val (.ref 1), .val (.int v2), .val (.int v3), .val (.int v4), .val (.int v5), .val (.int v6), .unset, .unset, .unset, .unset, .val (.int t0), .unset] [.int c1.1] ([cI a] ++ Hb 1 c1.2)
  refine WP.istore (L' := [.val (.ref 0), .val (.ref 1), .val (.int v2), .val (.int v3), .val (.int v4), .val (.int v5), .val (.int v6), .unset, .unset, .unset, .unset, .val (.int t0), .val (.int c1.1)]) at_305 (leb rfl) rfl ?_
  refine WP.iload at_307 rfl ?_
  rcases ite_e h with ⟨hc2, h⟩ | ⟨hc2, h⟩
  ·
    refine WP.ifY (pc' := 321) at_309 (XT.i0_eq_t hc2) (by decide) rfl ?_
    exact WP.weak (L' := [.val (.ref 0), .val (.ref 1), .val (.int v2), .val (.int v3), .val (.int v4), .val (.int v5), .val (.int v6), .unset, .unset, .unset, .unset, .unset, .unset]) ⟨rfl, rfl, rfl, rfl, rfl, rfl, rfl, trivial⟩ (okLAW_321 l Z a0 hw n0 _ hk96 n v2 v3 v4 v5 v6 a c1.2 _ h)
  ·
    refine WP.ifN at_309 (XT.i0_eq_f hc2) ?_
    refine WP.iload at_312 rfl ?_
    refine WP.iload at_314 rfl ?_
    rcases ite_e h with ⟨hc3, h⟩ | ⟨hc3, h⟩
    ·
      refine WP.icmpY (pc' := 321) at_316 (XT.ii_eq_t hc3) (by decide) rfl ?_
      exact WP.weak (L' := [.val (.ref 0), .val (.ref 1), .val (.int v2), .val (.int v3), .val (.int v4), .val (.int v5), .val (.int v6), .unset, .unset, .unset, .unset, .unset, .unset]) ⟨rfl, rfl, rfl, rfl, rfl, rfl, rfl, trivial⟩ (okLAW_321 l Z a0 hw n0 _ hk96 n v2 v3 v4 v5 v6 a c1.2 _ h)
    ·
      refine WP.icmpN at_316 (XT.ii_eq_f hc3) ?_
      refine WP.iconst (0 : Int32) at_319 rfl ?_
      cases h
      exact WP.zreturn at_320 rfl (leb rfl) (leb rfl) rfl
def f_law_298 (k96 : Int32 → Int32 → Int32 → Int32 → Int32 → List Int32 → St → Option (Int32)) (n : Nat) (v2 : Int32) (v3 : Int32) (v4 : Int32) (v5 : Int32) (v6 : Int32) (a : List Int32) (s0 : St) : Option (Int32) :=
  f_law_299 k96 n v2 v3 v4 v5 v6 (0 : Int32) a s0
set_option maxRecDepth 65536 in
set_option maxHeartbeats 4000000 in
theorem okLAW_298 (l : Launch) (Z : State) (a0 : Array Value) (hw : HW a0 Z) (n0 : Nat) (k96 : Int32 → Int32 → Int32 → Int32 → Int32 → List Int32 → St → Option (Int32)) (hk96 : ∀ (v2 : Int32) (v3 : Int32) (v4 : Int32) (v5 : Int32) (v6 : Int32) (a : List Int32) (s0 : St) (r : Int32), k96 v2 v3 v4 v5 v6 a s0 = some r → WLAW l Z n0 (PLAW r) 4 336 96 [.val (.ref 0), .val (.ref 1), .val (.int v2), .val (.int v3), .val (.int v4), .val (.int v5), .val (.int v6), .unset, .unset, .unset, .unset, .unset, .unset] [] ([cI a] ++ Hb 1 s0)) (n : Nat) (v2 : Int32) (v3 : Int32) (v4 : Int32) (v5 : Int32) (v6 : Int32) (a : List Int32) (s0 : St) (r : Int32) (h : f_law_298 k96 n v2 v3 v4 v5 v6 a s0 = some r) : WLAW l Z n0 (PLAW r) 4 336 298 [.val (.ref 0), .val (.ref 1), .val (.int v2), .val (.int v3), .val (.int v4), .val (.int v5), .val (.int v6), .unset, .unset, .unset, .unset, .unset, .unset] [] ([cI a] ++ Hb 1 s0) := by
  unfold f_law_298 at h
  refine WP.iconst (0 : Int32) at_298 rfl ?_
  exact WP.weak (L' := [.val (.ref 0), .val (.ref 1), .val (.int v2), .val (.int v3), .val (.int v4), .val (.int v5), .val (.int v6), .unset, .unset, .unset, .unset, .unset, .unset]) ⟨rfl, rfl, rfl, rfl, rfl, rfl, rfl, trivial⟩ (okLAW_299 l Z a0 hw n0 _ hk96 n v2 v3 v4 v5 v6 (0 : Int32) a s0 _ h)
def f_law_213 (k96 : Int32 → Int32 → Int32 → Int32 → Int32 → List Int32 → St → Option (Int32)) (n : Nat) (v2 : Int32) (v3 : Int32) (v4 : Int32) (v5 : Int32) (v6 : Int32) (v7 : Int32) (v8 : Int32) (v9 : Int32) (v10 : Int32) (a : List Int32) (s0 : St) : Option (Int32) :=
  if (1 : Int32) < v7 then
    if (3 : Int32) < v7 then
      if (6 : Int32) < v7 then
        if (10 : Int32) < v7 then
          if v7 = (11 : Int32) then
            (f_setCipher (v8 &&& (3 : Int32)) (v9 &&& (31 : Int32)) (v10 &&& (1023 : Int32)) s0).bind fun c6 =>
            if c6.1 = 0 then
              f_law_452 k96 n v2 v3 v4 v5 v6 a c6.2
            else
              f_law_452 k96 n v2 (1 : Int32) v4 v5 v6 a c6.2
          else
            if v7 = (12 : Int32) then
              (f_random s0).bind fun c9 =>
              f_law_452 k96 n v2 v3 v4 v5 v6 a c9.2
            else
              if v7 = (13 : Int32) then
                (f_sample n s0).bind fun c11 =>
                f_law_452 k96 n v2 v3 v4 v5 v6 a c11.2
              else
                if v7 = (14 : Int32) then
                  (f_setOperand (v8 &&& (3 : Int32)) (v9 &&& (31 : Int32)) v10 s0).bind fun c13 =>
                  (f_multiply n c13.2).bind fun c14 =>
                  f_law_452 k96 n v2 v3 v4 v5 v6 a c14
                else
                  (f_compress (v9 &&& (511 : Int32)) (v8 &&& (15 : Int32)) s0).bind fun c15 =>
                  (f_decompress (v10 &&& (1023 : Int32)) ((XT.ushr v8 (4 : Int32)) &&& (15 : Int32)) s0).bind fun c16 =>
                  f_law_452 k96 n v2 v3 v4 v5 v6 a s0
        else
          (f_status s0).bind fun c17 =>
          if c17 = (2 : Int32) then
            if v2 = 0 then
              f_law_298 k96 n v2 v3 v4 v5 v6 a s0
            else
              if v3 = 0 then
                f_law_299 k96 n v2 v3 v4 v5 v6 (1 : Int32) a s0
              else
                f_law_298 k96 n v2 v3 v4 v5 v6 a s0
          else
            f_law_298 k96 n v2 v3 v4 v5 v6 a s0
      else
        (f_encaps n s0).bind fun c21 =>
        if c21.1 = (-1 : Int32) then
          f_law_268 k96 n v2 v3 v4 v5 v6 a c21.2
        else
          f_law_268 k96 n (1 : Int32) (0 : Int32) c21.1 v5 v6 a c21.2
    else
      (f_keygen n s0).bind fun c23 =>
      f_law_452 k96 n v2 v3 v4 v5 v6 a c23
  else
    (f_seed v8 s0).bind fun c24 =>
    f_law_452 k96 n v2 v3 v4 v5 v6 a c24
set_option maxRecDepth 65536 in
set_option maxHeartbeats 4000000 in
theorem okLAW_213 (l : Launch) (Z : State) (a0 : Array Value) (hw : HW a0 Z) (n0 : Nat) (k96 : Int32 → Int32 → Int32 → Int32 → Int32 → List Int32 → St → Option (Int32)) (hk96 : ∀ (v2 : Int32) (v3 : Int32) (v4 : Int32) (v5 : Int32) (v6 : Int32) (a : List Int32) (s0 : St) (r : Int32), k96 v2 v3 v4 v5 v6 a s0 = some r → WLAW l Z n0 (PLAW r) 4 336 96 [.val (.ref 0), .val (.ref 1), .val (.int v2), .val (.int v3), .val (.int v4), .val (.int v5), .val (.int v6), .unset, .unset, .unset, .unset, .unset, .unset] [] ([cI a] ++ Hb 1 s0)) (n : Nat) (v2 : Int32) (v3 : Int32) (v4 : Int32) (v5 : Int32) (v6 : Int32) (v7 : Int32) (v8 : Int32) (v9 : Int32) (v10 : Int32) (a : List Int32) (s0 : St) (r : Int32) (h : f_law_213 k96 n v2 v3 v4 v5 v6 v7 v8 v9 v10 a s0 = some r) : WLAW l Z n0 (PLAW r) 4 336 213 [.val (.ref 0), .val (.ref 1), .val (.int v2), .val (.int v3), .val (.int v4), .val (.int v5), .val (.int v6), .val (.int v7), .val (.int v8), .val (.int v9), .val (.int v10), .unset, .unset] [] ([cI a] ++ Hb 1 s0) := by
  unfold f_law_213 at h
  refine WP.iload at_213 rfl ?_
  refine WP.iconst (1 : Int32) at_215 rfl ?_
  rcases ite_e h with ⟨hc1, h⟩ | ⟨hc1, h⟩
  ·
    refine WP.icmpY (pc' := 228) at_216 (XT.ii_gt_t hc1) (by decide) rfl ?_
    refine WP.iload at_228 rfl ?_
    refine WP.iconst (3 : Int32) at_230 rfl ?_
    rcases ite_e h with ⟨hc2, h⟩ | ⟨hc2, h⟩
    ·
      refine WP.icmpY (pc' := 241) at_231 (XT.ii_gt_t hc2) (by decide) rfl ?_
      refine WP.iload at_241 rfl ?_
      refine WP.bipush (6 : Int32) at_243 rfl ?_
      rcases ite_e h with ⟨hc3, h⟩ | ⟨hc3, h⟩
      ·
        refine WP.icmpY (pc' := 271) at_245 (XT.ii_gt_t hc3) (by decide) rfl ?_
        refine WP.iload at_271 rfl ?_
        refine WP.bipush (10 : Int32) at_273 rfl ?_
        rcases ite_e h with ⟨hc4, h⟩ | ⟨hc4, h⟩
        ·
          refine WP.icmpY (pc' := 324) at_275 (XT.ii_gt_t hc4) (by decide) rfl ?_
          refine WP.iload at_324 rfl ?_
          refine WP.bipush (11 : Int32) at_326 rfl ?_
          rcases ite_e h with ⟨hc5, h⟩ | ⟨hc5, h⟩
          ·
            refine WP.icmpN at_328 (XT.ii_ne_f hc5) ?_
            refine WP.aloadN at_331 rfl ?_
            refine WP.iload at_332 rfl ?_
            refine WP.iconst (3 : Int32) at_334 rfl ?_
            refine WP.iand at_335 ?_
            refine WP.iload at_336 rfl ?_
            refine WP.bipush (31 : Int32) at_338 rfl ?_
            refine WP.iand at_340 ?_
            refine WP.iload at_341 rfl ?_
            refine WP.sipush (1023 : Int32) at_343 rfl ?_
            refine WP.iand at_346 ?_
            obtain ⟨c6, hc6, h⟩ := Option.bind_eq_some_iff.mp h
            refine WP.callV (i := 1) (y := y33) (as := [.int (v8 &&& (3 : Int32)), .int (v9 &&& (31 : Int32)), .int (v10 &&& (1023 : Int32))]) (S := []) at_347 (hw _ m_183) (hw _ m_184) (hw _ m_186) (hw _ m_185) (hw _ m_187) (hw _ m_2) hy33 rfl (CS.frame (ro := 1) (H := ([cI a] ++ Hb 1 s0)) (as := [.ref 1, .int (v8 &&& (3 : Int32)), .int (v9 &&& (31 : Int32)), .int (v10 &&& (1023 : Int32))]) fr1_f (ok33 l Z a0 hw (v8 &&& (3 : Int32)) (v9 &&& (31 : Int32)) (v10 &&& (1023 : Int32)) s0 _ hc6) rfl (by decide) (fr1_l a s0) (fr1_c a s0) (by decide) rfl) rfl (lenOf pd33 rfl) (leb rfl) (leb rfl) (leb rfl) (leb rfl) ?_
            rintro _ _ ⟨_, _, ⟨rfl, rfl⟩, rfl, rfl⟩
            rw [fr1_p a s0 c6.2]
            show WLAW l Z n0 (PLAW r) 4 336 350 [.val (.ref 0), .val (.ref 1), .val (.int v2), .val (.int v3), .val (.int v4), .val (.int v5), .val (.int v6), .val (.int v7), .val (.int v8), .val (.int v9), .val (.int v10), .unset, .unset] [.int c6.1] ([cI a] ++ Hb 1 c6.2)
            rcases ite_e h with ⟨hc7, h⟩ | ⟨hc7, h⟩
            ·
              refine WP.ifY (pc' := 452) at_350 (XT.i0_eq_t hc7) (by decide) rfl ?_
              exact WP.weak (L' := [.val (.ref 0), .val (.ref 1), .val (.int v2), .val (.int v3), .val (.int v4), .val (.int v5), .val (.int v6), .unset, .unset, .unset, .unset, .unset, .unset]) ⟨rfl, rfl, rfl, rfl, rfl, rfl, rfl, trivial⟩ (okLAW_452 l Z a0 hw n0 _ hk96 n v2 v3 v4 v5 v6 a c6.2 _ h)
            ·
              refine WP.ifN at_350 (XT.i0_eq_f hc7) ?_
              refine WP.iconst (1 : Int32) at_353 rfl ?_
              refine WP.istoreN (L' := [.val (.ref 0), .val (.ref 1), .val (.int v2), .val (.int (1 : Int32)), .val (.int v4), .val (.int v5), .val (.int v6), .val (.int v7), .val (.int v8), .val (.int v9), .val (.int v10), .unset, .unset]) at_354 (leb rfl) rfl ?_
              refine WP.goto (pc' := 452) at_355 (by decide) rfl ?_
              exact WP.weak (L' := [.val (.ref 0), .val (.ref 1), .val (.int v2), .val (.int (1 : Int32)), .val (.int v4), .val (.int v5), .val (.int v6), .unset, .unset, .unset, .unset, .unset, .unset]) ⟨rfl, rfl, rfl, rfl, rfl, rfl, rfl, trivial⟩ (okLAW_452 l Z a0 hw n0 _ hk96 n v2 (1 : Int32) v4 v5 v6 a c6.2 _ h)
          ·
            refine WP.icmpY (pc' := 358) at_328 (XT.ii_ne_t hc5) (by decide) rfl ?_
            refine WP.iload at_358 rfl ?_
            refine WP.bipush (12 : Int32) at_360 rfl ?_
            rcases ite_e h with ⟨hc8, h⟩ | ⟨hc8, h⟩
            ·
              refine WP.icmpN at_362 (XT.ii_ne_f hc8) ?_
              refine WP.aloadN at_365 rfl ?_
              obtain ⟨c9, hc9, h⟩ := Option.bind_eq_some_iff.mp h
              refine WP.callV (i := 1) (y := y34) (as := []) (S := []) at_366 (hw _ m_188) (hw _ m_189) (hw _ m_191) (hw _ m_190) (hw _ m_192) (hw _ m_2) hy34 rfl (CS.frame (ro := 1) (H := ([cI a] ++ Hb 1 s0)) (as := [.ref 1]) fr1_f (ok34 l Z a0 hw s0 _ hc9) rfl (by decide) (fr1_l a s0) (fr1_c a s0) (by decide) rfl) rfl (lenOf pd34 rfl) (leb rfl) (leb rfl) (leb rfl) (leb rfl) ?_
              rintro _ _ ⟨_, _, ⟨rfl, rfl⟩, rfl, rfl⟩
              rw [fr1_p a s0 c9.2]
              show WLAW l Z n0 (PLAW r) 4 336 369 [.val (.ref 0), .val (.ref 1), .val (.int v2), .val (.int v3), .val (.int v4), .val (.int v5), .val (.int v6), .val (.int v7), .val (.int v8), .val (.int v9), .val (.int v10), .unset, .unset] [.int c9.1] ([cI a] ++ Hb 1 c9.2)
              refine WP.pop at_369 rfl ?_
              refine WP.goto (pc' := 452) at_370 (by decide) rfl ?_
              exact WP.weak (L' := [.val (.ref 0), .val (.ref 1), .val (.int v2), .val (.int v3), .val (.int v4), .val (.int v5), .val (.int v6), .unset, .unset, .unset, .unset, .unset, .unset]) ⟨rfl, rfl, rfl, rfl, rfl, rfl, rfl, trivial⟩ (okLAW_452 l Z a0 hw n0 _ hk96 n v2 v3 v4 v5 v6 a c9.2 _ h)
            ·
              refine WP.icmpY (pc' := 373) at_362 (XT.ii_ne_t hc8) (by decide) rfl ?_
              refine WP.iload at_373 rfl ?_
              refine WP.bipush (13 : Int32) at_375 rfl ?_
              rcases ite_e h with ⟨hc10, h⟩ | ⟨hc10, h⟩
              ·
                refine WP.icmpN at_377 (XT.ii_ne_f hc10) ?_
                refine WP.aloadN at_380 rfl ?_
                obtain ⟨c11, hc11, h⟩ := Option.bind_eq_some_iff.mp h
                refine WP.callV (i := 1) (y := y30) (as := []) (S := []) at_381 (hw _ m_168) (hw _ m_169) (hw _ m_171) (hw _ m_170) (hw _ m_172) (hw _ m_2) hy30 rfl (CS.frame (ro := 1) (H := ([cI a] ++ Hb 1 s0)) (as := [.ref 1]) fr1_f (ok30 l Z a0 hw n s0 _ hc11) rfl (by decide) (fr1_l a s0) (fr1_c a s0) (by decide) rfl) rfl (lenOf pd30 rfl) (leb rfl) (leb rfl) (leb rfl) (leb rfl) ?_
                rintro _ _ ⟨_, _, ⟨rfl, rfl⟩, rfl, rfl⟩
                rw [fr1_p a s0 c11.2]
                show WLAW l Z n0 (PLAW r) 4 336 384 [.val (.ref 0), .val (.ref 1), .val (.int v2), .val (.int v3), .val (.int v4), .val (.int v5), .val (.int v6), .val (.int v7), .val (.int v8), .val (.int v9), .val (.int v10), .unset, .unset] [.int c11.1] ([cI a] ++ Hb 1 c11.2)
                refine WP.pop at_384 rfl ?_
                refine WP.goto (pc' := 452) at_385 (by decide) rfl ?_
                exact WP.weak (L' := [.val (.ref 0), .val (.ref 1), .val (.int v2), .val (.int v3), .val (.int v4), .val (.int v5), .val (.int v6), .unset, .unset, .unset, .unset, .unset, .unset]) ⟨rfl, rfl, rfl, rfl, rfl, rfl, rfl, trivial⟩ (okLAW_452 l Z a0 hw n0 _ hk96 n v2 v3 v4 v5 v6 a c11.2 _ h)
              ·
                refine WP.icmpY (pc' := 388) at_377 (XT.ii_ne_t hc10) (by decide) rfl ?_
                refine WP.iload at_388 rfl ?_
                refine WP.bipush (14 : Int32) at_390 rfl ?_
                rcases ite_e h with ⟨hc12, h⟩ | ⟨hc12, h⟩
                ·
                  refine WP.icmpN at_392 (XT.ii_ne_f hc12) ?_
                  refine WP.aloadN at_395 rfl ?_
                  refine WP.iload at_396 rfl ?_
                  refine WP.iconst (3 : Int32) at_398 rfl ?_
                  refine WP.iand at_399 ?_
                  refine WP.iload at_400 rfl ?_
                  refine WP.bipush (31 : Int32) at_402 rfl ?_
                  refine WP.iand at_404 ?_
                  refine WP.iload at_405 rfl ?_
                  obtain ⟨c13, hc13, h⟩ := Option.bind_eq_some_iff.mp h
                  refine WP.callV (i := 1) (y := y28) (as := [.int (v8 &&& (3 : Int32)), .int (v9 &&& (31 : Int32)), .int v10]) (S := []) at_407 (hw _ m_158) (hw _ m_159) (hw _ m_161) (hw _ m_160) (hw _ m_162) (hw _ m_2) hy28 rfl (CS.frame (ro := 1) (H := ([cI a] ++ Hb 1 s0)) (as := [.ref 1, .int (v8 &&& (3 : Int32)), .int (v9 &&& (31 : Int32)), .int v10]) fr1_f (ok28 l Z a0 hw (v8 &&& (3 : Int32)) (v9 &&& (31 : Int32)) v10 s0 _ hc13) rfl (by decide) (fr1_l a s0) (fr1_c a s0) (by decide) rfl) rfl (lenOf pd28 rfl) (leb rfl) (leb rfl) (leb rfl) (leb rfl) ?_
                  rintro _ _ ⟨_, _, ⟨rfl, rfl⟩, rfl, rfl⟩
                  rw [fr1_p a s0 c13.2]
                  show WLAW l Z n0 (PLAW r) 4 336 410 [.val (.ref 0), .val (.ref 1), .val (.int v2), .val (.int v3), .val (.int v4), .val (.int v5), .val (.int v6), .val (.int v7), .val (.int v8), .val (.int v9), .val (.int v10), .unset, .unset] [.int c13.1] ([cI a] ++ Hb 1 c13.2)
                  refine WP.pop at_410 rfl ?_
                  refine WP.aloadN at_411 rfl ?_
                  obtain ⟨c14, hc14, h⟩ := Option.bind_eq_some_iff.mp h
                  refine WP.callV (i := 1) (y := y29) (as := []) (S := []) at_412 (hw _ m_163) (hw _ m_164) (hw _ m_166) (hw _ m_165) (hw _ m_167) (hw _ m_2) hy29 rfl (CS.frame (ro := 1) (H := ([cI a] ++ Hb 1 c13.2)) (as := [.ref 1]) fr1_f (ok29 l Z a0 hw n c13.2 _ hc14) rfl (by decide) (fr1_l a c13.2) (fr1_c a c13.2) (by decide) rfl) rfl (lenOf pd29 rfl) (leb rfl) (leb rfl) (leb rfl) (leb rfl) ?_
                  rintro _ _ ⟨_, _, ⟨rfl, rfl⟩, rfl, rfl⟩
                  rw [fr1_p a c13.2 c14]
                  show WLAW l Z n0 (PLAW r) 4 336 415 [.val (.ref 0), .val (.ref 1), .val (.int v2), .val (.int v3), .val (.int v4), .val (.int v5), .val (.int v6), .val (.int v7), .val (.int v8), .val (.int v9), .val (.int v10), .unset, .unset] [] ([cI a] ++ Hb 1 c14)
                  refine WP.goto (pc' := 452) at_415 (by decide) rfl ?_
                  exact WP.weak (L' := [.val (.ref 0), .val (.ref 1), .val (.int v2), .val (.int v3), .val (.int v4), .val (.int v5), .val (.int v6), .unset, .unset, .unset, .unset, .unset, .unset]) ⟨rfl, rfl, rfl, rfl, rfl, rfl, rfl, trivial⟩ (okLAW_452 l Z a0 hw n0 _ hk96 n v2 v3 v4 v5 v6 a c14 _ h)
                ·
                  refine WP.icmpY (pc' := 418) at_392 (XT.ii_ne_t hc12) (by decide) rfl ?_
                  refine WP.aloadN at_418 rfl ?_
                  refine WP.iload at_419 rfl ?_
                  refine WP.sipush (511 : Int32) at_421 rfl ?_
                  refine WP.iand at_424 ?_
                  refine WP.iload at_425 rfl ?_
                  refine WP.bipush (15 : Int32) at_427 rfl ?_
                  refine WP.iand at_429 ?_
                  obtain ⟨c15, hc15, h⟩ := Option.bind_eq_some_iff.mp h
                  refine WP.callV (i := 1) (y := y31) (as := [.int (v9 &&& (511 : Int32)), .int (v8 &&& (15 : Int32))]) (S := []) at_430 (hw _ m_173) (hw _ m_174) (hw _ m_176) (hw _ m_175) (hw _ m_177) (hw _ m_2) hy31 rfl (CS.frame (ro := 1) (H := ([cI a] ++ Hb 1 s0)) (as := [.ref 1, .int (v9 &&& (511 : Int32)), .int (v8 &&& (15 : Int32))]) fr1_f (ok31 l Z a0 hw (v9 &&& (511 : Int32)) (v8 &&& (15 : Int32)) s0 _ hc15) rfl (by decide) (fr1_l a s0) (fr1_c a s0) (by decide) rfl) rfl (lenOf pd31 rfl) (leb rfl) (leb rfl) (leb rfl) (leb rfl) ?_
                  rintro _ _ ⟨_, _, ⟨rfl, rfl⟩, rfl, rfl⟩
                  rw [fr1_p a s0 s0]
                  show WLAW l Z n0 (PLAW r) 4 336 433 [.val (.ref 0), .val (.ref 1), .val (.int v2), .val (.int v3), .val (.int v4), .val (.int v5), .val (.int v6), .val (.int v7), .val (.int v8), .val (.int v9), .val (.int v10), .unset, .unset] [.int c15] ([cI a] ++ Hb 1 s0)
                  refine WP.pop at_433 rfl ?_
                  refine WP.aloadN at_434 rfl ?_
                  refine WP.iload at_435 rfl ?_
                  refine WP.sipush (1023 : Int32) at_437 rfl ?_
                  refine WP.iand at_440 ?_
                  refine WP.iload at_441 rfl ?_
                  refine WP.iconst (4 : Int32) at_443 rfl ?_
                  refine WP.iushr at_444 ?_
                  refine WP.bipush (15 : Int32) at_445 rfl ?_
                  refine WP.iand at_447 ?_
                  obtain ⟨c16, hc16, h⟩ := Option.bind_eq_some_iff.mp h
                  refine WP.callV (i := 1) (y := y32) (as := [.int (v10 &&& (1023 : Int32)), .int ((XT.ushr v8 (4 : Int32)) &&& (15 : Int32))]) (S := []) at_448 (hw _ m_178) (hw _ m_179) (hw _ m_181) (hw _ m_180) (hw _ m_182) (hw _ m_2) hy32 rfl (CS.frame (ro := 1) (H := ([cI a] ++ Hb 1 s0)) (as := [.ref 1, .int (v10 &&& (1023 : Int32)), .int ((XT.ushr v8 (4 : Int32)) &&& (15 : Int32))]) fr1_f (ok32 l Z a0 hw (v10 &&& (1023 : Int32)) ((XT.ushr v8 (4 : Int32)) &&& (15 : Int32)) s0 _ hc16) rfl (by decide) (fr1_l a s0) (fr1_c a s0) (by decide) rfl) rfl (lenOf pd32 rfl) (leb rfl) (leb rfl) (leb rfl) (leb rfl) ?_
                  rintro _ _ ⟨_, _, ⟨rfl, rfl⟩, rfl, rfl⟩
                  rw [fr1_p a s0 s0]
                  show WLAW l Z n0 (PLAW r) 4 336 451 [.val (.ref 0), .val (.ref 1), .val (.int v2), .val (.int v3), .val (.int v4), .val (.int v5), .val (.int v6), .val (.int v7), .val (.int v8), .val (.int v9), .val (.int v10), .unset, .unset] [.int c16] ([cI a] ++ Hb 1 s0)
                  refine WP.pop at_451 rfl ?_
                  exact WP.weak (L' := [.val (.ref 0), .val (.ref 1), .val (.int v2), .val (.int v3), .val (.int v4), .val (.int v5), .val (.int v6), .unset, .unset, .unset, .unset, .unset, .unset]) ⟨rfl, rfl, rfl, rfl, rfl, rfl, rfl, trivial⟩ (okLAW_452 l Z a0 hw n0 _ hk96 n v2 v3 v4 v5 v6 a s0 _ h)
        ·
          refine WP.icmpN at_275 (XT.ii_gt_f hc4) ?_
          refine WP.aloadN at_278 rfl ?_
          obtain ⟨c17, hc17, h⟩ := Option.bind_eq_some_iff.mp h
          refine WP.callV (i := 1) (y := y24) (as := []) (S := []) at_279 (hw _ m_140) (hw _ m_141) (hw _ m_143) (hw _ m_142) (hw _ m_144) (hw _ m_2) hy24 rfl (CS.frame (ro := 1) (H := ([cI a] ++ Hb 1 s0)) (as := [.ref 1]) fr1_f (ok24 l Z a0 hw s0 _ hc17) rfl (by decide) (fr1_l a s0) (fr1_c a s0) (by decide) rfl) rfl (lenOf pd24 rfl) (leb rfl) (leb rfl) (leb rfl) (leb rfl) ?_
          rintro _ _ ⟨_, _, ⟨rfl, rfl⟩, rfl, rfl⟩
          rw [fr1_p a s0 s0]
          show WLAW l Z n0 (PLAW r) 4 336 282 [.val (.ref 0), .val (.ref 1), .val (.int v2), .val (.int v3), .val (.int v4), .val (.int v5), .val (.int v6), .val (.int v7), .val (.int v8), .val (.int v9), .val (.int v10), .unset, .unset] [.int c17] ([cI a] ++ Hb 1 s0)
          refine WP.iconst (2 : Int32) at_282 rfl ?_
          rcases ite_e h with ⟨hc18, h⟩ | ⟨hc18, h⟩
          ·
            refine WP.icmpN at_283 (XT.ii_ne_f hc18) ?_
            refine WP.iloadN at_286 rfl ?_
            rcases ite_e h with ⟨hc19, h⟩ | ⟨hc19, h⟩
            ·
              refine WP.ifY (pc' := 298) at_287 (XT.i0_eq_t hc19) (by decide) rfl ?_
              exact WP.weak (L' := [.val (.ref 0), .val (.ref 1), .val (.int v2), .val (.int v3), .val (.int v4), .val (.int v5), .val (.int v6), .unset, .unset, .unset, .unset, .unset, .unset]) ⟨rfl, rfl, rfl, rfl, rfl, rfl, rfl, trivial⟩ (okLAW_298 l Z a0 hw n0 _ hk96 n v2 v3 v4 v5 v6 a s0 _ h)
            ·
              refine WP.ifN at_287 (XT.i0_eq_f hc19) ?_
              refine WP.iloadN at_290 rfl ?_
              rcases ite_e h with ⟨hc20, h⟩ | ⟨hc20, h⟩
              ·
                refine WP.ifN at_291 (XT.i0_ne_f hc20) ?_
                refine WP.iconst (1 : Int32) at_294 rfl ?_
                refine WP.goto (pc' := 299) at_295 (by decide) rfl ?_
                exact WP.weak (L' := [.val (.ref 0), .val (.ref 1), .val (.int v2), .val (.int v3), .val (.int v4), .val (.int v5), .val (.int v6), .unset, .unset, .unset, .unset, .unset, .unset]) ⟨rfl, rfl, rfl, rfl, rfl, rfl, rfl, trivial⟩ (okLAW_299 l Z a0 hw n0 _ hk96 n v2 v3 v4 v5 v6 (1 : Int32) a s0 _ h)
              ·
                refine WP.ifY (pc' := 298) at_291 (XT.i0_ne_t hc20) (by decide) rfl ?_
                exact WP.weak (L' := [.val (.ref 0), .val (.ref 1), .val (.int v2), .val (.int v3), .val (.int v4), .val (.int v5), .val (.int v6), .unset, .unset, .unset, .unset, .unset, .unset]) ⟨rfl, rfl, rfl, rfl, rfl, rfl, rfl, trivial⟩ (okLAW_298 l Z a0 hw n0 _ hk96 n v2 v3 v4 v5 v6 a s0 _ h)
          ·
            refine WP.icmpY (pc' := 298) at_283 (XT.ii_ne_t hc18) (by decide) rfl ?_
            exact WP.weak (L' := [.val (.ref 0), .val (.ref 1), .val (.int v2), .val (.int v3), .val (.int v4), .val (.int v5), .val (.int v6), .unset, .unset, .unset, .unset, .unset, .unset]) ⟨rfl, rfl, rfl, rfl, rfl, rfl, rfl, trivial⟩ (okLAW_298 l Z a0 hw n0 _ hk96 n v2 v3 v4 v5 v6 a s0 _ h)
      ·
        refine WP.icmpN at_245 (XT.ii_gt_f hc3) ?_
        refine WP.aloadN at_248 rfl ?_
        obtain ⟨c21, hc21, h⟩ := Option.bind_eq_some_iff.mp h
        refine WP.callV (i := 1) (y := y20) (as := []) (S := []) at_249 (hw _ m_123) (hw _ m_124) (hw _ m_126) (hw _ m_125) (hw _ m_127) (hw _ m_2) hy20 rfl (CS.frame (ro := 1) (H := ([cI a] ++ Hb 1 s0)) (as := [.ref 1]) fr1_f (ok20 l Z a0 hw n s0 _ hc21) rfl (by decide) (fr1_l a s0) (fr1_c a s0) (by decide) rfl) rfl (lenOf pd20 rfl) (leb rfl) (leb rfl) (leb rfl) (leb rfl) ?_
        rintro _ _ ⟨_, _, ⟨rfl, rfl⟩, rfl, rfl⟩
        rw [fr1_p a s0 c21.2]
        show WLAW l Z n0 (PLAW r) 4 336 252 [.val (.ref 0), .val (.ref 1), .val (.int v2), .val (.int v3), .val (.int v4), .val (.int v5), .val (.int v6), .val (.int v7), .val (.int v8), .val (.int v9), .val (.int v10), .unset, .unset] [.int c21.1] ([cI a] ++ Hb 1 c21.2)
        refine WP.istore (L' := [.val (.ref 0), .val (.ref 1), .val (.int v2), .val (.int v3), .val (.int v4), .val (.int v5), .val (.int v6), .val (.int v7), .val (.int v8), .val (.int v9), .val (.int v10), .val (.int c21.1), .unset]) at_252 (leb rfl) rfl ?_
        refine WP.iload at_254 rfl ?_
        refine WP.iconst (-1 : Int32) at_256 rfl ?_
        rcases ite_e h with ⟨hc22, h⟩ | ⟨hc22, h⟩
        ·
          refine WP.icmpY (pc' := 268) at_257 (XT.ii_eq_t hc22) (by decide) rfl ?_
          exact WP.weak (L' := [.val (.ref 0), .val (.ref 1), .val (.int v2), .val (.int v3), .val (.int v4), .val (.int v5), .val (.int v6), .unset, .unset, .unset, .unset, .unset, .unset]) ⟨rfl, rfl, rfl, rfl, rfl, rfl, rfl, trivial⟩ (okLAW_268 l Z a0 hw n0 _ hk96 n v2 v3 v4 v5 v6 a c21.2 _ h)
        ·
          refine WP.icmpN at_257 (XT.ii_eq_f hc22) ?_
          refine WP.iconst (1 : Int32) at_260 rfl ?_
          refine WP.istoreN (L' := [.val (.ref 0), .val (.ref 1), .val (.int (1 : Int32)), .val (.int v3), .val (.int v4), .val (.int v5), .val (.int v6), .val (.int v7), .val (.int v8), .val (.int v9), .val (.int v10), .val (.int c21.1), .unset]) at_261 (leb rfl) rfl ?_
          refine WP.iload at_262 rfl ?_
          refine WP.istore (L' := [.val (.ref 0), .val (.ref 1), .val (.int (1 : Int32)), .val (.int v3), .val (.int c21.1), .val (.int v5), .val (.int v6), .val (.int v7), .val (.int v8), .val (.int v9), .val (.int v10), .val (.int c21.1), .unset]) at_264 (leb rfl) rfl ?_
          refine WP.iconst (0 : Int32) at_266 rfl ?_
          refine WP.istoreN (L' := [.val (.ref 0), .val (.ref 1), .val (.int (1 : Int32)), .val (.int (0 : Int32)), .val (.int c21.1), .val (.int v5), .val (.int v6), .val (.int v7), .val (.int v8), .val (.int v9), .val (.int v10), .val (.int c21.1), .unset]) at_267 (leb rfl) rfl ?_
          exact WP.weak (L' := [.val (.ref 0), .val (.ref 1), .val (.int (1 : Int32)), .val (.int (0 : Int32)), .val (.int c21.1), .val (.int v5), .val (.int v6), .unset, .unset, .unset, .unset, .unset, .unset]) ⟨rfl, rfl, rfl, rfl, rfl, rfl, rfl, trivial⟩ (okLAW_268 l Z a0 hw n0 _ hk96 n (1 : Int32) (0 : Int32) c21.1 v5 v6 a c21.2 _ h)
    ·
      refine WP.icmpN at_231 (XT.ii_gt_f hc2) ?_
      refine WP.aloadN at_234 rfl ?_
      obtain ⟨c23, hc23, h⟩ := Option.bind_eq_some_iff.mp h
      refine WP.callV (i := 1) (y := y6) (as := []) (S := []) at_235 (hw _ m_64) (hw _ m_65) (hw _ m_67) (hw _ m_66) (hw _ m_68) (hw _ m_2) hy6 rfl (CS.frame (ro := 1) (H := ([cI a] ++ Hb 1 s0)) (as := [.ref 1]) fr1_f (ok6 l Z a0 hw n s0 _ hc23) rfl (by decide) (fr1_l a s0) (fr1_c a s0) (by decide) rfl) rfl (lenOf pd6 rfl) (leb rfl) (leb rfl) (leb rfl) (leb rfl) ?_
      rintro _ _ ⟨_, _, ⟨rfl, rfl⟩, rfl, rfl⟩
      rw [fr1_p a s0 c23]
      show WLAW l Z n0 (PLAW r) 4 336 238 [.val (.ref 0), .val (.ref 1), .val (.int v2), .val (.int v3), .val (.int v4), .val (.int v5), .val (.int v6), .val (.int v7), .val (.int v8), .val (.int v9), .val (.int v10), .unset, .unset] [] ([cI a] ++ Hb 1 c23)
      refine WP.goto (pc' := 452) at_238 (by decide) rfl ?_
      exact WP.weak (L' := [.val (.ref 0), .val (.ref 1), .val (.int v2), .val (.int v3), .val (.int v4), .val (.int v5), .val (.int v6), .unset, .unset, .unset, .unset, .unset, .unset]) ⟨rfl, rfl, rfl, rfl, rfl, rfl, rfl, trivial⟩ (okLAW_452 l Z a0 hw n0 _ hk96 n v2 v3 v4 v5 v6 a c23 _ h)
  ·
    refine WP.icmpN at_216 (XT.ii_gt_f hc1) ?_
    refine WP.aloadN at_219 rfl ?_
    refine WP.iload at_220 rfl ?_
    obtain ⟨c24, hc24, h⟩ := Option.bind_eq_some_iff.mp h
    refine WP.callV (i := 1) (y := y5) (as := [.int v8]) (S := []) at_222 (hw _ m_59) (hw _ m_60) (hw _ m_62) (hw _ m_61) (hw _ m_63) (hw _ m_2) hy5 rfl (CS.frame (ro := 1) (H := ([cI a] ++ Hb 1 s0)) (as := [.ref 1, .int v8]) fr1_f (ok5 l Z a0 hw v8 s0 _ hc24) rfl (by decide) (fr1_l a s0) (fr1_c a s0) (by decide) rfl) rfl (lenOf pd5 rfl) (leb rfl) (leb rfl) (leb rfl) (leb rfl) ?_
    rintro _ _ ⟨_, _, ⟨rfl, rfl⟩, rfl, rfl⟩
    rw [fr1_p a s0 c24]
    show WLAW l Z n0 (PLAW r) 4 336 225 [.val (.ref 0), .val (.ref 1), .val (.int v2), .val (.int v3), .val (.int v4), .val (.int v5), .val (.int v6), .val (.int v7), .val (.int v8), .val (.int v9), .val (.int v10), .unset, .unset] [] ([cI a] ++ Hb 1 c24)
    refine WP.goto (pc' := 452) at_225 (by decide) rfl ?_
    exact WP.weak (L' := [.val (.ref 0), .val (.ref 1), .val (.int v2), .val (.int v3), .val (.int v4), .val (.int v5), .val (.int v6), .unset, .unset, .unset, .unset, .unset, .unset]) ⟨rfl, rfl, rfl, rfl, rfl, rfl, rfl, trivial⟩ (okLAW_452 l Z a0 hw n0 _ hk96 n v2 v3 v4 v5 v6 a c24 _ h)
def f_law_142 (k96 : Int32 → Int32 → Int32 → Int32 → Int32 → List Int32 → St → Option (Int32)) (n : Nat) (v2 : Int32) (v3 : Int32) (v4 : Int32) (v5 : Int32) (v6 : Int32) (t0 : Int32) (a : List Int32) (s0 : St) : Option (Int32) :=
  (f_L_cell (3 : Int32) a).bind fun c1 =>
  f_law_213 k96 n v2 v3 v4 v5 v6 t0 c1 c1 c1 a s0
set_option maxRecDepth 65536 in
set_option maxHeartbeats 4000000 in
theorem okLAW_142 (l : Launch) (Z : State) (a0 : Array Value) (hw : HW a0 Z) (n0 : Nat) (k96 : Int32 → Int32 → Int32 → Int32 → Int32 → List Int32 → St → Option (Int32)) (hk96 : ∀ (v2 : Int32) (v3 : Int32) (v4 : Int32) (v5 : Int32) (v6 : Int32) (a : List Int32) (s0 : St) (r : Int32), k96 v2 v3 v4 v5 v6 a s0 = some r → WLAW l Z n0 (PLAW r) 4 336 96 [.val (.ref 0), .val (.ref 1), .val (.int v2), .val (.int v3), .val (.int v4), .val (.int v5), .val (.int v6), .unset, .unset, .unset, .unset, .unset, .unset] [] ([cI a] ++ Hb 1 s0)) (n : Nat) (v2 : Int32) (v3 : Int32) (v4 : Int32) (v5 : Int32) (v6 : Int32) (t0 : Int32) (a : List Int32) (s0 : St) (r : Int32) (h : f_law_142 k96 n v2 v3 v4 v5 v6 t0 a s0 = some r) : WLAW l Z n0 (PLAW r) 4 336 142 [.val (.ref 0), .val (.ref 1), .val (.int v2), .val (.int v3), .val (.int v4), .val (.int v5), .val (.int v6), .unset, .unset, .unset, .unset, .unset, .unset] [.int t0] ([cI a] ++ Hb 1 s0) := by
  unfold f_law_142 at h
  refine WP.istore (L' := [.val (.ref 0), .val (.ref 1), .val (.int v2), .val (.int v3), .val (.int v4), .val (.int v5), .val (.int v6), .val (.int t0), .unset, .unset, .unset, .unset, .unset]) at_142 (leb rfl) rfl ?_
  refine WP.aloadN at_144 rfl ?_
  refine WP.iconst (3 : Int32) at_145 rfl ?_
  obtain ⟨c1, hc1, h⟩ := Option.bind_eq_some_iff.mp h
  refine WP.callS (y := y0) (as := [.ref 0, .int (3 : Int32)]) (S := []) at_146 (hw _ m_3) (hw _ m_4) (hw _ m_5) (hw _ m_6) hy0 (CS.frame (ro := 1) (H := ([cI a] ++ Hb 1 s0)) (as := [.ref 0, .int (3 : Int32)]) fr0_f (ok0 l Z a0 hw (3 : Int32) a _ hc1) rfl (by decide) (fr0_l a s0) (fr0_c a s0) (by decide) rfl) rfl (lenOf pd0 rfl) (leb rfl) (leb rfl) (leb rfl) (leb rfl) ?_
  rintro _ _ ⟨_, _, ⟨rfl, rfl⟩, rfl, rfl⟩
  rw [fr0_p a s0]
  show WLAW l Z n0 (PLAW r) 4 336 149 [.val (.ref 0), .val (.ref 1), .val (.int v2), .val (.int v3), .val (.int v4), .val (.int v5), .val (.int v6), .val (.int t0), .unset, .unset, .unset, .unset, .unset] [.int c1] ([cI a] ++ Hb 1 s0)
  refine WP.istore (L' := [.val (.ref 0), .val (.ref 1), .val (.int v2), .val (.int v3), .val (.int v4), .val (.int v5), .val (.int v6), .val (.int t0), .val (.int c1), .unset, .unset, .unset, .unset]) at_149 (leb rfl) rfl ?_
  refine WP.iload at_151 rfl ?_
  refine WP.istore (L' := [.val (.ref 0), .val (.ref 1), .val (.int v2), .val (.int v3), .val (.int v4), .val (.int v5), .val (.int v6), .val (.int t0), .val (.int c1), .val (.int c1), .unset, .unset, .unset]) at_153 (leb rfl) rfl ?_
  refine WP.iload at_155 rfl ?_
  refine WP.istore (L' := [.val (.ref 0), .val (.ref 1), .val (.int v2), .val (.int v3), .val (.int v4), .val (.int v5), .val (.int v6), .val (.int t0), .val (.int c1), .val (.int c1), .val (.int c1), .unset, .unset]) at_157 (leb rfl) rfl ?_
  refine WP.goto (pc' := 213) at_159 (by decide) rfl ?_
  exact WP.weak (L' := [.val (.ref 0), .val (.ref 1), .val (.int v2), .val (.int v3), .val (.int v4), .val (.int v5), .val (.int v6), .val (.int t0), .val (.int c1), .val (.int c1), .val (.int c1), .unset, .unset]) ⟨rfl, rfl, rfl, rfl, rfl, rfl, rfl, rfl, rfl, rfl, rfl, trivial⟩ (okLAW_213 l Z a0 hw n0 _ hk96 n v2 v3 v4 v5 v6 t0 c1 c1 c1 a s0 _ h)
def g_law_96 (k96 : Int32 → Int32 → Int32 → Int32 → Int32 → List Int32 → St → Option (Int32)) (n : Nat) (v2 : Int32) (v3 : Int32) (v4 : Int32) (v5 : Int32) (v6 : Int32) (a : List Int32) (s0 : St) : Option (Int32) :=
  if v6 < ((4 : Int32) + v5) then
    if v6 < (4 : Int32) then
      if v6 = 0 then
        f_law_142 k96 n v2 v3 v4 v5 v6 (0 : Int32) a s0
      else
        if v6 = (1 : Int32) then
          f_law_142 k96 n v2 v3 v4 v5 v6 (2 : Int32) a s0
        else
          if v6 = (2 : Int32) then
            f_law_142 k96 n v2 v3 v4 v5 v6 (4 : Int32) a s0
          else
            f_law_142 k96 n v2 v3 v4 v5 v6 (7 : Int32) a s0
    else
      lt ((4 : Int32) + ((4 : Int32) * (v6 - (4 : Int32)))) fun x6 =>
      (f_L_cell x6 a).bind fun c7 =>
      lt (c7 &&& (15 : Int32)) fun x8 =>
      (f_L_cell (x6 + (1 : Int32)) a).bind fun c9 =>
      (f_L_cell (x6 + (2 : Int32)) a).bind fun c10 =>
      (f_L_cell (x6 + (3 : Int32)) a).bind fun c11 =>
      f_law_213 k96 n v2 v3 v4 v5 v6 x8 c9 c10 c11 a s0
  else
    some (1 : Int32)
set_option maxRecDepth 65536 in
set_option maxHeartbeats 4000000 in
theorem okgLAW_96 (l : Launch) (Z : State) (a0 : Array Value) (hw : HW a0 Z) (n0 : Nat) (k96 : Int32 → Int32 → Int32 → Int32 → Int32 → List Int32 → St → Option (Int32)) (hk96 : ∀ (v2 : Int32) (v3 : Int32) (v4 : Int32) (v5 : Int32) (v6 : Int32) (a : List Int32) (s0 : St) (r : Int32), k96 v2 v3 v4 v5 v6 a s0 = some r → WLAW l Z n0 (PLAW r) 4 336 96 [.val (.ref 0), .val (.ref 1), .val (.int v2), .val (.int v3), .val (.int v4), .val (.int v5), .val (.int v6), .unset, .unset, .unset, .unset, .unset, .unset] [] ([cI a] ++ Hb 1 s0)) (n : Nat) (v2 : Int32) (v3 : Int32) (v4 : Int32) (v5 : Int32) (v6 : Int32) (a : List Int32) (s0 : St) (r : Int32) (h : g_law_96 k96 n v2 v3 v4 v5 v6 a s0 = some r) : WLAW l Z n0 (PLAW r) 4 336 96 [.val (.ref 0), .val (.ref 1), .val (.int v2), .val (.int v3), .val (.int v4), .val (.int v5), .val (.int v6), .unset, .unset, .unset, .unset, .unset, .unset] [] ([cI a] ++ Hb 1 s0) := by
  unfold g_law_96 at h
  refine WP.iload at_96 rfl ?_
  refine WP.iconst (4 : Int32) at_98 rfl ?_
  refine WP.iload at_99 rfl ?_
  refine WP.iadd at_101 ?_
  rcases ite_e h with ⟨hc1, h⟩ | ⟨hc1, h⟩
  ·
    refine WP.icmpN at_102 (XT.ii_ge_f hc1) ?_
    refine WP.iload at_105 rfl ?_
    refine WP.iconst (4 : Int32) at_107 rfl ?_
    rcases ite_e h with ⟨hc2, h⟩ | ⟨hc2, h⟩
    ·
      refine WP.icmpN at_108 (XT.ii_ge_f hc2) ?_
      refine WP.iload at_111 rfl ?_
      rcases ite_e h with ⟨hc3, h⟩ | ⟨hc3, h⟩
      ·
        refine WP.ifN at_113 (XT.i0_ne_f hc3) ?_
        refine WP.iconst (0 : Int32) at_116 rfl ?_
        refine WP.goto (pc' := 142) at_117 (by decide) rfl ?_
        exact WP.weak (L' := [.val (.ref 0), .val (.ref 1), .val (.int v2), .val (.int v3), .val (.int v4), .val (.int v5), .val (.int v6), .unset, .unset, .unset, .unset, .unset, .unset]) ⟨rfl, rfl, rfl, rfl, rfl, rfl, rfl, trivial⟩ (okLAW_142 l Z a0 hw n0 _ hk96 n v2 v3 v4 v5 v6 (0 : Int32) a s0 _ h)
      ·
        refine WP.ifY (pc' := 120) at_113 (XT.i0_ne_t hc3) (by decide) rfl ?_
        refine WP.iload at_120 rfl ?_
        refine WP.iconst (1 : Int32) at_122 rfl ?_
        rcases ite_e h with ⟨hc4, h⟩ | ⟨hc4, h⟩
        ·
          refine WP.icmpN at_123 (XT.ii_ne_f hc4) ?_
          refine WP.iconst (2 : Int32) at_126 rfl ?_
          refine WP.goto (pc' := 142) at_127 (by decide) rfl ?_
          exact WP.weak (L' := [.val (.ref 0), .val (.ref 1), .val (.int v2), .val (.int v3), .val (.int v4), .val (.int v5), .val (.int v6), .unset, .unset, .unset, .unset, .unset, .unset]) ⟨rfl, rfl, rfl, rfl, rfl, rfl, rfl, trivial⟩ (okLAW_142 l Z a0 hw n0 _ hk96 n v2 v3 v4 v5 v6 (2 : Int32) a s0 _ h)
        ·
          refine WP.icmpY (pc' := 130) at_123 (XT.ii_ne_t hc4) (by decide) rfl ?_
          refine WP.iload at_130 rfl ?_
          refine WP.iconst (2 : Int32) at_132 rfl ?_
          rcases ite_e h with ⟨hc5, h⟩ | ⟨hc5, h⟩
          ·
            refine WP.icmpN at_133 (XT.ii_ne_f hc5) ?_
            refine WP.iconst (4 : Int32) at_136 rfl ?_
            refine WP.goto (pc' := 142) at_137 (by decide) rfl ?_
            exact WP.weak (L' := [.val (.ref 0), .val (.ref 1), .val (.int v2), .val (.int v3), .val (.int v4), .val (.int v5), .val (.int v6), .unset, .unset, .unset, .unset, .unset, .unset]) ⟨rfl, rfl, rfl, rfl, rfl, rfl, rfl, trivial⟩ (okLAW_142 l Z a0 hw n0 _ hk96 n v2 v3 v4 v5 v6 (4 : Int32) a s0 _ h)
          ·
            refine WP.icmpY (pc' := 140) at_133 (XT.ii_ne_t hc5) (by decide) rfl ?_
            refine WP.bipush (7 : Int32) at_140 rfl ?_
            exact WP.weak (L' := [.val (.ref 0), .val (.ref 1), .val (.int v2), .val (.int v3), .val (.int v4), .val (.int v5), .val (.int v6), .unset, .unset, .unset, .unset, .unset, .unset]) ⟨rfl, rfl, rfl, rfl, rfl, rfl, rfl, trivial⟩ (okLAW_142 l Z a0 hw n0 _ hk96 n v2 v3 v4 v5 v6 (7 : Int32) a s0 _ h)
    ·
      refine WP.icmpY (pc' := 162) at_108 (XT.ii_ge_t hc2) (by decide) rfl ?_
      refine WP.iconst (4 : Int32) at_162 rfl ?_
      refine WP.iconst (4 : Int32) at_163 rfl ?_
      refine WP.iload at_164 rfl ?_
      refine WP.iconst (4 : Int32) at_166 rfl ?_
      refine WP.isub at_167 ?_
      refine WP.imul at_168 ?_
      refine WP.iadd at_169 ?_
      obtain ⟨x6, ex6, h⟩ := lt_e h
      refine WP.istore (L' := [.val (.ref 0), .val (.ref 1), .val (.int v2), .val (.int v3), .val (.int v4), .val (.int v5), .val (.int v6), .unset, .unset, .unset, .unset, .val (.int x6), .unset]) at_170 (leb rfl) (by subst ex6; rfl) ?_
      refine WP.aloadN at_172 rfl ?_
      refine WP.iload at_173 rfl ?_
      obtain ⟨c7, hc7, h⟩ := Option.bind_eq_some_iff.mp h
      refine WP.callS (y := y0) (as := [.ref 0, .int x6]) (S := []) at_175 (hw _ m_3) (hw _ m_4) (hw _ m_5) (hw _ m_6) hy0 (CS.frame (ro := 1) (H := ([cI a] ++ Hb 1 s0)) (as := [.ref 0, .int x6]) fr0_f (ok0 l Z a0 hw x6 a _ hc7) rfl (by decide) (fr0_l a s0) (fr0_c a s0) (by decide) rfl) rfl (lenOf pd0 rfl) (leb rfl) (leb rfl) (leb rfl) (leb rfl) ?_
      rintro _ _ ⟨_, _, ⟨rfl, rfl⟩, rfl, rfl⟩
      rw [fr0_p a s0]
      show WLAW l Z n0 (PLAW r) 4 336 178 [.val (.ref 0), .val (.ref 1), .val (.int v2), .val (.int v3), .val (.int v4), .val (.int v5), .val (.int v6), .unset, .unset, .unset, .unset, .val (.int x6), .unset] [.int c7] ([cI a] ++ Hb 1 s0)
      refine WP.bipush (15 : Int32) at_178 rfl ?_
      refine WP.iand at_180 ?_
      obtain ⟨x8, ex8, h⟩ := lt_e h
      refine WP.istore (L' := [.val (.ref 0), .val (.ref 1), .val (.int v2), .val (.int v3), .val (.int v4), .val (.int v5), .val (.int v6), .val (.int x8), .unset, .unset, .unset, .val (.int x6), .unset]) at_181 (leb rfl) (by subst ex8; rfl) ?_
      refine WP.aloadN at_183 rfl ?_
      refine WP.iload at_184 rfl ?_
      refine WP.iconst (1 : Int32) at_186 rfl ?_
      refine WP.iadd at_187 ?_
      obtain ⟨c9, hc9, h⟩ := Option.bind_eq_some_iff.mp h
      refine WP.callS (y := y0) (as := [.ref 0, .int (x6 + (1 : Int32))]) (S := []) at_188 (hw _ m_3) (hw _ m_4) (hw _ m_5) (hw _ m_6) hy0 (CS.frame (ro := 1) (H := ([cI a] ++ Hb 1 s0)) (as := [.ref 0, .int (x6 + (1 : Int32))]) fr0_f (ok0 l Z a0 hw (x6 + (1 : Int32)) a _ hc9) rfl (by decide) (fr0_l a s0) (fr0_c a s0) (by decide) rfl) rfl (lenOf pd0 rfl) (leb rfl) (leb rfl) (leb rfl) (leb rfl) ?_
      rintro _ _ ⟨_, _, ⟨rfl, rfl⟩, rfl, rfl⟩
      rw [fr0_p a s0]
      show WLAW l Z n0 (PLAW r) 4 336 191 [.val (.ref 0), .val (.ref 1), .val (.int v2), .val (.int v3), .val (.int v4), .val (.int v5), .val (.int v6), .val (.int x8), .unset, .unset, .unset, .val (.int x6), .unset] [.int c9] ([cI a] ++ Hb 1 s0)
      refine WP.istore (L' := [.val (.ref 0), .val (.ref 1), .val (.int v2), .val (.int v3), .val (.int v4), .val (.int v5), .val (.int v6), .val (.int x8), .val (.int c9), .unset, .unset, .val (.int x6), .unset]) at_191 (leb rfl) rfl ?_
      refine WP.aloadN at_193 rfl ?_
      refine WP.iload at_194 rfl ?_
      refine WP.iconst (2 : Int32) at_196 rfl ?_
      refine WP.iadd at_197 ?_
      obtain ⟨c10, hc10, h⟩ := Option.bind_eq_some_iff.mp h
      refine WP.callS (y := y0) (as := [.ref 0, .int (x6 + (2 : Int32))]) (S := []) at_198 (hw _ m_3) (hw _ m_4) (hw _ m_5) (hw _ m_6) hy0 (CS.frame (ro := 1) (H := ([cI a] ++ Hb 1 s0)) (as := [.ref 0, .int (x6 + (2 : Int32))]) fr0_f (ok0 l Z a0 hw (x6 + (2 : Int32)) a _ hc10) rfl (by decide) (fr0_l a s0) (fr0_c a s0) (by decide) rfl) rfl (lenOf pd0 rfl) (leb rfl) (leb rfl) (leb rfl) (leb rfl) ?_
      rintro _ _ ⟨_, _, ⟨rfl, rfl⟩, rfl, rfl⟩
      rw [fr0_p a s0]
      show WLAW l Z n0 (PLAW r) 4 336 201 [.val (.ref 0), .val (.ref 1), .val (.int v2), .val (.int v3), .val (.int v4), .val (.int v5), .val (.int v6), .val (.int x8), .val (.int c9), .unset, .unset, .val (.int x6), .unset] [.int c10] ([cI a] ++ Hb 1 s0)
      refine WP.istore (L' := [.val (.ref 0), .val (.ref 1), .val (.int v2), .val (.int v3), .val (.int v4), .val (.int v5), .val (.int v6), .val (.int x8), .val (.int c9), .val (.int c10), .unset, .val (.int x6), .unset]) at_201 (leb rfl) rfl ?_
      refine WP.aloadN at_203 rfl ?_
      refine WP.iload at_204 rfl ?_
      refine WP.iconst (3 : Int32) at_206 rfl ?_
      refine WP.iadd at_207 ?_
      obtain ⟨c11, hc11, h⟩ := Option.bind_eq_some_iff.mp h
      refine WP.callS (y := y0) (as := [.ref 0, .int (x6 + (3 : Int32))]) (S := []) at_208 (hw _ m_3) (hw _ m_4) (hw _ m_5) (hw _ m_6) hy0 (CS.frame (ro := 1) (H := ([cI a] ++ Hb 1 s0)) (as := [.ref 0, .int (x6 + (3 : Int32))]) fr0_f (ok0 l Z a0 hw (x6 + (3 : Int32)) a _ hc11) rfl (by decide) (fr0_l a s0) (fr0_c a s0) (by decide) rfl) rfl (lenOf pd0 rfl) (leb rfl) (leb rfl) (leb rfl) (leb rfl) ?_
      rintro _ _ ⟨_, _, ⟨rfl, rfl⟩, rfl, rfl⟩
      rw [fr0_p a s0]
      show WLAW l Z n0 (PLAW r) 4 336 211 [.val (.ref 0), .val (.ref 1), .val (.int v2), .val (.int v3), .val (.int v4), .val (.int v5), .val (.int v6), .val (.int x8), .val (.int c9), .val (.int c10), .unset, .val (.int x6), .unset] [.int c11] ([cI a] ++ Hb 1 s0)
      refine WP.istore (L' := [.val (.ref 0), .val (.ref 1), .val (.int v2), .val (.int v3), .val (.int v4), .val (.int v5), .val (.int v6), .val (.int x8), .val (.int c9), .val (.int c10), .val (.int c11), .val (.int x6), .unset]) at_211 (leb rfl) rfl ?_
      exact WP.weak (L' := [.val (.ref 0), .val (.ref 1), .val (.int v2), .val (.int v3), .val (.int v4), .val (.int v5), .val (.int v6), .val (.int x8), .val (.int c9), .val (.int c10), .val (.int c11), .unset, .unset]) ⟨rfl, rfl, rfl, rfl, rfl, rfl, rfl, rfl, rfl, rfl, rfl, trivial⟩ (okLAW_213 l Z a0 hw n0 _ hk96 n v2 v3 v4 v5 v6 x8 c9 c10 c11 a s0 _ h)
  ·
    refine WP.icmpY (pc' := 458) at_102 (XT.ii_ge_t hc1) (by decide) rfl ?_
    refine WP.iconst (1 : Int32) at_458 rfl ?_
    cases h
    exact WP.zreturn at_459 rfl (leb rfl) (leb rfl) rfl
def f_law_96 : Nat → Int32 → Int32 → Int32 → Int32 → Int32 → List Int32 → St → Option (Int32)
  | 0 => fun _ _ _ _ _ _ _ => none
  | n + 1 => g_law_96 (f_law_96 n) n
theorem okLAW_96 (l : Launch) (Z : State) (a0 : Array Value) (hw : HW a0 Z) (n0 : Nat) : ∀ (n : Nat) (v2 : Int32) (v3 : Int32) (v4 : Int32) (v5 : Int32) (v6 : Int32) (a : List Int32) (s0 : St) (r : Int32), f_law_96 n v2 v3 v4 v5 v6 a s0 = some r → WLAW l Z n0 (PLAW r) 4 336 96 [.val (.ref 0), .val (.ref 1), .val (.int v2), .val (.int v3), .val (.int v4), .val (.int v5), .val (.int v6), .unset, .unset, .unset, .unset, .unset, .unset] [] ([cI a] ++ Hb 1 s0)
  | 0, v2, v3, v4, v5, v6, a, s0, r, h => nomatch (show none = some r from h)
  | n + 1, v2, v3, v4, v5, v6, a, s0, r, h => okgLAW_96 l Z a0 hw n0 _ (okLAW_96 l Z a0 hw n0 n) n v2 v3 v4 v5 v6 a s0 r h
def f_law_91 (n : Nat) (v2 : Int32) (v3 : Int32) (v4 : Int32) (t0 : Int32) (a : List Int32) (s0 : St) : Option (Int32) :=
  f_law_96 n v2 v3 v4 t0 (0 : Int32) a s0
set_option maxRecDepth 65536 in
set_option maxHeartbeats 4000000 in
theorem okLAW_91 (l : Launch) (Z : State) (a0 : Array Value) (hw : HW a0 Z) (n0 : Nat) (n : Nat) (v2 : Int32) (v3 : Int32) (v4 : Int32) (t0 : Int32) (a : List Int32) (s0 : St) (r : Int32) (h : f_law_91 n v2 v3 v4 t0 a s0 = some r) : WLAW l Z n0 (PLAW r) 4 336 91 [.val (.ref 0), .val (.ref 1), .val (.int v2), .val (.int v3), .val (.int v4), .unset, .unset, .unset, .unset, .unset, .unset, .unset, .unset] [.int t0] ([cI a] ++ Hb 1 s0) := by
  unfold f_law_91 at h
  refine WP.istore (L' := [.val (.ref 0), .val (.ref 1), .val (.int v2), .val (.int v3), .val (.int v4), .val (.int t0), .unset, .unset, .unset, .unset, .unset, .unset, .unset]) at_91 (leb rfl) rfl ?_
  refine WP.iconst (0 : Int32) at_93 rfl ?_
  refine WP.istore (L' := [.val (.ref 0), .val (.ref 1), .val (.int v2), .val (.int v3), .val (.int v4), .val (.int t0), .val (.int (0 : Int32)), .unset, .unset, .unset, .unset, .unset, .unset]) at_94 (leb rfl) rfl ?_
  exact WP.weak (L' := [.val (.ref 0), .val (.ref 1), .val (.int v2), .val (.int v3), .val (.int v4), .val (.int t0), .val (.int (0 : Int32)), .unset, .unset, .unset, .unset, .unset, .unset]) ⟨rfl, rfl, rfl, rfl, rfl, rfl, rfl, trivial⟩ (okLAW_96 l Z a0 hw n0 n v2 v3 v4 t0 (0 : Int32) a s0 _ h)
def f_law (n : Nat) (a : List Int32) : Option (Int32) :=
  (f_L_cell (0 : Int32) a).bind fun c1 =>
  (f_L_cell (1 : Int32) a).bind fun c2 =>
  (f_L_cell (2 : Int32) a).bind fun c3 =>
  (f_init n ((1 : Int32) - (c1 &&& (3 : Int32))) ((7 : Int32) + (c2 &&& (7 : Int32))) ((4 : Int32) + (c3 &&& (7 : Int32)))).bind fun c4 =>
  (f_param (0 : Int32) c4).bind fun c5 =>
  if c5 = (1 : Int32) then
    (f_param (1 : Int32) c4).bind fun c7 =>
    if c7 < (7 : Int32) then
      f_law_66 n a c4
    else
      (f_param (2 : Int32) c4).bind fun c9 =>
      if c9 < (4 : Int32) then
        f_law_66 n a c4
      else
        if (4 : Int32) < a.length.toInt32 then
          f_law_91 n (0 : Int32) (0 : Int32) (0 : Int32) ((a.length.toInt32 - (1 : Int32)) / (4 : Int32)) a c4
        else
          f_law_91 n (0 : Int32) (0 : Int32) (0 : Int32) (0 : Int32) a c4
  else
    f_law_66 n a c4
set_option maxRecDepth 65536 in
set_option maxHeartbeats 4000000 in
theorem okLAW (l : Launch) (Z : State) (a0 : Array Value) (hw : HW a0 Z) (n : Nat) (a : List Int32) (r : Int32) (h : f_law n a = some r) : CS l Z CN lay x code maxLocals ret room_1 1 [.ref 0] ([cI a]) (PLAW r) := by
  refine CS.of_wp pn_law (leb rfl) fun n0 => ?_
  show WLAW l Z n0 (PLAW r) 0 0 0 [.val (.ref 0), .unset, .unset, .unset, .unset, .unset, .unset, .unset, .unset, .unset, .unset, .unset, .unset] [] ([cI a])
  unfold f_law at h
  refine WP.new (vs := vs0) at_0 (hw _ m_0) (hw _ m_1) (hw _ m_2) (leb rfl) (leb rfl) (vs0_ok hw) ?_
  show WLAW l Z n0 (PLAW r) 1 16 3 [.val (.ref 0), .unset, .unset, .unset, .unset, .unset, .unset, .unset, .unset, .unset, .unset, .unset, .unset] [.ref 1] ([cI a] ++ [cO vs0])
  refine WP.dup at_3 rfl ?_
  refine WP.iconst (1 : Int32) at_4 rfl ?_
  refine WP.aloadN at_5 rfl ?_
  refine WP.iconst (0 : Int32) at_6 rfl ?_
  obtain ⟨c1, hc1, h⟩ := Option.bind_eq_some_iff.mp h
  refine WP.callS (y := y0) (as := [.ref 0, .int (0 : Int32)]) (S := [.int (1 : Int32), .ref 1, .ref 1]) at_7 (hw _ m_3) (hw _ m_4) (hw _ m_5) (hw _ m_6) hy0 (CS.frame (ro := 1) (H := ([cI a] ++ [cO vs0])) (as := [.ref 0, .int (0 : Int32)]) fr2_f (ok0 l Z a0 hw (0 : Int32) a _ hc1) rfl (by decide) (fr2_l a) (fr2_c a) (by decide) rfl) rfl (lenOf pd0 rfl) (leb rfl) (leb rfl) (leb rfl) (leb rfl) ?_
  rintro _ _ ⟨_, _, ⟨rfl, rfl⟩, rfl, rfl⟩
  rw [fr2_p a]
  show WLAW l Z n0 (PLAW r) 1 16 10 [.val (.ref 0), .unset, .unset, .unset, .unset, .unset, .unset, .unset, .unset, .unset, .unset, .unset, .unset] [.int c1, .int (1 : Int32), .ref 1, .ref 1] ([cI a] ++ [cO vs0])
  refine WP.iconst (3 : Int32) at_10 rfl ?_
  refine WP.iand at_11 ?_
  refine WP.isub at_12 ?_
  refine WP.bipush (7 : Int32) at_13 rfl ?_
  refine WP.aloadN at_15 rfl ?_
  refine WP.iconst (1 : Int32) at_16 rfl ?_
  obtain ⟨c2, hc2, h⟩ := Option.bind_eq_some_iff.mp h
  refine WP.callS (y := y0) (as := [.ref 0, .int (1 : Int32)]) (S := [.int (7 : Int32), .int ((1 : Int32) - (c1 &&& (3 : Int32))), .ref 1, .ref 1]) at_17 (hw _ m_3) (hw _ m_4) (hw _ m_5) (hw _ m_6) hy0 (CS.frame (ro := 1) (H := ([cI a] ++ [cO vs0])) (as := [.ref 0, .int (1 : Int32)]) fr2_f (ok0 l Z a0 hw (1 : Int32) a _ hc2) rfl (by decide) (fr2_l a) (fr2_c a) (by decide) rfl) rfl (lenOf pd0 rfl) (leb rfl) (leb rfl) (leb rfl) (leb rfl) ?_
  rintro _ _ ⟨_, _, ⟨rfl, rfl⟩, rfl, rfl⟩
  rw [fr2_p a]
  show WLAW l Z n0 (PLAW r) 1 16 20 [.val (.ref 0), .unset, .unset, .unset, .unset, .unset, .unset, .unset, .unset, .unset, .unset, .unset, .unset] [.int c2, .int (7 : Int32), .int ((1 : Int32) - (c1 &&& (3 : Int32))), .ref 1, .ref 1] ([cI a] ++ [cO vs0])
  refine WP.bipush (7 : Int32) at_20 rfl ?_
  refine WP.iand at_22 ?_
  refine WP.iadd at_23 ?_
  refine WP.iconst (4 : Int32) at_24 rfl ?_
  refine WP.aloadN at_25 rfl ?_
  refine WP.iconst (2 : Int32) at_26 rfl ?_
  obtain ⟨c3, hc3, h⟩ := Option.bind_eq_some_iff.mp h
  refine WP.callS (y := y0) (as := [.ref 0, .int (2 : Int32)]) (S := [.int (4 : Int32), .int ((7 : Int32) + (c2 &&& (7 : Int32))), .int ((1 : Int32) - (c1 &&& (3 : Int32))), .ref 1, .ref 1]) at_27 (hw _ m_3) (hw _ m_4) (hw _ m_5) (hw _ m_6) hy0 (CS.frame (ro := 1) (H := ([cI a] ++ [cO vs0])) (as := [.ref 0, .int (2 : Int32)]) fr2_f (ok0 l Z a0 hw (2 : Int32) a _ hc3) rfl (by decide) (fr2_l a) (fr2_c a) (by decide) rfl) rfl (lenOf pd0 rfl) (leb rfl) (leb rfl) (leb rfl) (leb rfl) ?_
  rintro _ _ ⟨_, _, ⟨rfl, rfl⟩, rfl, rfl⟩
  rw [fr2_p a]
  show WLAW l Z n0 (PLAW r) 1 16 30 [.val (.ref 0), .unset, .unset, .unset, .unset, .unset, .unset, .unset, .unset, .unset, .unset, .unset, .unset] [.int c3, .int (4 : Int32), .int ((7 : Int32) + (c2 &&& (7 : Int32))), .int ((1 : Int32) - (c1 &&& (3 : Int32))), .ref 1, .ref 1] ([cI a] ++ [cO vs0])
  refine WP.bipush (7 : Int32) at_30 rfl ?_
  refine WP.iand at_32 ?_
  refine WP.iadd at_33 ?_
  obtain ⟨c4, hc4, h⟩ := Option.bind_eq_some_iff.mp h
  refine WP.callI (i := 1) (y := y1) (as := [.int ((1 : Int32) - (c1 &&& (3 : Int32))), .int ((7 : Int32) + (c2 &&& (7 : Int32))), .int ((4 : Int32) + (c3 &&& (7 : Int32)))]) (S := [.ref 1]) at_34 rfl (hw _ m_7) (hw _ m_8) (hw _ m_9) (hw _ m_2) hy1 (CS.frame (ro := 1) (H := ([cI a] ++ [cO vs0])) (as := [.ref 1, .int ((1 : Int32) - (c1 &&& (3 : Int32))), .int ((7 : Int32) + (c2 &&& (7 : Int32))), .int ((4 : Int32) + (c3 &&& (7 : Int32)))]) fr3_f (ok1 l Z a0 hw n ((1 : Int32) - (c1 &&& (3 : Int32))) ((7 : Int32) + (c2 &&& (7 : Int32))) ((4 : Int32) + (c3 &&& (7 : Int32))) _ hc4) rfl (by decide) (fr3_l a) (fr3_c a) (by decide) rfl) rfl (lenOf pd1 rfl) (leb rfl) (leb rfl) (leb rfl) (leb rfl) ?_
  rintro _ _ ⟨_, _, ⟨rfl, rfl⟩, rfl, rfl⟩
  rw [fr3_p a c4]
  show WLAW l Z n0 (PLAW r) 4 336 37 [.val (.ref 0), .unset, .unset, .unset, .unset, .unset, .unset, .unset, .unset, .unset, .unset, .unset, .unset] [.ref 1] ([cI a] ++ Hb 1 c4)
  refine WP.astoreN (L' := [.val (.ref 0), .val (.ref 1), .unset, .unset, .unset, .unset, .unset, .unset, .unset, .unset, .unset, .unset, .unset]) at_37 (leb rfl) rfl ?_
  refine WP.aloadN at_38 rfl ?_
  refine WP.iconst (0 : Int32) at_39 rfl ?_
  obtain ⟨c5, hc5, h⟩ := Option.bind_eq_some_iff.mp h
  refine WP.callV (i := 1) (y := y4) (as := [.int (0 : Int32)]) (S := []) at_40 (hw _ m_54) (hw _ m_55) (hw _ m_57) (hw _ m_56) (hw _ m_58) (hw _ m_2) hy4 rfl (CS.frame (ro := 1) (H := ([cI a] ++ Hb 1 c4)) (as := [.ref 1, .int (0 : Int32)]) fr1_f (ok4 l Z a0 hw (0 : Int32) c4 _ hc5) rfl (by decide) (fr1_l a c4) (fr1_c a c4) (by decide) rfl) rfl (lenOf pd4 rfl) (leb rfl) (leb rfl) (leb rfl) (leb rfl) ?_
  rintro _ _ ⟨_, _, ⟨rfl, rfl⟩, rfl, rfl⟩
  rw [fr1_p a c4 c4]
  show WLAW l Z n0 (PLAW r) 4 336 43 [.val (.ref 0), .val (.ref 1), .unset, .unset, .unset, .unset, .unset, .unset, .unset, .unset, .unset, .unset, .unset] [.int c5] ([cI a] ++ Hb 1 c4)
  refine WP.iconst (1 : Int32) at_43 rfl ?_
  rcases ite_e h with ⟨hc6, h⟩ | ⟨hc6, h⟩
  ·
    refine WP.icmpN at_44 (XT.ii_ne_f hc6) ?_
    refine WP.aloadN at_47 rfl ?_
    refine WP.iconst (1 : Int32) at_48 rfl ?_
    obtain ⟨c7, hc7, h⟩ := Option.bind_eq_some_iff.mp h
    refine WP.callV (i := 1) (y := y4) (as := [.int (1 : Int32)]) (S := []) at_49 (hw _ m_54) (hw _ m_55) (hw _ m_57) (hw _ m_56) (hw _ m_58) (hw _ m_2) hy4 rfl (CS.frame (ro := 1) (H := ([cI a] ++ Hb 1 c4)) (as := [.ref 1, .int (1 : Int32)]) fr1_f (ok4 l Z a0 hw (1 : Int32) c4 _ hc7) rfl (by decide) (fr1_l a c4) (fr1_c a c4) (by decide) rfl) rfl (lenOf pd4 rfl) (leb rfl) (leb rfl) (leb rfl) (leb rfl) ?_
    rintro _ _ ⟨_, _, ⟨rfl, rfl⟩, rfl, rfl⟩
    rw [fr1_p a c4 c4]
    show WLAW l Z n0 (PLAW r) 4 336 52 [.val (.ref 0), .val (.ref 1), .unset, .unset, .unset, .unset, .unset, .unset, .unset, .unset, .unset, .unset, .unset] [.int c7] ([cI a] ++ Hb 1 c4)
    refine WP.bipush (7 : Int32) at_52 rfl ?_
    rcases ite_e h with ⟨hc8, h⟩ | ⟨hc8, h⟩
    ·
      refine WP.icmpY (pc' := 66) at_54 (XT.ii_lt_t hc8) (by decide) rfl ?_
      exact WP.weak (L' := [.unset, .unset, .unset, .unset, .unset, .unset, .unset, .unset, .unset, .unset, .unset, .unset, .unset]) trivial (okLAW_66 l Z a0 hw n0 n a c4 _ h)
    ·
      refine WP.icmpN at_54 (XT.ii_lt_f hc8) ?_
      refine WP.aloadN at_57 rfl ?_
      refine WP.iconst (2 : Int32) at_58 rfl ?_
      obtain ⟨c9, hc9, h⟩ := Option.bind_eq_some_iff.mp h
      refine WP.callV (i := 1) (y := y4) (as := [.int (2 : Int32)]) (S := []) at_59 (hw _ m_54) (hw _ m_55) (hw _ m_57) (hw _ m_56) (hw _ m_58) (hw _ m_2) hy4 rfl (CS.frame (ro := 1) (H := ([cI a] ++ Hb 1 c4)) (as := [.ref 1, .int (2 : Int32)]) fr1_f (ok4 l Z a0 hw (2 : Int32) c4 _ hc9) rfl (by decide) (fr1_l a c4) (fr1_c a c4) (by decide) rfl) rfl (lenOf pd4 rfl) (leb rfl) (leb rfl) (leb rfl) (leb rfl) ?_
      rintro _ _ ⟨_, _, ⟨rfl, rfl⟩, rfl, rfl⟩
      rw [fr1_p a c4 c4]
      show WLAW l Z n0 (PLAW r) 4 336 62 [.val (.ref 0), .val (.ref 1), .unset, .unset, .unset, .unset, .unset, .unset, .unset, .unset, .unset, .unset, .unset] [.int c9] ([cI a] ++ Hb 1 c4)
      refine WP.iconst (4 : Int32) at_62 rfl ?_
      rcases ite_e h with ⟨hc10, h⟩ | ⟨hc10, h⟩
      ·
        refine WP.icmpN at_63 (XT.ii_ge_f hc10) ?_
        exact WP.weak (L' := [.unset, .unset, .unset, .unset, .unset, .unset, .unset, .unset, .unset, .unset, .unset, .unset, .unset]) trivial (okLAW_66 l Z a0 hw n0 n a c4 _ h)
      ·
        refine WP.icmpY (pc' := 68) at_63 (XT.ii_ge_t hc10) (by decide) rfl ?_
        refine WP.iconst (0 : Int32) at_68 rfl ?_
        refine WP.istoreN (L' := [.val (.ref 0), .val (.ref 1), .val (.int (0 : Int32)), .unset, .unset, .unset, .unset, .unset, .unset, .unset, .unset, .unset, .unset]) at_69 (leb rfl) rfl ?_
        refine WP.iconst (0 : Int32) at_70 rfl ?_
        refine WP.istoreN (L' := [.val (.ref 0), .val (.ref 1), .val (.int (0 : Int32)), .val (.int (0 : Int32)), .unset, .unset, .unset, .unset, .unset, .unset, .unset, .unset, .unset]) at_71 (leb rfl) rfl ?_
        refine WP.iconst (0 : Int32) at_72 rfl ?_
        refine WP.istore (L' := [.val (.ref 0), .val (.ref 1), .val (.int (0 : Int32)), .val (.int (0 : Int32)), .val (.int (0 : Int32)), .unset, .unset, .unset, .unset, .unset, .unset, .unset, .unset]) at_73 (leb rfl) rfl ?_
        refine WP.aloadN at_75 rfl ?_
        refine WP.arraylength (i := 0) (xs := a) at_76 rfl ?_
        refine WP.iconst (4 : Int32) at_77 rfl ?_
        rcases ite_e h with ⟨hc11, h⟩ | ⟨hc11, h⟩
        ·
          refine WP.icmpN at_78 (XT.ii_le_f hc11) ?_
          refine WP.aloadN at_81 rfl ?_
          refine WP.arraylength (i := 0) (xs := a) at_82 rfl ?_
          refine WP.iconst (1 : Int32) at_83 rfl ?_
          refine WP.isub at_84 ?_
          refine WP.iconst (4 : Int32) at_85 rfl ?_
          refine WP.idiv at_86 (by decide) ?_
          refine WP.goto (pc' := 91) at_87 (by decide) rfl ?_
          exact WP.weak (L' := [.val (.ref 0), .val (.ref 1), .val (.int (0 : Int32)), .val (.int (0 : Int32)), .val (.int (0 : Int32)), .unset, .unset, .unset, .unset, .unset, .unset, .unset, .unset]) ⟨rfl, rfl, rfl, rfl, rfl, trivial⟩ (okLAW_91 l Z a0 hw n0 n (0 : Int32) (0 : Int32) (0 : Int32) ((a.length.toInt32 - (1 : Int32)) / (4 : Int32)) a c4 _ h)
        ·
          refine WP.icmpY (pc' := 90) at_78 (XT.ii_le_t hc11) (by decide) rfl ?_
          refine WP.iconst (0 : Int32) at_90 rfl ?_
          exact WP.weak (L' := [.val (.ref 0), .val (.ref 1), .val (.int (0 : Int32)), .val (.int (0 : Int32)), .val (.int (0 : Int32)), .unset, .unset, .unset, .unset, .unset, .unset, .unset, .unset]) ⟨rfl, rfl, rfl, rfl, rfl, trivial⟩ (okLAW_91 l Z a0 hw n0 n (0 : Int32) (0 : Int32) (0 : Int32) (0 : Int32) a c4 _ h)
  ·
    refine WP.icmpY (pc' := 66) at_44 (XT.ii_ne_t hc6) (by decide) rfl ?_
    exact WP.weak (L' := [.unset, .unset, .unset, .unset, .unset, .unset, .unset, .unset, .unset, .unset, .unset, .unset, .unset]) trivial (okLAW_66 l Z a0 hw n0 n a c4 _ h)
def own_T : List Int32 := [1, 136, 249, 197, 64, 223, 2, 15, 241, 137, 128, 189, 4, 30, 225, 17, 256, 121, 8, 60, 193, 34, 255, 242, 16, 120, 129, 68, 253, 227, 32, 240]
def own_Rv : List Int32 := [0, 8, 4, 12, 2, 10, 6, 14, 1, 9, 5, 13, 3, 11, 7, 15]
def own_Tn (k : Nat) : Int := (own_T.getD k 0).toInt
def own_rv (k : Nat) : Nat := (own_Rv.getD k 0).toInt.toNat
/-- the cells of the data hold V; all else is s -/
def own_D (s t : St) (V : Nat → Int) : Prop := t = sA s 0 (gA t 0) ∧ (gA t 0).length = 272 ∧ (∀ k, k < 272 → ((gA t 0).getD k 0).toInt = V k) ∧ ∀ k, 240 ≤ k → k < 272 → 0 ≤ V k ∧ V k < 257
theorem own_Drd {s t : St} {V : Nat → Int} (h : own_D s t V) {i : Int32} {k : Nat} (hi : i.toInt = k) (hk : k < 272) : ∃ x : Int32, rd (gA t 0) i = some x ∧ x.toInt = V k := by
  have hx : (gA t 0)[k]? = some ((gA t 0)[k]'(by rw [h.2.1]; exact hk)) := List.getElem?_eq_getElem _
  refine ⟨_, rd_of hi hx, ?_⟩
  rw [← h.2.2.1 k hk, List.getD_eq_getElem?_getD, hx]; rfl
theorem own_Dwr {s t : St} {V : Nat → Int} (h : own_D s t V) {i : Int32} {k : Nat} (hi : i.toInt = k) (hk : k < 272) {x : Int32} {y : Int} (hx : x.toInt = y) (hy : 0 ≤ y ∧ y < 257) : ∃ t', wrA t 0 i x = some t' ∧ own_D s t' (Jvm.Own.upd V k y) := by
  refine ⟨_, wrA_of x hi (by rw [h.2.1]; exact hk), ?_, ?_, fun j hj => ?_, fun j hj0 hj => ?_⟩
  · show sA t 0 ((gA t 0).set k x) = sA s 0 ((gA t 0).set k x)
    conv => lhs; rw [h.1]
    rw [sA_sA]; rfl
  · show ((gA t 0).set k x).length = 272; rw [set_len]; exact h.2.1
  · show (((gA t 0).set k x).getD j 0).toInt = _
    unfold Jvm.Own.upd
    by_cases c : j = k
    · subst c
      rw [if_pos rfl, List.getD_eq_getElem?_getD, get_set_self x (by rw [h.2.1]; exact hj)]; exact hx
    · rw [if_neg c, List.getD_eq_getElem?_getD, get_set_ne x (Ne.symm c), ← List.getD_eq_getElem?_getD]; exact h.2.2.1 j hj
  · unfold Jvm.Own.upd
    by_cases c : j = k
    · rw [if_pos c]; exact hy
    · rw [if_neg c]; exact h.2.2.2 j hj0 hj
theorem own_DT {s t : St} {V : Nat → Int} (h : own_D s t V) (j : Nat) (hj : j ≠ 0) : gA t j = gA s j := by
  conv => lhs; rw [h.1]
  rw [gA_sA, if_neg hj]
theorem own_emod {x : Int} (h : 0 ≤ x) : x.tmod 257 = x % 257 := Int.tmod_eq_emod_of_nonneg h
theorem own_c257 : (257 : Int32).toInt = 257 := rfl
theorem own_mm {x y : Int32} {a b : Int} (hx : x.toInt = a) (hy : y.toInt = b) (ha : 0 ≤ a ∧ a < 257) (hb : 0 ≤ b ∧ b < 257) : ((x * y) % 257).toInt = (a * b) % 257 := by
  have h0 : 0 ≤ a * b := Int.mul_nonneg ha.1 hb.1
  have h1 : a * b ≤ 256 * 256 := Int.mul_le_mul (by omega) (by omega) hb.1 (by decide)
  rw [Int32.toInt_mod, x32_mul (by rw [hx, hy]; omega) (by rw [hx, hy]; omega), hx, hy, own_c257, own_emod h0]
theorem own_am {x y : Int32} {a b : Int} (hx : x.toInt = a) (hy : y.toInt = b) (ha : 0 ≤ a ∧ a < 257) (hb : 0 ≤ b ∧ b < 257) : ((x + y) % 257).toInt = (a + b) % 257 := by
  rw [Int32.toInt_mod, x32_add (by rw [hx, hy]; omega) (by rw [hx, hy]; omega), hx, hy, own_c257, own_emod (by omega)]
theorem own_sm {x y : Int32} {a b : Int} (hx : x.toInt = a) (hy : y.toInt = b) (ha : 0 ≤ a ∧ a < 257) (hb : 0 ≤ b ∧ b < 257) : (((x - y) + 257) % 257).toInt = (a - b + 257) % 257 := by
  have e : (x - y).toInt = a - b := by rw [x32_sub (by rw [hx, hy]; omega) (by rw [hx, hy]; omega), hx, hy]
  rw [Int32.toInt_mod, x32_add (by rw [e, own_c257]; omega) (by rw [e, own_c257]; omega), e, own_c257, own_emod (by omega)]
theorem own_rg (x : Int) : 0 ≤ x % 257 ∧ x % 257 < 257 := ⟨Int.emod_nonneg _ (by decide), Int.emod_lt_of_pos _ (by decide)⟩
def own_it (f : Nat → (Nat → Int) → Nat → Int) : Nat → (Nat → Int) → Nat → Int
  | 0, V => V
  | n + 1, V => f n (own_it f n V)
def own_cp (a b i : Nat) (V : Nat → Int) : Nat → Int := Jvm.Own.upd V (b + i) (V (a + i))
def own_sc (b i : Nat) (V : Nat → Int) : Nat → Int := Jvm.Own.upd V (b + i) ((V (b + i) * own_Tn i) % 257)
def own_iv (b i : Nat) (V : Nat → Int) : Nat → Int := Jvm.Own.upd V (b + i) ((((V (b + i) * own_Tn ((32 - i) % 32)) % 257) * 241) % 257)
def own_br (b i : Nat) (V : Nat → Int) : Nat → Int := if i < own_rv i then Jvm.Own.upd (Jvm.Own.upd V (b + i) (V (b + own_rv i))) (b + own_rv i) (V (b + i)) else V
def own_ml (a b i : Nat) (V : Nat → Int) : Nat → Int := Jvm.Own.upd V (a + i) ((V (a + i) * V (b + i)) % 257)
def own_a (l i : Nat) : Nat := i / (l / 2) * l + i % (l / 2)
def own_w (inv l i : Nat) : Nat := if inv = 0 then (i % (l / 2)) * (32 / l) else (32 - (i % (l / 2)) * (32 / l)) % 32
def own_bt (inv b l i : Nat) (V : Nat → Int) : Nat → Int :=
  Jvm.Own.upd (Jvm.Own.upd V (b + own_a l i) ((V (b + own_a l i) + (V (b + own_a l i + l / 2) * own_Tn (own_w inv l i)) % 257) % 257)) (b + own_a l i + l / 2) ((V (b + own_a l i) - (V (b + own_a l i + l / 2) * own_Tn (own_w inv l i)) % 257 + 257) % 257)
theorem own_Tb : ∀ k : Fin 32, 0 ≤ own_Tn k.val ∧ own_Tn k.val < 257 := by decide +kernel
theorem own_Trd {s : St} (h : gA s 1 = own_T) {i : Int32} {k : Nat} (hi : i.toInt = k) (hk : k < 32) : ∃ x : Int32, rd (gA s 1) i = some x ∧ x.toInt = own_Tn k := by
  have hx : own_T[k]? = some (own_T[k]'(by show k < 32; exact hk)) := List.getElem?_eq_getElem _
  refine ⟨_, rd_of hi (by rw [h]; exact hx), ?_⟩
  unfold own_Tn
  rw [List.getD_eq_getElem?_getD, hx]; rfl
theorem own_ofa (a i : Nat) (h : a + i < 2147483648) : (Int32.ofNat a + Int32.ofNat i).toInt = ((a + i : Nat) : Int) := by
  rw [← Int32.ofNat_add]; exact ofN_int h
theorem own_rv16 : ∀ k : Fin 16, own_rv k.val < 16 ∧ (own_Rv.getD k.val 0).toInt = (own_rv k.val : Int) := by decide +kernel
theorem own_brev {s t : St} {V : Nat → Int} (hR : gA s 2 = own_Rv) (h : own_D s t V) (b : Nat) (vp : Int32) (hb : 240 ≤ b ∧ b ≤ 256) (ep : vp * 16 = Int32.ofNat b) : ∃ t', own_D s t' (own_it (own_br b) 16 V) ∧ Ev (fun n => f_bitReverse n vp t) t' := by
  obtain ⟨t', h1, h2⟩ := loop_up (F := fun n v t => f_bitReverse_7 n (Int32.ofNat b) v t) (E := fun _ t => some t) (N := 16) (fun i t => own_D s t (own_it (own_br b) i V)) (fun i t hi h => by
    obtain ⟨q1, q2⟩ := own_rv16 ⟨i, hi⟩
    have q1 : own_rv i < 16 := q1
    have q2 : (own_Rv.getD i 0).toInt = (own_rv i : Int) := q2
    have er : own_Rv.getD i 0 = Int32.ofNat (own_rv i) := ofN_of q2
    have hx : own_Rv[i]? = some (own_Rv.getD i 0) := by
      have : own_Rv[i]? = some (own_Rv[i]'(by show i < 16; exact hi)) := List.getElem?_eq_getElem _
      rw [List.getD_eq_getElem?_getD, this]; rfl
    have r0 : rd (gA t 2) (Int32.ofNat i) = some (Int32.ofNat (own_rv i)) := by
      rw [own_DT h 2 (by decide), hR, ← er]; exact rd_at (by omega) hx
    by_cases c : i < own_rv i
    · obtain ⟨x, a1, a2⟩ := own_Drd h (own_ofa b i (by omega)) (by omega)
      obtain ⟨y, b1, b2⟩ := own_Drd h (own_ofa b (own_rv i) (by omega)) (by omega)
      obtain ⟨t1, w1, w2⟩ := own_Dwr h (own_ofa b i (by omega)) (by omega) b2 (h.2.2.2 _ (by omega) (by omega))
      obtain ⟨t2, w3, w4⟩ := own_Dwr w2 (own_ofa b (own_rv i) (by omega)) (by omega) a2 (h.2.2.2 _ (by omega) (by omega))
      refine ⟨t2, ?_, fun n => ?_⟩
      · show own_D s t2 (own_br b i (own_it (own_br b) i V))
        unfold own_br; rw [if_pos c]; exact w4
      · show g_bitReverse_7 (f_bitReverse_7 n) n _ _ _ = _
        unfold g_bitReverse_7 f_bitReverse_65 lt
        rw [if_pos ((ofN_ltL (by omega) (by decide)).mpr hi), r0, Option.bind_some, if_pos ((ofN_lt (by omega) (by omega)).mpr c), a1, Option.bind_some, b1, Option.bind_some, w1, Option.bind_some, w3, Option.bind_some, ofN_succ]
    · refine ⟨t, ?_, fun n => ?_⟩
      · show own_D s t (own_br b i (own_it (own_br b) i V))
        unfold own_br; rw [if_neg c]; exact h
      · show g_bitReverse_7 (f_bitReverse_7 n) n _ _ _ = _
        unfold g_bitReverse_7 f_bitReverse_65 lt
        rw [if_pos ((ofN_ltL (by omega) (by decide)).mpr hi), r0, Option.bind_some, if_neg (fun q => c ((ofN_lt (by omega) (by omega)).mp q)), ofN_succ]) (fun t h n => by
    show g_bitReverse_7 (f_bitReverse_7 n) n _ _ _ = _
    unfold g_bitReverse_7
    rw [if_neg (by decide)]) 16 0 t rfl h
  refine ⟨t', h1, Ev.congr (fun n => ?_) (h2 t' (Ev.const rfl))⟩
  unfold f_bitReverse lt
  rw [ep]; rfl
/-- the indices of a butterfly, by trying all -/
theorem own_ix : ∀ i : Fin 8, ∀ l ∈ [(2 : Nat), 4, 8, 16], ∀ b ∈ [(240 : Nat), 256],
    ((Int32.ofNat b + (Int32.ofNat i.val / Int32.ofNat (l / 2)) * Int32.ofNat l) + (Int32.ofNat i.val - (Int32.ofNat i.val / Int32.ofNat (l / 2)) * Int32.ofNat (l / 2))).toInt = ((b + own_a l i.val : Nat) : Int)
    ∧ (((Int32.ofNat b + (Int32.ofNat i.val / Int32.ofNat (l / 2)) * Int32.ofNat l) + (Int32.ofNat i.val - (Int32.ofNat i.val / Int32.ofNat (l / 2)) * Int32.ofNat (l / 2))) + Int32.ofNat (l / 2)).toInt = ((b + own_a l i.val + l / 2 : Nat) : Int)
    ∧ ((Int32.ofNat i.val - (Int32.ofNat i.val / Int32.ofNat (l / 2)) * Int32.ofNat (l / 2)) * Int32.ofNat (32 / l)).toInt = (own_w 0 l i.val : Int)
    ∧ (((32 : Int32) - (Int32.ofNat i.val - (Int32.ofNat i.val / Int32.ofNat (l / 2)) * Int32.ofNat (l / 2)) * Int32.ofNat (32 / l)) &&& 31).toInt = (own_w 1 l i.val : Int)
    ∧ b + own_a l i.val + l / 2 < 272 ∧ own_w 0 l i.val < 32 ∧ own_w 1 l i.val < 32 := by decide +kernel
theorem own_bfly {s t : St} {V : Nat → Int} (hT : gA s 1 = own_T) (h : own_D s t V) {a c w : Nat} {x5 x6 x7 : Int32} (h5 : x5.toInt = a) (h6 : x6.toInt = c) (h7 : x7.toInt = w) (ha0 : 240 ≤ a) (hc0 : 240 ≤ c) (ha : a < 272) (hc : c < 272) (hw : w < 32) (hac : a ≠ c) :
    ∃ t', own_D s t' (Jvm.Own.upd (Jvm.Own.upd V a ((V a + (V c * own_Tn w) % 257) % 257)) c ((V a - (V c * own_Tn w) % 257 + 257) % 257)) ∧ ∀ k8 k31 n v2 v3 v4 v5 v6 v7, f_butterflies_95 k8 k31 n v2 v3 v4 v5 v6 v7 x5 x6 x7 t = k31 v2 v3 v4 v5 v6 (v7 + 1) t' := by
  obtain ⟨x, a1, a2⟩ := own_Drd h h6 hc
  obtain ⟨y, b1, b2⟩ := own_Trd hT h7 hw
  obtain ⟨z, c1, c2⟩ := own_Drd h h5 ha
  have m := own_mm a2 b2 (h.2.2.2 _ hc0 hc) (own_Tb ⟨w, hw⟩)
  obtain ⟨t1, w1, w2⟩ := own_Dwr h h5 ha (own_am c2 m (h.2.2.2 _ ha0 ha) (own_rg _)) (own_rg _)
  obtain ⟨t2, w3, w4⟩ := own_Dwr w2 h6 hc (own_sm c2 m (h.2.2.2 _ ha0 ha) (own_rg _)) (own_rg _)
  refine ⟨t2, w4, fun k8 k31 n v2 v3 v4 v5 v6 v7 => ?_⟩
  unfold f_butterflies_95 lt
  rw [a1, Option.bind_some, own_DT h 1 (by decide), b1, Option.bind_some]
  dsimp only
  rw [c1, Option.bind_some, w1, Option.bind_some, w3, Option.bind_some]
theorem own_stage {s : St} (hT : gA s 1 = own_T) (inv l b : Nat) (hinv : inv = 0 ∨ inv = 1) (hl : l ∈ [(2 : Nat), 4, 8, 16]) (hb : b ∈ [(240 : Nat), 256]) : ∀ (j i : Nat) (t : St) (V : Nat → Int), i + j = 8 → own_D s t (own_it (own_bt inv b l) i V) →
    ∃ t', own_D s t' (own_it (own_bt inv b l) 8 V) ∧ ∀ k8 n, f_butterflies_31 k8 (n + j + 1) (Int32.ofNat inv) (Int32.ofNat b) (Int32.ofNat l) (Int32.ofNat (l / 2)) (Int32.ofNat (32 / l)) (Int32.ofNat i) t = k8 (Int32.ofNat inv) (Int32.ofNat b) (Int32.ofNat l <<< ((1 : Int32) &&& 31)) t'
  | 0, i, t, V, hi, h => by
    have : i = 8 := by omega
    subst this
    refine ⟨t, h, fun k8 n => ?_⟩
    show g_butterflies_31 k8 (f_butterflies_31 k8 n) n _ _ _ _ _ _ _ = _
    unfold g_butterflies_31
    rw [if_neg (by decide)]; rfl
  | j + 1, i, t, V, hi, h => by
    have hi8 : i < 8 := by omega
    have hb0 : 240 ≤ b := by simp only [List.mem_cons, List.not_mem_nil, or_false] at hb; omega
    obtain ⟨e5, e6, e7, e8, f1, f2, f3⟩ := own_ix ⟨i, hi8⟩ l hl b hb
    have hl2 : 0 < l / 2 := by
      simp only [List.mem_cons, List.not_mem_nil, or_false] at hl
      omega
    have h5 : ¬ Int32.ofNat (l / 2) = 0 := by
      simp only [List.mem_cons, List.not_mem_nil, or_false] at hl
      rcases hl with rfl | rfl | rfl | rfl <;> decide
    have turn : ∃ t', own_D s t' (own_it (own_bt inv b l) (i + 1) V) ∧ ∀ k8 n, f_butterflies_31 k8 (n + 1) (Int32.ofNat inv) (Int32.ofNat b) (Int32.ofNat l) (Int32.ofNat (l / 2)) (Int32.ofNat (32 / l)) (Int32.ofNat i) t = f_butterflies_31 k8 n (Int32.ofNat inv) (Int32.ofNat b) (Int32.ofNat l) (Int32.ofNat (l / 2)) (Int32.ofNat (32 / l)) (Int32.ofNat (i + 1)) t' := by
      rcases hinv with rfl | rfl
      · obtain ⟨t', g1, g2⟩ := own_bfly hT h e5 e6 e7 (by omega) (by omega) (by omega) f1 f2 (by omega)
        refine ⟨t', g1, fun k8 n => ?_⟩
        show g_butterflies_31 k8 (f_butterflies_31 k8 n) n _ _ _ _ _ _ _ = _
        unfold g_butterflies_31 lt
        rw [if_pos ((ofN_ltL (by omega) (by decide)).mpr hi8), if_neg h5]
        dsimp only
        rw [if_pos (by decide)]
        refine (g2 k8 (f_butterflies_31 k8 n) n _ _ _ _ _ _).trans ?_
        rw [ofN_succ]
      · obtain ⟨t', g1, g2⟩ := own_bfly hT h e5 e6 e8 (by omega) (by omega) (by omega) f1 f3 (by omega)
        refine ⟨t', g1, fun k8 n => ?_⟩
        show g_butterflies_31 k8 (f_butterflies_31 k8 n) n _ _ _ _ _ _ _ = _
        unfold g_butterflies_31 lt
        rw [if_pos ((ofN_ltL (by omega) (by decide)).mpr hi8), if_neg h5]
        dsimp only
        rw [if_neg (by decide)]
        refine (g2 k8 (f_butterflies_31 k8 n) n _ _ _ _ _ _).trans ?_
        rw [ofN_succ]
    obtain ⟨t1, g1, g2⟩ := turn
    obtain ⟨t2, g3, g4⟩ := own_stage hT inv l b hinv hl hb j (i + 1) t1 V (by omega) g1
    refine ⟨t2, g3, fun k8 n => ?_⟩
    rw [show n + (j + 1) + 1 = (n + j + 1) + 1 from by omega, g2, g4]
theorem own_stage0 {s t : St} {V : Nat → Int} (hT : gA s 1 = own_T) (h : own_D s t V) (inv l b : Nat) (hinv : inv = 0 ∨ inv = 1) (hl : l ∈ [(2 : Nat), 4, 8, 16]) (hb : b ∈ [(240 : Nat), 256]) :
    ∃ t', own_D s t' (own_it (own_bt inv b l) 8 V) ∧ ∀ k8 n, f_butterflies_31 k8 (n + 8 + 1) (Int32.ofNat inv) (Int32.ofNat b) (Int32.ofNat l) (Int32.ofNat (l / 2)) (Int32.ofNat (32 / l)) 0 t = k8 (Int32.ofNat inv) (Int32.ofNat b) (Int32.ofNat l <<< ((1 : Int32) &&& 31)) t' := own_stage hT inv l b hinv hl hb 8 0 t V rfl h
theorem own_sh : ∀ l ∈ [(2 : Nat), 4, 8, 16], ¬ (16 : Int32) < Int32.ofNat l ∧ ¬ Int32.ofNat l = 0 ∧ Int32.ofNat l >>> ((1 : Int32) &&& 31) = Int32.ofNat (l / 2) ∧ (32 : Int32) / Int32.ofNat l = Int32.ofNat (32 / l) ∧ Int32.ofNat l <<< ((1 : Int32) &&& 31) = Int32.ofNat (2 * l) := by decide +kernel
theorem own_step (vi vb : Int32) (k l : Nat) (t t' : St) (hl : l ∈ [(2 : Nat), 4, 8, 16]) (hk : 9 ≤ k) (hs : ∀ k8 n, f_butterflies_31 k8 (n + 8 + 1) vi vb (Int32.ofNat l) (Int32.ofNat (l / 2)) (Int32.ofNat (32 / l)) 0 t = k8 vi vb (Int32.ofNat l <<< ((1 : Int32) &&& 31)) t') : f_butterflies_8 (k + 1) vi vb (Int32.ofNat l) t = f_butterflies_8 k vi vb (Int32.ofNat (2 * l)) t' := by
  obtain ⟨q1, q2, q3, q4, q5⟩ := own_sh l hl
  obtain ⟨q, rfl⟩ : ∃ q, k = q + 8 + 1 := ⟨k - 9, by omega⟩
  have e := hs (f_butterflies_8 (q + 8 + 1)) q
  rw [q5] at e
  show g_butterflies_8 (f_butterflies_8 (q + 8 + 1)) (q + 8 + 1) _ _ _ _ = _
  unfold g_butterflies_8 lt
  rw [if_neg q1]
  dsimp only
  rw [if_neg q2, q3, q4]
  exact e
theorem own_step2 (vi vb v v2 : Int32) (k k' l : Nat) (t t' : St) (ek : k' = k + 1) (ev : v = Int32.ofNat l) (ev2 : v2 = Int32.ofNat (2 * l)) (hl : l ∈ [(2 : Nat), 4, 8, 16]) (hk : 9 ≤ k) (hs : ∀ k8 n, f_butterflies_31 k8 (n + 8 + 1) vi vb (Int32.ofNat l) (Int32.ofNat (l / 2)) (Int32.ofNat (32 / l)) 0 t = k8 vi vb (Int32.ofNat l <<< ((1 : Int32) &&& 31)) t') : f_butterflies_8 k' vi vb v t = f_butterflies_8 k vi vb v2 t' := by
  subst ek ev ev2; exact own_step vi vb k l t t' hl hk hs
theorem own_last (vi vb : Int32) (k : Nat) (t : St) : f_butterflies_8 (k + 1) vi vb 32 t = some t := by
  show g_butterflies_8 (f_butterflies_8 k) k _ _ _ _ = _
  unfold g_butterflies_8
  rw [if_pos (by decide)]
theorem own_four (vi vb : Int32) (m : Nat) (t t1 t2 t3 t4 : St) (b1 : ∀ k8 n, f_butterflies_31 k8 (n + 8 + 1) vi vb (Int32.ofNat 2) (Int32.ofNat (2 / 2)) (Int32.ofNat (32 / 2)) 0 t = k8 vi vb (Int32.ofNat 2 <<< ((1 : Int32) &&& 31)) t1) (b2 : ∀ k8 n, f_butterflies_31 k8 (n + 8 + 1) vi vb (Int32.ofNat 4) (Int32.ofNat (4 / 2)) (Int32.ofNat (32 / 4)) 0 t1 = k8 vi vb (Int32.ofNat 4 <<< ((1 : Int32) &&& 31)) t2) (b3 : ∀ k8 n, f_butterflies_31 k8 (n + 8 + 1) vi vb (Int32.ofNat 8) (Int32.ofNat (8 / 2)) (Int32.ofNat (32 / 8)) 0 t2 = k8 vi vb (Int32.ofNat 8 <<< ((1 : Int32) &&& 31)) t3) (b4 : ∀ k8 n, f_butterflies_31 k8 (n + 8 + 1) vi vb (Int32.ofNat 16) (Int32.ofNat (16 / 2)) (Int32.ofNat (32 / 16)) 0 t3 = k8 vi vb (Int32.ofNat 16 <<< ((1 : Int32) &&& 31)) t4) : f_butterflies_8 (m + 14) vi vb 2 t = some t4 := by
  have c1 := own_step2 vi vb 2 4 (m + 13) (m + 14) 2 t t1 (by omega) (by decide) (by decide) (by decide) (by omega) b1
  have c2 := own_step2 vi vb 4 8 (m + 12) (m + 13) 4 t1 t2 (by omega) (by decide) (by decide) (by decide) (by omega) b2
  have c3 := own_step2 vi vb 8 16 (m + 11) (m + 12) 8 t2 t3 (by omega) (by decide) (by decide) (by decide) (by omega) b3
  have c4 := own_step2 vi vb 16 32 (m + 10) (m + 11) 16 t3 t4 (by omega) (by decide) (by decide) (by decide) (by omega) b4
  rw [c1, c2, c3, c4]
  exact own_last vi vb (m + 9) t4
theorem own_fourE (vi vb vp : Int32) (t t1 t2 t3 t4 : St) (ep : vp * 16 = vb) (b1 : ∀ k8 n, f_butterflies_31 k8 (n + 8 + 1) vi vb (Int32.ofNat 2) (Int32.ofNat (2 / 2)) (Int32.ofNat (32 / 2)) 0 t = k8 vi vb (Int32.ofNat 2 <<< ((1 : Int32) &&& 31)) t1) (b2 : ∀ k8 n, f_butterflies_31 k8 (n + 8 + 1) vi vb (Int32.ofNat 4) (Int32.ofNat (4 / 2)) (Int32.ofNat (32 / 4)) 0 t1 = k8 vi vb (Int32.ofNat 4 <<< ((1 : Int32) &&& 31)) t2) (b3 : ∀ k8 n, f_butterflies_31 k8 (n + 8 + 1) vi vb (Int32.ofNat 8) (Int32.ofNat (8 / 2)) (Int32.ofNat (32 / 8)) 0 t2 = k8 vi vb (Int32.ofNat 8 <<< ((1 : Int32) &&& 31)) t3) (b4 : ∀ k8 n, f_butterflies_31 k8 (n + 8 + 1) vi vb (Int32.ofNat 16) (Int32.ofNat (16 / 2)) (Int32.ofNat (32 / 16)) 0 t3 = k8 vi vb (Int32.ofNat 16 <<< ((1 : Int32) &&& 31)) t4) : Ev (fun n => f_butterflies n vp vi t) t4 := by
  have key : ∀ n, 14 ≤ n → f_butterflies_8 n vi vb 2 t = some t4 := fun n hn => by
    obtain ⟨m, e⟩ : ∃ m, n = m + 14 := ⟨n - 14, by omega⟩
    have := own_four vi vb m t t1 t2 t3 t4 b1 b2 b3 b4
    rw [← e] at this; exact this
  have un : ∀ n, f_butterflies n vp vi t = f_butterflies_8 n vi (vp * 16) 2 t := fun n => rfl
  exact ⟨14, fun n hn => by
    show f_butterflies n vp vi t = some t4
    rw [un, ep]; exact key n hn⟩
def own_bfs (inv b : Nat) (V : Nat → Int) : Nat → Int := own_it (own_bt inv b 16) 8 (own_it (own_bt inv b 8) 8 (own_it (own_bt inv b 4) 8 (own_it (own_bt inv b 2) 8 V)))
theorem own_bflies {s t : St} {V : Nat → Int} (hT : gA s 1 = own_T) (h : own_D s t V) (inv b : Nat) (vp : Int32) (hinv : inv = 0 ∨ inv = 1) (hb : b ∈ [(240 : Nat), 256]) (ep : vp * 16 = Int32.ofNat b) : ∃ t', own_D s t' (own_bfs inv b V) ∧ Ev (fun n => f_butterflies n vp (Int32.ofNat inv) t) t' := by
  obtain ⟨t1, a1, b1⟩ := own_stage0 hT h inv 2 b hinv (by decide) hb
  obtain ⟨t2, a2, b2⟩ := own_stage0 hT a1 inv 4 b hinv (by decide) hb
  obtain ⟨t3, a3, b3⟩ := own_stage0 hT a2 inv 8 b hinv (by decide) hb
  obtain ⟨t4, a4, b4⟩ := own_stage0 hT a3 inv 16 b hinv (by decide) hb
  unfold own_bfs
  exact ⟨t4, a4, own_fourE (Int32.ofNat inv) (Int32.ofNat b) vp t t1 t2 t3 t4 ep b1 b2 b3 b4⟩
def own_fw (b : Nat) (V : Nat → Int) : Nat → Int := own_bfs 0 b (own_it (own_br b) 16 (own_it (own_sc b) 16 V))
theorem own_fwd {s t : St} {V : Nat → Int} (hT : gA s 1 = own_T) (hR : gA s 2 = own_Rv) (h : own_D s t V) (b : Nat) (vp : Int32) (hb : b ∈ [(240 : Nat), 256]) (ep : vp * 16 = Int32.ofNat b) : ∃ t', own_D s t' (own_fw b V) ∧ Ev (fun n => f_forward n vp t) t' := by
  have hb' : 240 ≤ b ∧ b ≤ 256 := by simp only [List.mem_cons, List.not_mem_nil, or_false] at hb; omega
  obtain ⟨t1, h1, h2⟩ := loop_up (F := fun n v t => f_forward_7 n vp (Int32.ofNat b) v t) (E := fun n t => (f_bitReverse n vp t).bind fun c6 => (f_butterflies n vp 0 c6).bind fun c7 => some c7) (N := 16) (fun i t => own_D s t (own_it (own_sc b) i V)) (fun i t hi h => by
    obtain ⟨x, r1, r2⟩ := own_Drd h (own_ofa b i (by omega)) (by omega)
    obtain ⟨y, b1, b2⟩ := own_Trd hT (ofN_int (k := i) (by omega)) (by omega)
    obtain ⟨t', w1, w2⟩ := own_Dwr h (own_ofa b i (by omega)) (by omega) (own_mm r2 b2 (h.2.2.2 _ (by omega) (by omega)) (own_Tb ⟨i, by omega⟩)) (own_rg _)
    refine ⟨t', w2, fun n => ?_⟩
    show g_forward_7 (f_forward_7 n) n _ _ _ _ = _
    unfold g_forward_7 lt
    rw [if_pos ((ofN_ltL (by omega) (by decide)).mpr hi), r1, Option.bind_some, own_DT h 1 (by decide), b1, Option.bind_some, w1, Option.bind_some, ofN_succ]) (fun t h n => by
    show g_forward_7 (f_forward_7 n) n _ _ _ _ = _
    unfold g_forward_7
    rw [if_neg (by decide)]) 16 0 t rfl h
  obtain ⟨t2, h3, h4⟩ := own_brev hR h1 b vp hb' ep
  obtain ⟨t3, h5, h6⟩ := own_bflies hT h3 0 b vp (Or.inl rfl) hb ep
  refine ⟨t3, h5, Ev.congr (fun n => ?_) (h2 t3 (Ev.bind h4 (Ev.bind h6 (Ev.const rfl))))⟩
  unfold f_forward lt
  rw [ep]; rfl
def own_in (b : Nat) (V : Nat → Int) : Nat → Int := own_it (own_iv b) 16 (own_bfs 1 b (own_it (own_br b) 16 V))
theorem own_t32 : ∀ i : Fin 16, (((32 : Int32) - Int32.ofNat i.val) &&& 31).toInt = (((32 - i.val) % 32 : Nat) : Int) ∧ (32 - i.val) % 32 < 32 := by decide +kernel
theorem own_ivl {s t : St} {V : Nat → Int} (hT : gA s 1 = own_T) (h : own_D s t V) : ∃ t', own_D s t' (own_it (own_iv 240) 16 V) ∧ Ev (fun n => f_inverse_18 n (Int32.ofNat 240) 0 t) t' := by
  obtain ⟨t3, h5, h6⟩ := loop_up (F := fun n v t => f_inverse_18 n (Int32.ofNat 240) v t) (E := fun _ t => some t) (N := 16) (fun i t => own_D s t (own_it (own_iv 240) i V)) (fun i t hi h => by
    obtain ⟨x, r1, r2⟩ := own_Drd h (own_ofa 240 i (by omega)) (by omega)
    obtain ⟨e1, e2⟩ := own_t32 ⟨i, hi⟩
    obtain ⟨y, b1, b2⟩ := own_Trd hT e1 e2
    have m := own_mm r2 b2 (h.2.2.2 _ (by omega) (by omega)) (own_Tb ⟨_, e2⟩)
    obtain ⟨t', w1, w2⟩ := own_Dwr h (own_ofa 240 i (by omega)) (by omega) (own_mm (y := 241) m rfl (own_rg _) (by decide)) (own_rg _)
    refine ⟨t', w2, fun n => ?_⟩
    show g_inverse_18 (f_inverse_18 n) n _ _ _ = _
    unfold g_inverse_18 lt
    rw [if_pos ((ofN_ltL (by omega) (by decide)).mpr hi), r1, Option.bind_some, own_DT h 1 (by decide), b1, Option.bind_some]
    dsimp only
    rw [w1, Option.bind_some, ofN_succ]) (fun t h n => by
    show g_inverse_18 (f_inverse_18 n) n _ _ _ = _
    unfold g_inverse_18
    rw [if_neg (by decide)]) 16 0 t rfl h
  exact ⟨t3, h5, h6 t3 (Ev.const rfl)⟩
theorem own_inv {s t : St} {V : Nat → Int} (hT : gA s 1 = own_T) (hR : gA s 2 = own_Rv) (h : own_D s t V) : ∃ t', own_D s t' (own_in 240 V) ∧ Ev (fun n => f_inverse n 15 t) t' := by
  obtain ⟨t1, h1, h2⟩ := own_brev hR h 240 15 (by decide) (by decide)
  obtain ⟨t2, h3, h4⟩ := own_bflies hT h1 1 240 15 (Or.inr rfl) (by decide) (by decide)
  obtain ⟨t3, h5, e6⟩ := own_ivl hT h3
  refine ⟨t3, h5, ?_⟩
  unfold f_inverse lt
  rw [show (15 : Int32) * 16 = Int32.ofNat 240 from by decide]
  exact Ev.bind h2 (Ev.bind h4 e6)
def own_mul (V : Nat → Int) : Nat → Int := own_it (own_cp 240 32) 16 (own_in 240 (own_it (own_ml 240 256) 16 (own_fw 256 (own_fw 240 (own_it (own_cp 16 256) 16 (own_it (own_cp 0 240) 16 V))))))
theorem own_mll {s t : St} {V : Nat → Int} (v3 : Int32) (h : own_D s t V) : ∃ t', own_D s t' (own_it (own_ml 240 256) 16 V) ∧ ∀ r, Ev (fun n => (f_inverse n 15 t').bind fun c6 => (f_copy n 15 v3 c6).bind fun c7 => some c7) r → Ev (fun n => f_mul_39 n v3 240 256 0 t) r := by
  obtain ⟨t5, a5, b5⟩ := loop_up (F := fun n v t => f_mul_39 n v3 (Int32.ofNat 240) (Int32.ofNat 256) v t) (E := fun n t => (f_inverse n 15 t).bind fun c6 => (f_copy n 15 v3 c6).bind fun c7 => some c7) (N := 16) (fun i t => own_D s t (own_it (own_ml 240 256) i V)) (fun i t hi h => by
    obtain ⟨x, r1, r2⟩ := own_Drd h (own_ofa 240 i (by omega)) (by omega)
    obtain ⟨y, b1, b2⟩ := own_Drd h (own_ofa 256 i (by omega)) (by omega)
    obtain ⟨t', w1, w2⟩ := own_Dwr h (own_ofa 240 i (by omega)) (by omega) (own_mm r2 b2 (h.2.2.2 _ (by omega) (by omega)) (h.2.2.2 _ (by omega) (by omega))) (own_rg _)
    refine ⟨t', w2, fun n => ?_⟩
    show g_mul_39 (f_mul_39 n) n _ _ _ _ _ = _
    unfold g_mul_39 lt
    rw [if_pos ((ofN_ltL (by omega) (by decide)).mpr hi), r1, Option.bind_some, b1, Option.bind_some, w1, Option.bind_some, ofN_succ]) (fun t h n => by
    show g_mul_39 (f_mul_39 n) n _ _ _ _ _ = _
    unfold g_mul_39
    rw [if_neg (by decide)]) 16 0 t rfl h
  exact ⟨t5, a5, b5⟩

/-! a call that comes to an end, and what it leaves -/
def own_Ok {α : Type} (f : Nat → Option α) (P : α → Prop) : Prop := ∃ r, Ev f r ∧ P r
theorem own_Ok.step {α : Type} {f g : Nat → Option α} {P : α → Prop} (e : ∀ n, f (n + 1) = g n) (h : own_Ok g P) : own_Ok f P := by
  obtain ⟨r, h1, h2⟩ := h
  exact ⟨r, Ev.step e h1, h2⟩
theorem own_Ok.congr {α : Type} {f g : Nat → Option α} {P : α → Prop} (e : ∀ n, f n = g n) (h : own_Ok g P) : own_Ok f P := by
  obtain ⟨r, h1, h2⟩ := h
  exact ⟨r, Ev.congr e h1, h2⟩
theorem own_Ok.ret {α : Type} {r : α} {P : α → Prop} (h : P r) : own_Ok (fun _ => some r) P := ⟨r, Ev.const rfl, h⟩
theorem own_Ok.mono {α : Type} {f : Nat → Option α} {P Q : α → Prop} (h : own_Ok f P) (k : ∀ r, P r → Q r) : own_Ok f Q := by
  obtain ⟨r, h1, h2⟩ := h
  exact ⟨r, h1, k r h2⟩
theorem own_Ok.bind {α β : Type} {f : Nat → Option β} {g : Nat → β → Option α} {Q : β → Prop} {P : α → Prop} (h : own_Ok f Q) (k : ∀ c, Q c → own_Ok (fun n => g n c) P) : own_Ok (fun n => (f n).bind (g n)) P := by
  obtain ⟨c, h1, h2⟩ := h
  obtain ⟨r, k1, k2⟩ := k c h2
  exact ⟨r, Ev.bind h1 k1, k2⟩
theorem own_Ok.ite {α : Type} {c : Prop} [Decidable c] {f g : Nat → Option α} {P : α → Prop} (h : c → own_Ok f P) (k : ¬ c → own_Ok g P) : own_Ok (fun n => if c then f n else g n) P := by
  by_cases q : c
  · exact own_Ok.congr (fun n => if_pos q) (h q)
  · exact own_Ok.congr (fun n => if_neg q) (k q)
theorem own_Ok.some_bind {α β : Type} {x : β} {g : Nat → β → Option α} {P : α → Prop} (h : own_Ok (fun n => g n x) P) : own_Ok (fun n => (some x).bind (g n)) P := own_Ok.congr (fun _ => rfl) h

/-! which registers a call writes -/
def own_B (s : St) : Prop := (gA s 0).length = 272 ∧ (gA s 1).length = 32 ∧ gA s 2 = own_Rv
def own_Fz (R I : List Nat) (s t : St) : Prop := own_B t ∧ gA t 1 = gA s 1 ∧ (∀ j, j ∉ I → gI t j = gI s j) ∧ ∀ k, k < 272 → k / 16 ∉ R → (gA t 0)[k]? = (gA s 0)[k]?
theorem own_Fz.refl {R I : List Nat} {s : St} (h : own_B s) : own_Fz R I s s := ⟨h, rfl, fun _ _ => rfl, fun _ _ _ => rfl⟩
theorem own_Fz.trans {R I : List Nat} {s t u : St} (h : own_Fz R I s t) (k : own_Fz R I t u) : own_Fz R I s u := ⟨k.1, k.2.1.trans h.2.1, fun j hj => (k.2.2.1 j hj).trans (h.2.2.1 j hj), fun q h1 h2 => (k.2.2.2 q h1 h2).trans (h.2.2.2 q h1 h2)⟩
theorem own_Fz.mono {R I R' I' : List Nat} {s t : St} (h : own_Fz R I s t) (hr : ∀ j ∈ R, j ∈ R') (hi : ∀ j ∈ I, j ∈ I') : own_Fz R' I' s t := ⟨h.1, h.2.1, fun j hj => h.2.2.1 j fun q => hj (hi j q), fun k h1 h2 => h.2.2.2 k h1 fun q => h2 (hr _ q)⟩
theorem own_Fz.wr {R I : List Nat} {s t : St} (h : own_Fz R I s t) (k : Nat) (x : Int32) (hk : k / 16 ∈ R) : own_Fz R I s (sA t 0 ((gA t 0).set k x)) := by
  refine ⟨⟨?_, h.1.2.1, h.1.2.2⟩, h.2.1, h.2.2.1, fun q h1 h2 => ?_⟩
  · show ((gA t 0).set k x).length = 272
    rw [List.length_set]; exact h.1.1
  · show ((gA t 0).set k x)[q]? = _
    rw [get_set_ne _ (fun e => h2 (by rw [← e]; exact hk))]; exact h.2.2.2 q h1 h2
theorem own_Fz.sI {R I : List Nat} {s t : St} (h : own_Fz R I s t) (j : Nat) (x : Int32) (hj : j ∈ I) : own_Fz R I s (sI t j x) := ⟨h.1, h.2.1, fun i hi => by
  rw [gI_sI, if_neg (fun e : i = j => hi (by rw [e]; exact hj))]; exact h.2.2.1 i hi, h.2.2.2⟩
theorem own_Ok.rc {α : Type} {s : St} {i : Int32} {k : Nat} {G : Nat → Int32 → Option α} {P : α → Prop} (hB : own_B s) (hi : i.toInt = k) (hk : k < 272) (h : ∀ x, (gA s 0)[k]? = some x → own_Ok (fun n => G n x) P) : own_Ok (fun n => (rd (gA s 0) i).bind (G n)) P := by
  have hl := hB.1
  have hx : (gA s 0)[k]? = some ((gA s 0)[k]'(by omega)) := List.getElem?_eq_getElem _
  refine own_Ok.congr (fun n => ?_) (h _ hx)
  rw [rd_of hi hx]; rfl
theorem own_Ok.rt {α : Type} {s : St} {i : Int32} {k : Nat} {G : Nat → Int32 → Option α} {P : α → Prop} (hB : own_B s) (hi : i.toInt = k) (hk : k < 32) (h : ∀ x, own_Ok (fun n => G n x) P) : own_Ok (fun n => (rd (gA s 1) i).bind (G n)) P := by
  have hl := hB.2.1
  have hx : (gA s 1)[k]? = some ((gA s 1)[k]'(by omega)) := List.getElem?_eq_getElem _
  refine own_Ok.congr (fun n => ?_) (h ((gA s 1)[k]'(by omega)))
  rw [rd_of hi hx]; rfl
theorem own_Ok.wc {α : Type} {s : St} {i x : Int32} {k : Nat} {G : Nat → St → Option α} {P : α → Prop} (hB : own_B s) (hi : i.toInt = k) (hk : k < 272) (h : own_Ok (fun n => G n (sA s 0 ((gA s 0).set k x))) P) : own_Ok (fun n => (wrA s 0 i x).bind (G n)) P := by
  have hl := hB.1
  refine own_Ok.congr (fun n => ?_) h
  rw [wrA_of (k := k) x hi (by omega)]; rfl
theorem own_16 (k : Nat) : Int32.ofNat k * 16 = Int32.ofNat (k * 16) := (Int32.ofNat_mul k 16).symm
/-! the loops -/
theorem own_copyF {s : St} (hB : own_B s) (p q : Nat) (hp : p ≤ 16) (hq : q ≤ 16) : own_Ok (fun n => f_copy n (Int32.ofNat p) (Int32.ofNat q) s) (fun t => own_Fz [q] [] s t) := by
  have key : ∀ (k i : Nat) (t : St), i + k = 16 → own_Fz [q] [] s t → own_Ok (fun n => f_copy_14 n (Int32.ofNat (p * 16)) (Int32.ofNat (q * 16)) (Int32.ofNat i) t) (fun t => own_Fz [q] [] s t) := by
    intro k
    induction k with
    | zero =>
      intro i t hi hF
      obtain rfl : i = 16 := by omega
      refine own_Ok.step (g := fun n => g_copy_14 (f_copy_14 n) n _ _ (Int32.ofNat 16) t) (fun n => rfl) ?_
      unfold g_copy_14
      exact own_Ok.ite (fun q => absurd q (by decide)) (fun _ => own_Ok.ret hF)
    | succ k ih =>
      intro i t hi hF
      refine own_Ok.step (g := fun n => g_copy_14 (f_copy_14 n) n _ _ (Int32.ofNat i) t) (fun n => rfl) ?_
      unfold g_copy_14 lt
      refine own_Ok.ite (fun _ => ?_) (fun q => absurd ((ofN_ltL (m := 16) (by omega) (by decide)).mpr (by omega)) q)
      refine own_Ok.rc hF.1 (own_ofa (p * 16) i (by omega)) (by omega) fun x _ => ?_
      refine own_Ok.wc hF.1 (own_ofa (q * 16) i (by omega)) (by omega) ?_
      dsimp only
      rw [ofN_succ]
      exact ih (i + 1) _ (by omega) (hF.wr _ _ (by rw [show (q * 16 + i) / 16 = q by omega]; exact List.mem_cons_self))
  unfold f_copy lt
  rw [own_16, own_16]
  exact key 16 0 s rfl (own_Fz.refl hB)
theorem own_brevF {s : St} (hB : own_B s) (p : Nat) (hp : p ≤ 16) : own_Ok (fun n => f_bitReverse n (Int32.ofNat p) s) (fun t => own_Fz [p] [] s t) := by
  have key : ∀ (k i : Nat) (t : St), i + k = 16 → own_Fz [p] [] s t → own_Ok (fun n => f_bitReverse_7 n (Int32.ofNat (p * 16)) (Int32.ofNat i) t) (fun t => own_Fz [p] [] s t) := by
    intro k
    induction k with
    | zero =>
      intro i t hi hF
      obtain rfl : i = 16 := by omega
      refine own_Ok.step (g := fun n => g_bitReverse_7 (f_bitReverse_7 n) n _ (Int32.ofNat 16) t) (fun n => rfl) ?_
      unfold g_bitReverse_7
      exact own_Ok.ite (fun q => absurd q (by decide)) (fun _ => own_Ok.ret hF)
    | succ k ih =>
      intro i t hi hF
      refine own_Ok.step (g := fun n => g_bitReverse_7 (f_bitReverse_7 n) n _ (Int32.ofNat i) t) (fun n => rfl) ?_
      unfold g_bitReverse_7 f_bitReverse_65 lt
      have hr := own_rv16 ⟨i, by omega⟩
      dsimp only at hr
      have rv : rd (gA t 2) (Int32.ofNat i) = some (own_Rv.getD i 0) := by
        rw [hF.1.2.2]
        have hx : own_Rv[i]? = some (own_Rv[i]'(by show i < 16; omega)) := List.getElem?_eq_getElem _
        rw [rd_at (by omega) hx, List.getD_eq_getElem?_getD, hx]; rfl
      rw [rv]
      refine own_Ok.ite (fun _ => ?_) (fun q => absurd ((ofN_ltL (m := 16) (by omega) (by decide)).mpr (by omega)) q)
      refine own_Ok.some_bind ?_
      dsimp only
      rw [ofN_succ]
      refine own_Ok.ite (fun _ => ?_) (fun _ => ih (i + 1) _ (by omega) hF)
      have er : own_Rv.getD i 0 = Int32.ofNat (own_rv i) := ofN_of hr.2
      rw [er]
      refine own_Ok.rc hF.1 (own_ofa (p * 16) i (by omega)) (by omega) fun x _ => ?_
      refine own_Ok.rc hF.1 (own_ofa (p * 16) (own_rv i) (by omega)) (by omega) fun y _ => ?_
      refine own_Ok.wc hF.1 (own_ofa (p * 16) i (by omega)) (by omega) ?_
      have f1 := hF.wr (p * 16 + i) y (by rw [show (p * 16 + i) / 16 = p by omega]; exact List.mem_cons_self)
      refine own_Ok.wc f1.1 (own_ofa (p * 16) (own_rv i) (by omega)) (by omega) ?_
      exact ih (i + 1) _ (by omega) (f1.wr _ _ (by rw [show (p * 16 + own_rv i) / 16 = p by omega]; exact List.mem_cons_self))
  unfold f_bitReverse lt
  rw [own_16]
  exact key 16 0 s rfl (own_Fz.refl hB)
theorem own_bflyF {R : List Nat} {s t : St} (h : own_Fz R [] s t) {a c w : Nat} {x5 x6 x7 : Int32} (h5 : x5.toInt = a) (h6 : x6.toInt = c) (h7 : x7.toInt = w) (ha : a < 272) (hc : c < 272) (hw : w < 32) (ra : a / 16 ∈ R) (rc : c / 16 ∈ R) :
    ∃ t', own_Fz R [] s t' ∧ ∀ k8 k31 n v2 v3 v4 v5 v6 v7, f_butterflies_95 k8 k31 n v2 v3 v4 v5 v6 v7 x5 x6 x7 t = k31 v2 v3 v4 v5 v6 (v7 + 1) t' := by
  have l0 := h.1.1
  have l1 := h.1.2.1
  have e1 : (gA t 0)[c]? = some ((gA t 0)[c]'(by omega)) := List.getElem?_eq_getElem _
  have e2 : (gA t 1)[w]? = some ((gA t 1)[w]'(by omega)) := List.getElem?_eq_getElem _
  have e3 : (gA t 0)[a]? = some ((gA t 0)[a]'(by omega)) := List.getElem?_eq_getElem _
  refine ⟨_, (h.wr a (((gA t 0)[a]'(by omega) + ((gA t 0)[c]'(by omega) * (gA t 1)[w]'(by omega)) % 257) % 257) ra).wr c (((gA t 0)[a]'(by omega) - ((gA t 0)[c]'(by omega) * (gA t 1)[w]'(by omega)) % 257 + 257) % 257) rc, fun k8 k31 n v2 v3 v4 v5 v6 v7 => ?_⟩
  unfold f_butterflies_95 lt
  rw [rd_of h6 e1, Option.bind_some, rd_of h7 e2, Option.bind_some]
  dsimp only
  rw [rd_of h5 e3, Option.bind_some, wrA_of (s := t) (k := a) _ h5 (by omega), Option.bind_some, wrA_of (s := sA t 0 ((gA t 0).set a (((gA t 0)[a]'(by omega) + ((gA t 0)[c]'(by omega) * (gA t 1)[w]'(by omega)) % 257) % 257))) (f := 0) (k := c) _ h6 (show c < ((gA t 0).set a _).length by rw [List.length_set]; omega), Option.bind_some]
theorem own_a16b : ∀ i : Fin 8, ∀ l ∈ [(2 : Nat), 4, 8, 16], own_a l i.val + l / 2 < 16 ∧ 0 < l / 2 := by decide +kernel
theorem own_stageF {s : St} (inv l b : Nat) (hinv : inv = 0 ∨ inv = 1) (hl : l ∈ [(2 : Nat), 4, 8, 16]) (hb : b ∈ [(240 : Nat), 256]) : ∀ (j i : Nat) (t : St), i + j = 8 → own_Fz [b / 16] [] s t →
    ∃ t', own_Fz [b / 16] [] s t' ∧ ∀ k8 n, f_butterflies_31 k8 (n + j + 1) (Int32.ofNat inv) (Int32.ofNat b) (Int32.ofNat l) (Int32.ofNat (l / 2)) (Int32.ofNat (32 / l)) (Int32.ofNat i) t = k8 (Int32.ofNat inv) (Int32.ofNat b) (Int32.ofNat l <<< ((1 : Int32) &&& 31)) t'
  | 0, i, t, hi, h => by
    have : i = 8 := by omega
    subst this
    refine ⟨t, h, fun k8 n => ?_⟩
    show g_butterflies_31 k8 (f_butterflies_31 k8 n) n _ _ _ _ _ _ _ = _
    unfold g_butterflies_31
    rw [if_neg (by decide)]; rfl
  | j + 1, i, t, hi, h => by
    have hi8 : i < 8 := by omega
    obtain ⟨e5, e6, e7, e8, f1, f2, f3⟩ := own_ix ⟨i, hi8⟩ l hl b hb
    obtain ⟨g1, g2⟩ := own_a16b ⟨i, hi8⟩ l hl
    dsimp only at e5 e6 e7 e8 f1 f2 f3 g1 g2
    have hb' : b = 240 ∨ b = 256 := by simpa using hb
    have ra : (b + own_a l i) / 16 ∈ [b / 16] := by
      rw [show (b + own_a l i) / 16 = b / 16 by omega]; exact List.mem_cons_self
    have rc : (b + own_a l i + l / 2) / 16 ∈ [b / 16] := by
      rw [show (b + own_a l i + l / 2) / 16 = b / 16 by omega]; exact List.mem_cons_self
    have h5 : ¬ Int32.ofNat (l / 2) = 0 := by
      simp only [List.mem_cons, List.not_mem_nil, or_false] at hl
      rcases hl with rfl | rfl | rfl | rfl <;> decide
    have turn : ∃ t', own_Fz [b / 16] [] s t' ∧ ∀ k8 n, f_butterflies_31 k8 (n + 1) (Int32.ofNat inv) (Int32.ofNat b) (Int32.ofNat l) (Int32.ofNat (l / 2)) (Int32.ofNat (32 / l)) (Int32.ofNat i) t = f_butterflies_31 k8 n (Int32.ofNat inv) (Int32.ofNat b) (Int32.ofNat l) (Int32.ofNat (l / 2)) (Int32.ofNat (32 / l)) (Int32.ofNat (i + 1)) t' := by
      rcases hinv with rfl | rfl
      · obtain ⟨t', q1, q2⟩ := own_bflyF h e5 e6 e7 (by omega) f1 f2 ra rc
        refine ⟨t', q1, fun k8 n => ?_⟩
        show g_butterflies_31 k8 (f_butterflies_31 k8 n) n _ _ _ _ _ _ _ = _
        unfold g_butterflies_31 lt
        rw [if_pos ((ofN_ltL (by omega) (by decide)).mpr hi8), if_neg h5]
        dsimp only
        rw [if_pos (by decide)]
        refine (q2 k8 (f_butterflies_31 k8 n) n _ _ _ _ _ _).trans ?_
        rw [ofN_succ]
      · obtain ⟨t', q1, q2⟩ := own_bflyF h e5 e6 e8 (by omega) f1 f3 ra rc
        refine ⟨t', q1, fun k8 n => ?_⟩
        show g_butterflies_31 k8 (f_butterflies_31 k8 n) n _ _ _ _ _ _ _ = _
        unfold g_butterflies_31 lt
        rw [if_pos ((ofN_ltL (by omega) (by decide)).mpr hi8), if_neg h5]
        dsimp only
        rw [if_neg (by decide)]
        refine (q2 k8 (f_butterflies_31 k8 n) n _ _ _ _ _ _).trans ?_
        rw [ofN_succ]
    obtain ⟨t1, q1, q2⟩ := turn
    obtain ⟨t2, q3, q4⟩ := own_stageF inv l b hinv hl hb j (i + 1) t1 (by omega) q1
    refine ⟨t2, q3, fun k8 n => ?_⟩
    rw [show n + (j + 1) + 1 = (n + j + 1) + 1 from by omega, q2, q4]
theorem own_bfliesF {s : St} (hB : own_B s) (inv p : Nat) (hinv : inv = 0 ∨ inv = 1) (hp : p = 15 ∨ p = 16) : own_Ok (fun n => f_butterflies n (Int32.ofNat p) (Int32.ofNat inv) s) (fun t => own_Fz [p] [] s t) := by
  have hb : p * 16 ∈ [(240 : Nat), 256] := by rcases hp with rfl | rfl <;> decide
  have e16 : p * 16 / 16 = p := by omega
  obtain ⟨t1, a1, b1⟩ := own_stageF (s := s) inv 2 (p * 16) hinv (by decide) hb 8 0 s rfl (own_Fz.refl hB)
  obtain ⟨t2, a2, b2⟩ := own_stageF (s := s) inv 4 (p * 16) hinv (by decide) hb 8 0 t1 rfl a1
  obtain ⟨t3, a3, b3⟩ := own_stageF (s := s) inv 8 (p * 16) hinv (by decide) hb 8 0 t2 rfl a2
  obtain ⟨t4, a4, b4⟩ := own_stageF (s := s) inv 16 (p * 16) hinv (by decide) hb 8 0 t3 rfl a3
  rw [e16] at a4
  exact ⟨t4, own_fourE (Int32.ofNat inv) (Int32.ofNat (p * 16)) (Int32.ofNat p) s t1 t2 t3 t4 (own_16 p) b1 b2 b3 b4, a4⟩
theorem own_fwdF {s : St} (hB : own_B s) (p : Nat) (hp : p = 15 ∨ p = 16) : own_Ok (fun n => f_forward n (Int32.ofNat p) s) (fun t => own_Fz [p] [] s t) := by
  have key : ∀ (k i : Nat) (t : St), i + k = 16 → own_Fz [p] [] s t → own_Ok (fun n => f_forward_7 n (Int32.ofNat p) (Int32.ofNat (p * 16)) (Int32.ofNat i) t) (fun t => own_Fz [p] [] s t) := by
    intro k
    induction k with
    | zero =>
      intro i t hi hF
      obtain rfl : i = 16 := by omega
      refine own_Ok.step (g := fun n => (f_bitReverse n (Int32.ofNat p) t).bind fun c6 => (f_butterflies n (Int32.ofNat p) 0 c6).bind fun c7 => some c7) (fun n => ?_) ?_
      · show g_forward_7 (f_forward_7 n) n _ _ (Int32.ofNat 16) t = _
        unfold g_forward_7
        rw [if_neg (by decide)]
      · refine own_Ok.bind (own_brevF hF.1 p (by omega)) fun t1 f1 => ?_
        refine own_Ok.bind (own_bfliesF f1.1 0 p (Or.inl rfl) hp) fun t2 f2 => ?_
        exact own_Ok.ret (hF.trans (f1.trans f2))
    | succ k ih =>
      intro i t hi hF
      refine own_Ok.step (g := fun n => g_forward_7 (f_forward_7 n) n _ _ (Int32.ofNat i) t) (fun n => rfl) ?_
      unfold g_forward_7 lt
      refine own_Ok.ite (fun _ => ?_) (fun q => absurd ((ofN_ltL (m := 16) (by omega) (by decide)).mpr (by omega)) q)
      refine own_Ok.rc hF.1 (own_ofa (p * 16) i (by omega)) (by omega) fun x _ => ?_
      refine own_Ok.rt hF.1 (ofN_int (k := i) (by omega)) (by omega) fun y => ?_
      refine own_Ok.wc hF.1 (own_ofa (p * 16) i (by omega)) (by omega) ?_
      dsimp only
      rw [ofN_succ]
      exact ih (i + 1) _ (by omega) (hF.wr _ _ (by rw [show (p * 16 + i) / 16 = p by omega]; exact List.mem_cons_self))
  unfold f_forward lt
  rw [own_16]
  exact key 16 0 s rfl (own_Fz.refl hB)
theorem own_invF {s : St} (hB : own_B s) : own_Ok (fun n => f_inverse n 15 s) (fun t => own_Fz [15] [] s t) := by
  have key : ∀ (k i : Nat) (t : St), i + k = 16 → own_Fz [15] [] s t → own_Ok (fun n => f_inverse_18 n (Int32.ofNat 240) (Int32.ofNat i) t) (fun t => own_Fz [15] [] s t) := by
    intro k
    induction k with
    | zero =>
      intro i t hi hF
      obtain rfl : i = 16 := by omega
      refine own_Ok.step (g := fun n => g_inverse_18 (f_inverse_18 n) n _ (Int32.ofNat 16) t) (fun n => rfl) ?_
      unfold g_inverse_18
      exact own_Ok.ite (fun q => absurd q (by decide)) (fun _ => own_Ok.ret hF)
    | succ k ih =>
      intro i t hi hF
      refine own_Ok.step (g := fun n => g_inverse_18 (f_inverse_18 n) n _ (Int32.ofNat i) t) (fun n => rfl) ?_
      unfold g_inverse_18 lt
      obtain ⟨e1, e2⟩ := own_t32 ⟨i, by omega⟩
      refine own_Ok.ite (fun _ => ?_) (fun q => absurd ((ofN_ltL (m := 16) (by omega) (by decide)).mpr (by omega)) q)
      refine own_Ok.rc hF.1 (own_ofa 240 i (by omega)) (by omega) fun x _ => ?_
      refine own_Ok.rt hF.1 e1 e2 fun y => ?_
      refine own_Ok.wc hF.1 (own_ofa 240 i (by omega)) (by omega) ?_
      dsimp only
      rw [ofN_succ]
      exact ih (i + 1) _ (by omega) (hF.wr _ _ (by rw [show (240 + i) / 16 = 15 by omega]; exact List.mem_cons_self))
  unfold f_inverse lt
  refine own_Ok.bind (own_brevF hB 15 (by decide)) fun t1 f1 => ?_
  refine own_Ok.bind (own_bfliesF f1.1 1 15 (Or.inr rfl) (Or.inl rfl)) fun t2 f2 => ?_
  exact key 16 0 t2 rfl (f1.trans f2)
theorem own_mulF {s : St} (hB : own_B s) (p q r : Nat) (hp : p ≤ 16) (hq : q ≤ 16) (hr : r ≤ 16) : own_Ok (fun n => f_mul n (Int32.ofNat p) (Int32.ofNat q) (Int32.ofNat r) s) (fun t => own_Fz [15, 16, r] [] s t) := by
  have key : ∀ (k i : Nat) (t : St), i + k = 16 → own_Fz [15, 16, r] [] s t → own_Ok (fun n => f_mul_39 n (Int32.ofNat r) (Int32.ofNat 240) (Int32.ofNat 256) (Int32.ofNat i) t) (fun t => own_Fz [15, 16, r] [] s t) := by
    intro k
    induction k with
    | zero =>
      intro i t hi hF
      obtain rfl : i = 16 := by omega
      refine own_Ok.step (g := fun n => (f_inverse n 15 t).bind fun c6 => (f_copy n 15 (Int32.ofNat r) c6).bind fun c7 => some c7) (fun n => ?_) ?_
      · show g_mul_39 (f_mul_39 n) n _ _ _ (Int32.ofNat 16) t = _
        unfold g_mul_39
        rw [if_neg (by decide)]
      · refine own_Ok.bind (own_invF hF.1) fun t1 f1 => ?_
        refine own_Ok.bind (own_copyF f1.1 15 r (by decide) hr) fun t2 f2 => ?_
        refine own_Ok.ret (hF.trans ((f1.mono (fun j hj => ?_) (fun j hj => by cases hj)).trans (f2.mono (fun j hj => ?_) (fun j hj => by cases hj))))
        · rw [List.mem_singleton] at hj; subst hj; exact List.mem_cons_self
        · rw [List.mem_singleton] at hj; subst hj; exact List.mem_cons_of_mem _ (List.mem_cons_of_mem _ List.mem_cons_self)
    | succ k ih =>
      intro i t hi hF
      refine own_Ok.step (g := fun n => g_mul_39 (f_mul_39 n) n _ _ _ (Int32.ofNat i) t) (fun n => rfl) ?_
      unfold g_mul_39 lt
      refine own_Ok.ite (fun _ => ?_) (fun q => absurd ((ofN_ltL (m := 16) (by omega) (by decide)).mpr (by omega)) q)
      refine own_Ok.rc hF.1 (own_ofa 240 i (by omega)) (by omega) fun x _ => ?_
      refine own_Ok.rc hF.1 (own_ofa 256 i (by omega)) (by omega) fun y _ => ?_
      refine own_Ok.wc hF.1 (own_ofa 240 i (by omega)) (by omega) ?_
      dsimp only
      rw [ofN_succ]
      exact ih (i + 1) _ (by omega) (hF.wr _ _ (by rw [show (240 + i) / 16 = 15 by omega]; exact List.mem_cons_self))
  have m1 : ∀ j ∈ [15], j ∈ [15, 16, r] := fun j hj => by rw [List.mem_singleton] at hj; subst hj; exact List.mem_cons_self
  have m2 : ∀ j ∈ [16], j ∈ [15, 16, r] := fun j hj => by rw [List.mem_singleton] at hj; subst hj; exact List.mem_cons_of_mem _ List.mem_cons_self
  unfold f_mul
  refine own_Ok.bind (own_copyF hB p 15 hp (by decide)) fun t1 f1 => ?_
  refine own_Ok.bind (own_copyF f1.1 q 16 hq (by decide)) fun t2 f2 => ?_
  refine own_Ok.bind (own_fwdF f2.1 15 (Or.inl rfl)) fun t3 f3 => ?_
  refine own_Ok.bind (own_fwdF f3.1 16 (Or.inr rfl)) fun t4 f4 => ?_
  exact key 16 0 t4 rfl ((((f1.mono m1 (fun j hj => hj)).trans (f2.mono m2 (fun j hj => hj))).trans (f3.mono m1 (fun j hj => hj))).trans (f4.mono m2 (fun j hj => hj)))

def own_nx : Nat → Int32 → Int32
  | 0, g => g
  | k + 1, g => own_nx k g * 1103515245 + 12345
theorem own_nx_add (a b : Nat) (g : Int32) : own_nx a (own_nx b g) = own_nx (b + a) g := by
  induction a with
  | zero => rfl
  | succ a ih => show own_nx a (own_nx b g) * 1103515245 + 12345 = own_nx (b + a) g * 1103515245 + 12345; rw [ih]
def own_dr (g : Int32) : Int32 := (XT.ushr g 16) &&& 65535
def own_nt (d e j : Int32) : Int32 := ((XT.ushr d j) &&& 1) - ((XT.ushr d (j + e)) &&& 1)
def own_nv (d e : Int32) : Int32 := if e = 1 then 0 + own_nt d 1 0 else if e = 2 then 0 + own_nt d 2 0 + own_nt d 2 1 else 0 + own_nt d 3 0 + own_nt d 3 1 + own_nt d 3 2
theorem own_ntb (d e j : Int32) : -1 ≤ (own_nt d e j).toInt ∧ (own_nt d e j).toInt ≤ 1 := by
  unfold own_nt
  obtain ⟨k, hk, ek⟩ := and_natL (XT.ushr d j) 1 (by decide)
  obtain ⟨l, hl, el⟩ := and_natL (XT.ushr d (j + e)) 1 (by decide)
  have ek : XT.ushr d j &&& 1 = Int32.ofNat k := ek
  have el : XT.ushr d (j + e) &&& 1 = Int32.ofNat l := el
  rw [ek, el]
  have e1 : (Int32.ofNat k).toInt = k := ofN_int (by omega)
  have e2 : (Int32.ofNat l).toInt = l := ofN_int (by omega)
  rw [x32_sub (by omega) (by omega)]; omega
theorem own_nvb (d e : Int32) : -3 ≤ (own_nv d e).toInt ∧ (own_nv d e).toInt ≤ 3 := by
  have z : (0 : Int32).toInt = 0 := by decide
  have a1 := own_ntb d 1 0
  have a2 := own_ntb d 2 0
  have a3 := own_ntb d 2 1
  have a4 := own_ntb d 3 0
  have a5 := own_ntb d 3 1
  have a6 := own_ntb d 3 2
  unfold own_nv
  split
  · rw [x32_add (by omega) (by omega)]; omega
  · split
    · have e1 : ((0 : Int32) + own_nt d 2 0).toInt = 0 + (own_nt d 2 0).toInt := by rw [x32_add (by omega) (by omega), z]
      rw [x32_add (by omega) (by omega)]; omega
    · have e1 : ((0 : Int32) + own_nt d 3 0).toInt = 0 + (own_nt d 3 0).toInt := by rw [x32_add (by omega) (by omega), z]
      have e2 : ((0 : Int32) + own_nt d 3 0 + own_nt d 3 1).toInt = 0 + (own_nt d 3 0).toInt + (own_nt d 3 1).toInt := by rw [x32_add (by omega) (by omega), e1]
      rw [x32_add (by omega) (by omega)]; omega
theorem own_asb (a b c : Int32) : (a + b) - c = a + (b - c) := by rw [Int32.sub_eq_add_neg, Int32.sub_eq_add_neg, Int32.add_assoc]
def own_e3 (e : Int32) : Prop := e = 1 ∨ e = 2 ∨ e = 3
theorem own_noF {s : St} (he : own_e3 (gI s 8)) (m : Nat) : f_noise (m + 4) s = some (own_nv (own_dr (own_nx 1 (gI s 11))) (gI s 8), sI s 11 (own_nx 1 (gI s 11))) := by
  have un : ∀ m v1 v2 v3 (s : St), f_noise_9 (m + 1) v1 v2 v3 s = if v3 < 3 then (if v3 < gI s 8 then f_noise_9 m v1 ((v2 + ((XT.ushr v1 v3) &&& (1 : Int32))) - ((XT.ushr v1 (v3 + (gI s 8))) &&& (1 : Int32))) (v3 + 1) s else f_noise_9 m v1 v2 (v3 + 1) s) else some (v2, s) := fun _ _ _ _ _ => rfl
  show f_noise_9 (m + 4) (own_dr (own_nx 1 (gI s 11))) 0 0 (sI s 11 (own_nx 1 (gI s 11))) = _
  generalize own_dr (own_nx 1 (gI s 11)) = d
  generalize ht : sI s 11 (own_nx 1 (gI s 11)) = t
  have e8 : gI t 8 = gI s 8 := by rw [← ht]; rfl
  rw [← e8] at he ⊢
  rcases he with h | h | h
  · simp only [un, own_asb, h]; rfl
  · simp only [un, own_asb, h]; rfl
  · simp only [un, own_asb, h]; rfl
def own_md (x : Int32) : Int32 := if x % 257 < 0 then x % 257 + 257 else x % 257
theorem own_mod (x : Int32) (s : St) : f_mod x s = some (own_md x) := by
  unfold f_mod own_md lt f_mod_16
  dsimp only
  split <;> rfl
theorem own_mdb (x : Int32) : 0 ≤ (own_md x).toInt ∧ (own_md x).toInt < 257 := by
  have h : (x % 257).toInt = x.toInt.tmod 257 := Int32.toInt_mod x 257
  have h1 := Int.tmod_lt_of_pos x.toInt (b := 257) (by decide)
  have h2 : -257 < x.toInt.tmod 257 := by
    have := Int.lt_tmod_of_pos x.toInt (b := 257) (by decide)
    exact this
  have z : (0 : Int32).toInt = 0 := by decide
  unfold own_md
  split
  · rename_i c
    rw [x32_lt, z] at c
    rw [x32_add (by rw [own_c257]; omega) (by rw [own_c257]; omega), own_c257]; omega
  · rename_i c
    rw [x32_lt, z] at c
    omega
theorem own_md3 (z : Int32) (h : -3 ≤ z.toInt ∧ z.toInt ≤ 3) : own_md z = (z + 257) % 257 := by
  have h7 : z.toInt = -3 ∨ z.toInt = -2 ∨ z.toInt = -1 ∨ z.toInt = 0 ∨ z.toInt = 1 ∨ z.toInt = 2 ∨ z.toInt = 3 := by omega
  rcases h7 with h | h | h | h | h | h | h
  · obtain rfl : z = -3 := x32_eq.mpr (h.trans (by decide)); decide
  · obtain rfl : z = -2 := x32_eq.mpr (h.trans (by decide)); decide
  · obtain rfl : z = -1 := x32_eq.mpr (h.trans (by decide)); decide
  · obtain rfl : z = 0 := x32_eq.mpr (h.trans (by decide)); decide
  · obtain rfl : z = 1 := x32_eq.mpr (h.trans (by decide)); decide
  · obtain rfl : z = 2 := x32_eq.mpr (h.trans (by decide)); decide
  · obtain rfl : z = 3 := x32_eq.mpr (h.trans (by decide)); decide
/-- a loop of sixteen turns -/
theorem own_lp {α : Type} {F : Nat → Int32 → St → Option α} {P : α → Prop} (Inv : Nat → St → Prop)
    (hs : ∀ i t, i < 16 → Inv i t → (∀ t', Inv (i + 1) t' → own_Ok (fun n => F n (Int32.ofNat (i + 1)) t') P) → own_Ok (fun n => F n (Int32.ofNat i) t) P)
    (he : ∀ t, Inv 16 t → own_Ok (fun n => F n (Int32.ofNat 16) t) P) (t : St) (h : Inv 0 t) : own_Ok (fun n => F n (Int32.ofNat 0) t) P := by
  have key : ∀ k i t, i + k = 16 → Inv i t → own_Ok (fun n => F n (Int32.ofNat i) t) P := by
    intro k
    induction k with
    | zero =>
      intro i t hi h
      obtain rfl : i = 16 := by omega
      exact he t h
    | succ k ih =>
      intro i t hi h
      exact hs i t (by omega) h fun t' h' => ih (i + 1) t' (by omega) h'
  exact key 16 0 t rfl h
theorem own_dv (p i : Nat) (hi : i < 16) : (p * 16 + i) / 16 ∈ [p] := by
  rw [show (p * 16 + i) / 16 = p by omega]; exact List.mem_cons_self
theorem own_duF {s : St} (hB : own_B s) (p : Nat) (hp : p ≤ 16) : own_Ok (fun n => f_drawUniform n (Int32.ofNat p) s) (fun t => own_Fz [p] [11] s t ∧ gI t 11 = own_nx 16 (gI s 11) ∧ ∀ i, i < 16 → (gA t 0)[p * 16 + i]? = some (own_dr (own_nx (i + 1) (gI s 11)) % 257)) := by
  unfold f_drawUniform lt
  rw [own_16]
  refine own_lp (F := fun n i t => f_drawUniform_7 n (Int32.ofNat (p * 16)) i t) (fun i t => own_Fz [p] [11] s t ∧ gI t 11 = own_nx i (gI s 11) ∧ ∀ j, j < i → (gA t 0)[p * 16 + j]? = some (own_dr (own_nx (j + 1) (gI s 11)) % 257)) (fun i t hi h k => ?_) (fun t h => ?_) s ⟨own_Fz.refl hB, rfl, fun j hj => absurd hj (Nat.not_lt_zero _)⟩
  · obtain ⟨hF, hg, hc⟩ := h
    refine own_Ok.step (g := fun n => g_drawUniform_7 (f_drawUniform_7 n) n (Int32.ofNat (p * 16)) (Int32.ofNat i) t) (fun n => rfl) ?_
    unfold g_drawUniform_7 f_draw lt
    refine own_Ok.ite (fun _ => ?_) (fun q => absurd ((ofN_ltL (m := 16) (by omega) (by decide)).mpr hi) q)
    refine own_Ok.some_bind ?_
    have f1 := hF.sI 11 (gI t 11 * 1103515245 + 12345) List.mem_cons_self
    refine own_Ok.wc f1.1 (own_ofa (p * 16) i (by omega)) (by omega) ?_
    dsimp only
    rw [ofN_succ]
    refine k _ ⟨f1.wr _ _ (own_dv p i hi), ?_, fun j hj => ?_⟩
    · show gI t 11 * 1103515245 + 12345 = own_nx i (gI s 11) * 1103515245 + 12345
      rw [hg]
    · have hl : (gA t 0).length = 272 := hF.1.1
      show ((gA t 0).set (p * 16 + i) _)[p * 16 + j]? = _
      by_cases c : j = i
      · subst c
        rw [get_set_self _ (by omega)]
        show some ((XT.ushr (gI t 11 * 1103515245 + 12345) 16 &&& 65535) % 257) = _
        rw [hg]; rfl
      · rw [get_set_ne _ (by omega)]; exact hc j (by omega)
  · refine own_Ok.step (g := fun n => g_drawUniform_7 (f_drawUniform_7 n) n (Int32.ofNat (p * 16)) (Int32.ofNat 16) t) (fun n => rfl) ?_
    unfold g_drawUniform_7
    exact own_Ok.ite (fun q => absurd q (by decide)) (fun _ => own_Ok.ret h)
theorem own_Ok.nz {α : Type} {s : St} {G : Nat → Int32 × St → Option α} {P : α → Prop} (he : own_e3 (gI s 8)) (h : own_Ok (fun n => G n (own_nv (own_dr (own_nx 1 (gI s 11))) (gI s 8), sI s 11 (own_nx 1 (gI s 11)))) P) : own_Ok (fun n => (f_noise n s).bind (G n)) P := by
  obtain ⟨r, h1, h2⟩ := h
  refine ⟨r, Ev.bind ⟨4, fun n hn => ?_⟩ h1, h2⟩
  obtain ⟨m, rfl⟩ : ∃ m, n = m + 4 := ⟨n - 4, by omega⟩
  exact own_noF he m
theorem own_dnF {s : St} (hB : own_B s) (he : own_e3 (gI s 8)) (p : Nat) (hp : p ≤ 16) : own_Ok (fun n => f_drawNoise n (Int32.ofNat p) s) (fun t => own_Fz [p] [11] s t ∧ gI t 11 = own_nx 16 (gI s 11) ∧ ∀ i, i < 16 → (gA t 0)[p * 16 + i]? = some (own_md (own_nv (own_dr (own_nx (i + 1) (gI s 11))) (gI s 8)))) := by
  unfold f_drawNoise lt
  rw [own_16]
  refine own_lp (F := fun n i t => f_drawNoise_7 n (Int32.ofNat (p * 16)) i t) (fun i t => own_Fz [p] [11] s t ∧ gI t 11 = own_nx i (gI s 11) ∧ ∀ j, j < i → (gA t 0)[p * 16 + j]? = some (own_md (own_nv (own_dr (own_nx (j + 1) (gI s 11))) (gI s 8)))) (fun i t hi h k => ?_) (fun t h => ?_) s ⟨own_Fz.refl hB, rfl, fun j hj => absurd hj (Nat.not_lt_zero _)⟩
  · obtain ⟨hF, hg, hc⟩ := h
    have e8 : gI t 8 = gI s 8 := hF.2.2.1 8 (by decide)
    refine own_Ok.step (g := fun n => g_drawNoise_7 (f_drawNoise_7 n) n (Int32.ofNat (p * 16)) (Int32.ofNat i) t) (fun n => rfl) ?_
    unfold g_drawNoise_7 lt
    refine own_Ok.ite (fun _ => ?_) (fun q => absurd ((ofN_ltL (m := 16) (by omega) (by decide)).mpr hi) q)
    refine own_Ok.nz (by rw [e8]; exact he) ?_
    simp only [own_mod, Option.bind_some]
    have f1 := hF.sI 11 (own_nx 1 (gI t 11)) List.mem_cons_self
    refine own_Ok.wc f1.1 (own_ofa (p * 16) i (by omega)) (by omega) ?_
    rw [ofN_succ]
    refine k _ ⟨f1.wr _ _ (own_dv p i hi), ?_, fun j hj => ?_⟩
    · show own_nx 1 (gI t 11) = own_nx (i + 1) (gI s 11)
      rw [hg, own_nx_add]
    · have hl : (gA t 0).length = 272 := hF.1.1
      show ((gA t 0).set (p * 16 + i) _)[p * 16 + j]? = _
      by_cases c : j = i
      · subst c
        rw [get_set_self _ (by omega), e8, hg, own_nx_add]
      · rw [get_set_ne _ (by omega)]; exact hc j (by omega)
  · refine own_Ok.step (g := fun n => g_drawNoise_7 (f_drawNoise_7 n) n (Int32.ofNat (p * 16)) (Int32.ofNat 16) t) (fun n => rfl) ?_
    unfold g_drawNoise_7
    exact own_Ok.ite (fun q => absurd q (by decide)) (fun _ => own_Ok.ret h)
theorem own_adF {s : St} (hB : own_B s) (p q : Nat) (hp : p ≤ 16) (hq : q ≤ 16) : own_Ok (fun n => f_addInto n (Int32.ofNat p) (Int32.ofNat q) s) (fun t => own_Fz [p] [] s t) := by
  unfold f_addInto lt
  rw [own_16, own_16]
  refine own_lp (F := fun n i t => f_addInto_14 n (Int32.ofNat (q * 16)) (Int32.ofNat (p * 16)) i t) (fun i t => own_Fz [p] [] s t) (fun i t hi hF k => ?_) (fun t h => ?_) s (own_Fz.refl hB)
  · refine own_Ok.step (g := fun n => g_addInto_14 (f_addInto_14 n) n (Int32.ofNat (q * 16)) (Int32.ofNat (p * 16)) (Int32.ofNat i) t) (fun n => rfl) ?_
    unfold g_addInto_14 lt
    refine own_Ok.ite (fun _ => ?_) (fun q => absurd ((ofN_ltL (m := 16) (by omega) (by decide)).mpr hi) q)
    refine own_Ok.rc hF.1 (own_ofa (p * 16) i (by omega)) (by omega) fun x _ => ?_
    refine own_Ok.rc hF.1 (own_ofa (q * 16) i (by omega)) (by omega) fun y _ => ?_
    refine own_Ok.wc hF.1 (own_ofa (p * 16) i (by omega)) (by omega) ?_
    dsimp only
    rw [ofN_succ]
    exact k _ (hF.wr _ _ (own_dv p i hi))
  · refine own_Ok.step (g := fun n => g_addInto_14 (f_addInto_14 n) n (Int32.ofNat (q * 16)) (Int32.ofNat (p * 16)) (Int32.ofNat 16) t) (fun n => rfl) ?_
    unfold g_addInto_14
    exact own_Ok.ite (fun q => absurd q (by decide)) (fun _ => own_Ok.ret h)
theorem own_clF {s : St} (hB : own_B s) (p : Nat) (hp : p ≤ 16) : own_Ok (fun n => f_clear n (Int32.ofNat p) s) (fun t => own_Fz [p] [] s t ∧ ∀ i, i < 16 → (gA t 0)[p * 16 + i]? = some 0) := by
  unfold f_clear lt
  rw [own_16]
  refine own_lp (F := fun n i t => f_clear_7 n (Int32.ofNat (p * 16)) i t) (fun i t => own_Fz [p] [] s t ∧ ∀ j, j < i → (gA t 0)[p * 16 + j]? = some 0) (fun i t hi h k => ?_) (fun t h => ?_) s ⟨own_Fz.refl hB, fun j hj => absurd hj (Nat.not_lt_zero _)⟩
  · obtain ⟨hF, hc⟩ := h
    refine own_Ok.step (g := fun n => g_clear_7 (f_clear_7 n) n (Int32.ofNat (p * 16)) (Int32.ofNat i) t) (fun n => rfl) ?_
    unfold g_clear_7 lt
    refine own_Ok.ite (fun _ => ?_) (fun q => absurd ((ofN_ltL (m := 16) (by omega) (by decide)).mpr hi) q)
    refine own_Ok.wc hF.1 (own_ofa (p * 16) i (by omega)) (by omega) ?_
    dsimp only
    rw [ofN_succ]
    refine k _ ⟨hF.wr _ _ (own_dv p i hi), fun j hj => ?_⟩
    have hl : (gA t 0).length = 272 := hF.1.1
    show ((gA t 0).set (p * 16 + i) _)[p * 16 + j]? = _
    by_cases c : j = i
    · subst c
      rw [get_set_self _ (by omega)]
    · rw [get_set_ne _ (by omega)]; exact hc j (by omega)
  · refine own_Ok.step (g := fun n => g_clear_7 (f_clear_7 n) n (Int32.ofNat (p * 16)) (Int32.ofNat 16) t) (fun n => rfl) ?_
    unfold g_clear_7
    exact own_Ok.ite (fun q => absurd q (by decide)) (fun _ => own_Ok.ret h)
theorem own_amF {s : St} (hB : own_B s) (m : Int32) : own_Ok (fun n => f_addMessage n m s) (fun t => own_Fz [14] [] s t) := by
  unfold f_addMessage
  refine own_lp (F := fun n i t => f_addMessage_6 n m (Int32.ofNat 224) i t) (fun i t => own_Fz [14] [] s t) (fun i t hi hF k => ?_) (fun t h => ?_) s (own_Fz.refl hB)
  · refine own_Ok.step (g := fun n => g_addMessage_6 (f_addMessage_6 n) n m (Int32.ofNat 224) (Int32.ofNat i) t) (fun n => rfl) ?_
    unfold g_addMessage_6 f_addMessage_45 lt
    refine own_Ok.ite (fun _ => ?_) (fun q => absurd ((ofN_ltL (m := 16) (by omega) (by decide)).mpr hi) q)
    rw [ofN_succ]
    refine own_Ok.ite (fun _ => ?_) (fun _ => k t hF)
    refine own_Ok.rc hF.1 (own_ofa 224 i (by omega)) (by omega) fun x _ => ?_
    refine own_Ok.wc hF.1 (own_ofa 224 i (by omega)) (by omega) ?_
    exact k _ (hF.wr _ _ (own_dv 14 i hi))
  · refine own_Ok.step (g := fun n => g_addMessage_6 (f_addMessage_6 n) n m (Int32.ofNat 224) (Int32.ofNat 16) t) (fun n => rfl) ?_
    unfold g_addMessage_6
    exact own_Ok.ite (fun q => absurd q (by decide)) (fun _ => own_Ok.ret h)
def own_d9 (e : Nat) : Prop := 1 ≤ e ∧ e ≤ 9
theorem own_shl {e : Nat} (h : own_d9 e) : ((1 : Int32) <<< (Int32.ofNat e &&& 31)) = Int32.ofNat (2 ^ e) ∧ ((1 : Int32) <<< (Int32.ofNat e &&& 31)) - 1 = Int32.ofNat (2 ^ e - 1) ∧ 2 ^ e ≤ 512 ∧ 0 < 2 ^ e := by
  have : ∀ e : Fin 10, ((1 : Int32) <<< (Int32.ofNat e.val &&& 31)) = Int32.ofNat (2 ^ e.val) ∧ ((1 : Int32) <<< (Int32.ofNat e.val &&& 31)) - 1 = Int32.ofNat (2 ^ e.val - 1) ∧ 2 ^ e.val ≤ 512 ∧ 0 < 2 ^ e.val := by decide +kernel
  exact this ⟨e, by have := h.2; omega⟩
theorem own_cmpb (x : Int32) {e : Nat} (h : own_d9 e) (s : St) : ∃ k, k < 2 ^ e ∧ f_cmp x (Int32.ofNat e) s = some (Int32.ofNat k) := by
  obtain ⟨-, h2, h3, h4⟩ := own_shl h
  obtain ⟨k, hk, ek⟩ := and_nat (((x <<< (Int32.ofNat e &&& 31)) + (128 : Int32)) / (257 : Int32)) (2 ^ e - 1) (by omega)
  exact ⟨k, by omega, by unfold f_cmp; rw [h2, ek]⟩
theorem own_coF {s : St} (hB : own_B s) (p q e : Nat) (hp : p ≤ 16) (hq : q ≤ 16) (he : own_d9 e) : own_Ok (fun n => f_compressInto n (Int32.ofNat p) (Int32.ofNat q) (Int32.ofNat e) s) (fun t => own_Fz [q] [] s t ∧ ∀ i, i < 16 → ∃ k, k < 2 ^ e ∧ (gA t 0)[q * 16 + i]? = some (Int32.ofNat k)) := by
  unfold f_compressInto lt
  rw [own_16, own_16]
  refine own_lp (F := fun n i t => f_compressInto_15 n (Int32.ofNat e) (Int32.ofNat (p * 16)) (Int32.ofNat (q * 16)) i t) (fun i t => own_Fz [q] [] s t ∧ ∀ j, j < i → ∃ k, k < 2 ^ e ∧ (gA t 0)[q * 16 + j]? = some (Int32.ofNat k)) (fun i t hi h k => ?_) (fun t h => ?_) s ⟨own_Fz.refl hB, fun j hj => absurd hj (Nat.not_lt_zero _)⟩
  · obtain ⟨hF, hc⟩ := h
    refine own_Ok.step (g := fun n => g_compressInto_15 (f_compressInto_15 n) n (Int32.ofNat e) (Int32.ofNat (p * 16)) (Int32.ofNat (q * 16)) (Int32.ofNat i) t) (fun n => rfl) ?_
    unfold g_compressInto_15 lt
    refine own_Ok.ite (fun _ => ?_) (fun q => absurd ((ofN_ltL (m := 16) (by omega) (by decide)).mpr hi) q)
    refine own_Ok.rc hF.1 (own_ofa (p * 16) i (by omega)) (by omega) fun x _ => ?_
    obtain ⟨y, hy, ey⟩ := own_cmpb x he t
    rw [ey]
    refine own_Ok.some_bind ?_
    refine own_Ok.wc hF.1 (own_ofa (q * 16) i (by omega)) (by omega) ?_
    rw [ofN_succ]
    refine k _ ⟨hF.wr _ _ (own_dv q i hi), fun j hj => ?_⟩
    have hl : (gA t 0).length = 272 := hF.1.1
    by_cases c : j = i
    · subst c
      refine ⟨y, hy, ?_⟩
      show ((gA t 0).set (q * 16 + j) _)[q * 16 + j]? = _
      rw [get_set_self _ (by omega)]
    · obtain ⟨z, hz, ez⟩ := hc j (by omega)
      refine ⟨z, hz, ?_⟩
      show ((gA t 0).set (q * 16 + i) _)[q * 16 + j]? = _
      rw [get_set_ne _ (by omega)]; exact ez
  · refine own_Ok.step (g := fun n => g_compressInto_15 (f_compressInto_15 n) n (Int32.ofNat e) (Int32.ofNat (p * 16)) (Int32.ofNat (q * 16)) (Int32.ofNat 16) t) (fun n => rfl) ?_
    unfold g_compressInto_15
    exact own_Ok.ite (fun q => absurd q (by decide)) (fun _ => own_Ok.ret h)
theorem own_deF {s : St} (hB : own_B s) (p q : Nat) (e : Int32) (hp : p ≤ 16) (hq : q ≤ 16) : own_Ok (fun n => f_decompressInto n (Int32.ofNat p) (Int32.ofNat q) e s) (fun t => own_Fz [q] [] s t) := by
  unfold f_decompressInto lt
  rw [own_16, own_16]
  refine own_lp (F := fun n i t => f_decompressInto_15 n e (Int32.ofNat (p * 16)) (Int32.ofNat (q * 16)) i t) (fun i t => own_Fz [q] [] s t) (fun i t hi hF k => ?_) (fun t h => ?_) s (own_Fz.refl hB)
  · refine own_Ok.step (g := fun n => g_decompressInto_15 (f_decompressInto_15 n) n e (Int32.ofNat (p * 16)) (Int32.ofNat (q * 16)) (Int32.ofNat i) t) (fun n => rfl) ?_
    unfold g_decompressInto_15 f_dcmp lt
    refine own_Ok.ite (fun _ => ?_) (fun q => absurd ((ofN_ltL (m := 16) (by omega) (by decide)).mpr hi) q)
    refine own_Ok.rc hF.1 (own_ofa (p * 16) i (by omega)) (by omega) fun x _ => ?_
    refine own_Ok.some_bind ?_
    refine own_Ok.wc hF.1 (own_ofa (q * 16) i (by omega)) (by omega) ?_
    rw [ofN_succ]
    exact k _ (hF.wr _ _ (own_dv q i hi))
  · refine own_Ok.step (g := fun n => g_decompressInto_15 (f_decompressInto_15 n) n e (Int32.ofNat (p * 16)) (Int32.ofNat (q * 16)) (Int32.ofNat 16) t) (fun n => rfl) ?_
    unfold g_decompressInto_15
    exact own_Ok.ite (fun q => absurd q (by decide)) (fun _ => own_Ok.ret h)
/-! the bits -/
def own_c1 (x : Int32) : Int32 := (((x <<< ((1 : Int32) &&& 31)) + (128 : Int32)) / (257 : Int32)) &&& (((1 : Int32) <<< ((1 : Int32) &&& 31)) - (1 : Int32))
def own_bv (c : Nat → Int32) : Nat → Int32
  | 0 => 0
  | i + 1 => own_bv c i ||| (own_c1 (c i) <<< (Int32.ofNat i &&& 31))
def own_ce (s : St) (k : Nat) : Int32 := (gA s 0).getD k 0
theorem own_bv_congr {c d : Nat → Int32} : ∀ {i : Nat}, (∀ j, j < i → c j = d j) → own_bv c i = own_bv d i
  | 0, _ => rfl
  | i + 1, h => by
    show own_bv c i ||| (own_c1 (c i) <<< _) = own_bv d i ||| (own_c1 (d i) <<< _)
    rw [own_bv_congr (fun j hj => h j (by omega)), h i (by omega)]
theorem own_c1b : ∀ x : Fin 257, own_c1 (Int32.ofNat x.val) = if Int32.ofNat x.val < 65 then 0 else if 192 < Int32.ofNat x.val then 0 else 1 := by decide +kernel
theorem own_ce_set {s : St} {k j : Nat} {x : Int32} (hk : k < 272) (hl : (gA s 0).length = 272) : own_ce (sA s 0 ((gA s 0).set k x)) j = if j = k then x else own_ce s j := by
  show ((gA s 0).set k x).getD j 0 = if j = k then x else (gA s 0).getD j 0
  rw [List.getD_eq_getElem?_getD, List.getD_eq_getElem?_getD]
  by_cases c : j = k
  · subst c; rw [get_set_self _ (by omega), if_pos rfl]; rfl
  · rw [get_set_ne _ (Ne.symm c), if_neg c]
theorem own_d56F {s : St} (hB : own_B s) : own_Ok (fun n => f_decaps_56 n 128 224 0 0 s) (fun r => own_Fz [8] [] s r.2 ∧ (∀ i, i < 16 → ∃ k, k < 257 ∧ own_ce r.2 (128 + i) = Int32.ofNat k) ∧ r.1 = own_bv (fun j => own_ce r.2 (128 + j)) 16) := by
  have key : ∀ k i (v : Int32) t, i + k = 16 → (own_Fz [8] [] s t ∧ (∀ j, j < i → ∃ k, k < 257 ∧ own_ce t (128 + j) = Int32.ofNat k) ∧ v = own_bv (fun j => own_ce t (128 + j)) i) → own_Ok (fun n => f_decaps_56 n (Int32.ofNat 128) (Int32.ofNat 224) v (Int32.ofNat i) t) (fun r => own_Fz [8] [] s r.2 ∧ (∀ i, i < 16 → ∃ k, k < 257 ∧ own_ce r.2 (128 + i) = Int32.ofNat k) ∧ r.1 = own_bv (fun j => own_ce r.2 (128 + j)) 16) := by
    intro k
    induction k with
    | zero =>
      intro i v t hi h
      obtain rfl : i = 16 := by omega
      refine own_Ok.step (g := fun n => g_decaps_56 (f_decaps_56 n) n (Int32.ofNat 128) (Int32.ofNat 224) v (Int32.ofNat 16) t) (fun n => rfl) ?_
      unfold g_decaps_56
      exact own_Ok.ite (fun q => absurd q (by decide)) (fun _ => own_Ok.ret h)
    | succ k ih =>
      intro i v t hi h
      obtain ⟨hF, hc, hv⟩ := h
      have hl : (gA t 0).length = 272 := hF.1.1
      refine own_Ok.step (g := fun n => g_decaps_56 (f_decaps_56 n) n (Int32.ofNat 128) (Int32.ofNat 224) v (Int32.ofNat i) t) (fun n => rfl) ?_
      unfold g_decaps_56 f_cmp lt
      refine own_Ok.ite (fun _ => ?_) (fun q => absurd ((ofN_ltL (m := 16) (by omega) (by decide)).mpr (by omega)) q)
      refine own_Ok.rc hF.1 (own_ofa 224 i (by omega)) (by omega) fun x _ => ?_
      refine own_Ok.rc hF.1 (own_ofa 128 i (by omega)) (by omega) fun y _ => ?_
      simp only [own_mod, Option.bind_some]
      refine own_Ok.wc hF.1 (own_ofa 128 i (by omega)) (by omega) ?_
      rw [ofN_succ]
      have hb := own_mdb (x - y)
      refine ih (i + 1) _ _ (by omega) ⟨hF.wr _ _ (own_dv 8 i (by omega)), fun j hj => ?_, ?_⟩
      · rw [own_ce_set (by omega) hl]
        by_cases c : j = i
        · rw [if_pos (by omega)]
          exact ⟨(own_md (x - y)).toInt.toNat, by omega, ofN_of (by omega)⟩
        · rw [if_neg (by omega)]; exact hc j (by omega)
      · show _ = own_bv _ i ||| (own_c1 (own_ce _ (128 + i)) <<< _)
        rw [own_ce_set (by omega) hl, if_pos rfl, hv]
        rw [own_bv_congr (c := fun j => own_ce t (128 + j)) (d := fun j => own_ce (sA t 0 ((gA t 0).set (128 + i) (own_md (x - y)))) (128 + j)) fun j hj => ?_]
        · rfl
        · show own_ce t (128 + j) = own_ce _ (128 + j)
          rw [own_ce_set (by omega) hl, if_neg (by omega)]
  exact key 16 0 0 s rfl ⟨own_Fz.refl hB, fun j hj => absurd hj (Nat.not_lt_zero _), rfl⟩

def own_sum : Nat → (Nat → Int) → Int
  | 0, _ => 0
  | n + 1, f => own_sum n f + f n
theorem own_sum_add (n : Nat) (f g : Nat → Int) : own_sum n (fun i => f i + g i) = own_sum n f + own_sum n g := by
  induction n with
  | zero => rfl
  | succ n ih => show own_sum n (fun i => f i + g i) + (f n + g n) = (own_sum n f + f n) + (own_sum n g + g n); rw [ih]; omega
theorem own_sum_mul (n : Nat) (f : Nat → Int) (c : Int) : own_sum n (fun i => f i * c) = own_sum n f * c := by
  induction n with
  | zero => show (0 : Int) = 0 * c; rw [Int.zero_mul]
  | succ n ih => show own_sum n _ + _ = (own_sum n f + f n) * c; rw [ih, Int.add_mul]
theorem own_sum_congr {n : Nat} {f g : Nat → Int} (h : ∀ i, i < n → f i = g i) : own_sum n f = own_sum n g := by
  induction n with
  | zero => rfl
  | succ n ih => show own_sum n f + f n = own_sum n g + g n; rw [ih (fun i hi => h i (by omega)), h n (by omega)]
/-- the form r at the point x -/
def own_S (x r : Nat → Int) : Int := own_sum 16 (fun i => r i * x i)
theorem own_S_mul (x r : Nat → Int) (c : Int) : own_S x (fun j => r j * c) = own_S x r * c := by
  unfold own_S
  rw [← own_sum_mul]
  exact own_sum_congr fun i _ => by rw [Int.mul_assoc, Int.mul_comm c, Int.mul_assoc]
theorem own_S_add (x r q : Nat → Int) (c : Int) : own_S x (fun j => r j + q j * c) = own_S x r + own_S x q * c := by
  rw [← own_S_mul]
  unfold own_S
  rw [← own_sum_add]
  exact own_sum_congr fun i _ => by rw [Int.add_mul]
theorem own_S_sub (x r q : Nat → Int) (c : Int) : own_S x (fun j => r j - q j * c) = own_S x r - own_S x q * c := by
  have h := own_S_add x r q (-c)
  rw [show (fun j => r j - q j * c) = (fun j => r j + q j * -c) from funext fun j => by rw [Int.mul_neg]; omega, h, Int.mul_neg]; omega
theorem own_mm2 (p c : Int) : (p % 257 * c) % 257 = (p * c) % 257 := by
  rw [Int.mul_emod, Int.emod_emod_of_dvd _ (Int.dvd_refl 257), ← Int.mul_emod]
def own_Lin (x : Nat → Int) (b : Nat) (V : Nat → Int) (M : Nat → Nat → Int) : Prop := ∀ k, k < 16 → V (b + k) = own_S x (M k) % 257
def own_Fr (b : Nat) (V V' : Nat → Int) : Prop := ∀ k, (k < b ∨ b + 16 ≤ k) → V' k = V k
def own_itM (f : Nat → (Nat → Nat → Int) → Nat → Nat → Int) : Nat → (Nat → Nat → Int) → Nat → Nat → Int
  | 0, M => M
  | n + 1, M => f n (own_itM f n M)
def own_scM (i : Nat) (M : Nat → Nat → Int) : Nat → Nat → Int := Jvm.Own.upd M i (fun j => M i j * own_Tn i)
def own_ivM (i : Nat) (M : Nat → Nat → Int) : Nat → Nat → Int := Jvm.Own.upd M i (fun j => M i j * own_Tn ((32 - i) % 32) * 241)
def own_brM (i : Nat) (M : Nat → Nat → Int) : Nat → Nat → Int := if i < own_rv i then Jvm.Own.upd (Jvm.Own.upd M i (M (own_rv i))) (own_rv i) (M i) else M
def own_btM (inv l i : Nat) (M : Nat → Nat → Int) : Nat → Nat → Int :=
  Jvm.Own.upd (Jvm.Own.upd M (own_a l i) (fun j => M (own_a l i) j + M (own_a l i + l / 2) j * own_Tn (own_w inv l i))) (own_a l i + l / 2) (fun j => M (own_a l i) j - M (own_a l i + l / 2) j * own_Tn (own_w inv l i))
theorem own_itLin {x : Nat → Int} {b N : Nat} {f : Nat → (Nat → Int) → Nat → Int} {g : Nat → (Nat → Nat → Int) → Nat → Nat → Int} (h : ∀ i V M, i < N → own_Lin x b V M → own_Lin x b (f i V) (g i M)) {V : Nat → Int} {M : Nat → Nat → Int} (h0 : own_Lin x b V M) : ∀ n, n ≤ N → own_Lin x b (own_it f n V) (own_itM g n M)
  | 0, _ => h0
  | n + 1, hn => h n _ _ (by omega) (own_itLin h h0 n (by omega))
theorem own_itFr {b N : Nat} {f : Nat → (Nat → Int) → Nat → Int} (h : ∀ i V, i < N → own_Fr b V (f i V)) (V : Nat → Int) : ∀ n, n ≤ N → own_Fr b V (own_it f n V)
  | 0, _ => fun _ _ => rfl
  | n + 1, hn => fun k hk => (h n _ (by omega) k hk).trans (own_itFr h V n (by omega) k hk)
theorem own_scL {x : Nat → Int} {b : Nat} (i : Nat) (V : Nat → Int) (M : Nat → Nat → Int) (hi : i < 16) (h : own_Lin x b V M) : own_Lin x b (own_sc b i V) (own_scM i M) := fun k hk => by
  unfold own_sc own_scM Jvm.Own.upd
  by_cases c : k = i
  · subst c
    rw [if_pos rfl, if_pos rfl, h k hk, own_S_mul, own_mm2]
  · rw [if_neg (by omega), if_neg c]; exact h k hk
theorem own_scF (b i : Nat) (V : Nat → Int) (hi : i < 16) : own_Fr b V (own_sc b i V) := fun k hk => by
  unfold own_sc Jvm.Own.upd; rw [if_neg (by omega)]
theorem own_ivL {x : Nat → Int} {b : Nat} (i : Nat) (V : Nat → Int) (M : Nat → Nat → Int) (hi : i < 16) (h : own_Lin x b V M) : own_Lin x b (own_iv b i V) (own_ivM i M) := fun k hk => by
  unfold own_iv own_ivM Jvm.Own.upd
  by_cases c : k = i
  · subst c
    rw [if_pos rfl, if_pos rfl, h k hk, own_S_mul x (fun j => M k j * own_Tn ((32 - k) % 32)), own_S_mul, own_mm2, Int.mul_assoc, own_mm2, ← Int.mul_assoc]
  · rw [if_neg (by omega), if_neg c]; exact h k hk
theorem own_brL {x : Nat → Int} {b : Nat} (i : Nat) (V : Nat → Int) (M : Nat → Nat → Int) (hi : i < 16) (h : own_Lin x b V M) : own_Lin x b (own_br b i V) (own_brM i M) := fun k hk => by
  have hr : own_rv i < 16 := (own_rv16 ⟨i, hi⟩).1
  unfold own_br own_brM
  by_cases c : i < own_rv i
  · rw [if_pos c, if_pos c]
    unfold Jvm.Own.upd
    by_cases c1 : k = own_rv i
    · rw [if_pos (by omega), if_pos c1]; exact h i hi
    · rw [if_neg (by omega), if_neg c1]
      by_cases c2 : k = i
      · rw [if_pos (by omega), if_pos c2]; exact h _ hr
      · rw [if_neg (by omega), if_neg c2]; exact h k hk
  · rw [if_neg c, if_neg c]; exact h k hk
theorem own_brF (b i : Nat) (V : Nat → Int) (hi : i < 16) : own_Fr b V (own_br b i V) := fun k hk => by
  have hr : own_rv i < 16 := (own_rv16 ⟨i, hi⟩).1
  unfold own_br
  by_cases c : i < own_rv i
  · rw [if_pos c]; unfold Jvm.Own.upd; rw [if_neg (by omega), if_neg (by omega)]
  · rw [if_neg c]
theorem own_a16 : ∀ i : Fin 8, ∀ l ∈ [(2 : Nat), 4, 8, 16], own_a l i.val + l / 2 < 16 ∧ 0 < l / 2 := by decide +kernel
theorem own_btL {x : Nat → Int} {b l inv : Nat} (hl : l ∈ [(2 : Nat), 4, 8, 16]) (i : Nat) (V : Nat → Int) (M : Nat → Nat → Int) (hi : i < 8) (h : own_Lin x b V M) : own_Lin x b (own_bt inv b l i V) (own_btM inv l i M) := fun k hk => by
  obtain ⟨h1, h2⟩ := own_a16 ⟨i, hi⟩ l hl
  have h1 : own_a l i + l / 2 < 16 := h1
  have e1 := h (own_a l i) (by omega)
  have e2 := h (own_a l i + l / 2) h1
  unfold own_bt own_btM Jvm.Own.upd
  by_cases c1 : k = own_a l i + l / 2
  · rw [if_pos (by omega), if_pos c1, own_S_sub, e1, show b + own_a l i + l / 2 = b + (own_a l i + l / 2) from by omega, e2, own_mm2]
    omega
  · rw [if_neg (by omega), if_neg c1]
    by_cases c2 : k = own_a l i
    · rw [if_pos (by omega), if_pos c2, own_S_add, e1, show b + own_a l i + l / 2 = b + (own_a l i + l / 2) from by omega, e2, own_mm2]
      omega
    · rw [if_neg (by omega), if_neg c2]; exact h k hk
theorem own_btF {b l inv : Nat} (hl : l ∈ [(2 : Nat), 4, 8, 16]) (i : Nat) (V : Nat → Int) (hi : i < 8) : own_Fr b V (own_bt inv b l i V) := fun k hk => by
  obtain ⟨h1, h2⟩ := own_a16 ⟨i, hi⟩ l hl
  have h1 : own_a l i + l / 2 < 16 := h1
  unfold own_bt Jvm.Own.upd; rw [if_neg (by omega), if_neg (by omega)]
theorem own_bfsL {x : Nat → Int} {b inv : Nat} {V : Nat → Int} {M : Nat → Nat → Int} (h : own_Lin x b V M) : own_Lin x b (own_bfs inv b V) (own_itM (own_btM inv 16) 8 (own_itM (own_btM inv 8) 8 (own_itM (own_btM inv 4) 8 (own_itM (own_btM inv 2) 8 M)))) := by
  have h1 := own_itLin (N := 8) (own_btL (inv := inv) (l := 2) (by decide)) h 8 (Nat.le_refl _)
  have h2 := own_itLin (N := 8) (own_btL (inv := inv) (l := 4) (by decide)) h1 8 (Nat.le_refl _)
  have h3 := own_itLin (N := 8) (own_btL (inv := inv) (l := 8) (by decide)) h2 8 (Nat.le_refl _)
  exact own_itLin (N := 8) (own_btL (inv := inv) (l := 16) (by decide)) h3 8 (Nat.le_refl _)
theorem own_bfsF {b inv : Nat} (V : Nat → Int) : own_Fr b V (own_bfs inv b V) := fun k hk => by
  have h1 := own_itFr (b := b) (N := 8) (own_btF (inv := inv) (l := 2) (by decide)) V 8 (Nat.le_refl _) k hk
  have h2 := own_itFr (b := b) (N := 8) (own_btF (inv := inv) (l := 4) (by decide)) (own_it (own_bt inv b 2) 8 V) 8 (Nat.le_refl _) k hk
  have h3 := own_itFr (b := b) (N := 8) (own_btF (inv := inv) (l := 8) (by decide)) (own_it (own_bt inv b 4) 8 (own_it (own_bt inv b 2) 8 V)) 8 (Nat.le_refl _) k hk
  have h4 := own_itFr (b := b) (N := 8) (own_btF (inv := inv) (l := 16) (by decide)) (own_it (own_bt inv b 8) 8 (own_it (own_bt inv b 4) 8 (own_it (own_bt inv b 2) 8 V))) 8 (Nat.le_refl _) k hk
  exact h4.trans (h3.trans (h2.trans h1))
def own_E (k j : Nat) : Int := if k = j then 1 else 0
def own_FM : Nat → Nat → Int := own_itM (own_btM 0 16) 8 (own_itM (own_btM 0 8) 8 (own_itM (own_btM 0 4) 8 (own_itM (own_btM 0 2) 8 (own_itM own_brM 16 (own_itM own_scM 16 own_E)))))
def own_IM : Nat → Nat → Int := own_itM own_ivM 16 (own_itM (own_btM 1 16) 8 (own_itM (own_btM 1 8) 8 (own_itM (own_btM 1 4) 8 (own_itM (own_btM 1 2) 8 (own_itM own_brM 16 own_E)))))
theorem own_fwL {x : Nat → Int} {b : Nat} {V : Nat → Int} (h : own_Lin x b V own_E) : own_Lin x b (own_fw b V) own_FM :=
  own_bfsL (own_itLin (N := 16) own_brL (own_itLin (N := 16) own_scL h 16 (Nat.le_refl _)) 16 (Nat.le_refl _))
theorem own_inL {x : Nat → Int} {b : Nat} {V : Nat → Int} (h : own_Lin x b V own_E) : own_Lin x b (own_in b V) own_IM :=
  own_itLin (N := 16) own_ivL (own_bfsL (own_itLin (N := 16) own_brL h 16 (Nat.le_refl _))) 16 (Nat.le_refl _)
theorem own_fwF (b : Nat) (V : Nat → Int) : own_Fr b V (own_fw b V) := fun k hk => by
  have h1 := own_itFr (b := b) (N := 16) (own_scF b) V 16 (Nat.le_refl _) k hk
  have h2 := own_itFr (b := b) (N := 16) (own_brF b) (own_it (own_sc b) 16 V) 16 (Nat.le_refl _) k hk
  exact (own_bfsF _ k hk).trans (h2.trans h1)
theorem own_sumE (n : Nat) (x : Nat → Int) (k : Nat) : own_sum n (fun i => own_E k i * x i) = if k < n then x k else 0 := by
  induction n with
  | zero => rfl
  | succ n ih =>
    show own_sum n (fun i => own_E k i * x i) + own_E k n * x n = _
    rw [ih]
    unfold own_E
    by_cases c : k = n
    · subst c; rw [if_neg (by omega), if_pos rfl, if_pos (by omega)]; omega
    · rw [if_neg c]
      by_cases d : k < n
      · rw [if_pos d, if_pos (by omega)]; omega
      · rw [if_neg d, if_neg (by omega)]; omega
theorem own_LinE {x : Nat → Int} {b : Nat} {V : Nat → Int} (h : ∀ k, k < 16 → V (b + k) = x k) (hx : ∀ k, k < 16 → 0 ≤ x k ∧ x k < 257) : own_Lin x b V own_E := fun k hk => by
  unfold own_S
  rw [own_sumE, if_pos hk, h k hk]
  exact (Int.emod_eq_of_lt (hx k hk).1 (hx k hk).2).symm
theorem own_cpV (a b : Nat) (hab : a + 16 ≤ b ∨ b + 16 ≤ a) (V : Nat → Int) : ∀ n, n ≤ 16 → (∀ k, k < n → own_it (own_cp a b) n V (b + k) = V (a + k)) ∧ (∀ k, (k < b ∨ b + n ≤ k) → own_it (own_cp a b) n V k = V k)
  | 0, _ => ⟨fun k hk => absurd hk (Nat.not_lt_zero _), fun _ _ => rfl⟩
  | n + 1, hn => by
    obtain ⟨h1, h2⟩ := own_cpV a b hab V n (by omega)
    constructor
    · intro k hk
      show Jvm.Own.upd (own_it (own_cp a b) n V) (b + n) (own_it (own_cp a b) n V (a + n)) (b + k) = _
      unfold Jvm.Own.upd
      by_cases c : k = n
      · subst c; rw [if_pos rfl]; exact h2 _ (by omega)
      · rw [if_neg (by omega)]; exact h1 k (by omega)
    · intro k hk
      show Jvm.Own.upd (own_it (own_cp a b) n V) (b + n) (own_it (own_cp a b) n V (a + n)) k = _
      unfold Jvm.Own.upd
      rw [if_neg (by omega)]; exact h2 k (by omega)
theorem own_mlV (a b : Nat) (hab : a + 16 ≤ b ∨ b + 16 ≤ a) (V : Nat → Int) : ∀ n, n ≤ 16 → (∀ k, k < n → own_it (own_ml a b) n V (a + k) = (V (a + k) * V (b + k)) % 257) ∧ (∀ k, (k < a ∨ a + n ≤ k) → own_it (own_ml a b) n V k = V k)
  | 0, _ => ⟨fun k hk => absurd hk (Nat.not_lt_zero _), fun _ _ => rfl⟩
  | n + 1, hn => by
    obtain ⟨h1, h2⟩ := own_mlV a b hab V n (by omega)
    constructor
    · intro k hk
      show Jvm.Own.upd (own_it (own_ml a b) n V) (a + n) ((own_it (own_ml a b) n V (a + n) * own_it (own_ml a b) n V (b + n)) % 257) (a + k) = _
      unfold Jvm.Own.upd
      by_cases c : k = n
      · subst c; rw [if_pos rfl, h2 (a + k) (by omega), h2 (b + k) (by omega)]
      · rw [if_neg (by omega)]; exact h1 k (by omega)
    · intro k hk
      show Jvm.Own.upd (own_it (own_ml a b) n V) (a + n) ((own_it (own_ml a b) n V (a + n) * own_it (own_ml a b) n V (b + n)) % 257) k = _
      unfold Jvm.Own.upd
      rw [if_neg (by omega)]; exact h2 k (by omega)
/-- the product's cells as forms -/
theorem own_prod (V : Nat → Int) (hV : ∀ k, k < 272 → 0 ≤ V k ∧ V k < 257) (t : Nat) (ht : t < 16) :
    own_mul V (32 + t) = own_S (fun k => (own_S (fun i => V i) (own_FM k) * own_S (fun i => V (16 + i)) (own_FM k)) % 257) (own_IM t) % 257 := by
  obtain ⟨p1, p2⟩ := own_cpV 0 240 (by omega) V 16 (Nat.le_refl _)
  obtain ⟨q1, q2⟩ := own_cpV 16 256 (by omega) (own_it (own_cp 0 240) 16 V) 16 (Nat.le_refl _)
  have x1 : own_Lin (fun i => V i) 240 (own_it (own_cp 16 256) 16 (own_it (own_cp 0 240) 16 V)) own_E := own_LinE (fun k hk => by rw [q2 _ (by omega), p1 k hk, Nat.zero_add]) (fun k hk => hV k (by omega))
  have x2 := own_fwL x1
  have f1 := own_fwF 240 (own_it (own_cp 16 256) 16 (own_it (own_cp 0 240) 16 V))
  have y1 : own_Lin (fun i => V (16 + i)) 256 (own_fw 240 (own_it (own_cp 16 256) 16 (own_it (own_cp 0 240) 16 V))) own_E := own_LinE (fun k hk => by rw [f1 _ (by omega), q1 k hk, p2 _ (by omega)]) (fun k hk => hV _ (by omega))
  have y2 := own_fwL y1
  have f2 := own_fwF 256 (own_fw 240 (own_it (own_cp 16 256) 16 (own_it (own_cp 0 240) 16 V)))
  obtain ⟨m1, m2⟩ := own_mlV 240 256 (by omega) (own_fw 256 (own_fw 240 (own_it (own_cp 16 256) 16 (own_it (own_cp 0 240) 16 V)))) 16 (Nat.le_refl _)
  have z1 : own_Lin (fun k => (own_S (fun i => V i) (own_FM k) * own_S (fun i => V (16 + i)) (own_FM k)) % 257) 240 (own_it (own_ml 240 256) 16 (own_fw 256 (own_fw 240 (own_it (own_cp 16 256) 16 (own_it (own_cp 0 240) 16 V))))) own_E :=
    own_LinE (fun k hk => by rw [m1 k hk, f2 _ (by omega), x2 k hk, y2 k hk, ← Int.mul_emod]) (fun k hk => own_rg _)
  have z2 := own_inL z1 t ht
  obtain ⟨r1, -⟩ := own_cpV 240 32 (by omega) (own_in 240 (own_it (own_ml 240 256) 16 (own_fw 256 (own_fw 240 (own_it (own_cp 16 256) 16 (own_it (own_cp 0 240) 16 V)))))) 16 (Nat.le_refl _)
  exact (r1 t ht).trans z2

def own_Fl : List (List Int) := [[1, 136, 249, 197, 64, 223, 2, 15, 241, 137, 128, 189, 4, 30, 225, 17], [1, 197, 2, 137, 4, 17, 8, 34, 16, 68, 32, 136, 64, 15, 128, 30], [1, 223, 128, 17, 193, 120, 32, 197, 241, 30, 8, 242, 253, 136, 2, 189], [1, 15, 225, 34, 253, 197, 128, 121, 16, 240, 2, 30, 193, 68, 249, 137], [1, 137, 8, 68, 64, 30, 255, 240, 241, 121, 129, 197, 4, 34, 32, 15], [1, 189, 255, 136, 4, 242, 249, 30, 16, 197, 225, 120, 64, 17, 129, 223], [1, 30, 129, 15, 193, 136, 225, 68, 241, 34, 249, 17, 253, 137, 255, 197], [1, 17, 32, 30, 253, 189, 129, 137, 16, 15, 255, 223, 193, 197, 8, 136], [1, 121, 249, 60, 64, 34, 2, 242, 241, 120, 128, 68, 4, 227, 225, 240], [1, 60, 2, 120, 4, 240, 8, 223, 16, 189, 32, 121, 64, 242, 128, 227], [1, 34, 128, 240, 193, 137, 32, 60, 241, 227, 8, 15, 253, 121, 2, 68], [1, 242, 225, 223, 253, 60, 128, 136, 16, 17, 2, 227, 193, 189, 249, 120], [1, 120, 8, 189, 64, 227, 255, 17, 241, 136, 129, 60, 4, 223, 32, 242], [1, 68, 255, 121, 4, 15, 249, 227, 16, 60, 225, 137, 64, 240, 129, 34], [1, 227, 129, 242, 193, 121, 225, 189, 241, 223, 249, 240, 253, 120, 255, 60], [1, 240, 32, 227, 253, 68, 129, 120, 16, 242, 255, 34, 193, 60, 8, 121]]
def own_Il : List (List Int) := [[241, 241, 241, 241, 241, 241, 241, 241, 241, 241, 241, 241, 241, 241, 241, 241], [15, 223, 197, 136, 240, 227, 68, 120, 242, 34, 60, 121, 17, 30, 189, 137], [2, 249, 32, 129, 255, 8, 225, 128, 2, 249, 32, 129, 255, 8, 225, 128], [223, 240, 120, 60, 30, 15, 136, 68, 34, 17, 137, 197, 227, 242, 121, 189], [64, 253, 193, 4, 64, 253, 193, 4, 64, 253, 193, 4, 64, 253, 193, 4], [197, 120, 17, 223, 68, 121, 15, 227, 60, 137, 240, 34, 189, 136, 242, 30], [249, 255, 128, 32, 8, 2, 129, 225, 249, 255, 128, 32, 8, 2, 129, 225], [136, 60, 223, 242, 137, 68, 30, 240, 121, 197, 34, 15, 120, 189, 227, 17], [1, 256, 1, 256, 1, 256, 1, 256, 1, 256, 1, 256, 1, 256, 1, 256], [240, 30, 68, 137, 242, 223, 60, 136, 17, 227, 189, 120, 15, 34, 197, 121], [32, 128, 255, 249, 225, 129, 2, 8, 32, 128, 255, 249, 225, 129, 2, 8], [227, 15, 121, 68, 223, 17, 120, 197, 30, 242, 136, 189, 34, 240, 137, 60], [253, 64, 4, 193, 253, 64, 4, 193, 253, 64, 4, 193, 253, 64, 4, 193], [68, 136, 15, 30, 60, 120, 240, 223, 189, 121, 242, 227, 197, 137, 17, 34], [129, 32, 249, 2, 128, 225, 8, 255, 129, 32, 249, 2, 128, 225, 8, 255], [120, 68, 227, 240, 136, 197, 223, 15, 137, 189, 30, 17, 121, 60, 34, 242]]
def own_F (k i : Nat) : Int := (own_Fl.getD k []).getD i 0
def own_J (k i : Nat) : Int := (own_Il.getD k []).getD i 0
theorem own_FMl : ∀ k i : Fin 16, own_FM k.val i.val % 257 = own_F k.val i.val := by decide +kernel
theorem own_IMl : ∀ k i : Fin 16, own_IM k.val i.val % 257 = own_J k.val i.val := by decide +kernel
def own_dl (t i j : Nat) : Int := if i + j = t then 1 else if i + j = t + 16 then 256 else 0
theorem own_id : ∀ t i j : Fin 16, own_sum 16 (fun k => own_J t.val k * (own_F k i.val * own_F k j.val)) % 257 = own_dl t.val i.val j.val := by decide +kernel
theorem own_sum_mod {n : Nat} {f g : Nat → Int} (h : ∀ i, i < n → f i % 257 = g i % 257) : own_sum n f % 257 = own_sum n g % 257 := by
  induction n with
  | zero => rfl
  | succ n ih =>
    show (own_sum n f + f n) % 257 = (own_sum n g + g n) % 257
    rw [Int.add_emod, ih (fun i hi => h i (by omega)), h n (by omega), ← Int.add_emod]
theorem own_SF (x : Nat → Int) (k : Nat) (hk : k < 16) : own_S x (own_FM k) % 257 = own_S x (own_F k) % 257 := own_sum_mod fun i hi => by
  rw [← own_FMl ⟨k, hk⟩ ⟨i, hi⟩, own_mm2]
theorem own_ar {a b c a' b' c' : Int} (ha : a % 257 = a' % 257) (hb : b % 257 = b' % 257) (hc : c % 257 = c') : (c * ((a * b) % 257)) % 257 = (c' * (a' * b')) % 257 := by
  subst hc
  have e1 : (c * ((a * b) % 257)) % 257 = (c * (a * b)) % 257 := by rw [Int.mul_comm, own_mm2, Int.mul_comm]
  have e2 : (a * b) % 257 = (a' * b') % 257 := by rw [Int.mul_emod a b, ha, hb, ← Int.mul_emod]
  rw [e1, own_mm2, Int.mul_emod c (a * b), e2, ← Int.mul_emod]
/-- the product with literal matrices, no inner mod -/
theorem own_prod2 (V : Nat → Int) (hV : ∀ k, k < 272 → 0 ≤ V k ∧ V k < 257) (t : Nat) (ht : t < 16) :
    own_mul V (32 + t) = own_sum 16 (fun k => own_J t k * (own_S (fun i => V i) (own_F k) * own_S (fun i => V (16 + i)) (own_F k))) % 257 := by
  rw [own_prod V hV t ht]
  refine own_sum_mod fun k hk => ?_
  have a := own_SF (fun i => V i) k hk
  have b := own_SF (fun i => V (16 + i)) k hk
  have c := own_IMl ⟨t, ht⟩ ⟨k, hk⟩
  have c : own_IM t k % 257 = own_J t k := c
  exact own_ar a b c
theorem own_Spt (r : Nat → Int) (p q : Nat) (hp : p < 16) (hq : q < 16) (a b : Int) : own_S (fun i => own_E p i * a + own_E q i * b) r = r p * a + r q * b := by
  unfold own_S
  have e1 := own_sumE 16 r p
  have e2 := own_sumE 16 r q
  rw [if_pos hp] at e1
  rw [if_pos hq] at e2
  rw [← e1, ← e2, ← own_sum_mul, ← own_sum_mul, ← own_sum_add]
  refine own_sum_congr fun i _ => ?_
  rw [Int.mul_add]
  congr 1
  · rw [← Int.mul_assoc, Int.mul_comm (r i)]
  · rw [← Int.mul_assoc, Int.mul_comm (r i)]
/-- the product of two points by two points -/
theorem own_prod4 (V : Nat → Int) (hV : ∀ k, k < 272 → 0 ≤ V k ∧ V k < 257) (t p q u v : Nat) (ht : t < 16) (hp : p < 16) (hq : q < 16) (hu : u < 16) (hv : v < 16) (a b c d : Int)
    (hX : ∀ i, i < 16 → V i = own_E p i * a + own_E q i * b) (hY : ∀ i, i < 16 → V (16 + i) = own_E u i * c + own_E v i * d) :
    own_mul V (32 + t) = (own_dl t p u * (a * c) + own_dl t p v * (a * d) + own_dl t q u * (b * c) + own_dl t q v * (b * d)) % 257 := by
  have eX : ∀ r, own_S (fun i => V i) r = r p * a + r q * b := fun r => by
    rw [← own_Spt r p q hp hq a b]; exact own_sum_congr fun i hi => by dsimp only; rw [hX i hi]
  have eY : ∀ r, own_S (fun i => V (16 + i)) r = r u * c + r v * d := fun r => by
    rw [← own_Spt r u v hu hv c d]; exact own_sum_congr fun i hi => by dsimp only; rw [hY i hi]
  have key : own_sum 16 (fun k => own_J t k * (own_S (fun i => V i) (own_F k) * own_S (fun i => V (16 + i)) (own_F k))) =
      own_sum 16 (fun k => own_J t k * (own_F k p * own_F k u)) * (a * c) + own_sum 16 (fun k => own_J t k * (own_F k p * own_F k v)) * (a * d) + own_sum 16 (fun k => own_J t k * (own_F k q * own_F k u)) * (b * c) + own_sum 16 (fun k => own_J t k * (own_F k q * own_F k v)) * (b * d) := by
    rw [← own_sum_mul, ← own_sum_mul, ← own_sum_mul, ← own_sum_mul, ← own_sum_add, ← own_sum_add, ← own_sum_add]
    refine own_sum_congr fun k _ => ?_
    rw [eX, eY]
    generalize own_J t k = z
    generalize own_F k p = f1
    generalize own_F k q = f2
    generalize own_F k u = g1
    generalize own_F k v = g2
    simp only [Int.mul_add, Int.add_mul, Int.mul_assoc, Int.mul_comm, Int.mul_left_comm, Int.add_assoc]
    simp only [Int.add_left_comm, Int.add_comm]
  rw [own_prod2 V hV t ht, key]
  have m : ∀ x y z : Int, x % 257 = y → (x * z) % 257 = (y * z) % 257 := fun x y z h => by rw [← h, own_mm2]
  have k1 := m _ _ (a * c) (own_id ⟨t, ht⟩ ⟨p, hp⟩ ⟨u, hu⟩)
  have k2 := m _ _ (a * d) (own_id ⟨t, ht⟩ ⟨p, hp⟩ ⟨v, hv⟩)
  have k3 := m _ _ (b * c) (own_id ⟨t, ht⟩ ⟨q, hq⟩ ⟨u, hu⟩)
  have k4 := m _ _ (b * d) (own_id ⟨t, ht⟩ ⟨q, hq⟩ ⟨v, hv⟩)
  dsimp only at k1 k2 k3 k4
  omega

theorem own_sum0 (n : Nat) : own_sum n (fun _ => 0) = 0 := by
  induction n with
  | zero => rfl
  | succ n ih => show own_sum n (fun _ => 0) + 0 = 0; rw [ih]; rfl
theorem own_sum_comm (n m : Nat) (f : Nat → Nat → Int) : own_sum n (fun k => own_sum m (fun i => f k i)) = own_sum m (fun i => own_sum n (fun k => f k i)) := by
  induction n with
  | zero => exact (own_sum0 m).symm
  | succ n ih =>
    show own_sum n (fun k => own_sum m (fun i => f k i)) + own_sum m (fun i => f n i) = own_sum m (fun i => own_sum n (fun k => f k i) + f n i)
    rw [ih, own_sum_add]
theorem own_sum_lmul (n : Nat) (f : Nat → Int) (c : Int) : own_sum n (fun i => c * f i) = c * own_sum n f := by
  rw [Int.mul_comm, ← own_sum_mul]; exact own_sum_congr fun i _ => Int.mul_comm _ _
/-- the product of two polynomials, as a form (no mod) -/
def own_P (x y : Nat → Int) (t : Nat) : Int := own_sum 16 (fun k => own_J t k * (own_S x (own_F k) * own_S y (own_F k)))
theorem own_mulc {a b c d : Int} (h : a % 257 = b % 257) (k : c % 257 = d % 257) : (a * c) % 257 = (b * d) % 257 := by
  rw [Int.mul_emod, h, k, ← Int.mul_emod]
theorem own_Sc {x y r : Nat → Int} (h : ∀ i, i < 16 → x i % 257 = y i % 257) : own_S x r % 257 = own_S y r % 257 :=
  own_sum_mod fun i hi => own_mulc rfl (h i hi)
theorem own_Pc {x y x' y' : Nat → Int} (h : ∀ i, i < 16 → x i % 257 = x' i % 257) (k : ∀ i, i < 16 → y i % 257 = y' i % 257) (t : Nat) : own_P x y t % 257 = own_P x' y' t % 257 :=
  own_sum_mod fun _ _ => own_mulc rfl (own_mulc (own_Sc h) (own_Sc k))
theorem own_Sadd (x y r : Nat → Int) : own_S (fun i => x i + y i) r = own_S x r + own_S y r := by
  unfold own_S
  rw [← own_sum_add]; exact own_sum_congr fun i _ => Int.mul_add _ _ _
theorem own_Padd1 (x y z : Nat → Int) (t : Nat) : own_P (fun i => x i + y i) z t = own_P x z t + own_P y z t := by
  unfold own_P
  rw [← own_sum_add]
  refine own_sum_congr fun k _ => ?_
  rw [own_Sadd, Int.add_mul, Int.mul_add]
theorem own_Padd2 (x y z : Nat → Int) (t : Nat) : own_P z (fun i => x i + y i) t = own_P z x t + own_P z y t := by
  unfold own_P
  rw [← own_sum_add]
  refine own_sum_congr fun k _ => ?_
  rw [own_Sadd, Int.mul_add, Int.mul_add]
theorem own_FJ : ∀ j k : Fin 16, own_sum 16 (fun t => own_F j.val t * own_J t k.val) % 257 = own_E j.val k.val := by decide +kernel
theorem own_SP (x y : Nat → Int) (j : Nat) (hj : j < 16) : own_S (own_P x y) (own_F j) % 257 = (own_S x (own_F j) * own_S y (own_F j)) % 257 := by
  have e1 : own_S (own_P x y) (own_F j) = own_sum 16 (fun k => own_sum 16 (fun t => own_F j t * own_J t k) * (own_S x (own_F k) * own_S y (own_F k))) := by
    unfold own_S own_P
    rw [own_sum_congr (g := fun t => own_sum 16 (fun k => own_F j t * own_J t k * (own_S x (own_F k) * own_S y (own_F k)))) fun t _ => ?_, own_sum_comm]
    · exact own_sum_congr fun k _ => own_sum_mul _ _ _
    · rw [← own_sum_lmul]; exact own_sum_congr fun k _ => (Int.mul_assoc _ _ _).symm
  rw [e1, own_sum_mod (g := fun k => own_E j k * (own_S x (own_F k) * own_S y (own_F k))) fun k hk => ?_, own_sumE, if_pos hj]
  have := own_FJ ⟨j, hj⟩ ⟨k, hk⟩
  dsimp only at this
  rw [← this, own_mm2]
theorem own_assoc (a s r : Nat → Int) (t : Nat) : own_P (own_P a s) r t % 257 = own_P s (own_P a r) t % 257 :=
  own_sum_mod fun k hk => by
    refine own_mulc rfl ?_
    rw [own_mulc (own_SP a s k hk) rfl, own_mulc (rfl : own_S s (own_F k) % 257 = own_S s (own_F k) % 257) (own_SP a r k hk)]
    congr 1
    rw [← Int.mul_assoc, Int.mul_comm (own_S a (own_F k)) (own_S s (own_F k))]
/-- the product's cells -/
def own_cv (x y : Nat → Int) (t : Nat) : Int := own_sum 16 (fun i => x i * (if i ≤ t then y (t - i) else - y (t + 16 - i)))
theorem own_dlS (y : Nat → Int) (t i : Nat) (ht : t < 16) (hi : i < 16) : own_sum 16 (fun u => own_dl t i u * y u) % 257 = (if i ≤ t then y (t - i) else - y (t + 16 - i)) % 257 := by
  by_cases c : i ≤ t
  · rw [if_pos c, own_sum_congr (g := fun u => own_E (t - i) u * y u) fun u hu => ?_, own_sumE, if_pos (by omega)]
    unfold own_dl own_E
    by_cases q : t - i = u
    · rw [if_pos q, if_pos (by omega)]
    · rw [if_neg q, if_neg (by omega), if_neg (by omega)]
  · rw [if_neg c, own_sum_congr (g := fun u => own_E (t + 16 - i) u * y u * 256) fun u hu => ?_, own_sum_mul, own_sumE, if_pos (by omega)]
    · omega
    · unfold own_dl own_E
      by_cases q : t + 16 - i = u
      · rw [if_pos q, if_neg (by omega), if_pos (by omega)]; omega
      · rw [if_neg q, if_neg (by omega), if_neg (by omega)]; omega
theorem own_Pcv (x y : Nat → Int) (t : Nat) (ht : t < 16) : own_P x y t % 257 = own_cv x y t % 257 := by
  have e1 : own_P x y t = own_sum 16 (fun i => x i * own_sum 16 (fun u => own_sum 16 (fun k => own_J t k * (own_F k i * own_F k u)) * y u)) := by
    have e2 : ∀ k, own_J t k * (own_S x (own_F k) * own_S y (own_F k)) = own_sum 16 (fun i => x i * own_sum 16 (fun u => own_J t k * (own_F k i * own_F k u) * y u)) := fun k => by
      unfold own_S
      rw [← own_sum_mul, ← own_sum_lmul]
      refine own_sum_congr fun i _ => ?_
      rw [← own_sum_lmul, ← own_sum_lmul, ← own_sum_lmul]
      refine own_sum_congr fun u _ => ?_
      generalize own_J t k = a
      generalize own_F k i = b
      generalize own_F k u = c
      simp only [Int.mul_assoc, Int.mul_comm, Int.mul_left_comm]
    unfold own_P
    rw [own_sum_congr (g := fun k => own_sum 16 (fun i => x i * own_sum 16 (fun u => own_J t k * (own_F k i * own_F k u) * y u))) fun k _ => e2 k, own_sum_comm]
    refine own_sum_congr fun i _ => ?_
    rw [own_sum_lmul]
    congr 1
    rw [own_sum_comm]
    exact own_sum_congr fun u _ => own_sum_mul _ _ _
  rw [e1]
  refine own_sum_mod fun i hi => own_mulc rfl ?_
  rw [← own_dlS y t i ht hi]
  refine own_sum_mod fun u hu => ?_
  have := own_id ⟨t, ht⟩ ⟨i, hi⟩ ⟨u, hu⟩
  dsimp only at this
  rw [← this, own_mm2]
theorem own_sumB (n : Nat) (f : Nat → Int) (h : ∀ i, i < n → -1 ≤ f i ∧ f i ≤ 1) : -(n : Int) ≤ own_sum n f ∧ own_sum n f ≤ n := by
  induction n with
  | zero => exact ⟨Int.le_refl 0, Int.le_refl 0⟩
  | succ n ih =>
    have h1 := ih fun i hi => h i (by omega)
    have h2 := h n (by omega)
    show -((n + 1 : Nat) : Int) ≤ own_sum n f + f n ∧ own_sum n f + f n ≤ ((n + 1 : Nat) : Int)
    omega
theorem own_mul1 {a b : Int} (ha : -1 ≤ a ∧ a ≤ 1) (hb : -1 ≤ b ∧ b ≤ 1) : -1 ≤ a * b ∧ a * b ≤ 1 := by
  have h : a = -1 ∨ a = 0 ∨ a = 1 := by omega
  rcases h with rfl | rfl | rfl <;> omega
theorem own_cvB (x y : Nat → Int) (t : Nat) (ht : t < 16) (hx : ∀ i, i < 16 → -1 ≤ x i ∧ x i ≤ 1) (hy : ∀ i, i < 16 → -1 ≤ y i ∧ y i ≤ 1) : -16 ≤ own_cv x y t ∧ own_cv x y t ≤ 16 :=
  own_sumB 16 _ fun i hi => own_mul1 (hx i hi) (by
    by_cases c : i ≤ t
    · rw [if_pos c]; exact hy _ (by omega)
    · rw [if_neg c]
      have := hy (t + 16 - i) (by omega)
      omega)
/-- cells of one of the values 0, 1, -1 -/
def own_sml (x : Nat → Int) : Prop := ∀ i, i < 16 → x i = 0 ∨ x i = 1 ∨ x i = 256
def own_tr (x : Nat → Int) (i : Nat) : Int := if x i = 256 then -1 else x i
theorem own_trc {x : Nat → Int} {i : Nat} : x i % 257 = own_tr x i % 257 := by
  unfold own_tr
  split
  · rename_i h; rw [h]; rfl
  · rfl
theorem own_trb {x : Nat → Int} (h : own_sml x) {i : Nat} (hi : i < 16) : -1 ≤ own_tr x i ∧ own_tr x i ≤ 1 := by
  unfold own_tr
  rcases h i hi with h | h | h
  · rw [h]; decide
  · rw [h]; decide
  · rw [h]; decide
theorem own_Psm {x y : Nat → Int} (hx : own_sml x) (hy : own_sml y) (t : Nat) (ht : t < 16) : ∃ c, -16 ≤ c ∧ c ≤ 16 ∧ own_P x y t % 257 = c % 257 := by
  have h := own_cvB (own_tr x) (own_tr y) t ht (fun i hi => own_trb hx hi) (fun i hi => own_trb hy hi)
  exact ⟨_, h.1, h.2, (own_Pc (fun i _ => own_trc) (fun i _ => own_trc) t).trans (own_Pcv _ _ t ht)⟩
theorem own_Psd {x y : Nat → Int} (hx : own_sml x) (hy : ∀ i, i < 16 → -1 ≤ y i ∧ y i ≤ 1) (t : Nat) (ht : t < 16) : ∃ c, -16 ≤ c ∧ c ≤ 16 ∧ own_P x y t % 257 = c % 257 := by
  have h := own_cvB (own_tr x) y t ht (fun i hi => own_trb hx hi) hy
  exact ⟨_, h.1, h.2, (own_Pc (fun i _ => own_trc) (fun i _ => rfl) t).trans (own_Pcv _ _ t ht)⟩
theorem own_cg {x y : Int} (h : x % 257 = y % 257) : ∃ k, x = y + 257 * k := ⟨x / 257 - y / 257, by omega⟩
theorem own_c3 {x u q e d : Int} (h1 : x % 257 = (u + d) % 257) (h2 : u % 257 = (q + e) % 257) : x % 257 = (q + e + d) % 257 := by omega
theorem own_b57 {x z a b c : Int} (h1 : -8 ≤ x ∧ x ≤ 8) (h2 : -1 ≤ z ∧ z ≤ 1) (a1 : -16 ≤ a) (a2 : a ≤ 16) (b1 : -16 ≤ b) (b2 : b ≤ 16) (c1 : -16 ≤ c) (c2 : c ≤ 16) : -57 ≤ x + z + a - b - c ∧ x + z + a - b - c ≤ 57 := by omega
theorem own_lin {w v' z7 z10 ε z6 z9 m z1 z3 z2 z4 z5 c1 c2 c3 z8 k1 k2 k3 k4 k5 k6 k7 k8 k9 k10 : Int} (hw : w = v' - z7 + 257 * k1) (hv' : v' = z10 + ε + 257 * k2) (hv : z10 = z6 + z9 + 129 * m + 257 * k3) (p1 : z6 = z1 + z3 + 257 * k4) (p2 : z7 = z2 + z4 + z5 + 257 * k5) (p3 : z1 = z2 + 257 * k6) (q1 : z3 = c1 + 257 * k7) (q2 : z4 = c2 + 257 * k8) (q3 : z5 = c3 + 257 * k9) (t3 : z9 = z8 + 257 * k10) : w = (129 * m + (ε + z8 + c1 - c2 - c3)) + 257 * (k1 + k2 + k3 + k4 - k5 + k6 + k7 - k8 - k9 + k10) := by omega
/-- what the receiver finds -/
theorem own_alg {a b s e r e1 e2 u v u' δ : Nat → Int} {m ε v' w : Int} {t : Nat} (ht : t < 16) (hs : own_sml s) (he : own_sml e) (hr : own_sml r) (he1 : own_sml e1) (he2 : own_sml e2)
    (hb : ∀ i, i < 16 → b i % 257 = (own_P a s i + e i) % 257) (hu : ∀ i, i < 16 → u i % 257 = (own_P a r i + e1 i) % 257) (hv : v t % 257 = (own_P b r t + e2 t + 129 * m) % 257)
    (hu' : ∀ i, i < 16 → u' i % 257 = (u i + δ i) % 257) (hδ : ∀ i, i < 16 → -1 ≤ δ i ∧ δ i ≤ 1) (hv' : v' % 257 = (v t + ε) % 257) (hε : -8 ≤ ε ∧ ε ≤ 8) (hw : w % 257 = (v' - own_P s u' t) % 257) : ∃ c, -57 ≤ c ∧ c ≤ 57 ∧ w % 257 = (129 * m + c) % 257 := by
  have p1 : own_P b r t % 257 = (own_P (own_P a s) r t + own_P e r t) % 257 := by
    rw [← own_Padd1]; exact own_Pc hb (fun _ _ => rfl) t
  have p2 : own_P s u' t % 257 = (own_P s (own_P a r) t + own_P s e1 t + own_P s δ t) % 257 := by
    rw [← own_Padd2, ← own_Padd2]
    refine own_Pc (fun _ _ => rfl) (fun i hi => ?_) t
    exact own_c3 (hu' i hi) (hu i hi)
  have p3 := own_assoc a s r t
  obtain ⟨c1, a1, b1, q1⟩ := own_Psm he hr t ht
  obtain ⟨c2, a2, b2, q2⟩ := own_Psm hs he1 t ht
  obtain ⟨c3, a3, b3, q3⟩ := own_Psd hs hδ t ht
  have t2 := own_trb he2 ht
  have t3 := @own_trc e2 t
  have bb := own_b57 hε t2 a1 b1 a2 b2 a3 b3
  refine ⟨ε + own_tr e2 t + c1 - c2 - c3, bb.1, bb.2, ?_⟩
  generalize own_P (own_P a s) r t = z1 at p1 p3
  generalize own_P s (own_P a r) t = z2 at p2 p3
  generalize own_P e r t = z3 at p1 q1
  generalize own_P s e1 t = z4 at p2 q2
  generalize own_P s δ t = z5 at p2 q3
  generalize own_P b r t = z6 at p1 hv
  generalize own_P s u' t = z7 at p2 hw
  generalize own_tr e2 t = z8 at t2 t3
  generalize e2 t = z9 at t3 hv
  generalize v t = z10 at hv hv'
  clear hu hb hu' hδ he2 hs he hr he1
  obtain ⟨k1, hw⟩ := own_cg hw
  obtain ⟨k2, hv'⟩ := own_cg hv'
  obtain ⟨k3, hv⟩ := own_cg hv
  obtain ⟨k4, p1⟩ := own_cg p1
  obtain ⟨k5, p2⟩ := own_cg p2
  obtain ⟨k6, p3⟩ := own_cg p3
  obtain ⟨k7, q1⟩ := own_cg q1
  obtain ⟨k8, q2⟩ := own_cg q2
  obtain ⟨k9, q3⟩ := own_cg q3
  obtain ⟨k10, t3⟩ := own_cg t3
  have e := own_lin hw hv' hv p1 p2 p3 q1 q2 q3 t3
  rw [e, Int.add_mul_emod_self_left]

/-! what the loops leave, cell by cell -/
theorem own_ceq {s : St} {k : Nat} {x : Int32} (h : (gA s 0)[k]? = some x) : own_ce s k = x := by
  unfold own_ce; rw [List.getD_eq_getElem?_getD, h]; rfl
theorem own_Fz.ce {R I : List Nat} {s t : St} (h : own_Fz R I s t) {k : Nat} (hk : k < 272) (hr : k / 16 ∉ R) : own_ce t k = own_ce s k := by
  unfold own_ce
  rw [List.getD_eq_getElem?_getD, List.getD_eq_getElem?_getD, h.2.2.2 k hk hr]
theorem own_cpV2 {s : St} (hB : own_B s) (p q : Nat) (hp : p ≤ 16) (hq : q ≤ 16) (hpq : p ≠ q) : own_Ok (fun n => f_copy n (Int32.ofNat p) (Int32.ofNat q) s) (fun t => own_Fz [q] [] s t ∧ ∀ i, i < 16 → own_ce t (q * 16 + i) = own_ce s (p * 16 + i)) := by
  unfold f_copy lt
  rw [own_16, own_16]
  refine own_lp (F := fun n i t => f_copy_14 n (Int32.ofNat (p * 16)) (Int32.ofNat (q * 16)) i t) (fun i t => own_Fz [q] [] s t ∧ ∀ j, j < i → own_ce t (q * 16 + j) = own_ce s (p * 16 + j)) (fun i t hi h k => ?_) (fun t h => ?_) s ⟨own_Fz.refl hB, fun j hj => absurd hj (Nat.not_lt_zero _)⟩
  · obtain ⟨hF, hc⟩ := h
    have hl : (gA t 0).length = 272 := hF.1.1
    refine own_Ok.step (g := fun n => g_copy_14 (f_copy_14 n) n (Int32.ofNat (p * 16)) (Int32.ofNat (q * 16)) (Int32.ofNat i) t) (fun n => rfl) ?_
    unfold g_copy_14 lt
    refine own_Ok.ite (fun _ => ?_) (fun q => absurd ((ofN_ltL (m := 16) (by omega) (by decide)).mpr hi) q)
    refine own_Ok.rc hF.1 (own_ofa (p * 16) i (by omega)) (by omega) fun x hx => ?_
    refine own_Ok.wc hF.1 (own_ofa (q * 16) i (by omega)) (by omega) ?_
    dsimp only
    rw [ofN_succ]
    refine k _ ⟨hF.wr _ _ (own_dv q i hi), fun j hj => ?_⟩
    rw [own_ce_set (by omega) hl]
    by_cases c : j = i
    · rw [if_pos (by omega), ← own_ceq hx, hF.ce (by omega) (by rw [show (p * 16 + i) / 16 = p by omega]; simpa using hpq), c]
    · rw [if_neg (by omega)]; exact hc j (by omega)
  · refine own_Ok.step (g := fun n => g_copy_14 (f_copy_14 n) n (Int32.ofNat (p * 16)) (Int32.ofNat (q * 16)) (Int32.ofNat 16) t) (fun n => rfl) ?_
    unfold g_copy_14
    exact own_Ok.ite (fun q => absurd q (by decide)) (fun _ => own_Ok.ret h)
theorem own_adV {s : St} (hB : own_B s) (p q : Nat) (hp : p ≤ 16) (hq : q ≤ 16) (hpq : p ≠ q) : own_Ok (fun n => f_addInto n (Int32.ofNat p) (Int32.ofNat q) s) (fun t => own_Fz [p] [] s t ∧ ∀ i, i < 16 → own_ce t (p * 16 + i) = (own_ce s (p * 16 + i) + own_ce s (q * 16 + i)) % 257) := by
  unfold f_addInto lt
  rw [own_16, own_16]
  refine own_lp (F := fun n i t => f_addInto_14 n (Int32.ofNat (q * 16)) (Int32.ofNat (p * 16)) i t) (fun i t => own_Fz [p] [] s t ∧ ∀ j, j < 16 → own_ce t (p * 16 + j) = if j < i then (own_ce s (p * 16 + j) + own_ce s (q * 16 + j)) % 257 else own_ce s (p * 16 + j)) (fun i t hi h k => ?_) (fun t h => ?_) s ⟨own_Fz.refl hB, fun j hj => (if_neg (Nat.not_lt_zero _)).symm⟩
  · obtain ⟨hF, hc⟩ := h
    have hl : (gA t 0).length = 272 := hF.1.1
    refine own_Ok.step (g := fun n => g_addInto_14 (f_addInto_14 n) n (Int32.ofNat (q * 16)) (Int32.ofNat (p * 16)) (Int32.ofNat i) t) (fun n => rfl) ?_
    unfold g_addInto_14 lt
    refine own_Ok.ite (fun _ => ?_) (fun q => absurd ((ofN_ltL (m := 16) (by omega) (by decide)).mpr hi) q)
    refine own_Ok.rc hF.1 (own_ofa (p * 16) i (by omega)) (by omega) fun x hx => ?_
    refine own_Ok.rc hF.1 (own_ofa (q * 16) i (by omega)) (by omega) fun y hy => ?_
    refine own_Ok.wc hF.1 (own_ofa (p * 16) i (by omega)) (by omega) ?_
    dsimp only
    rw [ofN_succ]
    refine k _ ⟨hF.wr _ _ (own_dv p i hi), fun j hj => ?_⟩
    rw [own_ce_set (by omega) hl]
    by_cases c : j = i
    · have hci := hc i hi
      rw [if_neg (Nat.lt_irrefl _)] at hci
      rw [if_pos (by omega), if_pos (by omega), ← own_ceq hx, ← own_ceq hy, hF.ce (k := q * 16 + i) (by omega) (by rw [show (q * 16 + i) / 16 = q by omega]; simpa using Ne.symm hpq), hci, c]
    · rw [if_neg (by omega), hc j hj]
      by_cases d : j < i
      · rw [if_pos d, if_pos (by omega)]
      · rw [if_neg d, if_neg (by omega)]
  · refine own_Ok.step (g := fun n => g_addInto_14 (f_addInto_14 n) n (Int32.ofNat (q * 16)) (Int32.ofNat (p * 16)) (Int32.ofNat 16) t) (fun n => rfl) ?_
    unfold g_addInto_14
    exact own_Ok.ite (fun q => absurd q (by decide)) (fun _ => own_Ok.ret ⟨h.1, fun i hi => by rw [h.2 i hi, if_pos hi]⟩)
def own_cmpv (p1 p2 : Int32) : Int32 := (((p1 <<< (p2 &&& 31)) + 128) / 257) &&& (((1 : Int32) <<< (p2 &&& 31)) - 1)
def own_dcv (p1 p2 : Int32) : Int32 := (((257 : Int32) * p1) + ((1 : Int32) <<< ((p2 - 1) &&& 31))) >>> (p2 &&& 31)
theorem own_coV {s : St} (hB : own_B s) (p q : Nat) (e : Int32) (hp : p ≤ 16) (hq : q ≤ 16) (hpq : p ≠ q) : own_Ok (fun n => f_compressInto n (Int32.ofNat p) (Int32.ofNat q) e s) (fun t => own_Fz [q] [] s t ∧ ∀ i, i < 16 → own_ce t (q * 16 + i) = own_cmpv (own_ce s (p * 16 + i)) e) := by
  unfold f_compressInto lt
  rw [own_16, own_16]
  refine own_lp (F := fun n i t => f_compressInto_15 n e (Int32.ofNat (p * 16)) (Int32.ofNat (q * 16)) i t) (fun i t => own_Fz [q] [] s t ∧ ∀ j, j < i → own_ce t (q * 16 + j) = own_cmpv (own_ce s (p * 16 + j)) e) (fun i t hi h k => ?_) (fun t h => ?_) s ⟨own_Fz.refl hB, fun j hj => absurd hj (Nat.not_lt_zero _)⟩
  · obtain ⟨hF, hc⟩ := h
    have hl : (gA t 0).length = 272 := hF.1.1
    refine own_Ok.step (g := fun n => g_compressInto_15 (f_compressInto_15 n) n e (Int32.ofNat (p * 16)) (Int32.ofNat (q * 16)) (Int32.ofNat i) t) (fun n => rfl) ?_
    unfold g_compressInto_15 f_cmp lt
    refine own_Ok.ite (fun _ => ?_) (fun q => absurd ((ofN_ltL (m := 16) (by omega) (by decide)).mpr hi) q)
    refine own_Ok.rc hF.1 (own_ofa (p * 16) i (by omega)) (by omega) fun x hx => ?_
    refine own_Ok.some_bind ?_
    refine own_Ok.wc hF.1 (own_ofa (q * 16) i (by omega)) (by omega) ?_
    rw [ofN_succ]
    refine k _ ⟨hF.wr _ _ (own_dv q i hi), fun j hj => ?_⟩
    rw [own_ce_set (by omega) hl]
    by_cases c : j = i
    · rw [if_pos (by omega), c, ← hF.ce (k := p * 16 + i) (by omega) (by rw [show (p * 16 + i) / 16 = p by omega]; simpa using hpq), own_ceq hx]; rfl
    · rw [if_neg (by omega)]; exact hc j (by omega)
  · refine own_Ok.step (g := fun n => g_compressInto_15 (f_compressInto_15 n) n e (Int32.ofNat (p * 16)) (Int32.ofNat (q * 16)) (Int32.ofNat 16) t) (fun n => rfl) ?_
    unfold g_compressInto_15
    exact own_Ok.ite (fun q => absurd q (by decide)) (fun _ => own_Ok.ret h)
theorem own_deV {s : St} (hB : own_B s) (p q : Nat) (e : Int32) (hp : p ≤ 16) (hq : q ≤ 16) (hpq : p ≠ q) : own_Ok (fun n => f_decompressInto n (Int32.ofNat p) (Int32.ofNat q) e s) (fun t => own_Fz [q] [] s t ∧ ∀ i, i < 16 → own_ce t (q * 16 + i) = own_dcv (own_ce s (p * 16 + i)) e) := by
  unfold f_decompressInto lt
  rw [own_16, own_16]
  refine own_lp (F := fun n i t => f_decompressInto_15 n e (Int32.ofNat (p * 16)) (Int32.ofNat (q * 16)) i t) (fun i t => own_Fz [q] [] s t ∧ ∀ j, j < i → own_ce t (q * 16 + j) = own_dcv (own_ce s (p * 16 + j)) e) (fun i t hi h k => ?_) (fun t h => ?_) s ⟨own_Fz.refl hB, fun j hj => absurd hj (Nat.not_lt_zero _)⟩
  · obtain ⟨hF, hc⟩ := h
    have hl : (gA t 0).length = 272 := hF.1.1
    refine own_Ok.step (g := fun n => g_decompressInto_15 (f_decompressInto_15 n) n e (Int32.ofNat (p * 16)) (Int32.ofNat (q * 16)) (Int32.ofNat i) t) (fun n => rfl) ?_
    unfold g_decompressInto_15 f_dcmp lt
    refine own_Ok.ite (fun _ => ?_) (fun q => absurd ((ofN_ltL (m := 16) (by omega) (by decide)).mpr hi) q)
    refine own_Ok.rc hF.1 (own_ofa (p * 16) i (by omega)) (by omega) fun x hx => ?_
    refine own_Ok.some_bind ?_
    refine own_Ok.wc hF.1 (own_ofa (q * 16) i (by omega)) (by omega) ?_
    rw [ofN_succ]
    refine k _ ⟨hF.wr _ _ (own_dv q i hi), fun j hj => ?_⟩
    rw [own_ce_set (by omega) hl]
    by_cases c : j = i
    · rw [if_pos (by omega), c, ← hF.ce (k := p * 16 + i) (by omega) (by rw [show (p * 16 + i) / 16 = p by omega]; simpa using hpq), own_ceq hx]; rfl
    · rw [if_neg (by omega)]; exact hc j (by omega)
  · refine own_Ok.step (g := fun n => g_decompressInto_15 (f_decompressInto_15 n) n e (Int32.ofNat (p * 16)) (Int32.ofNat (q * 16)) (Int32.ofNat 16) t) (fun n => rfl) ?_
    unfold g_decompressInto_15
    exact own_Ok.ite (fun q => absurd q (by decide)) (fun _ => own_Ok.ret h)
def own_mb (m : Int32) (i : Nat) : Int32 := (XT.ushr m (Int32.ofNat i)) &&& 1
theorem own_amV {s : St} (hB : own_B s) (m : Int32) : own_Ok (fun n => f_addMessage n m s) (fun t => own_Fz [14] [] s t ∧ ∀ i, i < 16 → own_ce t (14 * 16 + i) = if own_mb m i = 1 then (own_ce s (14 * 16 + i) + 129) % 257 else own_ce s (14 * 16 + i)) := by
  unfold f_addMessage
  refine own_lp (F := fun n i t => f_addMessage_6 n m (Int32.ofNat (14 * 16)) i t) (fun i t => own_Fz [14] [] s t ∧ ∀ j, j < 16 → own_ce t (14 * 16 + j) = if j < i then (if own_mb m j = 1 then (own_ce s (14 * 16 + j) + 129) % 257 else own_ce s (14 * 16 + j)) else own_ce s (14 * 16 + j)) (fun i t hi h k => ?_) (fun t h => ?_) s ⟨own_Fz.refl hB, fun j hj => (if_neg (Nat.not_lt_zero _)).symm⟩
  · obtain ⟨hF, hc⟩ := h
    have hl : (gA t 0).length = 272 := hF.1.1
    have hci := hc i hi
    rw [if_neg (Nat.lt_irrefl _)] at hci
    refine own_Ok.step (g := fun n => g_addMessage_6 (f_addMessage_6 n) n m (Int32.ofNat (14 * 16)) (Int32.ofNat i) t) (fun n => rfl) ?_
    unfold g_addMessage_6 f_addMessage_45 lt
    refine own_Ok.ite (fun _ => ?_) (fun q => absurd ((ofN_ltL (m := 16) (by omega) (by decide)).mpr hi) q)
    rw [ofN_succ]
    refine own_Ok.ite (fun z => ?_) (fun z => k t ⟨hF, fun j hj => ?_⟩)
    · refine own_Ok.rc hF.1 (own_ofa (14 * 16) i (by omega)) (by omega) fun x hx => ?_
      refine own_Ok.wc hF.1 (own_ofa (14 * 16) i (by omega)) (by omega) ?_
      refine k _ ⟨hF.wr _ _ (own_dv 14 i hi), fun j hj => ?_⟩
      rw [own_ce_set (by omega) hl]
      by_cases c : j = i
      · have z : own_mb m i = 1 := z
        rw [if_pos (by omega), if_pos (by omega), c, if_pos z, ← own_ceq hx, hci]
      · rw [if_neg (by omega), hc j hj]
        by_cases d : j < i
        · rw [if_pos d, if_pos (show j < i + 1 by omega)]
        · rw [if_neg d, if_neg (by omega)]
    · have z : ¬ own_mb m i = 1 := z
      rw [hc j hj]
      by_cases c : j = i
      · rw [c, if_neg (Nat.lt_irrefl _), if_pos (by omega), if_neg z]
      · by_cases d : j < i
        · rw [if_pos d, if_pos (show j < i + 1 by omega)]
        · rw [if_neg d, if_neg (by omega)]
  · refine own_Ok.step (g := fun n => g_addMessage_6 (f_addMessage_6 n) n m (Int32.ofNat (14 * 16)) (Int32.ofNat 16) t) (fun n => rfl) ?_
    unfold g_addMessage_6
    exact own_Ok.ite (fun q => absurd q (by decide)) (fun _ => own_Ok.ret ⟨h.1, fun i hi => by rw [h.2 i hi, if_pos hi]⟩)
theorem own_d56V {s : St} (hB : own_B s) : own_Ok (fun n => f_decaps_56 n 128 224 0 0 s) (fun r => own_Fz [8] [] s r.2 ∧ (∀ i, i < 16 → own_ce r.2 (128 + i) = own_md (own_ce s (224 + i) - own_ce s (128 + i))) ∧ r.1 = own_bv (fun j => own_md (own_ce s (224 + j) - own_ce s (128 + j))) 16) := by
  have key : ∀ k i (v : Int32) t, i + k = 16 → (own_Fz [8] [] s t ∧ (∀ j, j < 16 → own_ce t (128 + j) = if j < i then own_md (own_ce s (224 + j) - own_ce s (128 + j)) else own_ce s (128 + j)) ∧ v = own_bv (fun j => own_md (own_ce s (224 + j) - own_ce s (128 + j))) i) → own_Ok (fun n => f_decaps_56 n (Int32.ofNat 128) (Int32.ofNat 224) v (Int32.ofNat i) t) (fun r => own_Fz [8] [] s r.2 ∧ (∀ i, i < 16 → own_ce r.2 (128 + i) = own_md (own_ce s (224 + i) - own_ce s (128 + i))) ∧ r.1 = own_bv (fun j => own_md (own_ce s (224 + j) - own_ce s (128 + j))) 16) := by
    intro k
    induction k with
    | zero =>
      intro i v t hi h
      obtain rfl : i = 16 := by omega
      refine own_Ok.step (g := fun n => g_decaps_56 (f_decaps_56 n) n (Int32.ofNat 128) (Int32.ofNat 224) v (Int32.ofNat 16) t) (fun n => rfl) ?_
      unfold g_decaps_56
      exact own_Ok.ite (fun q => absurd q (by decide)) (fun _ => own_Ok.ret ⟨h.1, fun i hi => by rw [h.2.1 i hi, if_pos hi], h.2.2⟩)
    | succ k ih =>
      intro i v t hi h
      obtain ⟨hF, hc, hv⟩ := h
      have hl : (gA t 0).length = 272 := hF.1.1
      have hci := hc i (by omega)
      rw [if_neg (Nat.lt_irrefl _)] at hci
      refine own_Ok.step (g := fun n => g_decaps_56 (f_decaps_56 n) n (Int32.ofNat 128) (Int32.ofNat 224) v (Int32.ofNat i) t) (fun n => rfl) ?_
      unfold g_decaps_56 f_cmp lt
      refine own_Ok.ite (fun _ => ?_) (fun q => absurd ((ofN_ltL (m := 16) (by omega) (by decide)).mpr (by omega)) q)
      refine own_Ok.rc hF.1 (own_ofa 224 i (by omega)) (by omega) fun x hx => ?_
      refine own_Ok.rc hF.1 (own_ofa 128 i (by omega)) (by omega) fun y hy => ?_
      simp only [own_mod, Option.bind_some]
      refine own_Ok.wc hF.1 (own_ofa 128 i (by omega)) (by omega) ?_
      rw [ofN_succ]
      have ex : x = own_ce s (224 + i) := by rw [← own_ceq hx]; exact hF.ce (by omega) (by rw [show (224 + i) / 16 = 14 by omega]; decide)
      have ey : y = own_ce s (128 + i) := by rw [← own_ceq hy]; exact hci
      rw [ex, ey]
      refine ih (i + 1) _ _ (by omega) ⟨hF.wr _ _ (own_dv 8 i (by omega)), fun j hj => ?_, ?_⟩
      · rw [own_ce_set (by omega) hl]
        by_cases c : j = i
        · rw [if_pos (by omega), if_pos (by omega), c]
        · rw [if_neg (by omega), hc j hj]
          by_cases d : j < i
          · rw [if_pos d, if_pos (by omega)]
          · rw [if_neg d, if_neg (by omega)]
      · rw [hv]; rfl
  exact key 16 0 0 s rfl ⟨own_Fz.refl hB, fun j hj => (if_neg (Nat.not_lt_zero _)).symm, rfl⟩
/-! the product -/
theorem own_prodV (V : Nat → Int) (x y : Nat → Int) (hx : ∀ k, k < 16 → V (240 + k) = x k) (hy : ∀ k, k < 16 → V (256 + k) = y k) (bx : ∀ k, k < 16 → 0 ≤ x k ∧ x k < 257) (by' : ∀ k, k < 16 → 0 ≤ y k ∧ y k < 257) (t : Nat) (ht : t < 16) :
    own_in 240 (own_it (own_ml 240 256) 16 (own_fw 256 (own_fw 240 V))) (240 + t) = own_P x y t % 257 := by
  have x1 : own_Lin x 240 V own_E := own_LinE hx bx
  have x2 := own_fwL x1
  have f1 := own_fwF 240 V
  have y1 : own_Lin y 256 (own_fw 240 V) own_E := own_LinE (fun k hk => by rw [f1 _ (by omega), hy k hk]) by'
  have y2 := own_fwL y1
  have f2 := own_fwF 256 (own_fw 240 V)
  obtain ⟨m1, m2⟩ := own_mlV 240 256 (by omega) (own_fw 256 (own_fw 240 V)) 16 (Nat.le_refl _)
  have z1 : own_Lin (fun k => (own_S x (own_FM k) * own_S y (own_FM k)) % 257) 240 (own_it (own_ml 240 256) 16 (own_fw 256 (own_fw 240 V))) own_E :=
    own_LinE (fun k hk => by rw [m1 k hk, f2 _ (by omega), x2 k hk, y2 k hk, ← Int.mul_emod]) (fun k hk => own_rg _)
  rw [own_inL z1 t ht]
  refine own_sum_mod fun k hk => ?_
  exact own_ar (own_SF x k hk) (own_SF y k hk) (own_IMl ⟨t, ht⟩ ⟨k, hk⟩)
def own_ci (s : St) (p i : Nat) : Int := (own_ce s (p * 16 + i)).toInt
def own_bd (s : St) (p : Nat) : Prop := ∀ i, i < 16 → 0 ≤ own_ci s p i ∧ own_ci s p i < 257
theorem own_mulV {s : St} (hB : own_B s) (hT : gA s 1 = own_T) (p q r : Nat) (hp : p ≤ 14) (hq : q ≤ 14) (hr : r ≤ 14) (bp : own_bd s p) (bq : own_bd s q) : own_Ok (fun n => f_mul n (Int32.ofNat p) (Int32.ofNat q) (Int32.ofNat r) s) (fun t => own_Fz [15, 16, r] [] s t ∧ ∀ i, i < 16 → own_ci t r i = own_P (own_ci s p) (own_ci s q) i % 257) := by
  obtain ⟨t, e, hF⟩ := own_mulF hB p q r (by omega) (by omega) (by omega)
  refine ⟨t, e, hF, ?_⟩
  obtain ⟨t1, e1, f1, c1⟩ := own_cpV2 hB p 15 (by omega) (by decide) (by omega)
  obtain ⟨t2, e2, f2, c2⟩ := own_cpV2 f1.1 q 16 (by omega) (by decide) (by omega)
  have v15 : ∀ k, k < 16 → ((gA t2 0).getD (240 + k) 0).toInt = own_ci s p k := fun k hk => by
    have : own_ce t2 (15 * 16 + k) = own_ce s (p * 16 + k) := by
      rw [f2.ce (by omega) (by rw [show (15 * 16 + k) / 16 = 15 by omega]; decide)]; exact c1 k hk
    unfold own_ci; rw [← this]; rfl
  have v16 : ∀ k, k < 16 → ((gA t2 0).getD (256 + k) 0).toInt = own_ci s q k := fun k hk => by
    have : own_ce t2 (16 * 16 + k) = own_ce s (q * 16 + k) := by
      rw [c2 k hk, f1.ce (by omega) (by rw [show (q * 16 + k) / 16 = q by omega]; simp; omega)]
    unfold own_ci; rw [← this]; rfl
  have hD : own_D t2 t2 (fun k => ((gA t2 0).getD k 0).toInt) := by
    refine ⟨(sA_self rfl).symm, f2.1.1, fun _ _ => rfl, fun k h1 h2 => ?_⟩
    dsimp only
    by_cases c : k < 256
    · have := bp (k - 240) (by omega)
      rw [← v15 (k - 240) (by omega), show 240 + (k - 240) = k by omega] at this; exact this
    · have := bq (k - 256) (by omega)
      rw [← v16 (k - 256) (by omega), show 256 + (k - 256) = k by omega] at this; exact this
  have hT2 : gA t2 1 = own_T := f2.2.1.trans (f1.2.1.trans hT)
  have hR2 : gA t2 2 = own_Rv := f2.1.2.2
  obtain ⟨t3, a3, b3⟩ := own_fwd hT2 hR2 hD 240 15 (by decide) (by decide)
  obtain ⟨t4, a4, b4⟩ := own_fwd hT2 hR2 a3 256 16 (by decide) (by decide)
  obtain ⟨t5, a5, b5⟩ := own_mll (Int32.ofNat r) a4
  obtain ⟨t6, a6, b6⟩ := own_inv hT2 hR2 a5
  have hB6 : own_B t6 := ⟨a6.2.1, by rw [own_DT a6 1 (by decide)]; exact f2.1.2.1, by rw [own_DT a6 2 (by decide)]; exact hR2⟩
  obtain ⟨t7, e7, f7, c7⟩ := own_cpV2 hB6 15 r (by decide) (by omega) (by omega)
  have all : Ev (fun n => f_mul n (Int32.ofNat p) (Int32.ofNat q) (Int32.ofNat r) s) t7 := by
    unfold f_mul
    exact Ev.bind e1 (Ev.bind e2 (Ev.bind b3 (Ev.bind b4 (b5 t7 (Ev.bind b6 (Ev.bind e7 (Ev.const rfl)))))))
  obtain rfl := Ev.uniq e all
  intro i hi
  have h1 : own_ci t r i = ((gA t6 0).getD (240 + i) 0).toInt := by
    unfold own_ci; rw [c7 i hi]; rfl
  rw [h1, a6.2.2.1 (240 + i) (by omega)]
  exact own_prodV _ _ _ v15 v16 bp bq i hi

def own_cl (a b c : Int32) : Int32 := if a < b then b else if c < a then c else a
theorem own_clamp (a b c : Int32) (s : St) : f_clamp a b c s = some (own_cl a b c) := by
  unfold f_clamp own_cl; split; rfl; split <;> rfl
theorem own_rvv : ∀ i : Fin 16, (((((Int32.ofNat i.val &&& (1 : Int32)) <<< ((3 : Int32) &&& 31)) ||| ((Int32.ofNat i.val &&& (2 : Int32)) <<< ((1 : Int32) &&& 31))) ||| ((Int32.ofNat i.val &&& (4 : Int32)) >>> ((1 : Int32) &&& 31))) ||| ((Int32.ofNat i.val &&& (8 : Int32)) >>> ((3 : Int32) &&& 31))) = own_Rv.getD i.val 0 := by decide +kernel
def own_pre (T xs : List Int32) (n i : Nat) : Prop := xs.length = n ∧ ∀ k, k < i → xs[k]? = some (T.getD k 0)
theorem own_preS {T xs : List Int32} {n i : Nat} (h : own_pre T xs n i) (hi : i < n) : own_pre T (xs.set i (T.getD i 0)) n (i + 1) := by
  refine ⟨by rw [set_len]; exact h.1, fun k hk => ?_⟩
  by_cases c : k = i
  · subst c; exact get_set_self _ (by rw [h.1]; exact hi)
  · rw [get_set_ne _ (Ne.symm c)]; exact h.2 k (by omega)
theorem own_preE {T xs : List Int32} {n : Nat} (h : own_pre T xs n n) (hT : T.length = n) : xs = T := by
  refine List.ext_getElem? fun k => ?_
  by_cases c : k < n
  · rw [h.2 k c, List.getD_eq_getElem?_getD, List.getElem?_eq_getElem (by rw [hT]; exact c)]; rfl
  · rw [List.getElem?_eq_none (by rw [h.1]; omega), List.getElem?_eq_none (by rw [hT]; omega)]
theorem own_tvv : ∀ i : Fin 31, ((own_T.getD i.val 0) * (136 : Int32)) % (257 : Int32) = own_T.getD (i.val + 1) 0 := by decide +kernel
theorem own_tab2 (s0 s : St) (hj : ∀ j, gI s j = gI s0 j) (h1 : gA s 1 = own_T) (h0 : gA s 0 = gA s0 0) (h2 : (gA s 2).length = 16) : ∃ s', ((∀ j, gI s' j = gI s0 j) ∧ gA s' 0 = gA s0 0 ∧ gA s' 1 = own_T ∧ gA s' 2 = own_Rv) ∧ Ev (fun n => f_initTables_45 n 0 s) s' := by
  obtain ⟨s', g1, g2⟩ := loop_up (F := f_initTables_45) (E := fun _ s => some s) (N := 16) (fun i t => (∀ j, gI t j = gI s0 j) ∧ gA t 0 = gA s0 0 ∧ gA t 1 = own_T ∧ own_pre own_Rv (gA t 2) 16 i) (fun i s hi h => by
    refine ⟨sA s 2 ((gA s 2).set i (own_Rv.getD i 0)), ⟨h.1, h.2.1, h.2.2.1, own_preS h.2.2.2 hi⟩, fun n => ?_⟩
    show g_initTables_45 (f_initTables_45 n) n _ _ = _
    unfold g_initTables_45 lt
    rw [if_pos ((ofN_ltL (by omega) (by decide)).mpr hi), own_rvv ⟨i, hi⟩, wrA_of (k := i) _ (ofN_int (by omega)) (by rw [h.2.2.2.1]; exact hi), Option.bind_some, ofN_succ]) (fun s h n => by
    show g_initTables_45 (f_initTables_45 n) n _ _ = _
    unfold g_initTables_45
    rw [if_neg (by decide)]) 16 0 s rfl ⟨hj, h0, h1, h2, fun k hk => absurd hk (Nat.not_lt_zero _)⟩
  exact ⟨s', ⟨g1.1, g1.2.1, g1.2.2.1, own_preE g1.2.2.2 rfl⟩, g2 s' (Ev.const rfl)⟩
theorem own_tab1 (s0 s : St) (hj : ∀ j, gI s j = gI s0 j) (h0 : gA s 0 = gA s0 0) (h1 : own_pre own_T (gA s 1) 32 1) (h2 : (gA s 2).length = 16) : ∃ s', ((∀ j, gI s' j = gI s0 j) ∧ gA s' 0 = gA s0 0 ∧ gA s' 1 = own_T ∧ gA s' 2 = own_Rv) ∧ Ev (fun n => f_initTables_9 n 1 s) s' := by
  obtain ⟨s', g1, g2⟩ := loop_up (F := f_initTables_9) (E := fun n s => f_initTables_45 n 0 s) (N := 32) (fun i t => 1 ≤ i ∧ (∀ j, gI t j = gI s0 j) ∧ gA t 0 = gA s0 0 ∧ own_pre own_T (gA t 1) 32 i ∧ (gA t 2).length = 16) (fun i s hi h => by
    obtain ⟨k1, k0, k2, k3, k4⟩ := h
    refine ⟨sA s 1 ((gA s 1).set i (own_T.getD i 0)), ⟨by omega, k0, k2, own_preS k3 hi, k4⟩, fun n => ?_⟩
    show g_initTables_9 (f_initTables_9 n) n _ _ = _
    unfold g_initTables_9 lt
    have e : (Int32.ofNat i - 1).toInt = (i - 1 : Nat) := by
      rw [x32_sub (by rw [ofN_int (by omega)]; show _ ≤ _ - (1 : Int); omega) (by rw [ofN_int (by omega)]; show _ - (1 : Int) < _; omega), ofN_int (by omega)]
      show (i : Int) - 1 = _; omega
    have tv := own_tvv ⟨i - 1, by omega⟩
    dsimp only at tv
    rw [show i - 1 + 1 = i from by omega] at tv
    rw [if_pos ((ofN_ltL (by omega) (by decide)).mpr hi), rd_of e (k3.2 (i - 1) (by omega)), Option.bind_some, tv, wrA_of (k := i) _ (ofN_int (by omega)) (by rw [k3.1]; exact hi), Option.bind_some, ofN_succ]) (fun s h n => by
    show g_initTables_9 (f_initTables_9 n) n _ _ = _
    unfold g_initTables_9
    rw [if_neg (by decide)]) 31 1 s rfl ⟨Nat.le_refl _, hj, h0, h1, h2⟩
  obtain ⟨s2, h3, h4⟩ := own_tab2 s0 s' g1.2.1 (own_preE g1.2.2.2.1 rfl) g1.2.2.1 g1.2.2.2.2
  exact ⟨s2, h3, g2 s2 h4⟩
theorem own_init (p0 p1 p2 : Int32) : ∃ s, Ev (fun n => f_init n p0 p1 p2) s ∧ gI s 8 = own_cl p0 1 3 ∧ gI s 9 = own_cl p1 1 9 ∧ gI s 10 = own_cl p2 1 9 ∧ gI s 11 = 0 ∧ gI s 12 = 0 ∧ gA s 0 = List.replicate 272 0 ∧ gA s 1 = own_T ∧ own_B s := by
  unfold f_init
  simp only [lt, own_clamp, Option.bind_some]
  generalize hs : sI (sI (sI (sI (sI _ _ _) _ _) _ _) _ _) 12 0 = s0
  have w : wrA s0 1 0 1 = some (sA s0 1 ((gA s0 1).set 0 1)) := wrA_of 1 rfl (by subst hs; show 0 < (List.replicate 32 (0 : Int32)).length; decide)
  obtain ⟨s, ⟨h0, h1, h2, h3⟩, h4⟩ := own_tab1 s0 (sA s0 1 ((gA s0 1).set 0 1)) (fun _ => rfl) rfl ⟨by subst hs; rfl, fun k hk => by
    have : k = 0 := by omega
    subst this; subst hs; rfl⟩ (by subst hs; rfl)
  refine ⟨s, Ev.bind (c := s) ?_ (Ev.const rfl), ?_, ?_, ?_, ?_, ?_, ?_, h2, ⟨?_, by rw [h2]; rfl, h3⟩⟩
  · refine Ev.congr (fun n => ?_) h4
    unfold f_initTables; rw [w]; rfl
  · rw [h0]; subst hs; rfl
  · rw [h0]; subst hs; rfl
  · rw [h0]; subst hs; rfl
  · rw [h0]; subst hs; rfl
  · rw [h0]; subst hs; rfl
  · rw [h1]; subst hs; rfl
  · rw [h1]; subst hs; exact List.length_replicate

def own_bw (m : Int32) : Nat → Int32
  | 0 => 0
  | i + 1 => own_bw m i ||| (own_mb m i <<< (Int32.ofNat i &&& 31))
theorem own_l16 {P : Nat → Prop} (h : ∀ i : Fin 16, P i.val) : ∀ i, i < 16 → P i := fun i hi => h ⟨i, hi⟩
theorem own_usb (m : Int32) (i : Nat) (hi : i < 16) : (XT.ushr m (Int32.ofNat i)).toBitVec = m.toBitVec >>> i := by
  have : i = 0 ∨ i = 1 ∨ i = 2 ∨ i = 3 ∨ i = 4 ∨ i = 5 ∨ i = 6 ∨ i = 7 ∨ i = 8 ∨ i = 9 ∨ i = 10 ∨ i = 11 ∨ i = 12 ∨ i = 13 ∨ i = 14 ∨ i = 15 := by omega
  rcases this with rfl | rfl | rfl | rfl | rfl | rfl | rfl | rfl | rfl | rfl | rfl | rfl | rfl | rfl | rfl | rfl <;> rfl
theorem own_slb (m : Int32) (i : Nat) (hi : i < 16) : (m <<< (Int32.ofNat i &&& 31)).toBitVec = m.toBitVec <<< i := by
  have : i = 0 ∨ i = 1 ∨ i = 2 ∨ i = 3 ∨ i = 4 ∨ i = 5 ∨ i = 6 ∨ i = 7 ∨ i = 8 ∨ i = 9 ∨ i = 10 ∨ i = 11 ∨ i = 12 ∨ i = 13 ∨ i = 14 ∨ i = 15 := by omega
  rcases this with rfl | rfl | rfl | rfl | rfl | rfl | rfl | rfl | rfl | rfl | rfl | rfl | rfl | rfl | rfl | rfl <;> rfl
theorem own_2pb : ∀ i : Fin 16, ∀ j : Fin 32, (BitVec.ofNat 32 (2 ^ i.val)).getLsbD j.val = decide (j.val = i.val) := by decide +kernel
theorem own_1b : ∀ j : Fin 32, (1 : Int32).toBitVec.getLsbD j.val = decide (j.val = 0) := by decide +kernel
theorem own_mbs (m : Int32) (i : Nat) (hi : i < 16) : own_mb m i <<< (Int32.ofNat i &&& 31) = m &&& Int32.ofNat (2 ^ i) := by
  apply Int32.toBitVec_inj.mp
  rw [own_slb _ i hi, Int32.toBitVec_and]
  show (XT.ushr m (Int32.ofNat i) &&& 1).toBitVec <<< i = m.toBitVec &&& BitVec.ofNat 32 (2 ^ i)
  rw [Int32.toBitVec_and, own_usb m i hi]
  generalize m.toBitVec = M
  refine BitVec.eq_of_getLsbD_eq fun j hj => ?_
  rw [BitVec.getLsbD_shiftLeft, BitVec.getLsbD_and, BitVec.getLsbD_and, BitVec.getLsbD_ushiftRight, own_2pb ⟨i, hi⟩ ⟨j, hj⟩]
  dsimp only
  by_cases c : j < i
  · have : ¬ j = i := by omega
    simp [c, this]
  · rw [own_1b ⟨j - i, by omega⟩]
    by_cases d : j = i
    · subst d; simp [hj]
    · have : ¬ j - i = 0 := by omega
      simp [this, d]
theorem own_pp : ∀ i : Fin 16, (Int32.ofNat (2 ^ i.val - 1) ||| Int32.ofNat (2 ^ i.val)) = Int32.ofNat (2 ^ (i.val + 1) - 1) := by decide +kernel
theorem own_bwi (m : Int32) : ∀ i, i ≤ 16 → own_bw m i = m &&& Int32.ofNat (2 ^ i - 1)
  | 0, _ => by show (0 : Int32) = m &&& 0; rw [Int32.and_zero]
  | i + 1, h => by
    show own_bw m i ||| (own_mb m i <<< (Int32.ofNat i &&& 31)) = _
    rw [own_bwi m i (by omega), own_mbs m i (by omega), ← own_pp ⟨i, by omega⟩]
    apply Int32.toBitVec_inj.mp
    simp only [Int32.toBitVec_and, Int32.toBitVec_or]
    generalize m.toBitVec = M
    refine BitVec.eq_of_getLsbD_eq fun j hj => ?_
    simp only [BitVec.getLsbD_and, BitVec.getLsbD_or]
    cases M.getLsbD j <;> simp
theorem own_bw16 (x : Int32) : own_bw (x &&& 65535) 16 = x &&& 65535 := by
  rw [own_bwi _ 16 (by decide)]
  show (x &&& 65535) &&& 65535 = x &&& 65535
  rw [Int32.and_assoc, Int32.and_self]

/-! cells as numbers -/
theorem own_Fz.ci {R I : List Nat} {s t : St} (h : own_Fz R I s t) {p : Nat} (hp : p ≤ 16) (hr : p ∉ R) {i : Nat} (hi : i < 16) : own_ci t p i = own_ci s p i := by
  unfold own_ci
  rw [h.ce (by omega) (by rw [show (p * 16 + i) / 16 = p by omega]; exact hr)]
theorem own_Fz.bd {R I : List Nat} {s t : St} (h : own_Fz R I s t) {p : Nat} (hp : p ≤ 16) (hr : p ∉ R) (k : own_bd s p) : own_bd t p := fun i hi => by
  rw [h.ci hp hr hi]; exact k i hi
theorem own_Fz.sm {R I : List Nat} {s t : St} (h : own_Fz R I s t) {p : Nat} (hp : p ≤ 16) (hr : p ∉ R) (k : own_sml (own_ci s p)) : own_sml (own_ci t p) := fun i hi => by
  rw [h.ci hp hr hi]; exact k i hi
theorem own_smb {s : St} {p : Nat} (k : own_sml (own_ci s p)) : own_bd s p := fun i hi => by
  rcases k i hi with h | h | h <;> rw [h] <;> decide
theorem own_tm (v : Int) : v.tmod 257 = v % 257 ∨ v.tmod 257 = v % 257 - 257 := by
  have t := @Int.tmod_eq_emod v 257
  split at t
  · left; rw [t]; exact Int.sub_zero _
  · right; exact t
theorem own_mdv (v : Int32) : (own_md v).toInt = v.toInt % 257 := by
  have e : (v % 257).toInt = v.toInt.tmod 257 := Int32.toInt_mod v 257
  have b1 : -257 < v.toInt.tmod 257 ∧ v.toInt.tmod 257 < 257 := ⟨by have := Int.lt_tmod_of_pos v.toInt (b := 257) (by decide); omega, Int.tmod_lt_of_pos _ (by decide)⟩
  have t := own_tm v.toInt
  have o0 : (0 : Int32).toInt = 0 := rfl
  unfold own_md
  by_cases c : v % 257 < 0
  · rw [if_pos c]
    rw [x32_lt, e, o0] at c
    rw [x32_add (by rw [e, own_c257]; omega) (by rw [e, own_c257]; omega), e, own_c257]
    omega
  · rw [if_neg c]
    rw [x32_lt, e, o0] at c
    rw [e]
    omega
theorem own_nsm (d : Int32) : (own_md (own_nv d 1)).toInt = 0 ∨ (own_md (own_nv d 1)).toInt = 1 ∨ (own_md (own_nv d 1)).toInt = 256 := by
  have h : own_nv d 1 = 0 + own_nt d 1 0 := if_pos rfl
  rw [own_mdv, h]
  have b := own_ntb d 1 0
  have z : (0 : Int32).toInt = 0 := by decide
  rw [x32_add (by omega) (by omega), z]
  generalize (own_nt d 1 0).toInt = x at b
  have : x = -1 ∨ x = 0 ∨ x = 1 := by omega
  rcases this with rfl | rfl | rfl <;> decide
theorem own_umd (X : Int32) : 0 ≤ (own_dr X % 257).toInt ∧ (own_dr X % 257).toInt < 257 := by
  unfold own_dr
  obtain ⟨k, hk, ek⟩ := and_natL (XT.ushr X 16) 65535 (by decide)
  have ek : XT.ushr X 16 &&& 65535 = Int32.ofNat k := ek
  rw [ek, Int32.toInt_mod, own_c257, ofN_int (by omega), own_emod (by omega)]
  omega
theorem own_adm {x y : Int32} (hx : 0 ≤ x.toInt ∧ x.toInt < 257) (hy : 0 ≤ y.toInt ∧ y.toInt < 257) : ((x + y) % 257).toInt = (x.toInt + y.toInt) % 257 := by
  rw [Int32.toInt_mod, own_c257, x32_add (by omega) (by omega), own_emod (by omega)]
/-! keys and ciphers -/
def own_Key (a b s e : Nat → Int) (t : St) : Prop := (∀ i, i < 16 → own_ci t 3 i = a i) ∧ (∀ i, i < 16 → own_ci t 4 i = b i) ∧ (∀ i, i < 16 → own_ci t 5 i = s i) ∧ own_bd t 3 ∧ own_bd t 4 ∧ own_sml s ∧ own_sml e ∧ ∀ i, i < 16 → b i % 257 = (own_P a s i + e i) % 257
theorem own_Key.fz {R I : List Nat} {a b s e : Nat → Int} {t t' : St} (h : own_Key a b s e t) (f : own_Fz R I t t') (h3 : 3 ∉ R) (h4 : 4 ∉ R) (h5 : 5 ∉ R) : own_Key a b s e t' :=
  ⟨fun i hi => (f.ci (by decide) h3 hi).trans (h.1 i hi), fun i hi => (f.ci (by decide) h4 hi).trans (h.2.1 i hi), fun i hi => (f.ci (by decide) h5 hi).trans (h.2.2.1 i hi), f.bd (by decide) h3 h.2.2.2.1, f.bd (by decide) h4 h.2.2.2.2.1, h.2.2.2.2.2⟩
theorem own_e1 {s : St} (h : gI s 8 = 1) : own_e3 (gI s 8) := Or.inl h
theorem own_dns {t : St} {p : Nat} {d : Nat → Int32} (h : ∀ i, i < 16 → (gA t 0)[p * 16 + i]? = some (own_md (own_nv (d i) 1))) : own_sml (own_ci t p) := fun i hi => by
  unfold own_ci
  rw [own_ceq (h i hi)]; exact own_nsm _
theorem own_keyV {s : St} (hB : own_B s) (hT : gA s 1 = own_T) (h8 : gI s 8 = 1) : own_Ok (fun n => f_keygen n s) (fun t => own_Fz [3, 5, 10, 4, 15, 16, 6, 7, 8] [11, 12] s t ∧ gI t 12 = 1 ∧ ∃ a b k e, own_Key a b k e t) := by
  unfold f_keygen lt
  refine own_Ok.bind (own_duF hB 3 (by decide)) fun c1 h1 => ?_
  obtain ⟨f1, -, d1⟩ := h1
  have q1 : gI c1 8 = 1 := (f1.2.2.1 8 (by decide)).trans h8
  refine own_Ok.bind (own_dnF f1.1 (own_e1 q1) 5 (by decide)) fun c2 h2 => ?_
  obtain ⟨f2, -, d2⟩ := h2
  rw [q1] at d2
  have q2 : gI c2 8 = 1 := (f2.2.2.1 8 (by decide)).trans q1
  refine own_Ok.bind (own_dnF f2.1 (own_e1 q2) 10 (by decide)) fun c3 h3 => ?_
  obtain ⟨f3, -, d3⟩ := h3
  rw [q2] at d3
  have b1 : own_bd c1 3 := fun i hi => by
    unfold own_ci
    rw [own_ceq (d1 i hi)]; exact own_umd _
  have b3 : own_bd c3 3 := f3.bd (by decide) (by decide) (f2.bd (by decide) (by decide) b1)
  have s5 : own_sml (own_ci c3 5) := f3.sm (by decide) (by decide) (own_dns d2)
  have s10 : own_sml (own_ci c3 10) := own_dns d3
  have T3 : gA c3 1 = own_T := f3.2.1.trans (f2.2.1.trans (f1.2.1.trans hT))
  refine own_Ok.bind (own_mulV f3.1 T3 3 5 4 (by decide) (by decide) (by decide) b3 (own_smb s5)) fun c4 h4 => ?_
  obtain ⟨f4, v4⟩ := h4
  refine own_Ok.bind (own_adV f4.1 4 10 (by decide) (by decide) (by decide)) fun c5 h5 => ?_
  obtain ⟨f5, v5⟩ := h5
  refine own_Ok.bind (own_clF f5.1 6 (by decide)) fun c6 h6 => ?_
  refine own_Ok.bind (own_clF h6.1.1 7 (by decide)) fun c7 h7 => ?_
  refine own_Ok.bind (own_clF h7.1.1 8 (by decide)) fun c8 h8 => ?_
  have f58 : own_Fz [6, 7, 8] [] c5 c8 := (((h6.1.mono (by decide) (by decide)).trans (h7.1.mono (by decide) (by decide))).trans (h8.1.mono (by decide) (by decide)))
  have f38 : own_Fz [10, 4, 15, 16, 6, 7, 8] [] c3 c8 := (((f4.mono (by decide) (by decide)).trans (f5.mono (by decide) (by decide))).trans (f58.mono (by decide) (by decide)))
  have f28 : own_Fz [10, 4, 15, 16, 6, 7, 8] [11] c2 c8 := (f3.mono (by decide) (by decide)).trans (f38.mono (by decide) (by decide))
  have f18 : own_Fz [5, 10, 4, 15, 16, 6, 7, 8] [11] c1 c8 := (f2.mono (by decide) (by decide)).trans (f28.mono (by decide) (by decide))
  have f08 : own_Fz [3, 5, 10, 4, 15, 16, 6, 7, 8] [11, 12] s c8 := (f1.mono (by decide) (by decide)).trans (f18.mono (by decide) (by decide))
  have b4 : own_bd c4 4 := fun i hi => by rw [v4 i hi]; exact own_rg _
  have b10 : own_bd c4 10 := f4.bd (by decide) (by decide) (own_smb s10)
  have w5 : ∀ i, i < 16 → own_ci c5 4 i = (own_ci c4 4 i + own_ci c4 10 i) % 257 := fun i hi => by
    have := own_adm (b4 i hi) (b10 i hi)
    rw [← v5 i hi] at this; exact this
  have fz : own_Fz [6, 7, 8] [12] c5 (sI c8 12 1) := (f58.mono (by decide) (by decide)).sI 12 1 (by decide)
  refine own_Ok.ret ⟨f08.sI 12 1 (by decide), rfl, own_ci c3 3, own_ci c5 4, own_ci c3 5, own_ci c3 10, ?_⟩
  refine own_Key.fz ⟨?_, fun _ _ => rfl, ?_, ?_, ?_, s5, s10, ?_⟩ fz (by decide) (by decide) (by decide)
  · exact fun i hi => (f5.ci (by decide) (by decide) hi).trans (f4.ci (by decide) (by decide) hi)
  · exact fun i hi => (f5.ci (by decide) (by decide) hi).trans (f4.ci (by decide) (by decide) hi)
  · exact f5.bd (by decide) (by decide) (f4.bd (by decide) (by decide) b3)
  · exact fun i hi => by rw [w5 i hi]; exact own_rg _
  · intro i hi
    rw [w5 i hi, v4 i hi, f4.ci (by decide) (by decide) hi, Int.emod_emod, Int.emod_add_emod]
def own_Ct (du dv : Nat) (a b s e : Nat → Int) (t : St) (m : Int32) : Prop := own_bw m 16 = m ∧ own_Key a b s e t ∧ ∃ r e1 e2 : Nat → Int, ∃ u v : Nat → Nat, own_sml r ∧ own_sml e1 ∧ own_sml e2 ∧ (∀ i, i < 16 → u i < 257 ∧ (u i : Int) % 257 = (own_P a r i + e1 i) % 257 ∧ own_ce t (6 * 16 + i) = own_cmpv (Int32.ofNat (u i)) (Int32.ofNat du)) ∧ (∀ i, i < 16 → v i < 257 ∧ (v i : Int) % 257 = (own_P b r i + e2 i + 129 * (if own_mb m i = 1 then 1 else 0)) % 257 ∧ own_ce t (7 * 16 + i) = own_cmpv (Int32.ofNat (v i)) (Int32.ofNat dv))
theorem own_Ct.fz {R I : List Nat} {du dv : Nat} {a b s e : Nat → Int} {t t' : St} {m : Int32} (h : own_Ct du dv a b s e t m) (f : own_Fz R I t t') (h3 : 3 ∉ R) (h4 : 4 ∉ R) (h5 : 5 ∉ R) (h6 : 6 ∉ R) (h7 : 7 ∉ R) : own_Ct du dv a b s e t' m := by
  obtain ⟨h0, hk, r, e1, e2, u, v, s1, s2, s3, hu, hv⟩ := h
  refine ⟨h0, hk.fz f h3 h4 h5, r, e1, e2, u, v, s1, s2, s3, fun i hi => ⟨(hu i hi).1, (hu i hi).2.1, ?_⟩, fun i hi => ⟨(hv i hi).1, (hv i hi).2.1, ?_⟩⟩
  · rw [f.ce (by omega) (by rw [show (6 * 16 + i) / 16 = 6 by omega]; exact h6)]; exact (hu i hi).2.2
  · rw [f.ce (by omega) (by rw [show (7 * 16 + i) / 16 = 7 by omega]; exact h7)]; exact (hv i hi).2.2
theorem own_nat {s : St} {p i : Nat} (h : 0 ≤ own_ci s p i ∧ own_ci s p i < 257) : (own_ci s p i).toNat < 257 ∧ (((own_ci s p i).toNat : Nat) : Int) = own_ci s p i ∧ own_ce s (p * 16 + i) = Int32.ofNat (own_ci s p i).toNat := by
  refine ⟨by omega, by omega, ofN_of ?_⟩
  show own_ci s p i = _
  omega
theorem own_emm (x y z : Int) : ((x % 257 + y) % 257 + z) % 257 = (x + y + z) % 257 := by omega
theorem own_encV {s : St} (hB : own_B s) (hT : gA s 1 = own_T) (h8 : gI s 8 = 1) (h12 : ¬ gI s 12 = 0) {du dv : Nat} (eu : gI s 9 = Int32.ofNat du) (ev : gI s 10 = Int32.ofNat dv) {a b k e : Nat → Int} (hK : own_Key a b k e s) : own_Ok (fun n => f_encaps n s) (fun r => ¬ r.1 = -1 ∧ own_Fz [9, 11, 12, 13, 14, 15, 16, 6, 7] [11, 12] s r.2 ∧ gI r.2 12 = 2 ∧ own_Ct du dv a b k e r.2 r.1) := by
  unfold f_encaps f_draw lt
  refine own_Ok.ite (fun q => absurd q h12) fun _ => ?_
  refine own_Ok.some_bind ?_
  have f0 : own_Fz [] [11] s (sI s 11 (gI s 11 * 1103515245 + 12345)) := (own_Fz.refl hB).sI 11 _ List.mem_cons_self
  have r0 : XT.ushr (gI (sI s 11 (gI s 11 * 1103515245 + 12345)) 11) 16 &&& 65535 = own_dr (own_nx 1 (gI s 11)) := rfl
  dsimp only
  rw [r0]
  generalize sI s 11 (gI s 11 * 1103515245 + 12345) = c2 at f0
  generalize own_nx 1 (gI s 11) = X
  have mn : ¬ own_dr X = -1 := fun q => by
    unfold own_dr at q
    obtain ⟨k, hk, ek⟩ := and_natL (XT.ushr X 16) 65535 (by decide)
    have ek : XT.ushr X 16 &&& 65535 = Int32.ofNat k := ek
    rw [ek, x32_eq, ofN_int (by omega)] at q
    have o : (-1 : Int32).toInt = -1 := by decide
    omega
  have mw : own_bw (own_dr X) 16 = own_dr X := own_bw16 _
  generalize own_dr X = m at mn mw
  have q0 : gI c2 8 = 1 := (f0.2.2.1 8 (by decide)).trans h8
  refine own_Ok.bind (own_dnF f0.1 (own_e1 q0) 9 (by decide)) fun c3 h3 => ?_
  obtain ⟨f3, -, d3⟩ := h3
  rw [q0] at d3
  have q3 : gI c3 8 = 1 := (f3.2.2.1 8 (by decide)).trans q0
  refine own_Ok.bind (own_dnF f3.1 (own_e1 q3) 11 (by decide)) fun c4 h4 => ?_
  obtain ⟨f4, -, d4⟩ := h4
  rw [q3] at d4
  have q4 : gI c4 8 = 1 := (f4.2.2.1 8 (by decide)).trans q3
  refine own_Ok.bind (own_dnF f4.1 (own_e1 q4) 12 (by decide)) fun c5 h5 => ?_
  obtain ⟨f5, -, d5⟩ := h5
  rw [q4] at d5
  have f05 : own_Fz [9, 11, 12] [11] s c5 := (((f0.mono (by decide) (by decide)).trans (f3.mono (by decide) (by decide))).trans (f4.mono (by decide) (by decide))).trans (f5.mono (by decide) (by decide))
  have s9 : own_sml (own_ci c5 9) := f5.sm (by decide) (by decide) (f4.sm (by decide) (by decide) (own_dns d3))
  have s11 : own_sml (own_ci c5 11) := f5.sm (by decide) (by decide) (own_dns d4)
  have s12 : own_sml (own_ci c5 12) := own_dns d5
  have K5 := hK.fz f05 (by decide) (by decide) (by decide)
  have T5 : gA c5 1 = own_T := f05.2.1.trans hT
  refine own_Ok.bind (own_mulV f5.1 T5 3 9 13 (by decide) (by decide) (by decide) K5.2.2.2.1 (own_smb s9)) fun c6 h6 => ?_
  obtain ⟨f6, v6⟩ := h6
  refine own_Ok.bind (own_adV f6.1 13 11 (by decide) (by decide) (by decide)) fun c7 h7 => ?_
  obtain ⟨f7, v7⟩ := h7
  have f57 : own_Fz [13, 15, 16] [] c5 c7 := (f6.mono (by decide) (by decide)).trans (f7.mono (by decide) (by decide))
  have b6 : own_bd c6 13 := fun i hi => by rw [v6 i hi]; exact own_rg _
  have w7 : ∀ i, i < 16 → own_ci c7 13 i = (own_P a (own_ci c5 9) i + own_ci c5 11 i) % 257 := fun i hi => by
    have := own_adm (b6 i hi) (f6.bd (p := 11) (by decide) (by decide) (own_smb s11) i hi)
    rw [← v7 i hi] at this
    have this : own_ci c7 13 i = (own_ci c6 13 i + own_ci c6 11 i) % 257 := this
    rw [this, v6 i hi, f6.ci (by decide) (by decide) hi, own_Pc (x' := a) (y' := own_ci c5 9) (fun j hj => by rw [K5.1 j hj]) (fun _ _ => rfl), Int.emod_add_emod]
  have b7 : own_bd c7 13 := fun i hi => by rw [w7 i hi]; exact own_rg _
  have K7 := K5.fz f57 (by decide) (by decide) (by decide)
  have T7 : gA c7 1 = own_T := f57.2.1.trans T5
  refine own_Ok.bind (own_mulV f7.1 T7 4 9 14 (by decide) (by decide) (by decide) K7.2.2.2.2.1 (f57.bd (by decide) (by decide) (own_smb s9))) fun c8 h8 => ?_
  obtain ⟨f8, v8⟩ := h8
  refine own_Ok.bind (own_adV f8.1 14 12 (by decide) (by decide) (by decide)) fun c9 h9 => ?_
  obtain ⟨f9, v9⟩ := h9
  have f58 : own_Fz [13, 14, 15, 16] [] c5 c8 := (f57.mono (by decide) (by decide)).trans (f8.mono (by decide) (by decide))
  have b8 : own_bd c8 14 := fun i hi => by rw [v8 i hi]; exact own_rg _
  have w9 : ∀ i, i < 16 → own_ci c9 14 i = (own_P b (own_ci c5 9) i + own_ci c5 12 i) % 257 := fun i hi => by
    have := own_adm (b8 i hi) (f58.bd (p := 12) (by decide) (by decide) (own_smb s12) i hi)
    rw [← v9 i hi] at this
    have this : own_ci c9 14 i = (own_ci c8 14 i + own_ci c8 12 i) % 257 := this
    rw [this, v8 i hi, f58.ci (by decide) (by decide) hi, own_Pc (x' := b) (y' := own_ci c5 9) (fun j hj => by rw [K7.2.1 j hj]) (fun j hj => by rw [f57.ci (by decide) (by decide) hj]), Int.emod_add_emod]
  have b9 : own_bd c9 14 := fun i hi => by rw [w9 i hi]; exact own_rg _
  refine own_Ok.bind (own_amV f9.1 m) fun c10 h10 => ?_
  obtain ⟨f10, v10⟩ := h10
  have w10 : ∀ i, i < 16 → own_ci c10 14 i = (own_P b (own_ci c5 9) i + own_ci c5 12 i + 129 * (if own_mb m i = 1 then 1 else 0)) % 257 := fun i hi => by
    have v := v10 i hi
    by_cases c : own_mb m i = 1
    · rw [if_pos c] at v ⊢
      have := own_adm (y := 129) (b9 i hi) (by decide)
      rw [← v] at this
      have this : own_ci c10 14 i = (own_ci c9 14 i + 129) % 257 := this
      rw [this, w9 i hi, Int.emod_add_emod]; rfl
    · rw [if_neg c] at v ⊢
      have : own_ci c10 14 i = own_ci c9 14 i := by
        show (own_ce c10 (14 * 16 + i)).toInt = _
        rw [v]; rfl
      rw [this, w9 i hi]; rw [Int.mul_zero, Int.add_zero]
  have b10 : own_bd c10 14 := fun i hi => by rw [w10 i hi]; exact own_rg _
  have f710 : own_Fz [14, 15, 16] [] c7 c10 := (((f8.mono (by decide) (by decide)).trans (f9.mono (by decide) (by decide))).trans (f10.mono (by decide) (by decide)))
  have f510 : own_Fz [13, 14, 15, 16] [] c5 c10 := (f57.mono (by decide) (by decide)).trans (f710.mono (by decide) (by decide))
  rw [show gI c10 9 = Int32.ofNat du from (f510.2.2.1 9 (by decide)).trans ((f05.2.2.1 9 (by decide)).trans eu)]
  refine own_Ok.bind (own_coV f10.1 13 6 (Int32.ofNat du) (by decide) (by decide) (by decide)) fun c11 h11 => ?_
  obtain ⟨f11, v11⟩ := h11
  rw [show gI c11 10 = Int32.ofNat dv from (f11.2.2.1 10 (by decide)).trans ((f510.2.2.1 10 (by decide)).trans ((f05.2.2.1 10 (by decide)).trans ev))]
  refine own_Ok.bind (own_coV f11.1 14 7 (Int32.ofNat dv) (by decide) (by decide) (by decide)) fun c12 h12 => ?_
  obtain ⟨f12, v12⟩ := h12
  have f512 : own_Fz [13, 14, 15, 16, 6, 7] [] c5 c12 := ((f510.mono (by decide) (by decide)).trans (f11.mono (by decide) (by decide))).trans (f12.mono (by decide) (by decide))
  have f012 : own_Fz [9, 11, 12, 13, 14, 15, 16, 6, 7] [11, 12] s c12 := (f05.mono (by decide) (by decide)).trans (f512.mono (by decide) (by decide))
  have fE := f012.sI 12 2 (by decide)
  have b10u : own_bd c10 13 := f710.bd (by decide) (by decide) b7
  refine own_Ok.ret ⟨mn, fE, rfl, mw, hK.fz fE (by decide) (by decide) (by decide), own_ci c5 9, own_ci c5 11, own_ci c5 12, fun i => (own_ci c10 13 i).toNat, fun i => (own_ci c10 14 i).toNat, s9, s11, s12, fun i hi => ?_, fun i hi => ?_⟩
  · obtain ⟨n1, n2, n3⟩ := own_nat (b10u i hi)
    refine ⟨n1, ?_, ?_⟩
    · dsimp only
      rw [n2, f710.ci (by decide) (by decide) hi, w7 i hi, Int.emod_emod]
    · dsimp only
      rw [← n3]
      show own_ce c12 _ = _
      rw [f12.ce (by omega) (by rw [show (6 * 16 + i) / 16 = 6 by omega]; decide), v11 i hi]
  · obtain ⟨n1, n2, n3⟩ := own_nat (b10 i hi)
    refine ⟨n1, ?_, ?_⟩
    · dsimp only
      rw [n2, w10 i hi, Int.emod_emod]
    · dsimp only
      rw [← n3]
      show own_ce c12 _ = _
      rw [v12 i hi, f11.ce (by omega) (by rw [show (14 * 16 + i) / 16 = 14 by omega]; decide)]

/-! what compressing loses -/
theorem own_cq7 : ∀ d : Fin 3, ∀ x : Fin 257, let y := (own_dcv (own_cmpv (Int32.ofNat x.val) (Int32.ofNat (d.val + 7))) (Int32.ofNat (d.val + 7))).toInt; 0 ≤ y ∧ y < 257 ∧ (y - x.val + 1) % 257 ≤ 2 := by decide +kernel
theorem own_cq4 : ∀ d : Fin 6, ∀ x : Fin 257, let y := (own_dcv (own_cmpv (Int32.ofNat x.val) (Int32.ofNat (d.val + 4))) (Int32.ofNat (d.val + 4))).toInt; 0 ≤ y ∧ y < 257 ∧ (y - x.val + 8) % 257 ≤ 16 := by decide +kernel
theorem own_ced {y x c : Int} : y % 257 = (x + ((y - x + c) % 257 - c)) % 257 := by omega
theorem own_cqu {du x : Nat} (h1 : 7 ≤ du) (h2 : du ≤ 9) (hx : x < 257) : ∃ δ : Int, -1 ≤ δ ∧ δ ≤ 1 ∧ 0 ≤ (own_dcv (own_cmpv (Int32.ofNat x) (Int32.ofNat du)) (Int32.ofNat du)).toInt ∧ (own_dcv (own_cmpv (Int32.ofNat x) (Int32.ofNat du)) (Int32.ofNat du)).toInt < 257 ∧ (own_dcv (own_cmpv (Int32.ofNat x) (Int32.ofNat du)) (Int32.ofNat du)).toInt % 257 = ((x : Int) + δ) % 257 := by
  have h := own_cq7 ⟨du - 7, by omega⟩ ⟨x, hx⟩
  dsimp only at h
  rw [show du - 7 + 7 = du by omega] at h
  generalize (own_dcv (own_cmpv (Int32.ofNat x) (Int32.ofNat du)) (Int32.ofNat du)).toInt = y at h
  have g := own_rg (y - x + 1)
  exact ⟨(y - x + 1) % 257 - 1, by omega, by omega, h.1, h.2.1, own_ced⟩
theorem own_cqv {dv x : Nat} (h1 : 4 ≤ dv) (h2 : dv ≤ 9) (hx : x < 257) : ∃ δ : Int, -8 ≤ δ ∧ δ ≤ 8 ∧ 0 ≤ (own_dcv (own_cmpv (Int32.ofNat x) (Int32.ofNat dv)) (Int32.ofNat dv)).toInt ∧ (own_dcv (own_cmpv (Int32.ofNat x) (Int32.ofNat dv)) (Int32.ofNat dv)).toInt < 257 ∧ (own_dcv (own_cmpv (Int32.ofNat x) (Int32.ofNat dv)) (Int32.ofNat dv)).toInt % 257 = ((x : Int) + δ) % 257 := by
  have h := own_cq4 ⟨dv - 4, by omega⟩ ⟨x, hx⟩
  dsimp only at h
  rw [show dv - 4 + 4 = dv by omega] at h
  generalize (own_dcv (own_cmpv (Int32.ofNat x) (Int32.ofNat dv)) (Int32.ofNat dv)).toInt = y at h
  have g := own_rg (y - x + 8)
  exact ⟨(y - x + 8) % 257 - 8, by omega, by omega, h.1, h.2.1, own_ced⟩
theorem own_mb01 (m : Int32) (i : Nat) : own_mb m i = 0 ∨ own_mb m i = 1 := by
  unfold own_mb
  obtain ⟨k, hk, ek⟩ := and_natL (XT.ushr m (Int32.ofNat i)) 1 (by decide)
  have ek : XT.ushr m (Int32.ofNat i) &&& 1 = Int32.ofNat k := ek
  rw [ek]
  have : k = 0 ∨ k = 1 := by omega
  rcases this with rfl | rfl
  · exact Or.inl rfl
  · exact Or.inr rfl
theorem own_w1 {w c : Int} (h1 : -57 ≤ c) (h2 : c ≤ 57) (hw : 0 ≤ w ∧ w < 257) (h : w % 257 = (129 * 1 + c) % 257) : 65 ≤ w ∧ w ≤ 192 := by omega
theorem own_w0 {w c : Int} (h1 : -57 ≤ c) (h2 : c ≤ 57) (hw : 0 ≤ w ∧ w < 257) (h : w % 257 = (129 * 0 + c) % 257) : w < 65 ∨ 192 < w := by omega
theorem own_bit {x m : Int32} {i : Nat} {c : Int} (h1 : -57 ≤ c) (h2 : c ≤ 57) (hx : 0 ≤ x.toInt ∧ x.toInt < 257) (h : x.toInt % 257 = (129 * (if own_mb m i = 1 then 1 else 0) + c) % 257) : own_c1 x = own_mb m i := by
  have ex : x = Int32.ofNat x.toInt.toNat := ofN_of (by omega)
  have e := own_c1b ⟨x.toInt.toNat, by omega⟩
  dsimp only at e
  rw [← ex] at e
  rw [e]
  have t1 : (65 : Int32).toInt = 65 := by decide
  have t2 : (192 : Int32).toInt = 192 := by decide
  rcases own_mb01 m i with z | z
  · rw [z] at h ⊢
    rw [if_neg (by decide)] at h
    have := own_w0 h1 h2 hx h
    by_cases q : x < 65
    · rw [if_pos q]
    · rw [if_neg q, if_pos]
      rw [x32_lt, t1] at q
      rw [x32_lt, t2]
      omega
  · rw [z] at h ⊢
    rw [if_pos rfl] at h
    have := own_w1 h1 h2 hx h
    rw [if_neg (by rw [x32_lt, t1]; omega), if_neg (by rw [x32_lt, t2]; omega)]
theorem own_bvw {c : Nat → Int32} {m : Int32} : ∀ {i : Nat}, (∀ j, j < i → own_c1 (c j) = own_mb m j) → own_bv c i = own_bw m i
  | 0, _ => rfl
  | i + 1, h => by
    show own_bv c i ||| (own_c1 (c i) <<< _) = own_bw m i ||| (own_mb m i <<< _)
    rw [own_bvw (fun j hj => h j (by omega)), h i (by omega)]
theorem own_decV {s : St} (hB : own_B s) (hT : gA s 1 = own_T) (h12 : gI s 12 = 2) {du dv : Nat} (eu : gI s 9 = Int32.ofNat du) (ev : gI s 10 = Int32.ofNat dv) (u1 : 7 ≤ du) (u2 : du ≤ 9) (w1 : 4 ≤ dv) (w2 : dv ≤ 9) {a b k e : Nat → Int} {m : Int32} (hC : own_Ct du dv a b k e s m) : own_Ok (fun n => f_decaps n s) (fun r => own_Fz [13, 14, 15, 16, 8] [] s r.2 ∧ r.1 = m) := by
  obtain ⟨mw, hK, r, e1, e2, u, v, sr, s1, s2, hu, hv⟩ := hC
  unfold f_decaps
  refine own_Ok.ite (fun _ => ?_) fun q => absurd h12 q
  rw [eu]
  refine own_Ok.bind (own_deV hB 6 13 (Int32.ofNat du) (by decide) (by decide) (by decide)) fun c2 h2 => ?_
  obtain ⟨f2, v2⟩ := h2
  rw [show gI c2 10 = Int32.ofNat dv from (f2.2.2.1 10 (by decide)).trans ev]
  refine own_Ok.bind (own_deV f2.1 7 14 (Int32.ofNat dv) (by decide) (by decide) (by decide)) fun c3 h3 => ?_
  obtain ⟨f3, v3⟩ := h3
  have f03 : own_Fz [13, 14] [] s c3 := (f2.mono (by decide) (by decide)).trans (f3.mono (by decide) (by decide))
  have K3 := hK.fz f03 (by decide) (by decide) (by decide)
  have du' : ∀ i, ∃ δ : Int, i < 16 → (-1 ≤ δ ∧ δ ≤ 1) ∧ (0 ≤ own_ci c3 13 i ∧ own_ci c3 13 i < 257) ∧ own_ci c3 13 i % 257 = ((u i : Int) + δ) % 257 := fun i => by
    by_cases hi : i < 16
    · obtain ⟨δ, d1, d2, d3, d4, d5⟩ := own_cqu u1 u2 (hu i hi).1
      refine ⟨δ, fun _ => ⟨⟨d1, d2⟩, ?_⟩⟩
      have ec : own_ci c3 13 i = (own_dcv (own_cmpv (Int32.ofNat (u i)) (Int32.ofNat du)) (Int32.ofNat du)).toInt := by
        rw [f3.ci (by decide) (by decide) hi]
        unfold own_ci
        rw [v2 i hi, (hu i hi).2.2]
      rw [ec]
      exact ⟨⟨d3, d4⟩, d5⟩
    · exact ⟨0, fun h => absurd h hi⟩
  have dv' : ∀ i, i < 16 → ∃ ε : Int, (-8 ≤ ε ∧ ε ≤ 8) ∧ (0 ≤ own_ci c3 14 i ∧ own_ci c3 14 i < 257) ∧ own_ci c3 14 i % 257 = ((v i : Int) + ε) % 257 := fun i hi => by
    obtain ⟨δ, d1, d2, d3, d4, d5⟩ := own_cqv w1 w2 (hv i hi).1
    refine ⟨δ, ⟨d1, d2⟩, ?_⟩
    have ec : own_ci c3 14 i = (own_dcv (own_cmpv (Int32.ofNat (v i)) (Int32.ofNat dv)) (Int32.ofNat dv)).toInt := by
      unfold own_ci
      rw [v3 i hi, f2.ce (by omega) (by rw [show (7 * 16 + i) / 16 = 7 by omega]; decide), (hv i hi).2.2]
    rw [ec]
    exact ⟨⟨d3, d4⟩, d5⟩
  obtain ⟨δ, hδ⟩ := Classical.axiomOfChoice du'
  have b13 : own_bd c3 13 := fun i hi => (hδ i hi).2.1
  have b5 : own_bd c3 5 := own_smb fun i hi => by rw [K3.2.2.1 i hi]; exact K3.2.2.2.2.2.1 i hi
  have T3 : gA c3 1 = own_T := f03.2.1.trans hT
  refine own_Ok.bind (own_mulV f3.1 T3 5 13 8 (by decide) (by decide) (by decide) b5 b13) fun c4 h4 => ?_
  obtain ⟨f4, v4⟩ := h4
  refine own_Ok.mono (own_d56V f4.1) fun q hq => ⟨?_, ?_⟩
  · exact (((f03.mono (by decide) (by decide)).trans (f4.mono (by decide) (by decide)))).trans (hq.1.mono (by decide) (by decide))
  · rw [hq.2.2, own_bvw (m := m), mw]
    intro t ht
    obtain ⟨ε, hε, bv, ev⟩ := dv' t ht
    have b8 : 0 ≤ own_ci c4 8 t ∧ own_ci c4 8 t < 257 := by rw [v4 t ht]; exact own_rg _
    have e14 : own_ci c4 14 t = own_ci c3 14 t := f4.ci (by decide) (by decide) ht
    have ew : (own_md (own_ce c4 (224 + t) - own_ce c4 (128 + t))).toInt = (own_ci c3 14 t - own_ci c4 8 t) % 257 := by
      have x1 : (own_ce c4 (224 + t)).toInt = own_ci c3 14 t := e14
      have x2 : (own_ce c4 (128 + t)).toInt = own_ci c4 8 t := rfl
      rw [own_mdv, x32_sub (by omega) (by omega), x1, x2]
    have ew2 : (own_md (own_ce c4 (224 + t) - own_ce c4 (128 + t))).toInt % 257 = (own_ci c3 14 t - own_P k (own_ci c3 13) t) % 257 := by
      rw [ew, Int.emod_emod, v4 t ht, own_Pc (x' := k) (y' := own_ci c3 13) (fun j hj => by rw [K3.2.2.1 j hj]) (fun _ _ => rfl), Int.sub_emod, Int.emod_emod, ← Int.sub_emod]
    obtain ⟨c, c1, c2, c3⟩ := own_alg (a := a) (b := b) (s := k) (e := e) (r := r) (e1 := e1) (e2 := e2) (u := fun i => (u i : Int)) (v := fun i => (v i : Int)) (u' := own_ci c3 13) (δ := δ) (m := if own_mb m t = 1 then 1 else 0) ht hK.2.2.2.2.2.1 hK.2.2.2.2.2.2.1 sr s1 s2 hK.2.2.2.2.2.2.2 (fun i hi => (hu i hi).2.1) (hv t ht).2.1 (fun i hi => (hδ i hi).2.2) (fun i hi => (hδ i hi).1) ev hε ew2
    exact own_bit c1 c2 (own_mdb _) c3
theorem own_decS {s : St} (hB : own_B s) (h12 : gI s 12 = 2) : own_Ok (fun n => f_decaps n s) (fun r => own_Fz [13, 14, 15, 16, 8] [] s r.2) := by
  unfold f_decaps
  refine own_Ok.ite (fun _ => ?_) fun q => absurd h12 q
  refine own_Ok.bind (own_deF hB 6 13 _ (by decide) (by decide)) fun c2 f2 => ?_
  refine own_Ok.bind (own_deF f2.1 7 14 _ (by decide) (by decide)) fun c3 f3 => ?_
  refine own_Ok.bind (own_mulF f3.1 5 13 8 (by decide) (by decide) (by decide)) fun c4 f4 => ?_
  refine own_Ok.mono (own_d56F f4.1) fun r h => ?_
  exact (((f2.mono (by decide) (by decide)).trans (f3.mono (by decide) (by decide))).trans (f4.mono (by decide) (by decide))).trans (h.1.mono (by decide) (by decide))

/-! the law -/
def own_In (du dv : Nat) (v2 v3 v4 : Int32) (s : St) : Prop := own_B s ∧ gA s 1 = own_T ∧ gI s 8 = 1 ∧ gI s 9 = Int32.ofNat du ∧ gI s 10 = Int32.ofNat dv ∧ (gI s 12 = 0 ∨ ∃ a b k e, own_Key a b k e s ∧ (gI s 12 = 2 → ¬ v2 = 0 → v3 = 0 → own_Ct du dv a b k e s v4))
theorem own_In.fz {du dv : Nat} {v2 v3 v4 : Int32} {s t : St} {R I : List Nat} (h : own_In du dv v2 v3 v4 s) (f : own_Fz R I s t) (h3 : 3 ∉ R) (h4 : 4 ∉ R) (h5 : 5 ∉ R) (h6 : 6 ∉ R) (h7 : 7 ∉ R) (i8 : 8 ∉ I) (i9 : 9 ∉ I) (i10 : 10 ∉ I) (i12 : 12 ∉ I) : own_In du dv v2 v3 v4 t := by
  obtain ⟨hB, hT, k8, k9, k10, hk⟩ := h
  refine ⟨f.1, f.2.1.trans hT, (f.2.2.1 8 i8).trans k8, (f.2.2.1 9 i9).trans k9, (f.2.2.1 10 i10).trans k10, ?_⟩
  rw [f.2.2.1 12 i12]
  rcases hk with h | ⟨a, b, k, e, hK, hC⟩
  · exact Or.inl h
  · exact Or.inr ⟨a, b, k, e, hK.fz f h3 h4 h5, fun x y z => (hC x y z).fz f h3 h4 h5 h6 h7⟩
theorem own_stC {s : St} (hB : own_B s) (x y z : Int32) : ∃ c, f_setCipher (x &&& 3) (y &&& 31) z s = some c ∧ (c.1 = 0 → c.2 = s) ∧ own_Fz [6, 7] [] s c.2 := by
  have hl : (gA s 0).length = 272 := hB.1
  obtain ⟨w, hw, ew⟩ := and_natL x 3 (by decide)
  obtain ⟨j, hj, ej⟩ := and_natL y 31 (by decide)
  have ew : x &&& 3 = Int32.ofNat w := ew
  have ej : y &&& 31 = Int32.ofNat j := ej
  rw [ew, ej]
  have no : ∀ r, r = some ((0 : Int32), s) → ∃ c, r = some c ∧ (c.1 = 0 → c.2 = s) ∧ own_Fz [6, 7] [] s c.2 := fun r h => ⟨_, h, fun _ => rfl, own_Fz.refl hB⟩
  have k48 : ∀ d, (w = 0 ∨ w = 1) → j < 16 → ∃ c, f_setCipher_48 (Int32.ofNat w) (Int32.ofNat j) z d s = some c ∧ (c.1 = 0 → c.2 = s) ∧ own_Fz [6, 7] [] s c.2 := fun d hw hj => by
    unfold f_setCipher_48 f_setCipher_64
    split
    · exact no _ rfl
    · split
      · exact no _ rfl
      · have e6 : ((6 : Int32) + Int32.ofNat w) * 16 = Int32.ofNat ((6 + w) * 16) := by
          rcases hw with rfl | rfl <;> decide
        rw [e6, wrA_of (k := (6 + w) * 16 + j) _ (own_ofa ((6 + w) * 16) j (by omega)) (by omega)]
        refine ⟨_, rfl, fun q => absurd q (by show ¬ (1 : Int32) = 0; decide), (own_Fz.refl hB).wr _ _ ?_⟩
        rw [show ((6 + w) * 16 + j) / 16 = 6 + w by omega]
        rcases hw with rfl | rfl <;> decide
  have k21 : (w = 0 ∨ w = 1) → ∃ c, f_setCipher_21 (Int32.ofNat w) (Int32.ofNat j) z s = some c ∧ (c.1 = 0 → c.2 = s) ∧ own_Fz [6, 7] [] s c.2 := fun hw => by
    unfold f_setCipher_21 f_setCipher_31
    split
    · exact no _ rfl
    · split
      · exact no _ rfl
      · rename_i q
        have : j < 16 := by
          rcases Nat.lt_or_ge j 16 with h | h
          · exact h
          · exact absurd ((ofN_gtL (m := 15) (by omega) (by decide)).mpr (by omega)) q
        split
        · exact k48 _ hw this
        · exact k48 _ hw this
  unfold f_setCipher
  split
  · split
    · rename_i q
      exact k21 (Or.inl ((ofN_eqL (m := 0) (by omega) (by decide)).mp q))
    · split
      · rename_i q
        exact k21 (Or.inr ((ofN_eqL (m := 1) (by omega) (by decide)).mp q))
      · exact no _ rfl
  · exact no _ rfl
theorem own_sop {s : St} (hB : own_B s) (x y z : Int32) : ∃ c, f_setOperand (x &&& 3) (y &&& 31) z s = some c ∧ own_Fz [0, 1] [] s c.2 := by
  have hl : (gA s 0).length = 272 := hB.1
  obtain ⟨w, hw, ew⟩ := and_natL x 3 (by decide)
  obtain ⟨j, hj, ej⟩ := and_natL y 31 (by decide)
  have ew : x &&& 3 = Int32.ofNat w := ew
  have ej : y &&& 31 = Int32.ofNat j := ej
  rw [ew, ej]
  have no : ∀ r, r = some ((0 : Int32), s) → ∃ c, r = some c ∧ own_Fz [0, 1] [] s c.2 := fun r h => ⟨_, h, own_Fz.refl hB⟩
  have k11 : (w = 0 ∨ w = 1) → ∃ c, f_setOperand_11 (Int32.ofNat w) (Int32.ofNat j) z s = some c ∧ own_Fz [0, 1] [] s c.2 := fun hw => by
    unfold f_setOperand_11 f_setOperand_21
    split
    · exact no _ rfl
    · split
      · exact no _ rfl
      · rename_i q
        have : j < 16 := by
          rcases Nat.lt_or_ge j 16 with h | h
          · exact h
          · exact absurd ((ofN_gtL (m := 15) (by omega) (by decide)).mpr (by omega)) q
        rw [own_16, own_mod, Option.bind_some, wrA_of (k := w * 16 + j) _ (own_ofa (w * 16) j (by omega)) (by omega)]
        refine ⟨_, rfl, (own_Fz.refl hB).wr _ _ ?_⟩
        rw [show (w * 16 + j) / 16 = w by omega]
        rcases hw with rfl | rfl <;> decide
  unfold f_setOperand
  split
  · rename_i q
    exact k11 (Or.inl ((ofN_eqL (m := 0) (by omega) (by decide)).mp q))
  · split
    · rename_i q
      exact k11 (Or.inr ((ofN_eqL (m := 1) (by omega) (by decide)).mp q))
    · exact no _ rfl
theorem own_cpr (x y : Int32) (s : St) : ∃ c, f_compress x y s = some c := by
  unfold f_compress f_compress_22 f_cmp
  split
  · exact ⟨_, rfl⟩
  split
  · exact ⟨_, rfl⟩
  split
  · exact ⟨_, rfl⟩
  split
  · exact ⟨_, rfl⟩
  · exact ⟨_, rfl⟩
theorem own_dcp (x y : Int32) (s : St) : ∃ c, f_decompress x y s = some c := by
  unfold f_decompress f_decompress_11 f_decompress_26 f_dcmp
  split
  · exact ⟨_, rfl⟩
  split
  · exact ⟨_, rfl⟩
  split
  · exact ⟨_, rfl⟩
  split
  · exact ⟨_, rfl⟩
  · exact ⟨_, rfl⟩
theorem own_dd {s : St} {R I : List Nat} {t : St} (f : own_Fz R I s t) : True := trivial
theorem own_213 {du dv : Nat} (u1 : 7 ≤ du) (u2 : du ≤ 9) (w1 : 4 ≤ dv) (w2 : dv ≤ 9) {a : List Int32} {v2 v3 v4 v5 v6 : Int32} {s : St} (hI : own_In du dv v2 v3 v4 s) (nx : ∀ v2 v3 v4 s, own_In du dv v2 v3 v4 s → own_Ok (fun n => f_law_96 n v2 v3 v4 v5 (v6 + 1) a s) (· = 1)) (v7 v8 v9 v10 : Int32) : own_Ok (fun n => f_law_213 (f_law_96 n) n v2 v3 v4 v5 v6 v7 v8 v9 v10 a s) (· = 1) := by
  have hB := hI.1
  have hT := hI.2.1
  have k8 := hI.2.2.1
  have k9 := hI.2.2.2.1
  have k10 := hI.2.2.2.2.1
  have dec : ∀ t0 : Int32, (¬ t0 = 0 → gI s 12 = 2 ∧ ¬ v2 = 0 ∧ v3 = 0) → own_Ok (fun n => f_law_299 (f_law_96 n) n v2 v3 v4 v5 v6 t0 a s) (· = 1) := fun t0 ht => by
    unfold f_law_299 f_law_321 f_law_452 lt
    by_cases c12 : gI s 12 = 2
    · by_cases z : t0 = 0
      · refine own_Ok.bind (own_decS hB c12) fun r f => ?_
        refine own_Ok.ite (fun _ => ?_) fun q => absurd z q
        exact nx _ _ _ _ (hI.fz f (by decide) (by decide) (by decide) (by decide) (by decide) (by decide) (by decide) (by decide) (by decide))
      · obtain ⟨-, z2, z3⟩ := ht z
        rcases hI.2.2.2.2.2 with h0 | ⟨p, b, k, e, hK, hC⟩
        · rw [h0] at c12; exact absurd c12 (by decide)
        · refine own_Ok.bind (own_decV hB hT c12 k9 k10 u1 u2 w1 w2 (hC c12 z2 z3)) fun r hr => ?_
          refine own_Ok.ite (fun q => absurd q z) fun _ => ?_
          refine own_Ok.ite (fun _ => ?_) fun q => absurd hr.2 q
          exact nx _ _ _ _ (hI.fz hr.1 (by decide) (by decide) (by decide) (by decide) (by decide) (by decide) (by decide) (by decide) (by decide))
    · have ee : ∀ n, f_decaps n s = some (-1, s) := fun n => by unfold f_decaps; rw [if_neg c12]
      simp only [ee, Option.bind_some]
      refine own_Ok.ite (fun _ => nx _ _ _ _ hI) fun q => absurd (ht q).1 c12
  unfold f_law_213 f_law_298 f_law_452 lt
  refine own_Ok.ite (fun _ => ?_) fun _ => ?_
  · refine own_Ok.ite (fun _ => ?_) fun _ => ?_
    · refine own_Ok.ite (fun _ => ?_) fun _ => ?_
      · refine own_Ok.ite (fun _ => ?_) fun _ => ?_
        · refine own_Ok.ite (fun _ => ?_) fun _ => ?_
          · obtain ⟨c, e1, e2, f⟩ := own_stC hB v8 v9 (v10 &&& 1023)
            rw [e1]
            refine own_Ok.some_bind ?_
            refine own_Ok.ite (fun q => ?_) fun _ => ?_
            · rw [e2 q]; exact nx _ _ _ _ hI
            · refine nx _ _ _ _ ?_
              obtain ⟨hB, hT, k8, k9, k10, hk⟩ := hI
              refine ⟨f.1, f.2.1.trans hT, (f.2.2.1 8 (by decide)).trans k8, (f.2.2.1 9 (by decide)).trans k9, (f.2.2.1 10 (by decide)).trans k10, ?_⟩
              rw [f.2.2.1 12 (by decide)]
              rcases hk with h | ⟨p, b, k, e, hK, hC⟩
              · exact Or.inl h
              · exact Or.inr ⟨p, b, k, e, hK.fz f (by decide) (by decide) (by decide), fun _ _ z => absurd z (by decide)⟩
          refine own_Ok.ite (fun _ => ?_) fun _ => ?_
          · have er : ∀ X, gI s 11 * 1103515245 + 12345 = X → f_random s = some ((XT.ushr X 16) &&& 65535, sI s 11 X) := fun X hX => by
              unfold f_random f_draw lt; rw [hX]; rfl
            obtain ⟨X, hX⟩ : ∃ X, gI s 11 * 1103515245 + 12345 = X := ⟨_, rfl⟩
            rw [er X hX]
            refine own_Ok.some_bind ?_
            exact nx _ _ _ _ (hI.fz ((own_Fz.refl (R := []) (I := [11]) hB).sI 11 X (by decide)) (by decide) (by decide) (by decide) (by decide) (by decide) (by decide) (by decide) (by decide) (by decide))
          refine own_Ok.ite (fun _ => ?_) fun _ => ?_
          · have hs : own_Ok (fun n => f_sample n s) (fun c => c.2 = sI s 11 (own_nx 1 (gI s 11))) := by
              unfold f_sample
              refine own_Ok.nz (own_e1 k8) (own_Ok.ret ?_)
              rfl
            generalize own_nx 1 (gI s 11) = X at hs
            refine own_Ok.bind hs fun c hc => ?_
            rw [hc]
            exact nx _ _ _ _ (hI.fz ((own_Fz.refl (R := []) (I := [11]) hB).sI 11 X (by decide)) (by decide) (by decide) (by decide) (by decide) (by decide) (by decide) (by decide) (by decide) (by decide))
          refine own_Ok.ite (fun _ => ?_) fun _ => ?_
          · obtain ⟨c, e1, f1⟩ := own_sop hB v8 v9 v10
            rw [e1]
            refine own_Ok.some_bind ?_
            have hm : own_Ok (fun n => f_multiply n c.2) (fun t => own_Fz [15, 16, 2] [] c.2 t) := by
              unfold f_multiply
              exact own_Ok.bind (own_mulF f1.1 0 1 2 (by decide) (by decide) (by decide)) fun t f => own_Ok.ret f
            refine own_Ok.bind hm fun t f => ?_
            have f2 : own_Fz [0, 1, 15, 16, 2] [] s t := (f1.mono (by decide) (by decide)).trans (f.mono (by decide) (by decide))
            exact nx _ _ _ _ (hI.fz f2 (by decide) (by decide) (by decide) (by decide) (by decide) (by decide) (by decide) (by decide) (by decide))
          · obtain ⟨c, e1⟩ := own_cpr (v9 &&& 511) (v8 &&& 15) s
            obtain ⟨d, e2⟩ := own_dcp (v10 &&& 1023) (XT.ushr v8 4 &&& 15) s
            rw [e1, e2]
            exact own_Ok.some_bind (own_Ok.some_bind (nx _ _ _ _ hI))
        · unfold f_status
          refine own_Ok.some_bind ?_
          refine own_Ok.ite (fun q1 => ?_) fun _ => dec 0 fun q => absurd rfl q
          refine own_Ok.ite (fun _ => dec 0 fun q => absurd rfl q) fun q2 => ?_
          refine own_Ok.ite (fun q3 => dec 1 fun _ => ⟨q1, q2, q3⟩) fun _ => dec 0 fun q => absurd rfl q
      · unfold f_law_268 f_law_452 lt
        by_cases c0 : gI s 12 = 0
        · have ee : ∀ n, f_encaps n s = some (-1, s) := fun n => by unfold f_encaps; rw [if_pos c0]
          simp only [ee, Option.bind_some]
          exact own_Ok.ite (fun _ => nx _ _ _ _ hI) fun q => absurd trivial q
        · rcases hI.2.2.2.2.2 with h0 | ⟨p, b, k, e, hK, hC⟩
          · exact absurd h0 c0
          · refine own_Ok.bind (own_encV hB hT k8 c0 k9 k10 hK) fun r hr => ?_
            obtain ⟨r1, f, r12, rC⟩ := hr
            refine own_Ok.ite (fun q => absurd q r1) fun _ => ?_
            refine nx _ _ _ _ ⟨f.1, f.2.1.trans hT, (f.2.2.1 8 (by decide)).trans k8, (f.2.2.1 9 (by decide)).trans k9, (f.2.2.1 10 (by decide)).trans k10, Or.inr ⟨p, b, k, e, rC.2.1, fun _ _ _ => rC⟩⟩
    · refine own_Ok.bind (own_keyV hB hT k8) fun t ht => ?_
      obtain ⟨f, t12, p, b, k, e, hK⟩ := ht
      refine nx _ _ _ _ ⟨f.1, f.2.1.trans hT, (f.2.2.1 8 (by decide)).trans k8, (f.2.2.1 9 (by decide)).trans k9, (f.2.2.1 10 (by decide)).trans k10, Or.inr ⟨p, b, k, e, hK, fun q => ?_⟩⟩
      rw [t12] at q; exact absurd q (by decide)
  · unfold f_seed lt
    refine own_Ok.some_bind ?_
    exact nx _ _ _ _ (hI.fz ((own_Fz.refl (R := []) (I := [11]) hB).sI 11 v8 (by decide)) (by decide) (by decide) (by decide) (by decide) (by decide) (by decide) (by decide) (by decide) (by decide))
theorem own_cell (a : List Int32) (hl : a.length ≤ 260) (p : Nat) (hp : p < 1000) : ∃ x, f_L_cell (Int32.ofNat p) a = some x := by
  have e : a.length.toInt32 = Int32.ofNat a.length := rfl
  unfold f_L_cell f_L_cell_13
  rw [e]
  by_cases c : p < a.length
  · have hx : a[p]? = some (a[p]'c) := List.getElem?_eq_getElem _
    rw [if_pos ((ofN_lt (by omega) (by omega)).mpr c), rd_at (by omega) hx]
    exact ⟨_, rfl⟩
  · rw [if_neg (fun q => c ((ofN_lt (by omega) (by omega)).mp q))]
    exact ⟨_, rfl⟩
theorem own_loop {du dv : Nat} (u1 : 7 ≤ du) (u2 : du ≤ 9) (w1 : 4 ≤ dv) (w2 : dv ≤ 9) {a : List Int32} (hl : a.length ≤ 260) (g : Nat) (hg : g ≤ 65) : ∀ (k j : Nat) (v2 v3 v4 : Int32) (s : St), j + k = 4 + g → own_In du dv v2 v3 v4 s → own_Ok (fun n => f_law_96 n v2 v3 v4 (Int32.ofNat g) (Int32.ofNat j) a s) (· = 1) := by
  have e4 : (4 : Int32) + Int32.ofNat g = Int32.ofNat (4 + g) := (Int32.ofNat_add 4 g).symm
  intro k
  induction k with
  | zero =>
    intro j v2 v3 v4 s hj hI
    refine own_Ok.step (g := fun n => g_law_96 (f_law_96 n) n v2 v3 v4 (Int32.ofNat g) (Int32.ofNat j) a s) (fun n => rfl) ?_
    unfold g_law_96
    refine own_Ok.ite (fun q => ?_) fun _ => own_Ok.ret rfl
    rw [e4] at q
    have := (ofN_lt (by omega) (by omega)).mp q
    omega
  | succ k ih =>
    intro j v2 v3 v4 s hj hI
    refine own_Ok.step (g := fun n => g_law_96 (f_law_96 n) n v2 v3 v4 (Int32.ofNat g) (Int32.ofNat j) a s) (fun n => rfl) ?_
    have nx : ∀ v2 v3 v4 s, own_In du dv v2 v3 v4 s → own_Ok (fun n => f_law_96 n v2 v3 v4 (Int32.ofNat g) (Int32.ofNat j + 1) a s) (· = 1) := fun v2 v3 v4 s h => by
      rw [ofN_succ]; exact ih (j + 1) v2 v3 v4 s (by omega) h
    obtain ⟨c3, hc3⟩ := own_cell a hl 3 (by decide)
    have hc3 : f_L_cell 3 a = some c3 := hc3
    have k142 : ∀ t0, own_Ok (fun n => f_law_142 (f_law_96 n) n v2 v3 v4 (Int32.ofNat g) (Int32.ofNat j) t0 a s) (· = 1) := fun t0 => by
      unfold f_law_142
      rw [hc3]
      exact own_Ok.some_bind (own_213 u1 u2 w1 w2 hI nx _ _ _ _)
    unfold g_law_96 lt
    refine own_Ok.ite (fun _ => ?_) fun _ => own_Ok.ret rfl
    refine own_Ok.ite (fun _ => ?_) fun q => ?_
    · refine own_Ok.ite (fun _ => k142 _) fun _ => ?_
      refine own_Ok.ite (fun _ => k142 _) fun _ => ?_
      exact own_Ok.ite (fun _ => k142 _) fun _ => k142 _
    · have hj4 : ¬ j < 4 := fun h => q ((ofN_ltL (m := 4) (by omega) (by decide)).mpr h)
      have ex : (4 : Int32) + 4 * (Int32.ofNat j - 4) = Int32.ofNat (4 * (j - 4) + 4) := by
        obtain ⟨i, rfl⟩ : ∃ i, j = i + 4 := ⟨j - 4, by omega⟩
        have : Int32.ofNat (i + 4) - 4 = Int32.ofNat i := by
          rw [Int32.ofNat_add]; exact Int32.add_sub_cancel _ _
        rw [this, show 4 * (i + 4 - 4) + 4 = 4 + 4 * i by omega, Int32.ofNat_add, Int32.ofNat_mul]; rfl
      rw [ex]
      obtain ⟨x0, h0⟩ := own_cell a hl (4 * (j - 4) + 4) (by omega)
      obtain ⟨x1, h1⟩ := own_cell a hl (4 * (j - 4) + 4 + 1) (by omega)
      obtain ⟨x2, h2⟩ := own_cell a hl (4 * (j - 4) + 4 + 2) (by omega)
      obtain ⟨x3, h3⟩ := own_cell a hl (4 * (j - 4) + 4 + 3) (by omega)
      rw [Int32.ofNat_add _ 1] at h1
      rw [Int32.ofNat_add _ 2] at h2
      rw [Int32.ofNat_add _ 3] at h3
      have h1 : f_L_cell (Int32.ofNat (4 * (j - 4) + 4) + 1) a = some x1 := h1
      have h2 : f_L_cell (Int32.ofNat (4 * (j - 4) + 4) + 2) a = some x2 := h2
      have h3 : f_L_cell (Int32.ofNat (4 * (j - 4) + 4) + 3) a = some x3 := h3
      dsimp only
      rw [h0, h1, h2, h3]
      exact own_Ok.some_bind (own_Ok.some_bind (own_Ok.some_bind (own_Ok.some_bind (own_213 u1 u2 w1 w2 hI nx _ _ _ _))))
theorem own_clE : ∀ i : Fin 4, own_cl (1 - Int32.ofNat i.val) 1 3 = 1 := by decide
theorem own_clU : ∀ i : Fin 8, ∃ d : Fin 10, 7 ≤ d.val ∧ own_cl (7 + Int32.ofNat i.val) 1 9 = Int32.ofNat d.val := by decide
theorem own_clV : ∀ i : Fin 8, ∃ d : Fin 10, 4 ≤ d.val ∧ own_cl (4 + Int32.ofNat i.val) 1 9 = Int32.ofNat d.val := by decide
theorem own_dv4 : ∀ n : Fin 261, 4 < n.val → ∃ g : Fin 66, (Int32.ofNat n.val - 1) / 4 = Int32.ofNat g.val := by
  have h : ∀ n : Fin 261, 4 < n.val → (Int32.ofNat n.val - 1) / 4 = Int32.ofNat ((n.val - 1) / 4) := by decide +kernel
  exact fun n hn => ⟨⟨(n.val - 1) / 4, by omega⟩, h n hn⟩
theorem owed (a : List Int32) (hl : a.length ≤ 260) : ∃ fu, f_law fu a = some 1 := by
  suffices h : own_Ok (fun n => f_law n a) (· = 1) by
    obtain ⟨r, h1, rfl⟩ := h
    exact h1.get
  have el : a.length.toInt32 = Int32.ofNat a.length := rfl
  obtain ⟨c1, h1⟩ := own_cell a hl 0 (by decide)
  obtain ⟨c2, h2⟩ := own_cell a hl 1 (by decide)
  obtain ⟨c3, h3⟩ := own_cell a hl 2 (by decide)
  have h1 : f_L_cell 0 a = some c1 := h1
  have h2 : f_L_cell 1 a = some c2 := h2
  have h3 : f_L_cell 2 a = some c3 := h3
  unfold f_law f_law_66 f_law_91
  rw [h1, h2, h3, el]
  refine own_Ok.some_bind (own_Ok.some_bind (own_Ok.some_bind ?_))
  obtain ⟨i, hi, ei⟩ := and_natL c1 3 (by decide)
  obtain ⟨j, hj, ej⟩ := and_natL c2 7 (by decide)
  obtain ⟨k, hk, ek⟩ := and_natL c3 7 (by decide)
  have ei : c1 &&& 3 = Int32.ofNat i := ei
  have ej : c2 &&& 7 = Int32.ofNat j := ej
  have ek : c3 &&& 7 = Int32.ofNat k := ek
  rw [ei, ej, ek]
  obtain ⟨s, g0, g8, g9, g10, g11, g12, gA0, gT, gB⟩ := own_init (1 - Int32.ofNat i) (7 + Int32.ofNat j) (4 + Int32.ofNat k)
  rw [own_clE ⟨i, by omega⟩] at g8
  obtain ⟨du, u1, eu⟩ := own_clU ⟨j, by omega⟩
  obtain ⟨dv, w1, ev⟩ := own_clV ⟨k, by omega⟩
  dsimp only at eu ev
  rw [eu] at g9
  rw [ev] at g10
  refine own_Ok.bind (Q := fun c => c = s) ⟨s, g0, rfl⟩ fun c hc => ?_
  subst hc
  have p0 : f_param 0 c = some (gI c 8) := rfl
  have p1 : f_param 1 c = some (gI c 9) := rfl
  have p2 : f_param 2 c = some (gI c 10) := rfl
  rw [p0, p1, p2]
  simp only [Option.bind_some]
  have hI : own_In du.val dv.val 0 0 0 c := ⟨gB, gT, g8, g9, g10, Or.inl g12⟩
  refine own_Ok.ite (fun _ => ?_) fun _ => own_Ok.ret rfl
  refine own_Ok.ite (fun _ => own_Ok.ret rfl) fun _ => ?_
  refine own_Ok.ite (fun _ => own_Ok.ret rfl) fun _ => ?_
  refine own_Ok.ite (fun q => ?_) fun _ => own_loop u1 (by omega) w1 (by omega) hl 0 (by decide) 4 0 0 0 0 c rfl hI
  have q := (ofN_gtL (m := 4) (by omega) (by decide)).mp q
  obtain ⟨g, eg⟩ := own_dv4 ⟨a.length, by omega⟩ q
  dsimp only at eg
  rw [eg]
  exact own_loop u1 (by omega) w1 (by omega) hl g.val (by omega) (4 + g.val) 0 0 0 0 c (by omega) hI

set_option maxRecDepth 65536 in
set_option maxHeartbeats 40000000 in
theorem comes_1 {Post : Tables → Env → Array Value → State → Outcome → State → Prop} (hpost : ∀ tb e args s v u, (limb_1_1.after args s (.returned v) u = true ∧ limb_1_2.after args s (.returned v) u = true ∧ True) → FrameEnd s (.returned v) u (Jvm.fieldLocs frame_1_writes args s ++ Jvm.arrayLocs frame_1_arrays args s ++ Jvm.staticLocs frame_1_statics s) 16 768 → Post tb e args s (.returned v) u) :
    ArmFor flags0 classFile x code maxLocals ret World_1 tables_1 room_1 Calls_1 rest_1 Pre_1 Post := by
  intro l hfl _ _ p e ha hc hk s m args below hf hA hF happ hP
  obtain ⟨hcalls, hrest, hpre⟩ := hP
  obtain ⟨-, -, -, hnamed, -, -, -, hat⟩ := (Spec.applies_iff hf).mp happ
  obtain ⟨hg, hn⟩ := and_e (Cond.before_iff.mp (show (Jvm.Cond.and given_1 narrow_1).before args s = true from hpre))
  obtain ⟨g0, q0⟩ := and_e hg
  obtain ⟨w0, rfl⟩ : ∃ w0 : Value, args = #[w0] := by
    have hs : args.size = 1 := by simpa [Cond.value, given_1] using g0
    obtain ⟨L⟩ := args
    match L, hs with
    | [w0], _ => exact ⟨w0, rfl⟩
  have hw := fun d (hd : d ∈ tables_1) => atoms_spec (ws := Jvm.Cond.code x code maxLocals ret :: tables_1) hat d (List.mem_cons_of_mem _ hd)
  have hfit : Fit s := fun {y c} hc i hi => by
    obtain ⟨ha, rfl⟩ := Array.getElem?_eq_some_iff.mp hc
    have q := List.all_eq_true.mp ((Array.all_eq_true_iff_forall_mem.mp hF) _ (Array.getElem_mem ha)) i (List.mem_range.mpr hi)
    simpa [Array.getElem?_eq_getElem hi] using q
  obtain ⟨v0, e0, r0⟩ := isR_v q0
  obtain rfl : w0 = v0 := Option.some.inj e0
  obtain ⟨n1, n2⟩ := and_e hn
  obtain ⟨ra, rfl⟩ : ∃ ra, w0 = .ref ra := by
    rcases ref_cases r0 with rfl | ⟨ra, rfl⟩
    · exfalso
      simp only [Cond.value, e0] at n1
      split at n1 <;> cases n1
    · exact ⟨ra, rfl⟩
  obtain ⟨cl, Ar⟩ := Arr.start e0 n1
  obtain ⟨xs, hxs⟩ := script_ints hfit Ar
  have hlen : xs.length ≤ 260 := by
    have e1 : cl.slots.size = xs.length := by rw [← Array.length_toList, hxs, List.length_map]
    exact script_len e0 Ar e1 n2
  obtain ⟨fu, hfu⟩ := owed xs hlen
  obtain ⟨n, o, h1, h2, h3, _, L, rfl, ⟨w, H', rfl, hv, -, -, N⟩, hq⟩ := okLAW l s _ hw fu xs 1 hfu tables_1 s.heap.size (ad1 ra s.heap.size) s.heap (HR.start1 CN lay Ar hxs) p e ha hc hk s m _ below hf ((Spec.applies_iff_loose hf).mp happ).1 ⟨rfl, State.Warmed39.refl s, rfl⟩ trivial
  obtain rfl : w = some (.int 1) := hv
  refine ⟨n, _, h1, h2, h3, hpost _ _ _ _ _ _ ⟨Cond.after_iff.mpr rfl, Cond.after_iff.mpr (eq_i res_at (Term.int_eval (1)) rfl), trivial⟩ ⟨hq.1, hq.2.1, (hq.2.2.sift fun y hy => Or.inr (N y hy)).mono (by decide) (by decide)⟩⟩
theorem main_1_1 : Claimed_1_1 := comes_1 fun _ _ _ _ _ _ h hF => ⟨h.1, hF⟩
theorem main_1_2 : Claimed_1_2 := comes_1 fun _ _ _ _ _ _ h hF => ⟨h.2.1, hF⟩

end Jvm.Pilot.@@N@@
namespace Jvm.Pilot.@@N@@
open Jvm Jvm.ClassFile Sem Op Lib Jvm.Free Jvm.Stand Jvm.Pilot.@@N@@.Jvm.D
/-! MADE BY PROGRAM (witnessworld.py) out of the Statement's table words and the real class files: 9 classes; the members and pool entries that the words name. The judged class is class 1, her method 2. -/
namespace start1
open Jvm.ClassFile
def u (s : String) : CpInfo := .utf8 (stringToUtf16 s)
/-- a pool by its gaps: so many unusable entries, then the entry; so many at the end -/
def gap : Nat → List CpInfo → List CpInfo
  | 0, r => r
  | n + 1, r => .unusable :: gap n r
def poolList (es : List (Nat × CpInfo)) (last : Nat) : List CpInfo := es.foldr (fun e r => gap e.1 (e.2 :: r)) (gap last [])
def pool (es : List (Nat × CpInfo)) (last : Nat) : Array CpInfo := ⟨poolList es last⟩
def fileOf (pool : Array CpInfo) (this : Nat) (attrs : Array Attribute := #[]) (ms : Array MethodInfo := #[]) (fl : Nat := 33) (sup : Nat := 0) (ifs : Array Nat := #[]) (fds : Array FieldInfo := #[]) : ClassFile where
  minorVersion := 0
  majorVersion := 65
  constantPool := pool
  accessFlags := fl
  thisClass := this
  superClass := sup
  interfaces := ifs
  fields := fds
  methods := ms
  attributes := attrs
def plain (name : String) (sup : Option ClassId) : Class where
  name := name
  kind := .ordinary
  loader := none
  accessFlags := 33
  super := sup
  interfaces := #[]
  cf := none
  fields := #[]
  methods := #[]
  instanceTypes := #[]
  staticTypes := #[]
  resolved := #[]
  callSites := []
  init := .initialized
  statics := none
  mirror := none

def pool0 : Array CpInfo := pool [(5, u "<init>"), (0, u "()V"), (1, .class_ 10), (1, u "java/lang/Object")] 113

def k0c0 : Code := { maxStack := 0, maxLocals := 1, code := object_method_1_code, exceptionTable := #[], attributes := #[] }
def k0m0 : Method := { name := "<init>", desc := "()V", sig := { parameters := [], returnType := none }, accessFlags := 1, code := some k0c0 }
/-- java/lang/Object -/
def k0 : Class := { plain "java/lang/Object" none with
  accessFlags := 33
  interfaces := #[]
  cf := some (fileOf pool0 8 #[] #[{ accessFlags := 1, nameIndex := 5, descriptorIndex := 6, attributes := #[] }] 33 0 #[] #[])
  fields := #[]
  methods := #[k0m0]
  instanceTypes := #[]
  staticTypes := #[]
  resolved := Array.replicate 124 none
  statics := none }

def pool1 : Array CpInfo := pool [(2, .class_ 4), (1, u "java/lang/Object"), (0, u "<init>"), (0, u "()V"), (0, .class_ 8), (0, u "RingLweKem"), (0, .methodref 10 11), (0, .class_ 12), (0, .nameAndType 13 14), (0, u "RingLweKemOwnLaw"), (0, u "cell"), (0, u "([II)I"), (0, .methodref 7 16), (0, .nameAndType 5 17), (0, u "(III)V"), (0, .methodref 7 19), (0, .nameAndType 20 21), (0, u "param"), (0, u "(I)I"), (0, .methodref 7 23), (0, .nameAndType 24 25), (0, u "seed"), (0, u "(I)V"), (0, .methodref 7 27), (0, .nameAndType 28 6), (0, u "keygen"), (0, .methodref 7 30), (0, .nameAndType 31 32), (0, u "encaps"), (0, u "()I"), (0, .methodref 7 34), (0, .nameAndType 35 32), (0, u "status"), (0, .methodref 7 37), (0, .nameAndType 38 32), (0, u "decaps"), (0, .methodref 7 40), (0, .nameAndType 41 42), (0, u "setCipher"), (0, u "(III)Z"), (0, .methodref 7 44), (0, .nameAndType 45 32), (0, u "random"), (0, .methodref 7 47), (0, .nameAndType 48 32), (0, u "sample"), (0, .methodref 7 50), (0, .nameAndType 51 42), (0, u "setOperand"), (0, .methodref 7 53), (0, .nameAndType 54 6), (0, u "multiply"), (0, .methodref 7 56), (0, .nameAndType 57 58), (0, u "compress"), (0, u "(II)I"), (0, .methodref 7 60), (0, .nameAndType 61 58), (0, u "decompress"), (3, u "law"), (0, u "([I)Z")] 4

def k1m0 : Method := { name := "<init>", desc := "()V", sig := { parameters := [], returnType := none }, accessFlags := 1, code := none }
def k1c1 : Code := { maxStack := 2, maxLocals := 2, code := method_2_code, exceptionTable := #[], attributes := #[] }
def k1m1 : Method := { name := "cell", desc := "([II)I", sig := { parameters := [(.array .int), .int], returnType := some .int }, accessFlags := 10, code := some k1c1 }
def k1c2 : Code := { maxStack := 7, maxLocals := 13, code := code, exceptionTable := #[], attributes := #[] }
def k1m2 : Method := { name := "law", desc := "([I)Z", sig := { parameters := [(.array .int)], returnType := some .boolean }, accessFlags := 9, code := some k1c2 }
/-- RingLweKemOwnLaw -/
def k1 : Class := { plain "RingLweKemOwnLaw" (some 0) with
  accessFlags := 49
  interfaces := #[]
  cf := some (fileOf pool1 10 #[] #[{ accessFlags := 1, nameIndex := 5, descriptorIndex := 6, attributes := #[] }, { accessFlags := 10, nameIndex := 13, descriptorIndex := 14, attributes := #[] }, { accessFlags := 9, nameIndex := 65, descriptorIndex := 66, attributes := #[] }] 49 2 #[] #[])
  fields := #[]
  methods := #[k1m0, k1m1, k1m2]
  instanceTypes := #[]
  staticTypes := #[]
  resolved := Array.replicate 71 none
  statics := none }

def pool2 : Array CpInfo := pool [(1, .methodref 2 3), (0, .class_ 4), (0, .nameAndType 5 6), (0, u "java/lang/Object"), (0, u "<init>"), (0, u "()V"), (0, .fieldref 8 9), (0, .class_ 10), (0, .nameAndType 11 12), (0, u "RingLweKem"), (0, u "poly"), (0, u "[I"), (0, .fieldref 8 14), (0, .nameAndType 15 12), (0, u "pw"), (0, .fieldref 8 17), (0, .nameAndType 18 12), (0, u "rev"), (0, .fieldref 8 20), (0, .nameAndType 21 22), (0, u "idR"), (0, u "I"), (0, .fieldref 8 24), (0, .nameAndType 25 22), (0, u "idE"), (0, .fieldref 8 27), (0, .nameAndType 28 22), (0, u "idE1"), (0, .fieldref 8 30), (0, .nameAndType 31 22), (0, u "idE2"), (0, .fieldref 8 33), (0, .nameAndType 34 22), (0, u "idUF"), (0, .fieldref 8 36), (0, .nameAndType 37 22), (0, u "idVF"), (0, .fieldref 8 39), (0, .nameAndType 40 22), (0, u "idWA"), (0, .fieldref 8 42), (0, .nameAndType 43 22), (0, u "idWB"), (0, .methodref 8 45), (0, .nameAndType 46 47), (0, u "clamp"), (0, u "(III)I"), (0, .fieldref 8 49), (0, .nameAndType 50 22), (0, u "eta"), (0, .fieldref 8 52), (0, .nameAndType 53 22), (0, u "du"), (0, .fieldref 8 55), (0, .nameAndType 56 22), (0, u "dv"), (0, .fieldref 8 58), (0, .nameAndType 59 22), (0, u "g"), (0, .fieldref 8 61), (0, .nameAndType 62 22), (0, u "state"), (0, .methodref 8 64), (0, .nameAndType 65 6), (0, u "initTables"), (0, .methodref 8 67), (0, .nameAndType 68 69), (0, u "draw"), (0, u "()I"), (0, .methodref 8 71), (0, .nameAndType 72 69), (0, u "noise"), (0, .methodref 8 74), (0, .nameAndType 75 76), (0, u "mod"), (0, u "(I)I"), (0, .methodref 8 78), (0, .nameAndType 79 80), (0, u "mul"), (0, u "(III)V"), (0, .methodref 8 82), (0, .nameAndType 83 84), (0, u "drawUniform"), (0, u "(I)V"), (0, .methodref 8 86), (0, .nameAndType 87 84), (0, u "drawNoise"), (0, .methodref 8 89), (0, .nameAndType 90 91), (0, u "addInto"), (0, u "(II)V"), (0, .methodref 8 93), (0, .nameAndType 94 84), (0, u "clear"), (0, .methodref 8 96), (0, .nameAndType 97 84), (0, u "addMessage"), (0, .methodref 8 99), (0, .nameAndType 100 80), (0, u "compressInto"), (0, .methodref 8 102), (0, .nameAndType 103 80), (0, u "decompressInto"), (0, .methodref 8 105), (0, .nameAndType 106 107), (0, u "cmp"), (0, u "(II)I"), (0, .methodref 8 109), (0, .nameAndType 110 107), (0, u "dcmp"), (0, .integer 1103515245), (0, .integer 65535), (0, .methodref 8 114), (0, .nameAndType 115 91), (0, u "copy"), (0, .methodref 8 117), (0, .nameAndType 118 84), (0, u "forward"), (0, .methodref 8 120), (0, .nameAndType 121 84), (0, u "inverse"), (0, .methodref 8 123), (0, .nameAndType 124 84), (0, u "bitReverse"), (0, .methodref 8 126), (0, .nameAndType 127 128), (0, u "butterflies"), (0, u "(IZ)V"), (0, u "N"), (2, u "Q"), (1, u "HALF"), (1, u "NONE"), (1, u "KEY"), (1, u "CIPHER"), (1, u "OP_X"), (0, u "OP_Y"), (0, u "PROD"), (0, u "PUB_A"), (1, u "PUB_T"), (1, u "SECRET_S"), (1, u "CT_U"), (1, u "CT_V"), (1, u "DEC_W"), (1, u "P_ETA"), (0, u "P_DU"), (0, u "P_DV"), (9, u "seed"), (0, u "random"), (0, u "sample"), (0, u "setOperand"), (0, u "(III)Z"), (1, u "multiply"), (1, u "keygen"), (0, u "encaps"), (0, u "decaps"), (0, u "setCipher"), (0, u "compress"), (0, u "decompress"), (0, u "status"), (0, u "param")] 2

def k2c0 : Code := { maxStack := 5, maxLocals := 4, code := prog_1_method_1_code, exceptionTable := #[], attributes := #[] }
def k2m0 : Method := { name := "<init>", desc := "(III)V", sig := { parameters := [.int, .int, .int], returnType := none }, accessFlags := 1, code := some k2c0 }
def k2c1 : Code := { maxStack := 2, maxLocals := 2, code := prog_1_method_2_code, exceptionTable := #[], attributes := #[] }
def k2m1 : Method := { name := "seed", desc := "(I)V", sig := { parameters := [.int], returnType := none }, accessFlags := 1, code := some k2c1 }
def k2c2 : Code := { maxStack := 1, maxLocals := 1, code := prog_1_method_3_code, exceptionTable := #[], attributes := #[] }
def k2m2 : Method := { name := "random", desc := "()I", sig := { parameters := [], returnType := some .int }, accessFlags := 1, code := some k2c2 }
def k2c3 : Code := { maxStack := 1, maxLocals := 1, code := prog_1_method_4_code, exceptionTable := #[], attributes := #[] }
def k2m3 : Method := { name := "sample", desc := "()I", sig := { parameters := [], returnType := some .int }, accessFlags := 1, code := some k2c3 }
def k2c4 : Code := { maxStack := 4, maxLocals := 4, code := prog_1_method_5_code, exceptionTable := #[], attributes := #[] }
def k2m4 : Method := { name := "setOperand", desc := "(III)Z", sig := { parameters := [.int, .int, .int], returnType := some .boolean }, accessFlags := 1, code := some k2c4 }
def k2c5 : Code := { maxStack := 4, maxLocals := 1, code := prog_1_method_6_code, exceptionTable := #[], attributes := #[] }
def k2m5 : Method := { name := "multiply", desc := "()V", sig := { parameters := [], returnType := none }, accessFlags := 1, code := some k2c5 }
def k2c6 : Code := { maxStack := 4, maxLocals := 1, code := prog_1_method_8_code, exceptionTable := #[], attributes := #[] }
def k2m6 : Method := { name := "keygen", desc := "()V", sig := { parameters := [], returnType := none }, accessFlags := 1, code := some k2c6 }
def k2c7 : Code := { maxStack := 4, maxLocals := 2, code := prog_1_method_9_code, exceptionTable := #[], attributes := #[] }
def k2m7 : Method := { name := "encaps", desc := "()I", sig := { parameters := [], returnType := some .int }, accessFlags := 1, code := some k2c7 }
def k2c8 : Code := { maxStack := 5, maxLocals := 7, code := prog_1_method_10_code, exceptionTable := #[], attributes := #[] }
def k2m8 : Method := { name := "decaps", desc := "()I", sig := { parameters := [], returnType := some .int }, accessFlags := 1, code := some k2c8 }
def k2c9 : Code := { maxStack := 3, maxLocals := 5, code := prog_1_method_11_code, exceptionTable := #[], attributes := #[] }
def k2m9 : Method := { name := "setCipher", desc := "(III)Z", sig := { parameters := [.int, .int, .int], returnType := some .boolean }, accessFlags := 1, code := some k2c9 }
def k2c10 : Code := { maxStack := 3, maxLocals := 3, code := prog_1_method_12_code, exceptionTable := #[], attributes := #[] }
def k2m10 : Method := { name := "compress", desc := "(II)I", sig := { parameters := [.int, .int], returnType := some .int }, accessFlags := 1, code := some k2c10 }
def k2c11 : Code := { maxStack := 3, maxLocals := 3, code := prog_1_method_13_code, exceptionTable := #[], attributes := #[] }
def k2m11 : Method := { name := "decompress", desc := "(II)I", sig := { parameters := [.int, .int], returnType := some .int }, accessFlags := 1, code := some k2c11 }
def k2c12 : Code := { maxStack := 1, maxLocals := 1, code := prog_1_method_14_code, exceptionTable := #[], attributes := #[] }
def k2m12 : Method := { name := "status", desc := "()I", sig := { parameters := [], returnType := some .int }, accessFlags := 1, code := some k2c12 }
def k2c13 : Code := { maxStack := 2, maxLocals := 2, code := prog_1_method_15_code, exceptionTable := #[], attributes := #[] }
def k2m13 : Method := { name := "param", desc := "(I)I", sig := { parameters := [.int], returnType := some .int }, accessFlags := 1, code := some k2c13 }
def k2c14 : Code := { maxStack := 2, maxLocals := 4, code := prog_1_method_16_code, exceptionTable := #[], attributes := #[] }
def k2m14 : Method := { name := "clamp", desc := "(III)I", sig := { parameters := [.int, .int, .int], returnType := some .int }, accessFlags := 2, code := some k2c14 }
def k2c15 : Code := { maxStack := 5, maxLocals := 2, code := prog_1_method_17_code, exceptionTable := #[], attributes := #[] }
def k2m15 : Method := { name := "initTables", desc := "()V", sig := { parameters := [], returnType := none }, accessFlags := 2, code := some k2c15 }
def k2c16 : Code := { maxStack := 2, maxLocals := 3, code := prog_1_method_18_code, exceptionTable := #[], attributes := #[] }
def k2m16 : Method := { name := "mod", desc := "(I)I", sig := { parameters := [.int], returnType := some .int }, accessFlags := 2, code := some k2c16 }
def k2c17 : Code := { maxStack := 3, maxLocals := 1, code := prog_1_method_19_code, exceptionTable := #[], attributes := #[] }
def k2m17 : Method := { name := "draw", desc := "()I", sig := { parameters := [], returnType := some .int }, accessFlags := 2, code := some k2c17 }
def k2c18 : Code := { maxStack := 4, maxLocals := 4, code := prog_1_method_20_code, exceptionTable := #[], attributes := #[] }
def k2m18 : Method := { name := "noise", desc := "()I", sig := { parameters := [], returnType := some .int }, accessFlags := 2, code := some k2c18 }
def k2c19 : Code := { maxStack := 4, maxLocals := 5, code := prog_1_method_21_code, exceptionTable := #[], attributes := #[] }
def k2m19 : Method := { name := "drawUniform", desc := "(I)V", sig := { parameters := [.int], returnType := none }, accessFlags := 2, code := some k2c19 }
def k2c20 : Code := { maxStack := 4, maxLocals := 5, code := prog_1_method_22_code, exceptionTable := #[], attributes := #[] }
def k2m20 : Method := { name := "drawNoise", desc := "(I)V", sig := { parameters := [.int], returnType := none }, accessFlags := 2, code := some k2c20 }
def k2c21 : Code := { maxStack := 3, maxLocals := 3, code := prog_1_method_23_code, exceptionTable := #[], attributes := #[] }
def k2m21 : Method := { name := "cmp", desc := "(II)I", sig := { parameters := [.int, .int], returnType := some .int }, accessFlags := 2, code := some k2c21 }
def k2c22 : Code := { maxStack := 4, maxLocals := 3, code := prog_1_method_24_code, exceptionTable := #[], attributes := #[] }
def k2m22 : Method := { name := "dcmp", desc := "(II)I", sig := { parameters := [.int, .int], returnType := some .int }, accessFlags := 2, code := some k2c22 }
def k2c23 : Code := { maxStack := 6, maxLocals := 7, code := prog_1_method_25_code, exceptionTable := #[], attributes := #[] }
def k2m23 : Method := { name := "compressInto", desc := "(III)V", sig := { parameters := [.int, .int, .int], returnType := none }, accessFlags := 2, code := some k2c23 }
def k2c24 : Code := { maxStack := 6, maxLocals := 7, code := prog_1_method_26_code, exceptionTable := #[], attributes := #[] }
def k2m24 : Method := { name := "decompressInto", desc := "(III)V", sig := { parameters := [.int, .int, .int], returnType := none }, accessFlags := 2, code := some k2c24 }
def k2c25 : Code := { maxStack := 5, maxLocals := 4, code := prog_1_method_27_code, exceptionTable := #[], attributes := #[] }
def k2m25 : Method := { name := "addMessage", desc := "(I)V", sig := { parameters := [.int], returnType := none }, accessFlags := 2, code := some k2c25 }
def k2c26 : Code := { maxStack := 5, maxLocals := 6, code := prog_1_method_28_code, exceptionTable := #[], attributes := #[] }
def k2m26 : Method := { name := "copy", desc := "(II)V", sig := { parameters := [.int, .int], returnType := none }, accessFlags := 2, code := some k2c26 }
def k2c27 : Code := { maxStack := 3, maxLocals := 4, code := prog_1_method_29_code, exceptionTable := #[], attributes := #[] }
def k2m27 : Method := { name := "clear", desc := "(I)V", sig := { parameters := [.int], returnType := none }, accessFlags := 2, code := some k2c27 }
def k2c28 : Code := { maxStack := 6, maxLocals := 6, code := prog_1_method_30_code, exceptionTable := #[], attributes := #[] }
def k2m28 : Method := { name := "addInto", desc := "(II)V", sig := { parameters := [.int, .int], returnType := none }, accessFlags := 2, code := some k2c28 }
def k2c29 : Code := { maxStack := 6, maxLocals := 7, code := prog_1_method_31_code, exceptionTable := #[], attributes := #[] }
def k2m29 : Method := { name := "mul", desc := "(III)V", sig := { parameters := [.int, .int, .int], returnType := none }, accessFlags := 2, code := some k2c29 }
def k2c30 : Code := { maxStack := 5, maxLocals := 4, code := prog_1_method_32_code, exceptionTable := #[], attributes := #[] }
def k2m30 : Method := { name := "forward", desc := "(I)V", sig := { parameters := [.int], returnType := none }, accessFlags := 2, code := some k2c30 }
def k2c31 : Code := { maxStack := 4, maxLocals := 5, code := prog_1_method_33_code, exceptionTable := #[], attributes := #[] }
def k2m31 : Method := { name := "inverse", desc := "(I)V", sig := { parameters := [.int], returnType := none }, accessFlags := 2, code := some k2c31 }
def k2c32 : Code := { maxStack := 5, maxLocals := 6, code := prog_1_method_34_code, exceptionTable := #[], attributes := #[] }
def k2m32 : Method := { name := "bitReverse", desc := "(I)V", sig := { parameters := [.int], returnType := none }, accessFlags := 2, code := some k2c32 }
def k2c33 : Code := { maxStack := 4, maxLocals := 15, code := prog_1_method_35_code, exceptionTable := #[], attributes := #[] }
def k2m33 : Method := { name := "butterflies", desc := "(IZ)V", sig := { parameters := [.int, .boolean], returnType := none }, accessFlags := 2, code := some k2c33 }
/-- RingLweKem -/
def k2 : Class := { plain "RingLweKem" (some 0) with
  accessFlags := 49
  interfaces := #[]
  cf := some (fileOf pool2 8 #[] #[{ accessFlags := 1, nameIndex := 5, descriptorIndex := 80, attributes := #[] }, { accessFlags := 1, nameIndex := 169, descriptorIndex := 84, attributes := #[] }, { accessFlags := 1, nameIndex := 170, descriptorIndex := 69, attributes := #[] }, { accessFlags := 1, nameIndex := 171, descriptorIndex := 69, attributes := #[] }, { accessFlags := 1, nameIndex := 172, descriptorIndex := 173, attributes := #[] }, { accessFlags := 1, nameIndex := 175, descriptorIndex := 6, attributes := #[] }, { accessFlags := 1, nameIndex := 177, descriptorIndex := 6, attributes := #[] }, { accessFlags := 1, nameIndex := 178, descriptorIndex := 69, attributes := #[] }, { accessFlags := 1, nameIndex := 179, descriptorIndex := 69, attributes := #[] }, { accessFlags := 1, nameIndex := 180, descriptorIndex := 173, attributes := #[] }, { accessFlags := 1, nameIndex := 181, descriptorIndex := 107, attributes := #[] }, { accessFlags := 1, nameIndex := 182, descriptorIndex := 107, attributes := #[] }, { accessFlags := 1, nameIndex := 183, descriptorIndex := 69, attributes := #[] }, { accessFlags := 1, nameIndex := 184, descriptorIndex := 76, attributes := #[] }, { accessFlags := 2, nameIndex := 46, descriptorIndex := 47, attributes := #[] }, { accessFlags := 2, nameIndex := 65, descriptorIndex := 6, attributes := #[] }, { accessFlags := 2, nameIndex := 75, descriptorIndex := 76, attributes := #[] }, { accessFlags := 2, nameIndex := 68, descriptorIndex := 69, attributes := #[] }, { accessFlags := 2, nameIndex := 72, descriptorIndex := 69, attributes := #[] }, { accessFlags := 2, nameIndex := 83, descriptorIndex := 84, attributes := #[] }, { accessFlags := 2, nameIndex := 87, descriptorIndex := 84, attributes := #[] }, { accessFlags := 2, nameIndex := 106, descriptorIndex := 107, attributes := #[] }, { accessFlags := 2, nameIndex := 110, descriptorIndex := 107, attributes := #[] }, { accessFlags := 2, nameIndex := 100, descriptorIndex := 80, attributes := #[] }, { accessFlags := 2, nameIndex := 103, descriptorIndex := 80, attributes := #[] }, { accessFlags := 2, nameIndex := 97, descriptorIndex := 84, attributes := #[] }, { accessFlags := 2, nameIndex := 115, descriptorIndex := 91, attributes := #[] }, { accessFlags := 2, nameIndex := 94, descriptorIndex := 84, attributes := #[] }, { accessFlags := 2, nameIndex := 90, descriptorIndex := 91, attributes := #[] }, { accessFlags := 2, nameIndex := 79, descriptorIndex := 80, attributes := #[] }, { accessFlags := 2, nameIndex := 118, descriptorIndex := 84, attributes := #[] }, { accessFlags := 2, nameIndex := 121, descriptorIndex := 84, attributes := #[] }, { accessFlags := 2, nameIndex := 124, descriptorIndex := 84, attributes := #[] }, { accessFlags := 2, nameIndex := 127, descriptorIndex := 128, attributes := #[] }] 49 2 #[] #[{ accessFlags := 25, nameIndex := 129, descriptorIndex := 22, attributes := #[] }, { accessFlags := 25, nameIndex := 132, descriptorIndex := 22, attributes := #[] }, { accessFlags := 25, nameIndex := 134, descriptorIndex := 22, attributes := #[] }, { accessFlags := 25, nameIndex := 136, descriptorIndex := 22, attributes := #[] }, { accessFlags := 25, nameIndex := 138, descriptorIndex := 22, attributes := #[] }, { accessFlags := 25, nameIndex := 140, descriptorIndex := 22, attributes := #[] }, { accessFlags := 25, nameIndex := 142, descriptorIndex := 22, attributes := #[] }, { accessFlags := 25, nameIndex := 143, descriptorIndex := 22, attributes := #[] }, { accessFlags := 25, nameIndex := 144, descriptorIndex := 22, attributes := #[] }, { accessFlags := 25, nameIndex := 145, descriptorIndex := 22, attributes := #[] }, { accessFlags := 25, nameIndex := 147, descriptorIndex := 22, attributes := #[] }, { accessFlags := 25, nameIndex := 149, descriptorIndex := 22, attributes := #[] }, { accessFlags := 25, nameIndex := 151, descriptorIndex := 22, attributes := #[] }, { accessFlags := 25, nameIndex := 153, descriptorIndex := 22, attributes := #[] }, { accessFlags := 25, nameIndex := 155, descriptorIndex := 22, attributes := #[] }, { accessFlags := 25, nameIndex := 157, descriptorIndex := 22, attributes := #[] }, { accessFlags := 25, nameIndex := 158, descriptorIndex := 22, attributes := #[] }, { accessFlags := 25, nameIndex := 159, descriptorIndex := 22, attributes := #[] }, { accessFlags := 18, nameIndex := 11, descriptorIndex := 12, attributes := #[] }, { accessFlags := 18, nameIndex := 15, descriptorIndex := 12, attributes := #[] }, { accessFlags := 18, nameIndex := 18, descriptorIndex := 12, attributes := #[] }, { accessFlags := 18, nameIndex := 21, descriptorIndex := 22, attributes := #[] }, { accessFlags := 18, nameIndex := 25, descriptorIndex := 22, attributes := #[] }, { accessFlags := 18, nameIndex := 28, descriptorIndex := 22, attributes := #[] }, { accessFlags := 18, nameIndex := 31, descriptorIndex := 22, attributes := #[] }, { accessFlags := 18, nameIndex := 34, descriptorIndex := 22, attributes := #[] }, { accessFlags := 18, nameIndex := 37, descriptorIndex := 22, attributes := #[] }, { accessFlags := 18, nameIndex := 40, descriptorIndex := 22, attributes := #[] }, { accessFlags := 18, nameIndex := 43, descriptorIndex := 22, attributes := #[] }, { accessFlags := 2, nameIndex := 50, descriptorIndex := 22, attributes := #[] }, { accessFlags := 2, nameIndex := 53, descriptorIndex := 22, attributes := #[] }, { accessFlags := 2, nameIndex := 56, descriptorIndex := 22, attributes := #[] }, { accessFlags := 2, nameIndex := 59, descriptorIndex := 22, attributes := #[] }, { accessFlags := 2, nameIndex := 62, descriptorIndex := 22, attributes := #[] }])
  fields := #[{ name := "N", type := .int, accessFlags := 25, slot := 0, constantValue := 0 }, { name := "Q", type := .int, accessFlags := 25, slot := 1, constantValue := 0 }, { name := "HALF", type := .int, accessFlags := 25, slot := 2, constantValue := 0 }, { name := "NONE", type := .int, accessFlags := 25, slot := 3, constantValue := 0 }, { name := "KEY", type := .int, accessFlags := 25, slot := 4, constantValue := 0 }, { name := "CIPHER", type := .int, accessFlags := 25, slot := 5, constantValue := 0 }, { name := "OP_X", type := .int, accessFlags := 25, slot := 6, constantValue := 0 }, { name := "OP_Y", type := .int, accessFlags := 25, slot := 7, constantValue := 0 }, { name := "PROD", type := .int, accessFlags := 25, slot := 8, constantValue := 0 }, { name := "PUB_A", type := .int, accessFlags := 25, slot := 9, constantValue := 0 }, { name := "PUB_T", type := .int, accessFlags := 25, slot := 10, constantValue := 0 }, { name := "SECRET_S", type := .int, accessFlags := 25, slot := 11, constantValue := 0 }, { name := "CT_U", type := .int, accessFlags := 25, slot := 12, constantValue := 0 }, { name := "CT_V", type := .int, accessFlags := 25, slot := 13, constantValue := 0 }, { name := "DEC_W", type := .int, accessFlags := 25, slot := 14, constantValue := 0 }, { name := "P_ETA", type := .int, accessFlags := 25, slot := 15, constantValue := 0 }, { name := "P_DU", type := .int, accessFlags := 25, slot := 16, constantValue := 0 }, { name := "P_DV", type := .int, accessFlags := 25, slot := 17, constantValue := 0 }, { name := "poly", type := (.array .int), accessFlags := 18, slot := 0, constantValue := 0 }, { name := "pw", type := (.array .int), accessFlags := 18, slot := 1, constantValue := 0 }, { name := "rev", type := (.array .int), accessFlags := 18, slot := 2, constantValue := 0 }, { name := "idR", type := .int, accessFlags := 18, slot := 3, constantValue := 0 }, { name := "idE", type := .int, accessFlags := 18, slot := 4, constantValue := 0 }, { name := "idE1", type := .int, accessFlags := 18, slot := 5, constantValue := 0 }, { name := "idE2", type := .int, accessFlags := 18, slot := 6, constantValue := 0 }, { name := "idUF", type := .int, accessFlags := 18, slot := 7, constantValue := 0 }, { name := "idVF", type := .int, accessFlags := 18, slot := 8, constantValue := 0 }, { name := "idWA", type := .int, accessFlags := 18, slot := 9, constantValue := 0 }, { name := "idWB", type := .int, accessFlags := 18, slot := 10, constantValue := 0 }, { name := "eta", type := .int, accessFlags := 2, slot := 11, constantValue := 0 }, { name := "du", type := .int, accessFlags := 2, slot := 12, constantValue := 0 }, { name := "dv", type := .int, accessFlags := 2, slot := 13, constantValue := 0 }, { name := "g", type := .int, accessFlags := 2, slot := 14, constantValue := 0 }, { name := "state", type := .int, accessFlags := 2, slot := 15, constantValue := 0 }]
  methods := #[k2m0, k2m1, k2m2, k2m3, k2m4, k2m5, k2m6, k2m7, k2m8, k2m9, k2m10, k2m11, k2m12, k2m13, k2m14, k2m15, k2m16, k2m17, k2m18, k2m19, k2m20, k2m21, k2m22, k2m23, k2m24, k2m25, k2m26, k2m27, k2m28, k2m29, k2m30, k2m31, k2m32, k2m33]
  instanceTypes := #[(.array .int), (.array .int), (.array .int), .int, .int, .int, .int, .int, .int, .int, .int, .int, .int, .int, .int, .int]
  staticTypes := #[.int, .int, .int, .int, .int, .int, .int, .int, .int, .int, .int, .int, .int, .int, .int, .int, .int, .int]
  resolved := Array.replicate 187 none
  statics := none }

def pool3 : Array CpInfo := pool [(1, u "java/lang/Cloneable"), (0, .class_ 1), (0, u "java/lang/Object"), (0, .class_ 3)] 3

/-- java/lang/Cloneable -/
def k3 : Class := { plain "java/lang/Cloneable" (some 0) with
  accessFlags := 1537
  interfaces := #[]
  cf := some (fileOf pool3 2 #[] #[] 1537 4 #[] #[])
  fields := #[]
  methods := #[]
  instanceTypes := #[]
  staticTypes := #[]
  resolved := Array.replicate 8 none
  statics := none }

def pool4 : Array CpInfo := pool [(1, u "java/io/Serializable"), (0, .class_ 1), (0, u "java/lang/Object"), (0, .class_ 3)] 3

/-- java/io/Serializable -/
def k4 : Class := { plain "java/io/Serializable" (some 0) with
  accessFlags := 1537
  interfaces := #[]
  cf := some (fileOf pool4 2 #[] #[] 1537 4 #[] #[])
  fields := #[]
  methods := #[]
  instanceTypes := #[]
  staticTypes := #[]
  resolved := Array.replicate 8 none
  statics := none }

/-- the primitive byte -/
def k5 : Class := { plain "byte" none with kind := .primitive 'B', accessFlags := 0x411 }
/-- [B -/
def k6 : Class := { plain "[B" (some 0) with kind := .array 5 .byte, interfaces := #[3, 4], accessFlags := 1041 }

/-- the primitive int -/
def k7 : Class := { plain "int" none with kind := .primitive 'I', accessFlags := 0x411 }
/-- [I -/
def k8 : Class := { plain "[I" (some 0) with kind := .array 7 .int, interfaces := #[3, 4], accessFlags := 1041 }

def heap : Heap := #[{ cls := 8, slots := #[.int 1, .int 2, .int 3], vm := .none }]
def classes : Array Class := #[k0, k1, k2, k3, k4, k5, k6, k7, k8]
def interned : List (Array UInt16 × Addr) := []
def slotsUsed : Nat := 3
def theMethod : MethodId := ⟨1, 2⟩
def args0 : Array Value := #[.ref 0]
def aboutOver (below : List Frame) : State where
  vm := { classes := classes, interned := interned.toArray }
  heap := heap
  slotsUsed := slotsUsed
  threads := #[{ frames := .invoking theMethod args0 :: below }]
def below0 : List Frame := [.native { method := ⟨0, 0⟩, args := #[] }]
def about1 : State := aboutOver below0
def p0 : Program := .bare "" "" ""
def e0 : Env := launch0.env 0 0 0
theorem w_frames : about1.frames = Frame.invoking theMethod args0 :: below0 := rfl
set_option maxRecDepth 65536 in
theorem w_args : argsFit about1.vm theMethod args0 = true := by decide +kernel
set_option maxRecDepth 65536 in
theorem w_heap : heapFits about1 = true := by decide +kernel
set_option maxRecDepth 65536 in
theorem w_runnable : about1.curStatus? = some .runnable := by decide +kernel
set_option maxRecDepth 65536 in
theorem w_alone : about1.alone = true := by decide +kernel
set_option maxRecDepth 65536 in
theorem w_named : about1.methodNamed? x = some theMethod := by decide +kernel
set_option maxRecDepth 65536 in
theorem w_hears : about1.hears theMethod below0 = true := by decide +kernel
set_option maxRecDepth 65536 in
theorem w_ripe : about1.ripe theMethod args0 below0 = true := by decide +kernel
theorem w_running : about1.status = .running := rfl
set_option maxRecDepth 65536 in
theorem w_room : about1.hasRoom e0.platform room_1 = true :=
  launch0.hasRoom_least _ room_1 (by decide +kernel) (by decide +kernel) (by decide +kernel) (by decide +kernel) (by decide +kernel) (by decide +kernel)
theorem allAtoms_all (ts : List Jvm.Cond) (a : Array Jvm.Value) (st : Jvm.State) : (allAtoms ts).before a st = ts.all (fun c => c.before a st) := by
  induction ts with
  | nil => rfl
  | cons c t ih =>
    show (Jvm.Cond.and c (allAtoms t)).before a st = _
    rw [Jvm.Cond.before_and, ih, List.all_cons]
def words1 : List Jvm.Cond := Jvm.Cond.code x code maxLocals ret :: tables_1
/-- a 'code' word, met by the world's own term for the bytes: nothing is compared byte by byte -/
theorem code_word {y : MethodName} {bytes : ByteArray} {mx : Nat} {rt : Option FieldType} {a : Array Value} {s : State} {m : MethodId} {meth : Method} {c : Code} (h1 : s.methodNamed? y = some m) (h2 : s.vm.method? m = some meth) (h3 : meth.code = some c) (h4 : c.code = bytes)
    (h5 : (c.maxLocals == mx && c.exceptionTable.isEmpty && decide (c.maxStack ≤ mostOperands) && decide (meth.sig.returnType = rt) && !meth.locks && decide (parseMethodDescriptor y.desc = some meth.sig)) = true) : (Jvm.Cond.code y bytes mx rt).before a s = true := by
  simp only [Bool.and_eq_true, beq_iff_eq, Bool.not_eq_true', decide_eq_true_eq] at h5
  obtain ⟨⟨⟨⟨⟨g1, g2⟩, g3⟩, g4⟩, g5⟩, g6⟩ := h5
  simp [Cond.before, Cond.holds, Cond.value, h1, h2, h3, h4, g1, g2, g3, g4, g5, g6]
def isCode : Jvm.Cond → Bool
  | .code _ _ _ _ => true
  | _ => false
theorem all_split {L : List Jvm.Cond} {P : Jvm.Cond → Bool} (h1 : L.all (fun c => isCode c || P c) = true) (h2 : ∀ c ∈ L.filter isCode, P c = true) : L.all P = true := by
  refine List.all_eq_true.mpr fun c hc => ?_
  have h := List.all_eq_true.mp h1 c hc
  rcases Bool.eq_false_or_eq_true (isCode c) with hi | hi
  · exact h2 c (List.mem_filter.mpr ⟨hc, hi⟩)
  · simpa [hi] using h
set_option maxRecDepth 65536 in
theorem w_c0 : (Jvm.Cond.code x code maxLocals ret).before args0 about1 = true := code_word (m := ⟨1, 2⟩) (meth := k1m2) (c := k1c2) (by decide +kernel) rfl rfl rfl (by decide +kernel)
set_option maxRecDepth 65536 in
theorem w_c1 : (Jvm.Cond.code ({ cls := "RingLweKemOwnLaw", name := "cell", desc := "([II)I" } : Jvm.MethodName) method_2_code (2 : Nat) (Option.some Jvm.ClassFile.FieldType.int)).before args0 about1 = true := code_word (m := ⟨1, 1⟩) (meth := k1m1) (c := k1c1) (by decide +kernel) rfl rfl rfl (by decide +kernel)
set_option maxRecDepth 65536 in
theorem w_c2 : (Jvm.Cond.code ({ cls := "RingLweKem", name := "<init>", desc := "(III)V" } : Jvm.MethodName) prog_1_method_1_code (4 : Nat) (Option.none : Option Jvm.ClassFile.FieldType)).before args0 about1 = true := code_word (m := ⟨2, 0⟩) (meth := k2m0) (c := k2c0) (by decide +kernel) rfl rfl rfl (by decide +kernel)
set_option maxRecDepth 65536 in
theorem w_c3 : (Jvm.Cond.code ({ cls := "java/lang/Object", name := "<init>", desc := "()V" } : Jvm.MethodName) object_method_1_code (1 : Nat) (Option.none : Option Jvm.ClassFile.FieldType)).before args0 about1 = true := code_word (m := ⟨0, 0⟩) (meth := k0m0) (c := k0c0) (by decide +kernel) rfl rfl rfl (by decide +kernel)
set_option maxRecDepth 65536 in
theorem w_c4 : (Jvm.Cond.code ({ cls := "RingLweKem", name := "clamp", desc := "(III)I" } : Jvm.MethodName) prog_1_method_16_code (4 : Nat) (Option.some Jvm.ClassFile.FieldType.int)).before args0 about1 = true := code_word (m := ⟨2, 14⟩) (meth := k2m14) (c := k2c14) (by decide +kernel) rfl rfl rfl (by decide +kernel)
set_option maxRecDepth 65536 in
theorem w_c5 : (Jvm.Cond.code ({ cls := "RingLweKem", name := "initTables", desc := "()V" } : Jvm.MethodName) prog_1_method_17_code (2 : Nat) (Option.none : Option Jvm.ClassFile.FieldType)).before args0 about1 = true := code_word (m := ⟨2, 15⟩) (meth := k2m15) (c := k2c15) (by decide +kernel) rfl rfl rfl (by decide +kernel)
set_option maxRecDepth 65536 in
theorem w_c6 : (Jvm.Cond.code ({ cls := "RingLweKem", name := "param", desc := "(I)I" } : Jvm.MethodName) prog_1_method_15_code (2 : Nat) (Option.some Jvm.ClassFile.FieldType.int)).before args0 about1 = true := code_word (m := ⟨2, 13⟩) (meth := k2m13) (c := k2c13) (by decide +kernel) rfl rfl rfl (by decide +kernel)
set_option maxRecDepth 65536 in
theorem w_c7 : (Jvm.Cond.code ({ cls := "RingLweKem", name := "seed", desc := "(I)V" } : Jvm.MethodName) prog_1_method_2_code (2 : Nat) (Option.none : Option Jvm.ClassFile.FieldType)).before args0 about1 = true := code_word (m := ⟨2, 1⟩) (meth := k2m1) (c := k2c1) (by decide +kernel) rfl rfl rfl (by decide +kernel)
set_option maxRecDepth 65536 in
theorem w_c8 : (Jvm.Cond.code ({ cls := "RingLweKem", name := "keygen", desc := "()V" } : Jvm.MethodName) prog_1_method_8_code (1 : Nat) (Option.none : Option Jvm.ClassFile.FieldType)).before args0 about1 = true := code_word (m := ⟨2, 6⟩) (meth := k2m6) (c := k2c6) (by decide +kernel) rfl rfl rfl (by decide +kernel)
set_option maxRecDepth 65536 in
theorem w_c9 : (Jvm.Cond.code ({ cls := "RingLweKem", name := "drawUniform", desc := "(I)V" } : Jvm.MethodName) prog_1_method_21_code (5 : Nat) (Option.none : Option Jvm.ClassFile.FieldType)).before args0 about1 = true := code_word (m := ⟨2, 19⟩) (meth := k2m19) (c := k2c19) (by decide +kernel) rfl rfl rfl (by decide +kernel)
set_option maxRecDepth 65536 in
theorem w_c10 : (Jvm.Cond.code ({ cls := "RingLweKem", name := "draw", desc := "()I" } : Jvm.MethodName) prog_1_method_19_code (1 : Nat) (Option.some Jvm.ClassFile.FieldType.int)).before args0 about1 = true := code_word (m := ⟨2, 17⟩) (meth := k2m17) (c := k2c17) (by decide +kernel) rfl rfl rfl (by decide +kernel)
set_option maxRecDepth 65536 in
theorem w_c11 : (Jvm.Cond.code ({ cls := "RingLweKem", name := "drawNoise", desc := "(I)V" } : Jvm.MethodName) prog_1_method_22_code (5 : Nat) (Option.none : Option Jvm.ClassFile.FieldType)).before args0 about1 = true := code_word (m := ⟨2, 20⟩) (meth := k2m20) (c := k2c20) (by decide +kernel) rfl rfl rfl (by decide +kernel)
set_option maxRecDepth 65536 in
theorem w_c12 : (Jvm.Cond.code ({ cls := "RingLweKem", name := "noise", desc := "()I" } : Jvm.MethodName) prog_1_method_20_code (4 : Nat) (Option.some Jvm.ClassFile.FieldType.int)).before args0 about1 = true := code_word (m := ⟨2, 18⟩) (meth := k2m18) (c := k2c18) (by decide +kernel) rfl rfl rfl (by decide +kernel)
set_option maxRecDepth 65536 in
theorem w_c13 : (Jvm.Cond.code ({ cls := "RingLweKem", name := "mod", desc := "(I)I" } : Jvm.MethodName) prog_1_method_18_code (3 : Nat) (Option.some Jvm.ClassFile.FieldType.int)).before args0 about1 = true := code_word (m := ⟨2, 16⟩) (meth := k2m16) (c := k2c16) (by decide +kernel) rfl rfl rfl (by decide +kernel)
set_option maxRecDepth 65536 in
theorem w_c14 : (Jvm.Cond.code ({ cls := "RingLweKem", name := "mul", desc := "(III)V" } : Jvm.MethodName) prog_1_method_31_code (7 : Nat) (Option.none : Option Jvm.ClassFile.FieldType)).before args0 about1 = true := code_word (m := ⟨2, 29⟩) (meth := k2m29) (c := k2c29) (by decide +kernel) rfl rfl rfl (by decide +kernel)
set_option maxRecDepth 65536 in
theorem w_c15 : (Jvm.Cond.code ({ cls := "RingLweKem", name := "copy", desc := "(II)V" } : Jvm.MethodName) prog_1_method_28_code (6 : Nat) (Option.none : Option Jvm.ClassFile.FieldType)).before args0 about1 = true := code_word (m := ⟨2, 26⟩) (meth := k2m26) (c := k2c26) (by decide +kernel) rfl rfl rfl (by decide +kernel)
set_option maxRecDepth 65536 in
theorem w_c16 : (Jvm.Cond.code ({ cls := "RingLweKem", name := "forward", desc := "(I)V" } : Jvm.MethodName) prog_1_method_32_code (4 : Nat) (Option.none : Option Jvm.ClassFile.FieldType)).before args0 about1 = true := code_word (m := ⟨2, 30⟩) (meth := k2m30) (c := k2c30) (by decide +kernel) rfl rfl rfl (by decide +kernel)
set_option maxRecDepth 65536 in
theorem w_c17 : (Jvm.Cond.code ({ cls := "RingLweKem", name := "bitReverse", desc := "(I)V" } : Jvm.MethodName) prog_1_method_34_code (6 : Nat) (Option.none : Option Jvm.ClassFile.FieldType)).before args0 about1 = true := code_word (m := ⟨2, 32⟩) (meth := k2m32) (c := k2c32) (by decide +kernel) rfl rfl rfl (by decide +kernel)
set_option maxRecDepth 65536 in
theorem w_c18 : (Jvm.Cond.code ({ cls := "RingLweKem", name := "butterflies", desc := "(IZ)V" } : Jvm.MethodName) prog_1_method_35_code (15 : Nat) (Option.none : Option Jvm.ClassFile.FieldType)).before args0 about1 = true := code_word (m := ⟨2, 33⟩) (meth := k2m33) (c := k2c33) (by decide +kernel) rfl rfl rfl (by decide +kernel)
set_option maxRecDepth 65536 in
theorem w_c19 : (Jvm.Cond.code ({ cls := "RingLweKem", name := "inverse", desc := "(I)V" } : Jvm.MethodName) prog_1_method_33_code (5 : Nat) (Option.none : Option Jvm.ClassFile.FieldType)).before args0 about1 = true := code_word (m := ⟨2, 31⟩) (meth := k2m31) (c := k2c31) (by decide +kernel) rfl rfl rfl (by decide +kernel)
set_option maxRecDepth 65536 in
theorem w_c20 : (Jvm.Cond.code ({ cls := "RingLweKem", name := "addInto", desc := "(II)V" } : Jvm.MethodName) prog_1_method_30_code (6 : Nat) (Option.none : Option Jvm.ClassFile.FieldType)).before args0 about1 = true := code_word (m := ⟨2, 28⟩) (meth := k2m28) (c := k2c28) (by decide +kernel) rfl rfl rfl (by decide +kernel)
set_option maxRecDepth 65536 in
theorem w_c21 : (Jvm.Cond.code ({ cls := "RingLweKem", name := "clear", desc := "(I)V" } : Jvm.MethodName) prog_1_method_29_code (4 : Nat) (Option.none : Option Jvm.ClassFile.FieldType)).before args0 about1 = true := code_word (m := ⟨2, 27⟩) (meth := k2m27) (c := k2c27) (by decide +kernel) rfl rfl rfl (by decide +kernel)
set_option maxRecDepth 65536 in
theorem w_c22 : (Jvm.Cond.code ({ cls := "RingLweKem", name := "encaps", desc := "()I" } : Jvm.MethodName) prog_1_method_9_code (2 : Nat) (Option.some Jvm.ClassFile.FieldType.int)).before args0 about1 = true := code_word (m := ⟨2, 7⟩) (meth := k2m7) (c := k2c7) (by decide +kernel) rfl rfl rfl (by decide +kernel)
set_option maxRecDepth 65536 in
theorem w_c23 : (Jvm.Cond.code ({ cls := "RingLweKem", name := "addMessage", desc := "(I)V" } : Jvm.MethodName) prog_1_method_27_code (4 : Nat) (Option.none : Option Jvm.ClassFile.FieldType)).before args0 about1 = true := code_word (m := ⟨2, 25⟩) (meth := k2m25) (c := k2c25) (by decide +kernel) rfl rfl rfl (by decide +kernel)
set_option maxRecDepth 65536 in
theorem w_c24 : (Jvm.Cond.code ({ cls := "RingLweKem", name := "compressInto", desc := "(III)V" } : Jvm.MethodName) prog_1_method_25_code (7 : Nat) (Option.none : Option Jvm.ClassFile.FieldType)).before args0 about1 = true := code_word (m := ⟨2, 23⟩) (meth := k2m23) (c := k2c23) (by decide +kernel) rfl rfl rfl (by decide +kernel)
set_option maxRecDepth 65536 in
theorem w_c25 : (Jvm.Cond.code ({ cls := "RingLweKem", name := "cmp", desc := "(II)I" } : Jvm.MethodName) prog_1_method_23_code (3 : Nat) (Option.some Jvm.ClassFile.FieldType.int)).before args0 about1 = true := code_word (m := ⟨2, 21⟩) (meth := k2m21) (c := k2c21) (by decide +kernel) rfl rfl rfl (by decide +kernel)
set_option maxRecDepth 65536 in
theorem w_c26 : (Jvm.Cond.code ({ cls := "RingLweKem", name := "status", desc := "()I" } : Jvm.MethodName) prog_1_method_14_code (1 : Nat) (Option.some Jvm.ClassFile.FieldType.int)).before args0 about1 = true := code_word (m := ⟨2, 12⟩) (meth := k2m12) (c := k2c12) (by decide +kernel) rfl rfl rfl (by decide +kernel)
set_option maxRecDepth 65536 in
theorem w_c27 : (Jvm.Cond.code ({ cls := "RingLweKem", name := "decaps", desc := "()I" } : Jvm.MethodName) prog_1_method_10_code (7 : Nat) (Option.some Jvm.ClassFile.FieldType.int)).before args0 about1 = true := code_word (m := ⟨2, 8⟩) (meth := k2m8) (c := k2c8) (by decide +kernel) rfl rfl rfl (by decide +kernel)
set_option maxRecDepth 65536 in
theorem w_c28 : (Jvm.Cond.code ({ cls := "RingLweKem", name := "decompressInto", desc := "(III)V" } : Jvm.MethodName) prog_1_method_26_code (7 : Nat) (Option.none : Option Jvm.ClassFile.FieldType)).before args0 about1 = true := code_word (m := ⟨2, 24⟩) (meth := k2m24) (c := k2c24) (by decide +kernel) rfl rfl rfl (by decide +kernel)
set_option maxRecDepth 65536 in
theorem w_c29 : (Jvm.Cond.code ({ cls := "RingLweKem", name := "dcmp", desc := "(II)I" } : Jvm.MethodName) prog_1_method_24_code (3 : Nat) (Option.some Jvm.ClassFile.FieldType.int)).before args0 about1 = true := code_word (m := ⟨2, 22⟩) (meth := k2m22) (c := k2c22) (by decide +kernel) rfl rfl rfl (by decide +kernel)
set_option maxRecDepth 65536 in
theorem w_c30 : (Jvm.Cond.code ({ cls := "RingLweKem", name := "setOperand", desc := "(III)Z" } : Jvm.MethodName) prog_1_method_5_code (4 : Nat) (Option.some Jvm.ClassFile.FieldType.boolean)).before args0 about1 = true := code_word (m := ⟨2, 4⟩) (meth := k2m4) (c := k2c4) (by decide +kernel) rfl rfl rfl (by decide +kernel)
set_option maxRecDepth 65536 in
theorem w_c31 : (Jvm.Cond.code ({ cls := "RingLweKem", name := "multiply", desc := "()V" } : Jvm.MethodName) prog_1_method_6_code (1 : Nat) (Option.none : Option Jvm.ClassFile.FieldType)).before args0 about1 = true := code_word (m := ⟨2, 5⟩) (meth := k2m5) (c := k2c5) (by decide +kernel) rfl rfl rfl (by decide +kernel)
set_option maxRecDepth 65536 in
theorem w_c32 : (Jvm.Cond.code ({ cls := "RingLweKem", name := "sample", desc := "()I" } : Jvm.MethodName) prog_1_method_4_code (1 : Nat) (Option.some Jvm.ClassFile.FieldType.int)).before args0 about1 = true := code_word (m := ⟨2, 3⟩) (meth := k2m3) (c := k2c3) (by decide +kernel) rfl rfl rfl (by decide +kernel)
set_option maxRecDepth 65536 in
theorem w_c33 : (Jvm.Cond.code ({ cls := "RingLweKem", name := "compress", desc := "(II)I" } : Jvm.MethodName) prog_1_method_12_code (3 : Nat) (Option.some Jvm.ClassFile.FieldType.int)).before args0 about1 = true := code_word (m := ⟨2, 10⟩) (meth := k2m10) (c := k2c10) (by decide +kernel) rfl rfl rfl (by decide +kernel)
set_option maxRecDepth 65536 in
theorem w_c34 : (Jvm.Cond.code ({ cls := "RingLweKem", name := "decompress", desc := "(II)I" } : Jvm.MethodName) prog_1_method_13_code (3 : Nat) (Option.some Jvm.ClassFile.FieldType.int)).before args0 about1 = true := code_word (m := ⟨2, 11⟩) (meth := k2m11) (c := k2c11) (by decide +kernel) rfl rfl rfl (by decide +kernel)
set_option maxRecDepth 65536 in
theorem w_c35 : (Jvm.Cond.code ({ cls := "RingLweKem", name := "setCipher", desc := "(III)Z" } : Jvm.MethodName) prog_1_method_11_code (5 : Nat) (Option.some Jvm.ClassFile.FieldType.boolean)).before args0 about1 = true := code_word (m := ⟨2, 9⟩) (meth := k2m9) (c := k2c9) (by decide +kernel) rfl rfl rfl (by decide +kernel)
set_option maxRecDepth 65536 in
theorem w_c36 : (Jvm.Cond.code ({ cls := "RingLweKem", name := "random", desc := "()I" } : Jvm.MethodName) prog_1_method_3_code (1 : Nat) (Option.some Jvm.ClassFile.FieldType.int)).before args0 about1 = true := code_word (m := ⟨2, 2⟩) (meth := k2m2) (c := k2c2) (by decide +kernel) rfl rfl rfl (by decide +kernel)
def codes1 : List Jvm.Cond := [Jvm.Cond.code x code maxLocals ret, Jvm.Cond.code ({ cls := "RingLweKemOwnLaw", name := "cell", desc := "([II)I" } : Jvm.MethodName) method_2_code (2 : Nat) (Option.some Jvm.ClassFile.FieldType.int), Jvm.Cond.code ({ cls := "RingLweKem", name := "<init>", desc := "(III)V" } : Jvm.MethodName) prog_1_method_1_code (4 : Nat) (Option.none : Option Jvm.ClassFile.FieldType), Jvm.Cond.code ({ cls := "java/lang/Object", name := "<init>", desc := "()V" } : Jvm.MethodName) object_method_1_code (1 : Nat) (Option.none : Option Jvm.ClassFile.FieldType), Jvm.Cond.code ({ cls := "RingLweKem", name := "clamp", desc := "(III)I" } : Jvm.MethodName) prog_1_method_16_code (4 : Nat) (Option.some Jvm.ClassFile.FieldType.int), Jvm.Cond.code ({ cls := "RingLweKem", name := "initTables", desc := "()V" } : Jvm.MethodName) prog_1_method_17_code (2 : Nat) (Option.none : Option Jvm.ClassFile.FieldType), Jvm.Cond.code ({ cls := "RingLweKem", name := "param", desc := "(I)I" } : Jvm.MethodName) prog_1_method_15_code (2 : Nat) (Option.some Jvm.ClassFile.FieldType.int), Jvm.Cond.code ({ cls := "RingLweKem", name := "seed", desc := "(I)V" } : Jvm.MethodName) prog_1_method_2_code (2 : Nat) (Option.none : Option Jvm.ClassFile.FieldType), Jvm.Cond.code ({ cls := "RingLweKem", name := "keygen", desc := "()V" } : Jvm.MethodName) prog_1_method_8_code (1 : Nat) (Option.none : Option Jvm.ClassFile.FieldType), Jvm.Cond.code ({ cls := "RingLweKem", name := "drawUniform", desc := "(I)V" } : Jvm.MethodName) prog_1_method_21_code (5 : Nat) (Option.none : Option Jvm.ClassFile.FieldType), Jvm.Cond.code ({ cls := "RingLweKem", name := "draw", desc := "()I" } : Jvm.MethodName) prog_1_method_19_code (1 : Nat) (Option.some Jvm.ClassFile.FieldType.int), Jvm.Cond.code ({ cls := "RingLweKem", name := "drawNoise", desc := "(I)V" } : Jvm.MethodName) prog_1_method_22_code (5 : Nat) (Option.none : Option Jvm.ClassFile.FieldType), Jvm.Cond.code ({ cls := "RingLweKem", name := "noise", desc := "()I" } : Jvm.MethodName) prog_1_method_20_code (4 : Nat) (Option.some Jvm.ClassFile.FieldType.int), Jvm.Cond.code ({ cls := "RingLweKem", name := "mod", desc := "(I)I" } : Jvm.MethodName) prog_1_method_18_code (3 : Nat) (Option.some Jvm.ClassFile.FieldType.int), Jvm.Cond.code ({ cls := "RingLweKem", name := "mul", desc := "(III)V" } : Jvm.MethodName) prog_1_method_31_code (7 : Nat) (Option.none : Option Jvm.ClassFile.FieldType), Jvm.Cond.code ({ cls := "RingLweKem", name := "copy", desc := "(II)V" } : Jvm.MethodName) prog_1_method_28_code (6 : Nat) (Option.none : Option Jvm.ClassFile.FieldType), Jvm.Cond.code ({ cls := "RingLweKem", name := "forward", desc := "(I)V" } : Jvm.MethodName) prog_1_method_32_code (4 : Nat) (Option.none : Option Jvm.ClassFile.FieldType), Jvm.Cond.code ({ cls := "RingLweKem", name := "bitReverse", desc := "(I)V" } : Jvm.MethodName) prog_1_method_34_code (6 : Nat) (Option.none : Option Jvm.ClassFile.FieldType), Jvm.Cond.code ({ cls := "RingLweKem", name := "butterflies", desc := "(IZ)V" } : Jvm.MethodName) prog_1_method_35_code (15 : Nat) (Option.none : Option Jvm.ClassFile.FieldType), Jvm.Cond.code ({ cls := "RingLweKem", name := "inverse", desc := "(I)V" } : Jvm.MethodName) prog_1_method_33_code (5 : Nat) (Option.none : Option Jvm.ClassFile.FieldType), Jvm.Cond.code ({ cls := "RingLweKem", name := "addInto", desc := "(II)V" } : Jvm.MethodName) prog_1_method_30_code (6 : Nat) (Option.none : Option Jvm.ClassFile.FieldType), Jvm.Cond.code ({ cls := "RingLweKem", name := "clear", desc := "(I)V" } : Jvm.MethodName) prog_1_method_29_code (4 : Nat) (Option.none : Option Jvm.ClassFile.FieldType), Jvm.Cond.code ({ cls := "RingLweKem", name := "encaps", desc := "()I" } : Jvm.MethodName) prog_1_method_9_code (2 : Nat) (Option.some Jvm.ClassFile.FieldType.int), Jvm.Cond.code ({ cls := "RingLweKem", name := "addMessage", desc := "(I)V" } : Jvm.MethodName) prog_1_method_27_code (4 : Nat) (Option.none : Option Jvm.ClassFile.FieldType), Jvm.Cond.code ({ cls := "RingLweKem", name := "compressInto", desc := "(III)V" } : Jvm.MethodName) prog_1_method_25_code (7 : Nat) (Option.none : Option Jvm.ClassFile.FieldType), Jvm.Cond.code ({ cls := "RingLweKem", name := "cmp", desc := "(II)I" } : Jvm.MethodName) prog_1_method_23_code (3 : Nat) (Option.some Jvm.ClassFile.FieldType.int), Jvm.Cond.code ({ cls := "RingLweKem", name := "status", desc := "()I" } : Jvm.MethodName) prog_1_method_14_code (1 : Nat) (Option.some Jvm.ClassFile.FieldType.int), Jvm.Cond.code ({ cls := "RingLweKem", name := "decaps", desc := "()I" } : Jvm.MethodName) prog_1_method_10_code (7 : Nat) (Option.some Jvm.ClassFile.FieldType.int), Jvm.Cond.code ({ cls := "RingLweKem", name := "decompressInto", desc := "(III)V" } : Jvm.MethodName) prog_1_method_26_code (7 : Nat) (Option.none : Option Jvm.ClassFile.FieldType), Jvm.Cond.code ({ cls := "RingLweKem", name := "dcmp", desc := "(II)I" } : Jvm.MethodName) prog_1_method_24_code (3 : Nat) (Option.some Jvm.ClassFile.FieldType.int), Jvm.Cond.code ({ cls := "RingLweKem", name := "setOperand", desc := "(III)Z" } : Jvm.MethodName) prog_1_method_5_code (4 : Nat) (Option.some Jvm.ClassFile.FieldType.boolean), Jvm.Cond.code ({ cls := "RingLweKem", name := "multiply", desc := "()V" } : Jvm.MethodName) prog_1_method_6_code (1 : Nat) (Option.none : Option Jvm.ClassFile.FieldType), Jvm.Cond.code ({ cls := "RingLweKem", name := "sample", desc := "()I" } : Jvm.MethodName) prog_1_method_4_code (1 : Nat) (Option.some Jvm.ClassFile.FieldType.int), Jvm.Cond.code ({ cls := "RingLweKem", name := "compress", desc := "(II)I" } : Jvm.MethodName) prog_1_method_12_code (3 : Nat) (Option.some Jvm.ClassFile.FieldType.int), Jvm.Cond.code ({ cls := "RingLweKem", name := "decompress", desc := "(II)I" } : Jvm.MethodName) prog_1_method_13_code (3 : Nat) (Option.some Jvm.ClassFile.FieldType.int), Jvm.Cond.code ({ cls := "RingLweKem", name := "setCipher", desc := "(III)Z" } : Jvm.MethodName) prog_1_method_11_code (5 : Nat) (Option.some Jvm.ClassFile.FieldType.boolean), Jvm.Cond.code ({ cls := "RingLweKem", name := "random", desc := "()I" } : Jvm.MethodName) prog_1_method_3_code (1 : Nat) (Option.some Jvm.ClassFile.FieldType.int)]
set_option maxRecDepth 65536 in
theorem codes_eq : words1.filter isCode = codes1 := rfl
theorem w_codes : ∀ c ∈ words1.filter isCode, c.before args0 about1 = true := by
  rw [codes_eq]
  intro c hc
  simp only [codes1, List.mem_cons, List.not_mem_nil, or_false] at hc
  rcases hc with rfl | rfl | rfl | rfl | rfl | rfl | rfl | rfl | rfl | rfl | rfl | rfl | rfl | rfl | rfl | rfl | rfl | rfl | rfl | rfl | rfl | rfl | rfl | rfl | rfl | rfl | rfl | rfl | rfl | rfl | rfl | rfl | rfl | rfl | rfl | rfl | rfl
  · exact w_c0
  · exact w_c1
  · exact w_c2
  · exact w_c3
  · exact w_c4
  · exact w_c5
  · exact w_c6
  · exact w_c7
  · exact w_c8
  · exact w_c9
  · exact w_c10
  · exact w_c11
  · exact w_c12
  · exact w_c13
  · exact w_c14
  · exact w_c15
  · exact w_c16
  · exact w_c17
  · exact w_c18
  · exact w_c19
  · exact w_c20
  · exact w_c21
  · exact w_c22
  · exact w_c23
  · exact w_c24
  · exact w_c25
  · exact w_c26
  · exact w_c27
  · exact w_c28
  · exact w_c29
  · exact w_c30
  · exact w_c31
  · exact w_c32
  · exact w_c33
  · exact w_c34
  · exact w_c35
  · exact w_c36
set_option maxRecDepth 65536 in
theorem w_t1 : (words1.take 24).all (fun c => isCode c || c.before args0 about1) = true := by decide +kernel
set_option maxRecDepth 65536 in
theorem w_t2 : ((words1.drop 24).take 24).all (fun c => isCode c || c.before args0 about1) = true := by decide +kernel
set_option maxRecDepth 65536 in
theorem w_t3 : (((words1.drop 24).drop 24).take 24).all (fun c => isCode c || c.before args0 about1) = true := by decide +kernel
set_option maxRecDepth 65536 in
theorem w_t4 : ((((words1.drop 24).drop 24).drop 24).take 24).all (fun c => isCode c || c.before args0 about1) = true := by decide +kernel
set_option maxRecDepth 65536 in
theorem w_t5 : (((((words1.drop 24).drop 24).drop 24).drop 24).take 24).all (fun c => isCode c || c.before args0 about1) = true := by decide +kernel
set_option maxRecDepth 65536 in
theorem w_t6 : ((((((words1.drop 24).drop 24).drop 24).drop 24).drop 24).take 24).all (fun c => isCode c || c.before args0 about1) = true := by decide +kernel
set_option maxRecDepth 65536 in
theorem w_t7 : (((((((words1.drop 24).drop 24).drop 24).drop 24).drop 24).drop 24).take 24).all (fun c => isCode c || c.before args0 about1) = true := by decide +kernel
set_option maxRecDepth 65536 in
theorem w_t8 : ((((((((words1.drop 24).drop 24).drop 24).drop 24).drop 24).drop 24).drop 24).take 24).all (fun c => isCode c || c.before args0 about1) = true := by decide +kernel
set_option maxRecDepth 65536 in
theorem w_t9 : ((((((((words1.drop 24).drop 24).drop 24).drop 24).drop 24).drop 24).drop 24).drop 24).all (fun c => isCode c || c.before args0 about1) = true := by decide +kernel
theorem w_tables : (allAtoms (Jvm.Cond.code x code maxLocals ret :: tables_1)).before args0 about1 = true := by
  rw [allAtoms_all]
  show words1.all (fun c => c.before args0 about1) = true
  refine all_split ?_ w_codes
  rw [← List.take_append_drop 24 words1, List.all_append, w_t1, ← List.take_append_drop 24 (words1.drop 24), List.all_append, w_t2, ← List.take_append_drop 24 ((words1.drop 24).drop 24), List.all_append, w_t3, ← List.take_append_drop 24 (((words1.drop 24).drop 24).drop 24), List.all_append, w_t4, ← List.take_append_drop 24 ((((words1.drop 24).drop 24).drop 24).drop 24), List.all_append, w_t5, ← List.take_append_drop 24 (((((words1.drop 24).drop 24).drop 24).drop 24).drop 24), List.all_append, w_t6, ← List.take_append_drop 24 ((((((words1.drop 24).drop 24).drop 24).drop 24).drop 24).drop 24), List.all_append, w_t7, ← List.take_append_drop 24 (((((((words1.drop 24).drop 24).drop 24).drop 24).drop 24).drop 24).drop 24), List.all_append, w_t8, w_t9]
  rfl
set_option maxRecDepth 65536 in
theorem w_rest : rest_1_c.before args0 about1 = true := by decide +kernel
set_option maxRecDepth 65536 in
theorem w_case : (Jvm.Cond.and given_1 narrow_1).before args0 about1 = true := by decide +kernel
theorem w_applies : (headSpec (Jvm.Cond.code x code maxLocals ret :: tables_1) room_1).applies x e0.platform about1 = true :=
  (Spec.applies_iff w_frames).mpr ⟨w_running, w_runnable, w_alone, w_named, w_hears, w_ripe, w_room, w_tables⟩
theorem atStart : AtStart classFile x code maxLocals ret World_1 tables_1 room_1 Calls_1 rest_1 Pre_1 launch0 p0 e0 about1 theMethod args0 below0 :=
  ⟨lists_1, trivial, launch0.admits_env _ _ _, launch0.least_env, fairChoices_fair.cas, fairChoices_fair.clock, w_frames, w_args, w_heap, w_applies, trivial, w_rest, w_case⟩
end start1
theorem witness_1 : WitnessClaimed_1 := ⟨start1.p0, start1.e0, start1.about1, start1.theMethod, start1.args0, start1.below0, start1.atStart⟩
end Jvm.Pilot.@@N@@
