import JvmDerived
import JvmDerived.Pilot.@@N@@Statement
import JvmDerived.Pilot.@@N@@Code
set_option linter.unusedVariables false
set_option linter.unusedSimpArgs false
namespace Jvm.Own
open Jvm Jvm.ClassFile Sem Op Lib Jvm.Free Jvm.Stand Jvm.LawKit Jvm.RoadKit Bundle
/-! ## values, cells, heaps of the small view -/
theorem leb {a b : Nat} (h : Nat.ble a b = true) : a ≤ b := Nat.le_of_ble_eq_true h
abbrev dc (b : ByteArray) (pc : Nat) (i : Instr) (n : Nat) : Prop := decode b pc = .ok (i, n)
abbrev OwnC : Type := Sum (List Value) (Sum (List Int32) (Sum (List Int64) (List Int32)))
abbrev cO (vs : List Value) : OwnC := .inl vs
abbrev cI (xs : List Int32) : OwnC := .inr (.inl xs)
abbrev cJ (xs : List Int64) : OwnC := .inr (.inr (.inl xs))
abbrev cZ (xs : List Int32) : OwnC := .inr (.inr (.inr xs))
def rf (ad : Nat → Addr) : Value → Value
  | .ref i => .ref (ad i)
  | .int x => .int x
  | .long x => .long x
  | .float x => .float x
  | .double x => .double x
  | .null => .null
  | .retAddr x => .retAddr x
theorem rf_cat (ad : Nat → Addr) (v : Value) : (rf ad v).category = v.category := by cases v <;> rfl
theorem rf_isRef (ad : Nat → Addr) (v : Value) : (rf ad v).isRef = v.isRef := by cases v <;> rfl
theorem rf_cats (ad : Nat → Addr) (S : List Value) : ((S.map (rf ad)).map fun v => v.category) = S.map fun v => v.category := by
  simp [List.map_map, Function.comp_def, rf_cat]
def CelOk (Z : State) (C : String) (lay : List (String × String)) (ad : Nat → Addr) (h : Heap) (a : Addr) : OwnC → Prop
  | .inl vs => Exa Z h a C ∧ ∀ (i : Nat) (f : String × String) (v : Value), lay[i]? = some f → vs[i]? = some v → Fld Z h a C f.1 f.2 (rf ad v)
  | .inr (.inl xs) => ∃ cl : Cell, Arr Z h a cl .int ∧ cl.slots.toList = xs.map Value.int
  | .inr (.inr (.inl xs)) => ∃ cl : Cell, Arr Z h a cl .long ∧ cl.slots.toList = xs.map Value.long
  | .inr (.inr (.inr xs)) => ∃ cl : Cell, Arr Z h a cl .boolean ∧ cl.slots.toList = xs.map Value.int
def HR (Z : State) (C : String) (lay : List (String × String)) (n0 ro : Nat) (ad : Nat → Addr) (H : List OwnC) (h : Heap) : Prop :=
  (∀ i c, H[i]? = some c → CelOk Z C lay ad h (ad i) c) ∧ (∀ i j, i < H.length → j < H.length → ad i = ad j → i = j) ∧ (∀ t, ad (H.length + t) = h.size + t) ∧ (∀ i, i < H.length → ro ≤ i → n0 ≤ ad i) ∧ n0 ≤ h.size
def Kp (ad : Nat → Addr) (N : Nat) (h h' : Heap) : Prop := h.size ≤ h'.size ∧ ∀ (a : Addr) (c : Cell), h[a]? = some c → (∀ i, i < N → ad i ≠ a) → h'[a]? = some c
theorem CelOk.keep {Z : State} {C : String} {lay : List (String × String)} {ad : Nat → Addr} {h h' : Heap} {a : Addr} {c : OwnC} (q : ∀ cz : Cell, h[a]? = some cz → h'[a]? = some cz) (F : CelOk Z C lay ad h a c) : CelOk Z C lay ad h' a c := by
  rcases c with vs | xs | xs | xs
  · obtain ⟨⟨cell, k, h1, r⟩, F2⟩ := F
    refine ⟨⟨cell, k, q _ h1, r⟩, fun i f v hf hv => ?_⟩
    obtain ⟨cell, cf, k, i, f, h1, r⟩ := F2 i f v hf hv
    exact ⟨cell, cf, k, i, f, q _ h1, r⟩
  all_goals
    obtain ⟨cl, ⟨h1, r⟩, h2⟩ := F
    exact ⟨cl, ⟨q _ h1, r⟩, h2⟩
theorem CelOk.lt {Z : State} {C : String} {lay : List (String × String)} {ad : Nat → Addr} {h : Heap} {a : Addr} {c : OwnC} (F : CelOk Z C lay ad h a c) : a < h.size := by
  rcases c with vs | xs | xs | xs
  · exact F.1.lt
  all_goals
    obtain ⟨cl, A, h2⟩ := F
    exact A.lt
theorem Kp.refl (ad : Nat → Addr) (N : Nat) (h : Heap) : Kp ad N h h := ⟨Nat.le_refl _, fun _ _ q _ => q⟩
theorem get_lt {α : Type} {L : List α} {i : Nat} {c : α} (h : L[i]? = some c) : i < L.length := (List.getElem?_eq_some_iff.mp h).1
section HRs
variable {Z : State} {C : String} {lay : List (String × String)} {n0 ro : Nat} {ad : Nat → Addr} {H H' : List OwnC} {h h' h'' : Heap}
/-- the addresses at or above H.length lie at or above the heap's size -/
theorem HR.new (R : HR Z C lay n0 ro ad H h) {i : Nat} (hi : H.length ≤ i) : h.size ≤ ad i := by
  obtain ⟨t, rfl⟩ := Nat.exists_eq_add_of_le hi
  rw [R.2.2.1 t]; exact Nat.le_add_right _ _
theorem Kp.trans (R : HR Z C lay n0 ro ad H h) (K : Kp ad H.length h h') {N : Nat} (K' : Kp ad N h' h'') : Kp ad H.length h h'' := by
  refine ⟨Nat.le_trans K.1 K'.1, fun a c hc hn => K'.2 a c (K.2 a c hc hn) fun i hi q => ?_⟩
  by_cases hl : i < H.length
  · exact hn i hl q
  · have h1 := R.new (Nat.le_of_not_lt hl)
    rw [q] at h1
    exact absurd (Array.getElem?_eq_some_iff.mp hc).1 (Nat.not_lt.mpr h1)
/-- one cell of the small heap is written anew, at its own address -/
theorem HR.put (R : HR Z C lay n0 ro ad H h) {i : Nat} {c : OwnC} (hi : i < H.length) (hs : h'.size = h.size) (ho : ∀ a cz, a ≠ ad i → h[a]? = some cz → h'[a]? = some cz) (hc : CelOk Z C lay ad h' (ad i) c) :
    HR Z C lay n0 ro ad (H.set i c) h' ∧ Kp ad H.length h h' := by
  refine ⟨⟨fun j c' hj => ?_, fun i' j' hi' hj' => ?_, fun t => ?_, fun i' hi' => ?_, by rw [hs]; exact R.2.2.2.2⟩, by rw [hs]; exact Nat.le_refl _, fun a cz hz hn => ho a cz (fun q => hn i hi q.symm) hz⟩
  · rw [List.getElem?_set] at hj
    by_cases e : i = j
    · subst e
      simp [hi] at hj
      subst hj; exact hc
    · rw [if_neg e] at hj
      exact (R.1 j c' hj).keep fun cz q => ho _ cz (fun q' => e (R.2.1 _ _ hi (get_lt hj) q'.symm)) q
  · simp only [List.length_set] at hi' hj'; exact R.2.1 _ _ hi' hj'
  · rw [List.length_set, hs]; exact R.2.2.1 t
  · simp only [List.length_set] at hi'; exact R.2.2.2.1 _ hi'
/-- a new cell behind all others -/
theorem HR.push (R : HR Z C lay n0 ro ad H h) {c : OwnC} (hs : h'.size = h.size + 1) (hE : Ext h h') (hc : CelOk Z C lay ad h' h.size c) :
    HR Z C lay n0 ro ad (H ++ [c]) h' ∧ Kp ad H.length h h' ∧ ad H.length = h.size := by
  have e0 : ad H.length = h.size := R.2.2.1 0
  refine ⟨⟨fun j c' hj => ?_, fun i j hi hj q => ?_, fun t => ?_, fun i hi hr => ?_, by rw [hs]; exact Nat.le_succ_of_le R.2.2.2.2⟩, ⟨hE.1, fun a cz hz _ => hE.2 _ _ hz⟩, e0⟩
  · by_cases hl : j < H.length
    · rw [List.getElem?_append_left hl] at hj
      exact (R.1 j c' hj).keep fun cz q => hE.2 _ _ q
    · have hl' := get_lt hj
      simp only [List.length_append, List.length_singleton] at hl'
      obtain rfl : j = H.length := by omega
      simp at hj
      subst hj; rw [e0]; exact hc
  · simp only [List.length_append, List.length_singleton] at hi hj
    by_cases h1 : i < H.length
    · by_cases h2 : j < H.length
      · exact R.2.1 _ _ h1 h2 q
      · have a1 := (R.1 i _ (List.getElem?_eq_getElem h1)).lt
        have a2 := R.new (Nat.le_of_not_lt h2)
        rw [q] at a1
        exact absurd a1 (Nat.not_lt.mpr a2)
    · by_cases h2 : j < H.length
      · have a1 := (R.1 j _ (List.getElem?_eq_getElem h2)).lt
        have a2 := R.new (Nat.le_of_not_lt h1)
        rw [q] at a2
        exact absurd a1 (Nat.not_lt.mpr a2)
      · omega
  · rw [hs]
    have := R.2.2.1 (1 + t)
    simp only [List.length_append, List.length_singleton]
    rw [Nat.add_assoc, this]; exact (Nat.add_assoc _ _ _).symm
  · simp only [List.length_append, List.length_singleton] at hi
    by_cases h1 : i < H.length
    · exact R.2.2.2.1 _ h1 hr
    · exact Nat.le_trans R.2.2.2.2 (R.new (Nat.le_of_not_lt h1))
end HRs
/-! ## local variables: 'unset' in the small view says nothing -/
def WFs (f : Nat → Option Slot) : Prop := (∀ i, f i = some .second → ∃ j v, i = j + 1 ∧ f j = some (.val v) ∧ v.category = 2) ∧ ∀ i v, f i = some (.val v) → v.category = 2 → f (i + 1) = some .second
def LR (ad : Nat → Addr) (L : List Slot) (Ls : Array Slot) : Prop :=
  L.length = Ls.size ∧ (∀ (i : Nat) (v : Value), L[i]? = some (.val v) → Ls[i]? = some (.val (rf ad v))) ∧ (∀ i : Nat, L[i]? = some .second → Ls[i]? = some .second) ∧ WFs fun i => Ls[i]?
def kill2 : Slot → Slot
  | .val (.long _) => .unset
  | .val (.double _) => .unset
  | s => s
def killS : Slot → Slot
  | .second => .unset
  | s => s
def hd1 (f : Slot → Slot) : List Slot → List Slot
  | [] => []
  | y :: t => f y :: t
def st1 : List Slot → Nat → Value → List Slot
  | [], _, _ => []
  | _ :: t, 0, v => .val v :: hd1 killS t
  | y :: t, n + 1, v => match n with
    | 0 => kill2 y :: st1 t 0 v
    | k + 1 => y :: st1 t (k + 1) v
def st2 : List Slot → Nat → Value → List Slot
  | [], _, _ => []
  | _ :: t, 0, v => .val v :: (match t with | [] => [] | _ :: t' => .second :: hd1 killS t')
  | y :: t, n + 1, v => match n with
    | 0 => kill2 y :: st2 t 0 v
    | k + 1 => y :: st2 t (k + 1) v
theorem st1_len (v : Value) : ∀ (L : List Slot) (i : Nat), (st1 L i v).length = L.length
  | [], _ => rfl
  | y :: [], 0 => rfl
  | y :: z :: t, 0 => rfl
  | y :: t, 1 => congrArg Nat.succ (st1_len v t 0)
  | y :: t, k + 2 => congrArg Nat.succ (st1_len v t (k + 1))
theorem st2_len (v : Value) : ∀ (L : List Slot) (i : Nat), (st2 L i v).length = L.length
  | [], _ => rfl
  | y :: [], 0 => rfl
  | y :: z :: [], 0 => rfl
  | y :: z :: w :: t, 0 => rfl
  | y :: t, 1 => congrArg Nat.succ (st2_len v t 0)
  | y :: t, k + 2 => congrArg Nat.succ (st2_len v t (k + 1))
theorem kill2_e {y s : Slot} (h : kill2 y = s) (hs : s ≠ .unset) : y = s ∧ ∀ w, s = .val w → w.category = 1 := by
  subst h
  rcases y with _ | _ | w
  · exact absurd rfl hs
  · exact ⟨rfl, fun w h => by cases h⟩
  · cases w <;> first | exact absurd rfl hs | exact ⟨rfl, fun w h => by cases h; rfl⟩
theorem killS_e {y s : Slot} (h : killS y = s) (hs : s ≠ .unset) : y = s ∧ s ≠ .second := by
  subst h
  rcases y with _ | _ | w
  · exact absurd rfl hs
  · exact absurd rfl hs
  · exact ⟨rfl, fun h => by cases h⟩
theorem hd1_e {t : List Slot} {j : Nat} {s : Slot} (h : (hd1 killS t)[j]? = some s) (hs : s ≠ .unset) : t[j]? = some s ∧ (j = 0 → s ≠ .second) := by
  cases t with
  | nil => simp [hd1] at h
  | cons y t =>
    cases j with
    | zero =>
      have h' : killS y = s := by simpa [hd1] using h
      obtain ⟨e1, e2⟩ := killS_e h' hs
      exact ⟨by simp [e1], fun _ => e2⟩
    | succ j => exact ⟨by simpa [hd1] using h, fun q => by cases q⟩
theorem st1_at (v : Value) : ∀ (L : List Slot) (i : Nat), i < L.length → (st1 L i v)[i]? = some (.val v)
  | [], _, h => absurd h (by simp)
  | y :: t, 0, _ => rfl
  | y :: t, 1, h => by simpa [st1] using st1_at v t 0 (by simp at h; omega)
  | y :: t, k + 2, h => by simpa [st1] using st1_at v t (k + 1) (by simp at h; omega)
theorem st1_else (v : Value) : ∀ (L : List Slot) (i j : Nat) (s : Slot), j ≠ i → (st1 L i v)[j]? = some s → s ≠ .unset → L[j]? = some s ∧ (j + 1 = i → ∀ w, s = .val w → w.category = 1) ∧ (j = i + 1 → s ≠ .second)
  | [], _, j, s, _, h, _ => by simp [st1] at h
  | y :: t, 0, 0, s, hj, _, _ => absurd rfl hj
  | y :: t, 0, j + 1, s, hj, h, hs => by
    obtain ⟨e1, e2⟩ := hd1_e (t := t) (j := j) (by simpa [st1] using h) hs
    exact ⟨by simpa using e1, fun q => by omega, fun q => e2 (by omega)⟩
  | y :: t, 1, 0, s, hj, h, hs => by
    obtain ⟨e1, e2⟩ := kill2_e (y := y) (by simpa [st1] using h) hs
    exact ⟨by simp [e1], fun _ => e2, fun q => by omega⟩
  | y :: t, 1, j + 1, s, hj, h, hs => by
    obtain ⟨e1, e2, e3⟩ := st1_else v t 0 j s (by omega) (by simpa [st1] using h) hs
    exact ⟨by simpa using e1, fun q => by omega, fun q => e3 (by omega)⟩
  | y :: t, k + 2, 0, s, hj, h, hs => ⟨by simpa [st1] using h, fun q => by omega, fun q => by omega⟩
  | y :: t, k + 2, j + 1, s, hj, h, hs => by
    obtain ⟨e1, e2, e3⟩ := st1_else v t (k + 1) j s (by omega) (by simpa [st1] using h) hs
    exact ⟨by simpa using e1, fun q => e2 (by omega), fun q => e3 (by omega)⟩
theorem st2_at (v : Value) : ∀ (L : List Slot) (i : Nat), i + 1 < L.length → (st2 L i v)[i]? = some (.val v) ∧ (st2 L i v)[i + 1]? = some .second
  | [], _, h => absurd h (by simp)
  | y :: [], 0, h => absurd h (by simp)
  | y :: z :: t, 0, _ => ⟨rfl, rfl⟩
  | y :: t, 1, h => by simpa [st2] using st2_at v t 0 (by simp at h; omega)
  | y :: t, k + 2, h => by simpa [st2] using st2_at v t (k + 1) (by simp at h; omega)
theorem st2_else (v : Value) : ∀ (L : List Slot) (i j : Nat) (s : Slot), j ≠ i → j ≠ i + 1 → (st2 L i v)[j]? = some s → s ≠ .unset → L[j]? = some s ∧ (j + 1 = i → ∀ w, s = .val w → w.category = 1) ∧ (j = i + 2 → s ≠ .second)
  | [], _, j, s, _, _, h, _ => by simp [st2] at h
  | y :: t, 0, 0, s, hj, _, _, _ => absurd rfl hj
  | y :: t, 0, 1, s, _, hj, _, _ => absurd rfl hj
  | y :: [], 0, j + 2, s, _, _, h, _ => by simp [st2] at h
  | y :: z :: t, 0, j + 2, s, hj, _, h, hs => by
    obtain ⟨e1, e2⟩ := hd1_e (t := t) (j := j) (by simpa [st2] using h) hs
    exact ⟨by simpa using e1, fun q => by omega, fun q => e2 (by omega)⟩
  | y :: t, 1, 0, s, hj, _, h, hs => by
    obtain ⟨e1, e2⟩ := kill2_e (y := y) (by simpa [st2] using h) hs
    exact ⟨by simp [e1], fun _ => e2, fun q => by omega⟩
  | y :: t, 1, j + 1, s, hj, hj', h, hs => by
    obtain ⟨e1, e2, e3⟩ := st2_else v t 0 j s (by omega) (by omega) (by simpa [st2] using h) hs
    exact ⟨by simpa using e1, fun q => by omega, fun q => e3 (by omega)⟩
  | y :: t, k + 2, 0, s, hj, _, h, hs => ⟨by simpa [st2] using h, fun q => by omega, fun q => by omega⟩
  | y :: t, k + 2, j + 1, s, hj, hj', h, hs => by
    obtain ⟨e1, e2, e3⟩ := st2_else v t (k + 1) j s (by omega) (by omega) (by simpa [st2] using h) hs
    exact ⟨by simpa using e1, fun q => e2 (by omega), fun q => e3 (by omega)⟩
theorem setAt_ok {l : Array Slot} {i : Nat} (h : i < l.size) (x : Slot) : setAt l i x = some (l.setIfInBounds i x) := if_pos h
/-- which neighbours a store at i wipes -/
def Bad (Ls : Array Slot) (i j : Nat) : Prop := (j + 1 = i ∧ Ls[i]? = some .second) ∨ (j = i + 1 ∧ ∃ o, Ls[i]? = some (.val o) ∧ o.category = 2)
def Pre1 (Ls Ls1 : Array Slot) (i : Nat) : Prop := Ls1.size = Ls.size ∧ ∀ j, j ≠ i → (¬ Bad Ls i j ∧ Ls1[j]? = Ls[j]?) ∨ (Bad Ls i j ∧ Ls1[j]? = some .unset)
theorem storeLocals_pre {Ls : Array Slot} (wf : WFs fun i => Ls[i]?) {i : Nat} (hi : i < Ls.size) (w : Value) : ∃ Ls1, Pre1 Ls Ls1 i ∧ storeLocals Ls i w = storeSelf Ls1 i w := by
  have hg : Ls[i]? = some Ls[i] := Array.getElem?_eq_getElem hi
  rcases hs : Ls[i] with _ | _ | old
  · rw [hs] at hg
    refine ⟨Ls, ⟨rfl, fun j hj => Or.inl ⟨?_, rfl⟩⟩, ?_⟩
    · rintro (⟨-, q⟩ | ⟨-, o, q, -⟩) <;> (rw [hg] at q; cases q)
    · show (Ls[i]?).bind _ = _; rw [hg]; rfl
  · rw [hs] at hg
    obtain ⟨j0, v, rfl, hv, hc⟩ := wf.1 i hg
    have h0 : j0 < Ls.size := by omega
    refine ⟨Ls.setIfInBounds j0 .unset, ⟨by simp, fun j hj => ?_⟩, ?_⟩
    · by_cases e : j = j0
      · subst e; right; exact ⟨Or.inl ⟨rfl, hg⟩, by simp [h0]⟩
      · left
        refine ⟨?_, by rw [Array.getElem?_setIfInBounds_ne (Ne.symm e)]⟩
        rintro (⟨q', q⟩ | ⟨-, o, q, -⟩)
        · exact e (by omega)
        · rw [hg] at q; cases q
    · show (Ls[j0 + 1]?).bind _ = _; rw [hg]
      show (setAt Ls (j0 + 1 - 1) .unset).bind _ = _
      rw [Nat.add_sub_cancel, setAt_ok h0]; rfl
  · rw [hs] at hg
    by_cases hc : old.category = 2
    · have h1 := wf.2 i old hg hc
      have h1' : i + 1 < Ls.size := (Array.getElem?_eq_some_iff.mp h1).1
      refine ⟨Ls.setIfInBounds (i + 1) .unset, ⟨by simp, fun j hj => ?_⟩, ?_⟩
      · by_cases e : j = i + 1
        · subst e; right; exact ⟨Or.inr ⟨rfl, old, hg, hc⟩, by simp [h1']⟩
        · left
          refine ⟨?_, by rw [Array.getElem?_setIfInBounds_ne (Ne.symm e)]⟩
          rintro (⟨-, q⟩ | ⟨q, -⟩)
          · rw [hg] at q; cases q
          · exact e q
      · show (Ls[i]?).bind _ = _; rw [hg]
        show (if old.category = 2 then _ else _) = _
        rw [if_pos hc]
        show (setAt Ls (i + 1) .unset).bind _ = _
        rw [setAt_ok h1']; rfl
    · refine ⟨Ls, ⟨rfl, fun j hj => Or.inl ⟨?_, rfl⟩⟩, ?_⟩
      · rintro (⟨-, q⟩ | ⟨-, o, q, q'⟩) <;> (rw [hg] at q; cases q)
        exact hc q'
      · show (Ls[i]?).bind _ = _; rw [hg]
        show (if old.category = 2 then _ else _) = _
        rw [if_neg hc]
section St
variable {Ls : Array Slot} {i j : Nat}
/-- a value of one word is not wiped -/
theorem not_bad_val (wf : WFs fun i => Ls[i]?) {w : Value} (hj : Ls[j]? = some (.val w)) (hw : j + 1 = i → w.category = 1) : ¬ Bad Ls i j := by
  rintro (⟨rfl, q⟩ | ⟨rfl, o, q, q'⟩)
  · obtain ⟨j0, v, e, h1, h2⟩ := wf.1 _ q
    obtain rfl : j0 = j := by omega
    cases h1.symm.trans hj
    rw [hw rfl] at h2; cases h2
  · have := wf.2 _ _ q q'
    cases this.symm.trans hj
theorem not_bad_second (wf : WFs fun i => Ls[i]?) (hj : Ls[j]? = some .second) (hne : j ≠ i + 1) : ¬ Bad Ls i j := by
  rintro (⟨rfl, q⟩ | ⟨q, -⟩)
  · obtain ⟨j0, v, e, h1, h2⟩ := wf.1 _ q
    obtain rfl : j0 = j := by omega
    cases h1.symm.trans hj
  · exact hne q
end St
theorem LR.store1 {ad : Nat → Addr} {L : List Slot} {Ls : Array Slot} (hL : LR ad L Ls) {i : Nat} (hi : i < L.length) {v : Value} (hv : v.category = 1) : ∃ Ls', storeLocals Ls i (rf ad v) = some Ls' ∧ LR ad (st1 L i v) Ls' ∧ Ls'.size = Ls.size := by
  obtain ⟨l1, l2, l3, wf⟩ := hL
  have hi' : i < Ls.size := l1 ▸ hi
  have hv' : (rf ad v).category = 1 := by rw [rf_cat]; exact hv
  obtain ⟨Ls1, ⟨p1, p2⟩, e⟩ := storeLocals_pre wf hi' (rf ad v)
  have hi1 : i < Ls1.size := by rw [p1]; exact hi'
  have e2 : storeSelf Ls1 i (rf ad v) = some (Ls1.setIfInBounds i (.val (rf ad v))) := by
    show (setAt Ls1 i _).bind _ = _
    rw [setAt_ok hi1]
    show (if (rf ad v).category = 2 then _ else _) = _
    rw [if_neg (by rw [hv']; decide)]
  have at_i : (Ls1.setIfInBounds i (.val (rf ad v)))[i]? = some (.val (rf ad v)) := by simp [hi1]
  have at_j : ∀ j, j ≠ i → (Ls1.setIfInBounds i (.val (rf ad v)))[j]? = Ls1[j]? := fun j hj => Array.getElem?_setIfInBounds_ne (Ne.symm hj)
  have good : ∀ j, j ≠ i → ¬ Bad Ls i j → (Ls1.setIfInBounds i (.val (rf ad v)))[j]? = Ls[j]? := fun j hj hb => by
    rw [at_j j hj]
    rcases p2 j hj with ⟨-, q⟩ | ⟨q, -⟩
    · exact q
    · exact absurd q hb
  have back : ∀ j s, j ≠ i → s ≠ .unset → (Ls1.setIfInBounds i (.val (rf ad v)))[j]? = some s → ¬ Bad Ls i j ∧ Ls[j]? = some s := fun j s hj hs h => by
    rw [at_j j hj] at h
    rcases p2 j hj with ⟨q, q'⟩ | ⟨-, q⟩
    · exact ⟨q, by rw [← q']; exact h⟩
    · rw [q] at h; cases h; exact absurd rfl hs
  refine ⟨_, e.trans e2, ⟨by rw [st1_len, l1]; simp [p1], fun j w hj => ?_, fun j hj => ?_, fun j hj => ?_, fun j w hj hc => ?_⟩, by simp [p1]⟩
  · by_cases q : j = i
    · subst q
      rw [st1_at v L j hi] at hj
      cases hj; exact at_i
    · obtain ⟨a1, a2, -⟩ := st1_else v L i j _ q hj (by simp)
      have b1 := l2 j w a1
      rw [good j q (not_bad_val wf b1 fun z => by rw [rf_cat]; exact a2 z w rfl)]; exact b1
  · by_cases q : j = i
    · subst q
      rw [st1_at v L j hi] at hj
      cases hj
    · obtain ⟨a1, -, a3⟩ := st1_else v L i j _ q hj (by simp)
      have b1 := l3 j a1
      rw [good j q (not_bad_second wf b1 fun z => a3 z rfl)]; exact b1
  · dsimp only at hj ⊢
    have q : j ≠ i := fun q => by subst q; rw [at_i] at hj; cases hj
    obtain ⟨b1, b2⟩ := back j _ q (by simp) hj
    obtain ⟨j0, v', rfl, h1, h2⟩ := wf.1 j b2
    refine ⟨j0, v', rfl, ?_, h2⟩
    have q0 : j0 ≠ i := fun z => b1 (Or.inr ⟨by omega, v', z ▸ h1, h2⟩)
    rw [good j0 q0 ?_]; exact h1
    rintro (⟨z, -⟩ | ⟨z, o, z1, z2⟩)
    · exact q z
    · have := wf.2 _ _ z1 z2
      rw [← z] at this
      cases this.symm.trans h1
  · dsimp only at hj ⊢
    have q : j ≠ i := fun q => by subst q; rw [at_i] at hj; cases hj; rw [hv'] at hc; cases hc
    obtain ⟨b1, b2⟩ := back j _ q (by simp) hj
    have h1 := wf.2 j w b2 hc
    dsimp only at h1
    have q0 : j + 1 ≠ i := fun z => b1 (Or.inl ⟨z, z ▸ h1⟩)
    rw [good (j + 1) q0 ?_]; exact h1
    rintro (⟨z, z1⟩ | ⟨z, -⟩)
    · obtain ⟨j1, v1, e1, e2, -⟩ := wf.1 _ z1
      obtain rfl : j1 = j + 1 := by omega
      cases h1.symm.trans e2
    · omega
theorem LR.store2 {ad : Nat → Addr} {L : List Slot} {Ls : Array Slot} (hL : LR ad L Ls) {i : Nat} (hi : i + 1 < L.length) {v : Value} (hv : v.category = 2) : ∃ Ls', storeLocals Ls i (rf ad v) = some Ls' ∧ LR ad (st2 L i v) Ls' ∧ Ls'.size = Ls.size := by
  obtain ⟨l1, l2, l3, wf⟩ := hL
  have hi' : i + 1 < Ls.size := l1 ▸ hi
  have hv' : (rf ad v).category = 2 := by rw [rf_cat]; exact hv
  obtain ⟨Ls1, ⟨p1, p2⟩, e⟩ := storeLocals_pre wf (by omega : i < Ls.size) (rf ad v)
  have hi1 : i < Ls1.size := by rw [p1]; omega
  have hi2 : i + 1 < Ls1.size := by rw [p1]; omega
  -- what the second half leaves: two slots, and the one behind wiped where a long began at i + 1
  have key : ∃ Ls', storeSelf Ls1 i (rf ad v) = some Ls' ∧ Ls'.size = Ls1.size ∧ Ls'[i]? = some (.val (rf ad v)) ∧ Ls'[i + 1]? = some .second ∧ ∀ j, j ≠ i → j ≠ i + 1 → (Ls'[j]? = Ls1[j]? ∧ ¬ (j = i + 2 ∧ ∃ o, Ls1[i + 1]? = some (.val o) ∧ o.category = 2)) ∨ (Ls'[j]? = some .unset ∧ j = i + 2 ∧ ∃ o, Ls1[i + 1]? = some (.val o) ∧ o.category = 2) := by
    have n1 : (Ls1.setIfInBounds i (.val (rf ad v)))[i + 1]? = Ls1[i + 1]? := Array.getElem?_setIfInBounds_ne (by omega)
    have g1 : Ls1[i + 1]? = some Ls1[i + 1] := Array.getElem?_eq_getElem hi2
    have open1 : storeSelf Ls1 i (rf ad v) = ((Ls1.setIfInBounds i (.val (rf ad v)))[i + 1]?).bind fun x => match x with
      | .val old => if old.category = 2 then (setAt (Ls1.setIfInBounds i (.val (rf ad v))) (i + 2) .unset).bind fun z => setAt z (i + 1) .second else setAt (Ls1.setIfInBounds i (.val (rf ad v))) (i + 1) .second
      | _ => setAt (Ls1.setIfInBounds i (.val (rf ad v))) (i + 1) .second := by
      show (setAt Ls1 i _).bind _ = _
      rw [setAt_ok hi1]
      show (if (rf ad v).category = 2 then _ else _) = _
      rw [if_pos hv']; rfl
    have plain : (∀ o, Ls1[i + 1]? = some (.val o) → o.category ≠ 2) → storeSelf Ls1 i (rf ad v) = setAt (Ls1.setIfInBounds i (.val (rf ad v))) (i + 1) .second := fun hno => by
      rw [open1, n1, g1]
      rcases hs : Ls1[i + 1] with _ | _ | old
      · rfl
      · rfl
      · show (if old.category = 2 then _ else _) = _
        rw [if_neg (hno old (by rw [g1, hs]))]
    have szz : i + 1 < (Ls1.setIfInBounds i (.val (rf ad v))).size := by simpa using hi2
    by_cases hb : ∃ o, Ls1[i + 1]? = some (.val o) ∧ o.category = 2
    · obtain ⟨o, ho, ho2⟩ := hb
      have b1 : Ls[i + 1]? = some (.val o) := by
        rcases p2 (i + 1) (by omega) with ⟨-, q⟩ | ⟨-, q⟩
        · rw [← q]; exact ho
        · rw [q] at ho; cases ho
      have h3 : i + 2 < Ls1.size := by rw [p1]; exact (Array.getElem?_eq_some_iff.mp (wf.2 _ _ b1 ho2)).1
      refine ⟨((Ls1.setIfInBounds i (.val (rf ad v))).setIfInBounds (i + 2) .unset).setIfInBounds (i + 1) .second, ?_, by simp, ?_, ?_, fun j hj hj' => ?_⟩
      · rw [open1, n1, ho]
        show (if o.category = 2 then _ else _) = _
        rw [if_pos ho2, setAt_ok (by simpa using h3)]
        show setAt _ (i + 1) .second = _
        rw [setAt_ok (by simpa using hi2)]
      · rw [Array.getElem?_setIfInBounds_ne (by omega), Array.getElem?_setIfInBounds_ne (by omega)]; simp [hi1]
      · simp [hi2]
      · rw [Array.getElem?_setIfInBounds_ne (by omega)]
        by_cases z : j = i + 2
        · subst z; right; exact ⟨by simp [h3], rfl, o, ho, ho2⟩
        · left; exact ⟨by rw [Array.getElem?_setIfInBounds_ne (by omega), Array.getElem?_setIfInBounds_ne (by omega)], fun q => z q.1⟩
    · refine ⟨(Ls1.setIfInBounds i (.val (rf ad v))).setIfInBounds (i + 1) .second, ?_, by simp, ?_, ?_, fun j hj hj' => Or.inl ⟨?_, fun q => hb q.2⟩⟩
      · rw [plain fun o ho q => hb ⟨o, ho, q⟩, setAt_ok szz]
      · rw [Array.getElem?_setIfInBounds_ne (by omega)]; simp [hi1]
      · simp [hi2]
      · rw [Array.getElem?_setIfInBounds_ne (by omega), Array.getElem?_setIfInBounds_ne (by omega)]
  obtain ⟨Ls', e2, sz, at_i, at_i1, at_j⟩ := key
  -- i + 1 seen from Ls
  have up : ∀ o, Ls1[i + 1]? = some (.val o) → Ls[i + 1]? = some (.val o) := fun o ho => by
    rcases p2 (i + 1) (by omega) with ⟨-, q⟩ | ⟨-, q⟩
    · rw [← q]; exact ho
    · rw [q] at ho; cases ho
  have good : ∀ j, j ≠ i → j ≠ i + 1 → ¬ Bad Ls i j → ¬ (j = i + 2 ∧ ∃ o, Ls[i + 1]? = some (.val o) ∧ o.category = 2) → Ls'[j]? = Ls[j]? := fun j hj hj' hb hb' => by
    rcases at_j j hj hj' with ⟨q, -⟩ | ⟨-, q1, o, q2, q3⟩
    · rw [q]
      rcases p2 j hj with ⟨-, q⟩ | ⟨q, -⟩
      · exact q
      · exact absurd q hb
    · exact absurd ⟨q1, o, up o q2, q3⟩ hb'
  have back : ∀ j s, j ≠ i → j ≠ i + 1 → s ≠ .unset → Ls'[j]? = some s → ¬ Bad Ls i j ∧ Ls[j]? = some s ∧ ¬ (j = i + 2 ∧ ∃ o, Ls1[i + 1]? = some (.val o) ∧ o.category = 2) := fun j s hj hj' hs h => by
    rcases at_j j hj hj' with ⟨q, q0⟩ | ⟨q, -⟩
    · rw [q] at h
      rcases p2 j hj with ⟨q1, q'⟩ | ⟨-, q'⟩
      · exact ⟨q1, by rw [← q']; exact h, q0⟩
      · rw [q'] at h; cases h; exact absurd rfl hs
    · rw [q] at h; cases h; exact absurd rfl hs
  have s2 := st2_at v L i hi
  refine ⟨_, e.trans e2, ⟨by rw [st2_len, l1, sz, p1], fun j w hj => ?_, fun j hj => ?_, fun j hj => ?_, fun j w hj hc => ?_⟩, by rw [sz, p1]⟩
  · by_cases q : j = i
    · subst q
      rw [s2.1] at hj
      cases hj; exact at_i
    · by_cases q1 : j = i + 1
      · subst q1; rw [s2.2] at hj; cases hj
      · obtain ⟨a1, a2, -⟩ := st2_else v L i j _ q q1 hj (by simp)
        have b1 := l2 j w a1
        rw [good j q q1 (not_bad_val wf b1 fun z => by rw [rf_cat]; exact a2 z w rfl) ?_]; exact b1
        rintro ⟨rfl, o, z1, z2⟩
        have := wf.2 _ _ z1 z2
        cases this.symm.trans b1
  · by_cases q : j = i
    · subst q
      rw [s2.1] at hj
      cases hj
    · by_cases q1 : j = i + 1
      · subst q1; exact at_i1
      · obtain ⟨a1, -, a3⟩ := st2_else v L i j _ q q1 hj (by simp)
        have b1 := l3 j a1
        rw [good j q q1 (not_bad_second wf b1 q1) fun z => a3 z.1 rfl]; exact b1
  · dsimp only at hj ⊢
    by_cases q1 : j = i + 1
    · subst q1; exact ⟨i, _, rfl, at_i, hv'⟩
    have q : j ≠ i := fun q => by subst q; rw [at_i] at hj; cases hj
    obtain ⟨b1, b2, b3⟩ := back j _ q q1 (by simp) hj
    obtain ⟨j0, v', rfl, h1, h2⟩ := wf.1 j b2
    dsimp only at h1
    have q0 : j0 ≠ i := fun z => b1 (Or.inr ⟨by omega, v', z ▸ h1, h2⟩)
    -- j0 = i + 1: then j = i + 2 was wiped
    have q0' : j0 ≠ i + 1 := fun z => by
      subst z
      rcases p2 (i + 1) (by omega) with ⟨-, w1⟩ | ⟨w1, -⟩
      · exact b3 ⟨rfl, v', by rw [w1]; exact h1, h2⟩
      · rcases w1 with ⟨w1, -⟩ | ⟨-, o, w1, w2⟩
        · omega
        · have := wf.2 _ _ w1 w2
          cases this.symm.trans h1
    refine ⟨j0, v', rfl, ?_, h2⟩
    rw [good j0 q0 q0' ?_ ?_]; exact h1
    · rintro (⟨z, -⟩ | ⟨z, -⟩)
      · exact q z
      · exact q0' z
    · rintro ⟨rfl, o, z1, z2⟩
      have := wf.2 _ _ z1 z2
      cases this.symm.trans h1
  · dsimp only at hj ⊢
    by_cases q1 : j = i
    · subst q1; exact at_i1
    have q : j ≠ i + 1 := fun q => by subst q; rw [at_i1] at hj; cases hj
    obtain ⟨b1, b2, -⟩ := back j _ q1 q (by simp) hj
    have h1 := wf.2 j w b2 hc
    dsimp only at h1
    have q0 : j + 1 ≠ i := fun z => b1 (Or.inl ⟨z, z ▸ h1⟩)
    rw [good (j + 1) q0 (by omega) ?_ ?_]; exact h1
    · rintro (⟨z, z1⟩ | ⟨z, -⟩)
      · obtain ⟨j1, v1, e1, e2, -⟩ := wf.1 _ z1
        obtain rfl : j1 = j + 1 := by omega
        cases h1.symm.trans e2
      · omega
    · rintro ⟨z, -⟩; omega
/-! what is known less of -/
def leL : List Slot → List Slot → Prop
  | [], [] => True
  | .unset :: a, _ :: b => leL a b
  | x :: a, y :: b => x = y ∧ leL a b
  | _, _ => False
theorem leL_len : ∀ {A B : List Slot}, leL A B → A.length = B.length
  | [], [], _ => rfl
  | .unset :: a, _ :: b, h => congrArg Nat.succ (leL_len (A := a) (B := b) h)
  | .second :: a, _ :: b, h => congrArg Nat.succ (leL_len (A := a) (B := b) h.2)
  | .val _ :: a, _ :: b, h => congrArg Nat.succ (leL_len (A := a) (B := b) h.2)
theorem leL_get : ∀ {A B : List Slot}, leL A B → ∀ {i : Nat} {s : Slot}, A[i]? = some s → s ≠ .unset → B[i]? = some s
  | [], [], _, i, s, h, _ => by simp at h
  | .unset :: a, _ :: b, _, 0, s, h, hs => by simp at h; exact absurd h.symm hs
  | .unset :: a, _ :: b, hl, i + 1, s, h, hs => by simpa using leL_get (A := a) (B := b) hl (by simpa using h) hs
  | .second :: a, _ :: b, hl, 0, s, h, hs => by simp at h; subst h; simp [← hl.1]
  | .second :: a, _ :: b, hl, i + 1, s, h, hs => by simpa using leL_get (A := a) (B := b) hl.2 (by simpa using h) hs
  | .val _ :: a, _ :: b, hl, 0, s, h, hs => by simp at h; subst h; simp [← hl.1]
  | .val _ :: a, _ :: b, hl, i + 1, s, h, hs => by simpa using leL_get (A := a) (B := b) hl.2 (by simpa using h) hs
theorem LR.weak {ad : Nat → Addr} {A B : List Slot} {Ls : Array Slot} (h : leL A B) (hL : LR ad B Ls) : LR ad A Ls :=
  ⟨(leL_len h).trans hL.1, fun i v q => hL.2.1 i v (leL_get h q (by simp)), fun i q => hL.2.2.1 i (leL_get h q (by simp)), hL.2.2.2⟩
theorem wf_cons {x : Slot} {M : List Slot} (hx : x = .unset ∨ ∃ v, x = .val v ∧ v.category = 1) (h : WFs fun i => M[i]?) : WFs fun i => (x :: M)[i]? := by
  refine ⟨fun i hi => ?_, fun i v hi hc => ?_⟩
  · cases i with
    | zero => rcases hx with rfl | ⟨v, rfl, -⟩ <;> (simp at hi)
    | succ i =>
      obtain ⟨j, v, rfl, h1, h2⟩ := h.1 i (by simpa using hi)
      exact ⟨j + 1, v, rfl, by simpa using h1, h2⟩
  · cases i with
    | zero =>
      rcases hx with rfl | ⟨w, rfl, hw⟩
      · simp at hi
      · simp at hi; subst hi; rw [hw] at hc; cases hc
    | succ i => simpa using h.2 i v (by simpa using hi) hc
theorem wf_cons2 {w : Value} {M : List Slot} (hw : w.category = 2) (h : WFs fun i => M[i]?) : WFs fun i => (.val w :: .second :: M)[i]? := by
  refine ⟨fun i hi => ?_, fun i v hi hc => ?_⟩
  · match i, hi with
    | 0, hi => simp at hi
    | 1, _ => exact ⟨0, w, rfl, rfl, hw⟩
    | i + 2, hi =>
      obtain ⟨j, v, rfl, h1, h2⟩ := h.1 i (by simpa using hi)
      exact ⟨j + 2, v, rfl, by simpa using h1, h2⟩
  · match i, hi with
    | 0, _ => rfl
    | 1, hi => simp at hi
    | i + 2, hi => simpa using h.2 i v (by simpa using hi) hc
/-- the local variables at the entry -/
def laid : List Value → List Slot
  | [] => []
  | v :: vs => if v.category = 2 then .val v :: .second :: laid vs else .val v :: laid vs
def entL (as : List Value) (n : Nat) : List Slot := laid as ++ List.replicate (n - (laid as).length) Slot.unset
theorem laid_rel (ad : Nat → Addr) (k : Nat) : ∀ as : List Value, (laid as ++ List.replicate k Slot.unset).length = (laid (as.map (rf ad)) ++ List.replicate k Slot.unset).length ∧ (∀ (i : Nat) (v : Value), (laid as ++ List.replicate k Slot.unset)[i]? = some (.val v) → (laid (as.map (rf ad)) ++ List.replicate k Slot.unset)[i]? = some (.val (rf ad v))) ∧
    (∀ i : Nat, (laid as ++ List.replicate k Slot.unset)[i]? = some .second → (laid (as.map (rf ad)) ++ List.replicate k Slot.unset)[i]? = some .second) ∧ WFs fun i => (laid (as.map (rf ad)) ++ List.replicate k Slot.unset)[i]?
  | [] => by
    refine ⟨rfl, fun i v h => ?_, fun i h => h, fun i h => ?_, fun i v h => ?_⟩
    · simp [laid, List.getElem?_replicate] at h
    · simp [laid, List.getElem?_replicate] at h
    · simp [laid, List.getElem?_replicate] at h
  | v :: vs => by
    obtain ⟨a1, a2, a3, a4⟩ := laid_rel ad k vs
    have hc : (rf ad v).category = v.category := rf_cat ad v
    by_cases h : v.category = 2
    · have e1 : laid (v :: vs) = .val v :: .second :: laid vs := if_pos h
      have e2 : laid ((v :: vs).map (rf ad)) = .val (rf ad v) :: .second :: laid (vs.map (rf ad)) := if_pos (hc.trans h)
      rw [e1, e2]
      refine ⟨by simpa using a1, fun i w hi => ?_, fun i hi => ?_, wf_cons2 (hc.trans h) a4⟩
      · match i, hi with
        | 0, hi => simp at hi; subst hi; rfl
        | 1, hi => simp at hi
        | i + 2, hi => simpa using a2 i w (by simpa using hi)
      · match i, hi with
        | 0, hi => simp at hi
        | 1, hi => rfl
        | i + 2, hi => simpa using a3 i (by simpa using hi)
    · have e1 : laid (v :: vs) = .val v :: laid vs := if_neg h
      have e2 : laid ((v :: vs).map (rf ad)) = .val (rf ad v) :: laid (vs.map (rf ad)) := if_neg (by rw [hc]; exact h)
      have h1 : (rf ad v).category = 1 := by
        rw [hc]; cases v <;> first | rfl | exact absurd rfl h
      rw [e1, e2]
      refine ⟨by simpa using a1, fun i w hi => ?_, fun i hi => ?_, wf_cons (Or.inr ⟨_, rfl, h1⟩) a4⟩
      · match i, hi with
        | 0, hi => simp at hi; subst hi; rfl
        | i + 1, hi => simpa using a2 i w (by simpa using hi)
      · match i, hi with
        | 0, hi => simp at hi
        | i + 1, hi => simpa using a3 i (by simpa using hi)
theorem laid_foldl : ∀ (as : List Value) (acc : Array Slot), (as.foldl (fun acc v => if v.category = 2 then (acc.push (.val v)).push .second else acc.push (.val v)) acc).toList = acc.toList ++ laid as
  | [], acc => by simp [laid]
  | v :: vs, acc => by
    show (List.foldl _ (if v.category = 2 then (acc.push (.val v)).push .second else acc.push (.val v)) vs : Array Slot).toList = _
    rw [laid_foldl vs]
    by_cases h : v.category = 2
    · rw [if_pos h, show laid (v :: vs) = .val v :: .second :: laid vs from if_pos h]; simp
    · rw [if_neg h, show laid (v :: vs) = .val v :: laid vs from if_neg h]; simp
theorem laid_map_len (ad : Nat → Addr) (as : List Value) : (laid (as.map (rf ad))).length = (laid as).length := by
  have := (laid_rel ad 0 as).1
  simpa using this.symm
theorem entry_LR (ad : Nat → Addr) (as : List Value) (n : Nat) (hn : (laid as).length ≤ n) : LR ad (entL as n) (argsToLocals (as.map (rf ad)).toArray n) ∧ (argsToLocals (as.map (rf ad)).toArray n).size = n := by
  have e : (argsToLocals (as.map (rf ad)).toArray n).toList = laid (as.map (rf ad)) ++ List.replicate (n - (laid as).length) Slot.unset := by
    have e1 := laid_foldl (as.map (rf ad)) #[]
    have e2 : ((as.map (rf ad)).toArray.foldl (fun acc v => if v.category = 2 then (acc.push (.val v)).push .second else acc.push (.val v)) #[] : Array Slot).toList = laid (as.map (rf ad)) := by
      rw [List.foldl_toArray']
      · rw [e1]; rfl
      · rfl
    have e3 : ((as.map (rf ad)).toArray.foldl (fun acc v => if v.category = 2 then (acc.push (.val v)).push .second else acc.push (.val v)) #[] : Array Slot).size = (laid as).length := by
      rw [← Array.length_toList, e2, laid_map_len]
    show (_ ++ Array.replicate (n - _) Slot.unset).toList = _
    rw [Array.toList_append, e2, Array.toList_replicate, e3]
  obtain ⟨a1, a2, a3, a4⟩ := laid_rel ad (n - (laid as).length) as
  have g : ∀ i : Nat, (argsToLocals (as.map (rf ad)).toArray n)[i]? = (laid (as.map (rf ad)) ++ List.replicate (n - (laid as).length) Slot.unset)[i]? := fun i => by rw [← e, Array.getElem?_toList]
  have sz : (argsToLocals (as.map (rf ad)).toArray n).size = (laid (as.map (rf ad)) ++ List.replicate (n - (laid as).length) Slot.unset).length := by rw [← e, Array.length_toList]
  refine ⟨⟨by rw [sz]; exact a1, fun i v h => by rw [g]; exact a2 i v h, fun i h => by rw [g]; exact a3 i h, ?_⟩, by rw [sz, ← a1]; simp; omega⟩
  have : (fun i => (argsToLocals (as.map (rf ad)).toArray n)[i]?) = fun i => (laid (as.map (rf ad)) ++ List.replicate (n - (laid as).length) Slot.unset)[i]? := funext g
  rw [this]; exact a4
/-! ## reading and writing a list as Java does an array -/
def rd {α : Type} (xs : List α) (i : Int32) : Option α := if i < 0 then none else xs[i.toNatClampNeg]?
def wr {α : Type} (xs : List α) (i : Int32) (x : α) : Option (List α) := if i < 0 then none else if i.toNatClampNeg < xs.length then some (xs.set i.toNatClampNeg x) else none
theorem rd_slots {α : Type} {f : α → Value} {sl : Array Value} {xs : List α} (h : sl.toList = xs.map f) {j : Int32} {x : α} (hx : rd xs j = some x) : ¬ (j < 0 ∨ sl.size ≤ j.toNatClampNeg) ∧ sl[j.toNatClampNeg]? = some (f x) := by
  unfold rd at hx
  by_cases hj : j < 0
  · rw [if_pos hj] at hx; cases hx
  · rw [if_neg hj] at hx
    have h1 : sl[j.toNatClampNeg]? = some (f x) := by rw [← Array.getElem?_toList, h, List.getElem?_map, hx]; rfl
    exact ⟨fun q => q.elim hj fun q => absurd (Array.getElem?_eq_some_iff.mp h1).1 (Nat.not_lt.mpr q), h1⟩
theorem wr_slots {α : Type} {f : α → Value} {cl : Cell} {xs xs' : List α} (h : cl.slots.toList = xs.map f) {j : Int32} {x : α} (hx : wr xs j x = some xs') : ¬ (j < 0 ∨ cl.slots.size ≤ j.toNatClampNeg) ∧ (cl.setSlot j.toNatClampNeg (f x)).slots.toList = xs'.map f := by
  unfold wr at hx
  by_cases hj : j < 0
  · rw [if_pos hj] at hx; cases hx
  · rw [if_neg hj] at hx
    by_cases hl : j.toNatClampNeg < xs.length
    · rw [if_pos hl] at hx; cases hx
      have sz : cl.slots.size = xs.length := by rw [← Array.length_toList, h, List.length_map]
      refine ⟨fun q => q.elim hj fun q => by omega, ?_⟩
      show (cl.slots.setIfInBounds _ _).toList = _
      rw [Array.toList_setIfInBounds, h, List.map_set]
    · rw [if_neg hl] at hx; cases hx
/-! ## the walk's promise, said of the small view -/
def Am (Z : State) (own mn : String) (bytes : ByteArray) (maxL : Nat) (ret : Option FieldType) (p : Program) (s : State) (m : MethodId) (meth : Method) (c : Code) : Prop :=
  p.tables.exec = Jvm.exec ∧ Z.Warmed39 s.vm ∧ c.code = bytes ∧ c.maxLocals = maxL ∧ meth.sig.returnType = ret ∧ meth.locks = false ∧ s.vm.findClass own = some m.cls ∧ meth.name = mn
def WP (l : Launch) (Z : State) (C : String) (lay : List (String × String)) (own mn : String) (bytes : ByteArray) (maxL : Nat) (ret : Option FieldType) (R : Room) (n0 ro : Nat) (Q : Option Value → List OwnC → Prop) (k n pc : Nat) (L : List Slot) (S : List Value) (H : List OwnC) : Prop :=
  ∀ (p : Program) (e : Env) (s : State) (m : MethodId) (args : Array Value) (below : List Frame) (meth : Method) (c : Code) (T : State) (locs : List Loc) (ad : Nat → Addr) (Ls : Array Slot),
    Stand p l e R s m args below meth c T locs k n → Am Z own mn bytes maxL ret p s m meth c → HR Z C lay n0 ro ad H T.heap → Fr n0 locs → LR ad L Ls → Ls.size = maxL →
    ∃ (s₂ : State) (v : Option Value) (H' : List OwnC) (locs' : List Loc),
      Steps p.tables e below (T.setTop (mkF m pc Ls (S.map (rf ad)))) s₂ ∧ s₂.status = .running ∧ Ended s₂ below (.returned (v.map (rf ad))) ∧ Q v H' ∧ HR Z C lay n0 ro ad H' s₂.heap ∧ Kp ad H.length T.heap s₂.heap ∧ Fr n0 locs' ∧ FrameEnd s (.returned (v.map (rf ad))) s₂ locs' R.cells R.slots
section Rules
variable {l : Launch} {Z : State} {a0 : Array Value} {C : String} {lay : List (String × String)} {own mn : String} {bytes : ByteArray} {maxL : Nat} {ret : Option FieldType} {R : Room} {n0 ro : Nat} {Q : Option Value → List OwnC → Prop} {k n pc pc' : Nat} {L L' : List Slot} {S S' : List Value} {H H' : List OwnC}
theorem WP.weak (h : leL L' L) (nx : WP l Z C lay own mn bytes maxL ret R n0 ro Q k n pc L' S H) : WP l Z C lay own mn bytes maxL ret R n0 ro Q k n pc L S H :=
  fun p e s m args below meth c T locs ad Ls X A hr N hL hz => nx p e s m args below meth c T locs ad Ls X A hr N (LR.weak h hL) hz
theorem WP.of (hs : ∀ (p : Program) (e : Env) (s : State) (m : MethodId) (args : Array Value) (below : List Frame) (meth : Method) (c : Code) (T : State) (locs : List Loc) (ad : Nat → Addr) (Ls : Array Slot), Stand p l e R s m args below meth c T locs k n → Am Z own mn bytes maxL ret p s m meth c → LR ad L Ls → Ls.size = maxL →
      ∃ Ls', LR ad L' Ls' ∧ Ls'.size = maxL ∧ ∀ t, Steps p.tables e below (T.setTop (mkF m pc' Ls' (S'.map (rf ad)))) t → Steps p.tables e below (T.setTop (mkF m pc Ls (S.map (rf ad)))) t)
    (nx : WP l Z C lay own mn bytes maxL ret R n0 ro Q k n pc' L' S' H) : WP l Z C lay own mn bytes maxL ret R n0 ro Q k n pc L S H := by
  intro p e s m args below meth c T locs ad Ls X A hr N hL hz
  obtain ⟨Ls', hL', hz', st⟩ := hs p e s m args below meth c T locs ad Ls X A hL hz
  obtain ⟨s₂, v, H', locs', h1, h2⟩ := nx p e s m args below meth c T locs ad Ls' X A hr N hL' hz'
  exact ⟨s₂, v, H', locs', st _ h1, h2⟩
theorem WP.iload {j : Nat} {x : Int32} (hd : decode bytes pc = .ok (.iload j, 2)) (hl : L[j]? = some (.val (.int x))) (nx : WP l Z C lay own mn bytes maxL ret R n0 ro Q k n (pc + 2) L (.int x :: S) H) : WP l Z C lay own mn bytes maxL ret R n0 ro Q k n pc L (S) H :=
  WP.of (fun p e s m args below meth c T locs ad Ls X A hL hz => ⟨Ls, hL, hz, fun t ht => XS.iload X.here A.1 rfl (hb A.2.2.1 hd) (hL.2.1 _ _ hl) ht⟩) nx
theorem WP.iloadN {j : Fin 4} {x : Int32} (hd : decode bytes pc = .ok (.iload_n j, 1)) (hl : L[j.val]? = some (.val (.int x))) (nx : WP l Z C lay own mn bytes maxL ret R n0 ro Q k n (pc + 1) L (.int x :: S) H) : WP l Z C lay own mn bytes maxL ret R n0 ro Q k n pc L (S) H :=
  WP.of (fun p e s m args below meth c T locs ad Ls X A hL hz => ⟨Ls, hL, hz, fun t ht => XS.iloadN X.here A.1 rfl (hb A.2.2.1 hd) (hL.2.1 _ _ hl) ht⟩) nx
theorem WP.lload {j : Nat} {x : Int64} (hd : decode bytes pc = .ok (.lload j, 2)) (hl : L[j]? = some (.val (.long x))) (nx : WP l Z C lay own mn bytes maxL ret R n0 ro Q k n (pc + 2) L (.long x :: S) H) : WP l Z C lay own mn bytes maxL ret R n0 ro Q k n pc L (S) H :=
  WP.of (fun p e s m args below meth c T locs ad Ls X A hL hz => ⟨Ls, hL, hz, fun t ht => XT.lload X.here A.1 rfl (hb A.2.2.1 hd) (hL.2.1 _ _ hl) ht⟩) nx
theorem WP.lloadN {j : Fin 4} {x : Int64} (hd : decode bytes pc = .ok (.lload_n j, 1)) (hl : L[j.val]? = some (.val (.long x))) (nx : WP l Z C lay own mn bytes maxL ret R n0 ro Q k n (pc + 1) L (.long x :: S) H) : WP l Z C lay own mn bytes maxL ret R n0 ro Q k n pc L (S) H :=
  WP.of (fun p e s m args below meth c T locs ad Ls X A hL hz => ⟨Ls, hL, hz, fun t ht => XT.lloadN X.here A.1 rfl (hb A.2.2.1 hd) (hL.2.1 _ _ hl) ht⟩) nx
theorem WP.aload {j : Nat} {i : Nat} (hd : decode bytes pc = .ok (.aload j, 2)) (hl : L[j]? = some (.val (.ref i))) (nx : WP l Z C lay own mn bytes maxL ret R n0 ro Q k n (pc + 2) L (.ref i :: S) H) : WP l Z C lay own mn bytes maxL ret R n0 ro Q k n pc L (S) H :=
  WP.of (fun p e s m args below meth c T locs ad Ls X A hL hz => ⟨Ls, hL, hz, fun t ht => XS.aload X.here A.1 rfl (hb A.2.2.1 hd) (hL.2.1 _ _ hl) rfl ht⟩) nx
theorem WP.aloadN {j : Fin 4} {i : Nat} (hd : decode bytes pc = .ok (.aload_n j, 1)) (hl : L[j.val]? = some (.val (.ref i))) (nx : WP l Z C lay own mn bytes maxL ret R n0 ro Q k n (pc + 1) L (.ref i :: S) H) : WP l Z C lay own mn bytes maxL ret R n0 ro Q k n pc L (S) H :=
  WP.of (fun p e s m args below meth c T locs ad Ls X A hL hz => ⟨Ls, hL, hz, fun t ht => XS.aloadN X.here A.1 rfl (hb A.2.2.1 hd) (hL.2.1 _ _ hl) rfl ht⟩) nx
theorem WP.iconst {i : Int} (v : Int32) (hd : decode bytes pc = .ok (.iconst i, 1)) (hv : Int32.ofInt i = v) (nx : WP l Z C lay own mn bytes maxL ret R n0 ro Q k n (pc + 1) L (.int v :: S) H) : WP l Z C lay own mn bytes maxL ret R n0 ro Q k n pc L (S) H :=
  WP.of (fun p e s m args below meth c T locs ad Ls X A hL hz => ⟨Ls, hL, hz, fun t ht => XS.iconst X.here A.1 rfl (hb A.2.2.1 hd) (by rw [hv]; exact ht)⟩) nx
theorem WP.bipush {i : Int} (v : Int32) (hd : decode bytes pc = .ok (.bipush i, 2)) (hv : (Int8.ofInt i).toInt32 = v) (nx : WP l Z C lay own mn bytes maxL ret R n0 ro Q k n (pc + 2) L (.int v :: S) H) : WP l Z C lay own mn bytes maxL ret R n0 ro Q k n pc L (S) H :=
  WP.of (fun p e s m args below meth c T locs ad Ls X A hL hz => ⟨Ls, hL, hz, fun t ht => XS.bipush X.here A.1 rfl (hb A.2.2.1 hd) (by rw [hv]; exact ht)⟩) nx
theorem WP.sipush {i : Int} (v : Int32) (hd : decode bytes pc = .ok (.sipush i, 3)) (hv : (Int16.ofInt i).toInt32 = v) (nx : WP l Z C lay own mn bytes maxL ret R n0 ro Q k n (pc + 3) L (.int v :: S) H) : WP l Z C lay own mn bytes maxL ret R n0 ro Q k n pc L (S) H :=
  WP.of (fun p e s m args below meth c T locs ad Ls X A hL hz => ⟨Ls, hL, hz, fun t ht => XS.sipush X.here A.1 rfl (hb A.2.2.1 hd) (by rw [hv]; exact ht)⟩) nx
theorem WP.lconst {j : Fin 2} (v : Int64) (hd : decode bytes pc = .ok (.lconst j, 1)) (hv : Int64.ofNat j = v) (nx : WP l Z C lay own mn bytes maxL ret R n0 ro Q k n (pc + 1) L (.long v :: S) H) : WP l Z C lay own mn bytes maxL ret R n0 ro Q k n pc L (S) H :=
  WP.of (fun p e s m args below meth c T locs ad Ls X A hL hz => ⟨Ls, hL, hz, fun t ht => XT.lconst X.here A.1 rfl (hb A.2.2.1 hd) (by rw [hv]; exact ht)⟩) nx
theorem WP.ldc {idx : Nat} {v : Int32} (hd : decode bytes pc = .ok (.ldc idx, 2)) (hw : (Cond.constant own idx v).before a0 Z = true) (nx : WP l Z C lay own mn bytes maxL ret R n0 ro Q k n (pc + 2) L (.int v :: S) H) : WP l Z C lay own mn bytes maxL ret R n0 ro Q k n pc L (S) H :=
  WP.of (fun p e s m args below meth c T locs ad Ls X A hL hz => ⟨Ls, hL, hz, fun t ht => X.ldcInt A.1 A.2.2.2.2.2.2.1 (mvT A.2.1 hw) (g := mkF m pc Ls (S.map (rf ad))) rfl (hb A.2.2.1 hd) t ht⟩) nx
theorem WP.ldcw {idx : Nat} {v : Int32} (hd : decode bytes pc = .ok (.ldc_w idx, 3)) (hw : (Cond.constant own idx v).before a0 Z = true) (nx : WP l Z C lay own mn bytes maxL ret R n0 ro Q k n (pc + 3) L (.int v :: S) H) : WP l Z C lay own mn bytes maxL ret R n0 ro Q k n pc L (S) H :=
  WP.of (fun p e s m args below meth c T locs ad Ls X A hL hz => ⟨Ls, hL, hz, fun t ht => X.ldcwInt A.1 A.2.2.2.2.2.2.1 (mvT A.2.1 hw) (g := mkF m pc Ls (S.map (rf ad))) rfl (hb A.2.2.1 hd) t ht⟩) nx
theorem WP.ldc2 {idx : Nat} {v : Int64} (hd : decode bytes pc = .ok (.ldc2_w idx, 3)) (hw : (Cond.constantLong own idx v).before a0 Z = true) (nx : WP l Z C lay own mn bytes maxL ret R n0 ro Q k n (pc + 3) L (.long v :: S) H) : WP l Z C lay own mn bytes maxL ret R n0 ro Q k n pc L (S) H :=
  WP.of (fun p e s m args below meth c T locs ad Ls X A hL hz => ⟨Ls, hL, hz, fun t ht => X.ldc2Long A.1 A.2.2.2.2.2.2.1 (mvT A.2.1 hw) (g := mkF m pc Ls (S.map (rf ad))) rfl (hb A.2.2.1 hd) t ht⟩) nx
theorem WP.iadd {x y : Int32} (hd : decode bytes pc = .ok (.iadd, 1)) (nx : WP l Z C lay own mn bytes maxL ret R n0 ro Q k n (pc + 1) L (.int (x + y) :: S) H) : WP l Z C lay own mn bytes maxL ret R n0 ro Q k n pc L (.int y :: .int x :: S) H :=
  WP.of (fun p e s m args below meth c T locs ad Ls X A hL hz => ⟨Ls, hL, hz, fun t ht => XS.iadd X.here A.1 rfl (hb A.2.2.1 hd) rfl ht⟩) nx
theorem WP.ladd {x y : Int64} (hd : decode bytes pc = .ok (.ladd, 1)) (nx : WP l Z C lay own mn bytes maxL ret R n0 ro Q k n (pc + 1) L (.long (x + y) :: S) H) : WP l Z C lay own mn bytes maxL ret R n0 ro Q k n pc L (.long y :: .long x :: S) H :=
  WP.of (fun p e s m args below meth c T locs ad Ls X A hL hz => ⟨Ls, hL, hz, fun t ht => XT.ladd X.here A.1 rfl (hb A.2.2.1 hd) rfl ht⟩) nx
theorem WP.isub {x y : Int32} (hd : decode bytes pc = .ok (.isub, 1)) (nx : WP l Z C lay own mn bytes maxL ret R n0 ro Q k n (pc + 1) L (.int (x - y) :: S) H) : WP l Z C lay own mn bytes maxL ret R n0 ro Q k n pc L (.int y :: .int x :: S) H :=
  WP.of (fun p e s m args below meth c T locs ad Ls X A hL hz => ⟨Ls, hL, hz, fun t ht => XS.isub X.here A.1 rfl (hb A.2.2.1 hd) rfl ht⟩) nx
theorem WP.lsub {x y : Int64} (hd : decode bytes pc = .ok (.lsub, 1)) (nx : WP l Z C lay own mn bytes maxL ret R n0 ro Q k n (pc + 1) L (.long (x - y) :: S) H) : WP l Z C lay own mn bytes maxL ret R n0 ro Q k n pc L (.long y :: .long x :: S) H :=
  WP.of (fun p e s m args below meth c T locs ad Ls X A hL hz => ⟨Ls, hL, hz, fun t ht => XT.lsub X.here A.1 rfl (hb A.2.2.1 hd) rfl ht⟩) nx
theorem WP.imul {x y : Int32} (hd : decode bytes pc = .ok (.imul, 1)) (nx : WP l Z C lay own mn bytes maxL ret R n0 ro Q k n (pc + 1) L (.int (x * y) :: S) H) : WP l Z C lay own mn bytes maxL ret R n0 ro Q k n pc L (.int y :: .int x :: S) H :=
  WP.of (fun p e s m args below meth c T locs ad Ls X A hL hz => ⟨Ls, hL, hz, fun t ht => XS.imul X.here A.1 rfl (hb A.2.2.1 hd) rfl ht⟩) nx
theorem WP.lmul {x y : Int64} (hd : decode bytes pc = .ok (.lmul, 1)) (nx : WP l Z C lay own mn bytes maxL ret R n0 ro Q k n (pc + 1) L (.long (x * y) :: S) H) : WP l Z C lay own mn bytes maxL ret R n0 ro Q k n pc L (.long y :: .long x :: S) H :=
  WP.of (fun p e s m args below meth c T locs ad Ls X A hL hz => ⟨Ls, hL, hz, fun t ht => XT.lmul X.here A.1 rfl (hb A.2.2.1 hd) rfl ht⟩) nx
theorem WP.iand {x y : Int32} (hd : decode bytes pc = .ok (.iand, 1)) (nx : WP l Z C lay own mn bytes maxL ret R n0 ro Q k n (pc + 1) L (.int (x &&& y) :: S) H) : WP l Z C lay own mn bytes maxL ret R n0 ro Q k n pc L (.int y :: .int x :: S) H :=
  WP.of (fun p e s m args below meth c T locs ad Ls X A hL hz => ⟨Ls, hL, hz, fun t ht => XS.iand X.here A.1 rfl (hb A.2.2.1 hd) rfl ht⟩) nx
theorem WP.land {x y : Int64} (hd : decode bytes pc = .ok (.land, 1)) (nx : WP l Z C lay own mn bytes maxL ret R n0 ro Q k n (pc + 1) L (.long (x &&& y) :: S) H) : WP l Z C lay own mn bytes maxL ret R n0 ro Q k n pc L (.long y :: .long x :: S) H :=
  WP.of (fun p e s m args below meth c T locs ad Ls X A hL hz => ⟨Ls, hL, hz, fun t ht => XT.land X.here A.1 rfl (hb A.2.2.1 hd) rfl ht⟩) nx
theorem WP.ior {x y : Int32} (hd : decode bytes pc = .ok (.ior, 1)) (nx : WP l Z C lay own mn bytes maxL ret R n0 ro Q k n (pc + 1) L (.int (x ||| y) :: S) H) : WP l Z C lay own mn bytes maxL ret R n0 ro Q k n pc L (.int y :: .int x :: S) H :=
  WP.of (fun p e s m args below meth c T locs ad Ls X A hL hz => ⟨Ls, hL, hz, fun t ht => XT.ior X.here A.1 rfl (hb A.2.2.1 hd) rfl ht⟩) nx
theorem WP.lor {x y : Int64} (hd : decode bytes pc = .ok (.lor, 1)) (nx : WP l Z C lay own mn bytes maxL ret R n0 ro Q k n (pc + 1) L (.long (x ||| y) :: S) H) : WP l Z C lay own mn bytes maxL ret R n0 ro Q k n pc L (.long y :: .long x :: S) H :=
  WP.of (fun p e s m args below meth c T locs ad Ls X A hL hz => ⟨Ls, hL, hz, fun t ht => XT.lor X.here A.1 rfl (hb A.2.2.1 hd) rfl ht⟩) nx
theorem WP.ixor {x y : Int32} (hd : decode bytes pc = .ok (.ixor, 1)) (nx : WP l Z C lay own mn bytes maxL ret R n0 ro Q k n (pc + 1) L (.int (x ^^^ y) :: S) H) : WP l Z C lay own mn bytes maxL ret R n0 ro Q k n pc L (.int y :: .int x :: S) H :=
  WP.of (fun p e s m args below meth c T locs ad Ls X A hL hz => ⟨Ls, hL, hz, fun t ht => XT.ixor X.here A.1 rfl (hb A.2.2.1 hd) rfl ht⟩) nx
theorem WP.lxor {x y : Int64} (hd : decode bytes pc = .ok (.lxor, 1)) (nx : WP l Z C lay own mn bytes maxL ret R n0 ro Q k n (pc + 1) L (.long (x ^^^ y) :: S) H) : WP l Z C lay own mn bytes maxL ret R n0 ro Q k n pc L (.long y :: .long x :: S) H :=
  WP.of (fun p e s m args below meth c T locs ad Ls X A hL hz => ⟨Ls, hL, hz, fun t ht => XT.lxor X.here A.1 rfl (hb A.2.2.1 hd) rfl ht⟩) nx
theorem WP.idiv {x y : Int32} (hd : decode bytes pc = .ok (.idiv, 1)) (hy : ¬ y = 0) (nx : WP l Z C lay own mn bytes maxL ret R n0 ro Q k n (pc + 1) L (.int (x / y) :: S) H) : WP l Z C lay own mn bytes maxL ret R n0 ro Q k n pc L (.int y :: .int x :: S) H :=
  WP.of (fun p e s m args below meth c T locs ad Ls X A hL hz => ⟨Ls, hL, hz, fun t ht => XS.idiv X.here A.1 rfl (hb A.2.2.1 hd) rfl hy ht⟩) nx
theorem WP.irem {x y : Int32} (hd : decode bytes pc = .ok (.irem, 1)) (hy : ¬ y = 0) (nx : WP l Z C lay own mn bytes maxL ret R n0 ro Q k n (pc + 1) L (.int (x % y) :: S) H) : WP l Z C lay own mn bytes maxL ret R n0 ro Q k n pc L (.int y :: .int x :: S) H :=
  WP.of (fun p e s m args below meth c T locs ad Ls X A hL hz => ⟨Ls, hL, hz, fun t ht => iremM X A.1 rfl (hb A.2.2.1 hd) rfl hy ht⟩) nx
theorem WP.ldiv {x y : Int64} (hd : decode bytes pc = .ok (.ldiv, 1)) (hy : ¬ y = 0) (nx : WP l Z C lay own mn bytes maxL ret R n0 ro Q k n (pc + 1) L (.long (x / y) :: S) H) : WP l Z C lay own mn bytes maxL ret R n0 ro Q k n pc L (.long y :: .long x :: S) H :=
  WP.of (fun p e s m args below meth c T locs ad Ls X A hL hz => ⟨Ls, hL, hz, fun t ht => XT.ldiv X.here A.1 rfl (hb A.2.2.1 hd) rfl hy ht⟩) nx
theorem lrem_mod (x y : Int64) : x - (x / y) * y = x % y := by
  apply Int64.toInt_inj.mp
  have h1 := Int64.le_toInt (x % y)
  have h2 := Int64.toInt_lt (x % y)
  rw [Int64.toInt_sub, Int64.toInt_mul, Int64.toInt_div, Int.bmod_mul_bmod, Int.sub_bmod_bmod, Int.mul_comm (x.toInt.tdiv y.toInt), ← Int.tmod_def, ← Int64.toInt_mod]
  exact Int.bmod_eq_of_le_mul_two (by omega) (by omega)
theorem WP.lrem {x y : Int64} (hd : decode bytes pc = .ok (.lrem, 1)) (hy : ¬ y = 0) (nx : WP l Z C lay own mn bytes maxL ret R n0 ro Q k n (pc + 1) L (.long (x % y) :: S) H) : WP l Z C lay own mn bytes maxL ret R n0 ro Q k n pc L (.long y :: .long x :: S) H :=
  WP.of (fun p e s m args below meth c T locs ad Ls X A hL hz => ⟨Ls, hL, hz, fun t ht => XT.lrem X.here A.1 rfl (hb A.2.2.1 hd) rfl hy (by rw [lrem_mod]; exact ht)⟩) nx
theorem WP.ishl {x y : Int32} (hd : decode bytes pc = .ok (.ishl, 1)) (nx : WP l Z C lay own mn bytes maxL ret R n0 ro Q k n (pc + 1) L (.int (x <<< (y &&& 31)) :: S) H) : WP l Z C lay own mn bytes maxL ret R n0 ro Q k n pc L (.int y :: .int x :: S) H :=
  WP.of (fun p e s m args below meth c T locs ad Ls X A hL hz => ⟨Ls, hL, hz, fun t ht => XT.ishl X.here A.1 rfl (hb A.2.2.1 hd) rfl ht⟩) nx
theorem WP.ishr {x y : Int32} (hd : decode bytes pc = .ok (.ishr, 1)) (nx : WP l Z C lay own mn bytes maxL ret R n0 ro Q k n (pc + 1) L (.int (x >>> (y &&& 31)) :: S) H) : WP l Z C lay own mn bytes maxL ret R n0 ro Q k n pc L (.int y :: .int x :: S) H :=
  WP.of (fun p e s m args below meth c T locs ad Ls X A hL hz => ⟨Ls, hL, hz, fun t ht => XT.ishr X.here A.1 rfl (hb A.2.2.1 hd) rfl ht⟩) nx
theorem WP.iushr {x y : Int32} (hd : decode bytes pc = .ok (.iushr, 1)) (nx : WP l Z C lay own mn bytes maxL ret R n0 ro Q k n (pc + 1) L (.int (XT.ushr x y) :: S) H) : WP l Z C lay own mn bytes maxL ret R n0 ro Q k n pc L (.int y :: .int x :: S) H :=
  WP.of (fun p e s m args below meth c T locs ad Ls X A hL hz => ⟨Ls, hL, hz, fun t ht => XT.iushr X.here A.1 rfl (hb A.2.2.1 hd) rfl ht⟩) nx
theorem WP.lshl {x : Int64} {y : Int32} (hd : decode bytes pc = .ok (.lshl, 1)) (nx : WP l Z C lay own mn bytes maxL ret R n0 ro Q k n (pc + 1) L (.long (x <<< (y.toInt64 &&& 63)) :: S) H) : WP l Z C lay own mn bytes maxL ret R n0 ro Q k n pc L (.int y :: .long x :: S) H :=
  WP.of (fun p e s m args below meth c T locs ad Ls X A hL hz => ⟨Ls, hL, hz, fun t ht => XT.lshl X.here A.1 rfl (hb A.2.2.1 hd) rfl ht⟩) nx
theorem WP.lshr {x : Int64} {y : Int32} (hd : decode bytes pc = .ok (.lshr, 1)) (nx : WP l Z C lay own mn bytes maxL ret R n0 ro Q k n (pc + 1) L (.long (x >>> (y.toInt64 &&& 63)) :: S) H) : WP l Z C lay own mn bytes maxL ret R n0 ro Q k n pc L (.int y :: .long x :: S) H :=
  WP.of (fun p e s m args below meth c T locs ad Ls X A hL hz => ⟨Ls, hL, hz, fun t ht => XT.lshr X.here A.1 rfl (hb A.2.2.1 hd) rfl ht⟩) nx
theorem WP.lushr {x : Int64} {y : Int32} (hd : decode bytes pc = .ok (.lushr, 1)) (nx : WP l Z C lay own mn bytes maxL ret R n0 ro Q k n (pc + 1) L (.long (XT.ushrL x y) :: S) H) : WP l Z C lay own mn bytes maxL ret R n0 ro Q k n pc L (.int y :: .long x :: S) H :=
  WP.of (fun p e s m args below meth c T locs ad Ls X A hL hz => ⟨Ls, hL, hz, fun t ht => XT.lushr X.here A.1 rfl (hb A.2.2.1 hd) rfl ht⟩) nx
theorem WP.ineg {x : Int32} (hd : decode bytes pc = .ok (.ineg, 1)) (nx : WP l Z C lay own mn bytes maxL ret R n0 ro Q k n (pc + 1) L (.int (-x) :: S) H) : WP l Z C lay own mn bytes maxL ret R n0 ro Q k n pc L (.int x :: S) H :=
  WP.of (fun p e s m args below meth c T locs ad Ls X A hL hz => ⟨Ls, hL, hz, fun t ht => XS.ineg X.here A.1 rfl (hb A.2.2.1 hd) rfl ht⟩) nx
theorem WP.lneg {x : Int64} (hd : decode bytes pc = .ok (.lneg, 1)) (nx : WP l Z C lay own mn bytes maxL ret R n0 ro Q k n (pc + 1) L (.long (-x) :: S) H) : WP l Z C lay own mn bytes maxL ret R n0 ro Q k n pc L (.long x :: S) H :=
  WP.of (fun p e s m args below meth c T locs ad Ls X A hL hz => ⟨Ls, hL, hz, fun t ht => XT.lneg X.here A.1 rfl (hb A.2.2.1 hd) rfl ht⟩) nx
theorem WP.i2l {x : Int32} (hd : decode bytes pc = .ok (.i2l, 1)) (nx : WP l Z C lay own mn bytes maxL ret R n0 ro Q k n (pc + 1) L (.long x.toInt64 :: S) H) : WP l Z C lay own mn bytes maxL ret R n0 ro Q k n pc L (.int x :: S) H :=
  WP.of (fun p e s m args below meth c T locs ad Ls X A hL hz => ⟨Ls, hL, hz, fun t ht => XT.i2l X.here A.1 rfl (hb A.2.2.1 hd) rfl ht⟩) nx
theorem WP.l2i {x : Int64} (hd : decode bytes pc = .ok (.l2i, 1)) (nx : WP l Z C lay own mn bytes maxL ret R n0 ro Q k n (pc + 1) L (.int x.toInt32 :: S) H) : WP l Z C lay own mn bytes maxL ret R n0 ro Q k n pc L (.long x :: S) H :=
  WP.of (fun p e s m args below meth c T locs ad Ls X A hL hz => ⟨Ls, hL, hz, fun t ht => XT.l2i X.here A.1 rfl (hb A.2.2.1 hd) rfl ht⟩) nx
theorem WP.lcmp {x y : Int64} (hd : decode bytes pc = .ok (.lcmp, 1)) (nx : WP l Z C lay own mn bytes maxL ret R n0 ro Q k n (pc + 1) L (.int (XT.cmpL x y) :: S) H) : WP l Z C lay own mn bytes maxL ret R n0 ro Q k n pc L (.long y :: .long x :: S) H :=
  WP.of (fun p e s m args below meth c T locs ad Ls X A hL hz => ⟨Ls, hL, hz, fun t ht => XT.lcmp X.here A.1 rfl (hb A.2.2.1 hd) rfl ht⟩) nx
theorem WP.dup {v : Value} (hd : decode bytes pc = .ok (.dup, 1)) (hc : v.category = 1) (nx : WP l Z C lay own mn bytes maxL ret R n0 ro Q k n (pc + 1) L (v :: v :: S) H) : WP l Z C lay own mn bytes maxL ret R n0 ro Q k n pc L (v :: S) H :=
  WP.of (fun p e s m args below meth c T locs ad Ls X A hL hz => ⟨Ls, hL, hz, fun t ht => XS.dup X.here A.1 rfl (hb A.2.2.1 hd) rfl (by rw [rf_cat]; exact hc) ht⟩) nx
theorem WP.dup2 {v w : Value} (hd : decode bytes pc = .ok (.dup2, 1)) (hc : v.category = 1) (hc' : w.category = 1) (nx : WP l Z C lay own mn bytes maxL ret R n0 ro Q k n (pc + 1) L (v :: w :: v :: w :: S) H) : WP l Z C lay own mn bytes maxL ret R n0 ro Q k n pc L (v :: w :: S) H :=
  WP.of (fun p e s m args below meth c T locs ad Ls X A hL hz => ⟨Ls, hL, hz, fun t ht => XT.dup2 X.here A.1 rfl (hb A.2.2.1 hd) rfl (by rw [rf_cat]; exact hc) (by rw [rf_cat]; exact hc') ht⟩) nx
theorem WP.dup2L {x : Int64} (hd : decode bytes pc = .ok (.dup2, 1)) (nx : WP l Z C lay own mn bytes maxL ret R n0 ro Q k n (pc + 1) L (.long x :: .long x :: S) H) : WP l Z C lay own mn bytes maxL ret R n0 ro Q k n pc L (.long x :: S) H :=
  WP.of (fun p e s m args below meth c T locs ad Ls X A hL hz => ⟨Ls, hL, hz, fun t ht => XT.dup2L X.here A.1 rfl (hb A.2.2.1 hd) rfl ht⟩) nx
theorem WP.pop {v : Value} (hd : decode bytes pc = .ok (.pop, 1)) (hc : v.category = 1) (nx : WP l Z C lay own mn bytes maxL ret R n0 ro Q k n (pc + 1) L (S) H) : WP l Z C lay own mn bytes maxL ret R n0 ro Q k n pc L (v :: S) H :=
  WP.of (fun p e s m args below meth c T locs ad Ls X A hL hz => ⟨Ls, hL, hz, fun t ht => XT.pop X.here A.1 rfl (hb A.2.2.1 hd) rfl (by rw [rf_cat]; exact hc) ht⟩) nx
theorem WP.istore {j : Nat} {x : Int32} (hd : decode bytes pc = .ok (.istore j, 2)) (hi : j < L.length) (hL' : st1 L j (.int x) = L') (nx : WP l Z C lay own mn bytes maxL ret R n0 ro Q k n (pc + 2) L' S H) : WP l Z C lay own mn bytes maxL ret R n0 ro Q k n pc L (.int x :: S) H :=
  WP.of (fun p e s m args below meth c T locs ad Ls X A hL hz => by
    obtain ⟨Ls', e1, e2, e3⟩ := hL.store1 hi (v := .int x) rfl
    exact ⟨Ls', hL' ▸ e2, e3.trans hz, fun t ht => XS.istore X.here A.1 rfl (hb A.2.2.1 hd) rfl e1 ht⟩) nx
theorem WP.istoreN {j : Fin 4} {x : Int32} (hd : decode bytes pc = .ok (.istore_n j, 1)) (hi : j.val < L.length) (hL' : st1 L j.val (.int x) = L') (nx : WP l Z C lay own mn bytes maxL ret R n0 ro Q k n (pc + 1) L' S H) : WP l Z C lay own mn bytes maxL ret R n0 ro Q k n pc L (.int x :: S) H :=
  WP.of (fun p e s m args below meth c T locs ad Ls X A hL hz => by
    obtain ⟨Ls', e1, e2, e3⟩ := hL.store1 hi (v := .int x) rfl
    exact ⟨Ls', hL' ▸ e2, e3.trans hz, fun t ht => XS.istoreN X.here A.1 rfl (hb A.2.2.1 hd) rfl e1 ht⟩) nx
theorem WP.astore {j : Nat} {i : Nat} (hd : decode bytes pc = .ok (.astore j, 2)) (hi : j < L.length) (hL' : st1 L j (.ref i) = L') (nx : WP l Z C lay own mn bytes maxL ret R n0 ro Q k n (pc + 2) L' S H) : WP l Z C lay own mn bytes maxL ret R n0 ro Q k n pc L (.ref i :: S) H :=
  WP.of (fun p e s m args below meth c T locs ad Ls X A hL hz => by
    obtain ⟨Ls', e1, e2, e3⟩ := hL.store1 hi (v := .ref i) rfl
    exact ⟨Ls', hL' ▸ e2, e3.trans hz, fun t ht => XS.astore X.here A.1 rfl (hb A.2.2.1 hd) rfl rfl e1 ht⟩) nx
theorem WP.astoreN {j : Fin 4} {i : Nat} (hd : decode bytes pc = .ok (.astore_n j, 1)) (hi : j.val < L.length) (hL' : st1 L j.val (.ref i) = L') (nx : WP l Z C lay own mn bytes maxL ret R n0 ro Q k n (pc + 1) L' S H) : WP l Z C lay own mn bytes maxL ret R n0 ro Q k n pc L (.ref i :: S) H :=
  WP.of (fun p e s m args below meth c T locs ad Ls X A hL hz => by
    obtain ⟨Ls', e1, e2, e3⟩ := hL.store1 hi (v := .ref i) rfl
    exact ⟨Ls', hL' ▸ e2, e3.trans hz, fun t ht => XS.astoreN X.here A.1 rfl (hb A.2.2.1 hd) rfl rfl e1 ht⟩) nx
theorem WP.lstore {j : Nat} {x : Int64} (hd : decode bytes pc = .ok (.lstore j, 2)) (hi : j + 1 < L.length) (hL' : st2 L j (.long x) = L') (nx : WP l Z C lay own mn bytes maxL ret R n0 ro Q k n (pc + 2) L' S H) : WP l Z C lay own mn bytes maxL ret R n0 ro Q k n pc L (.long x :: S) H :=
  WP.of (fun p e s m args below meth c T locs ad Ls X A hL hz => by
    obtain ⟨Ls', e1, e2, e3⟩ := hL.store2 hi (v := .long x) rfl
    exact ⟨Ls', hL' ▸ e2, e3.trans hz, fun t ht => XT.lstore X.here A.1 rfl (hb A.2.2.1 hd) rfl e1 ht⟩) nx
theorem WP.lstoreN {j : Fin 4} {x : Int64} (hd : decode bytes pc = .ok (.lstore_n j, 1)) (hi : j.val + 1 < L.length) (hL' : st2 L j.val (.long x) = L') (nx : WP l Z C lay own mn bytes maxL ret R n0 ro Q k n (pc + 1) L' S H) : WP l Z C lay own mn bytes maxL ret R n0 ro Q k n pc L (.long x :: S) H :=
  WP.of (fun p e s m args below meth c T locs ad Ls X A hL hz => by
    obtain ⟨Ls', e1, e2, e3⟩ := hL.store2 hi (v := .long x) rfl
    exact ⟨Ls', hL' ▸ e2, e3.trans hz, fun t ht => XT.lstoreN X.here A.1 rfl (hb A.2.2.1 hd) rfl e1 ht⟩) nx
theorem WP.iinc {j : Nat} {cst : Int} {x : Int32} (v : Int32) (hd : decode bytes pc = .ok (.iinc j cst, 3)) (hv : Int32.ofInt cst = v) (hl : L[j]? = some (.val (.int x))) (hL' : st1 L j (.int (x + v)) = L') (nx : WP l Z C lay own mn bytes maxL ret R n0 ro Q k n (pc + 3) L' S H) : WP l Z C lay own mn bytes maxL ret R n0 ro Q k n pc L S H :=
  WP.of (fun p e s m args below meth c T locs ad Ls X A hL hz => by
    subst hv
    obtain ⟨Ls', e1, e2, e3⟩ := hL.store1 (get_lt hl) (v := .int (x + Int32.ofInt cst)) rfl
    exact ⟨Ls', hL' ▸ e2, e3.trans hz, fun t ht => XS.iinc X.here A.1 rfl (hb A.2.2.1 hd) (hL.2.1 _ _ hl) e1 ht⟩) nx
theorem iincW {tb : Tables} [Ours tb] {e : Env} {below : List Frame} {T target : State} {m : MethodId} {c : Code} {g : JFrame} (h : At T m c below) (hx : tb.exec = Jvm.exec) (hg : g.method = m) {k : Nat} {cst : Int} {x : Int32} {l' : Array Slot} (hd : decode c.code g.pc = .ok (.iinc k cst, 6)) (hl : g.locals[k]? = some (.val (.int x))) (hl' : storeLocals g.locals k (.int (x + Int32.ofInt cst)) = some l')
    (hr : Steps tb e below (T.setTop { g with pc := g.pc + 6, locals := l' }) target) : Steps tb e below (T.setTop g) target := by
  subst hg
  jvm_step h [h.top, hx, hd, hl, hl']
  exact hr
theorem WP.iincW {j : Nat} {cst : Int} {x : Int32} (v : Int32) (hd : decode bytes pc = .ok (.iinc j cst, 6)) (hv : Int32.ofInt cst = v) (hl : L[j]? = some (.val (.int x))) (hL' : st1 L j (.int (x + v)) = L') (nx : WP l Z C lay own mn bytes maxL ret R n0 ro Q k n (pc + 6) L' S H) : WP l Z C lay own mn bytes maxL ret R n0 ro Q k n pc L S H :=
  WP.of (fun p e s m args below meth c T locs ad Ls X A hL hz => by
    subst hv
    obtain ⟨Ls', e1, e2, e3⟩ := hL.store1 (get_lt hl) (v := .int (x + Int32.ofInt cst)) rfl
    exact ⟨Ls', hL' ▸ e2, e3.trans hz, fun t ht => Own.iincW X.here A.1 rfl (hb A.2.2.1 hd) (hL.2.1 _ _ hl) e1 ht⟩) nx
theorem WP.goto {o : Int} (hd : decode bytes pc = .ok (.goto o, 3)) (ho : 0 ≤ (pc : Int) + o) (hp : ((pc : Int) + o).toNat = pc') (nx : WP l Z C lay own mn bytes maxL ret R n0 ro Q k n pc' L S H) : WP l Z C lay own mn bytes maxL ret R n0 ro Q k n pc L S H :=
  WP.of (fun p e s m args below meth c T locs ad Ls X A hL hz => ⟨Ls, hL, hz, fun t ht => XS.goto X.here A.1 rfl rfl (hb A.2.2.1 hd) ho hp ht⟩) nx
theorem WP.ifY {cd : ClassFile.Cond} {x : Int32} {o : Int} (hd : decode bytes pc = .ok (.ifCond cd o, 3)) (hc : ifCond.holds cd x = true) (ho : 0 ≤ (pc : Int) + o) (hp : ((pc : Int) + o).toNat = pc') (nx : WP l Z C lay own mn bytes maxL ret R n0 ro Q k n pc' L S H) : WP l Z C lay own mn bytes maxL ret R n0 ro Q k n pc L (.int x :: S) H :=
  WP.of (fun p e s m args below meth c T locs ad Ls X A hL hz => ⟨Ls, hL, hz, fun t ht => XS.ifYes X.here A.1 rfl rfl (hb A.2.2.1 hd) rfl hc ho hp ht⟩) nx
theorem WP.ifN {cd : ClassFile.Cond} {x : Int32} {o : Int} (hd : decode bytes pc = .ok (.ifCond cd o, 3)) (hc : ifCond.holds cd x = false) (nx : WP l Z C lay own mn bytes maxL ret R n0 ro Q k n (pc + 3) L S H) : WP l Z C lay own mn bytes maxL ret R n0 ro Q k n pc L (.int x :: S) H :=
  WP.of (fun p e s m args below meth c T locs ad Ls X A hL hz => ⟨Ls, hL, hz, fun t ht => XS.ifNo X.here A.1 rfl (hb A.2.2.1 hd) rfl hc ht⟩) nx
theorem WP.icmpY {cd : ClassFile.Cond} {x y : Int32} {o : Int} (hd : decode bytes pc = .ok (.if_icmp cd o, 3)) (hc : if_icmp.holds cd x y = true) (ho : 0 ≤ (pc : Int) + o) (hp : ((pc : Int) + o).toNat = pc') (nx : WP l Z C lay own mn bytes maxL ret R n0 ro Q k n pc' L S H) : WP l Z C lay own mn bytes maxL ret R n0 ro Q k n pc L (.int y :: .int x :: S) H :=
  WP.of (fun p e s m args below meth c T locs ad Ls X A hL hz => ⟨Ls, hL, hz, fun t ht => XS.icmpYes X.here A.1 rfl rfl (hb A.2.2.1 hd) rfl hc ho hp ht⟩) nx
theorem WP.icmpN {cd : ClassFile.Cond} {x y : Int32} {o : Int} (hd : decode bytes pc = .ok (.if_icmp cd o, 3)) (hc : if_icmp.holds cd x y = false) (nx : WP l Z C lay own mn bytes maxL ret R n0 ro Q k n (pc + 3) L S H) : WP l Z C lay own mn bytes maxL ret R n0 ro Q k n pc L (.int y :: .int x :: S) H :=
  WP.of (fun p e s m args below meth c T locs ad Ls X A hL hz => ⟨Ls, hL, hz, fun t ht => XS.icmpNo X.here A.1 rfl (hb A.2.2.1 hd) rfl hc ht⟩) nx
theorem WP.nonnull {i : Nat} {o : Int} (hd : decode bytes pc = .ok (.ifnonnull o, 3)) (ho : 0 ≤ (pc : Int) + o) (hp : ((pc : Int) + o).toNat = pc') (nx : WP l Z C lay own mn bytes maxL ret R n0 ro Q k n pc' L S H) : WP l Z C lay own mn bytes maxL ret R n0 ro Q k n pc L (.ref i :: S) H :=
  WP.of (fun p e s m args below meth c T locs ad Ls X A hL hz => ⟨Ls, hL, hz, fun t ht => XT.ifnonnullYes X.here A.1 rfl rfl (hb A.2.2.1 hd) rfl ho hp ht⟩) nx
theorem WP.tswIn {dflt low high o : Int} {offs : Array Int} {len : Nat} {i : Int32} (hd : decode bytes pc = .ok (.tableswitch dflt low high offs, len)) (hin : ¬ (i.toInt < low ∨ i.toInt > high)) (hoff : offs[(i.toInt - low).toNat]? = some o) (ho : 0 ≤ (pc : Int) + o) (hp : ((pc : Int) + o).toNat = pc') (nx : WP l Z C lay own mn bytes maxL ret R n0 ro Q k n pc' L S H) : WP l Z C lay own mn bytes maxL ret R n0 ro Q k n pc L (.int i :: S) H :=
  WP.of (fun p e s m args below meth c T locs ad Ls X A hL hz => ⟨Ls, hL, hz, fun t ht => XS.tswIn X.here A.1 rfl rfl (hb A.2.2.1 hd) rfl hin hoff ho hp ht⟩) nx
theorem WP.tswOut {dflt low high : Int} {offs : Array Int} {len : Nat} {i : Int32} (hd : decode bytes pc = .ok (.tableswitch dflt low high offs, len)) (hout : i.toInt < low ∨ i.toInt > high) (ho : 0 ≤ (pc : Int) + dflt) (hp : ((pc : Int) + dflt).toNat = pc') (nx : WP l Z C lay own mn bytes maxL ret R n0 ro Q k n pc' L S H) : WP l Z C lay own mn bytes maxL ret R n0 ro Q k n pc L (.int i :: S) H :=
  WP.of (fun p e s m args below meth c T locs ad Ls X A hL hz => ⟨Ls, hL, hz, fun t ht => XS.tswOut X.here A.1 rfl rfl (hb A.2.2.1 hd) rfl hout ho hp ht⟩) nx
theorem tsw_miss {i : Int32} {low high : Int} (h : ∀ z : Int, low ≤ z → z ≤ high → ¬ i = Int32.ofInt z) : i.toInt < low ∨ i.toInt > high := by
  by_cases a : i.toInt < low
  · exact Or.inl a
  · by_cases b : i.toInt > high
    · exact Or.inr b
    · exact absurd (by rw [Int32.ofInt_toInt]) (h i.toInt (by omega) (by omega))
theorem WP.moved (hs : ∀ (p : Program) (e : Env) (s : State) (m : MethodId) (args : Array Value) (below : List Frame) (meth : Method) (c : Code) (T : State) (locs : List Loc) (ad : Nat → Addr) (Ls : Array Slot), Stand p l e R s m args below meth c T locs k n → Am Z own mn bytes maxL ret p s m meth c → HR Z C lay n0 ro ad H T.heap → Fr n0 locs → LR ad L Ls → Ls.size = maxL →
      ∃ T' locs', Stand p l e R s m args below meth c T' locs' k' n' ∧ HR Z C lay n0 ro ad H' T'.heap ∧ Kp ad H.length T.heap T'.heap ∧ Fr n0 locs' ∧ ∀ t, Steps p.tables e below (T'.setTop (mkF m pc' Ls (S'.map (rf ad)))) t → Steps p.tables e below (T.setTop (mkF m pc Ls (S.map (rf ad)))) t)
    (nx : WP l Z C lay own mn bytes maxL ret R n0 ro Q k' n' pc' L S' H') : WP l Z C lay own mn bytes maxL ret R n0 ro Q k n pc L S H := by
  intro p e s m args below meth c T locs ad Ls X A hr N hL hz
  obtain ⟨T', locs', X', hr', K, N', st⟩ := hs p e s m args below meth c T locs ad Ls X A hr N hL hz
  obtain ⟨s₂, v, H2, locs2, h1, h2, h3, h4, h5, h6, h7⟩ := nx p e s m args below meth c T' locs' ad Ls X' A hr' N' hL hz
  exact ⟨s₂, v, H2, locs2, st _ h1, h2, h3, h4, h5, Kp.trans hr K h6, h7⟩
theorem WP.getfield {idx i j : Nat} {f d : String} {vs : List Value} {v : Value} (hd : decode bytes pc = .ok (.getfield idx, 3)) (hw : (Cond.fieldLink own idx C f d).before a0 Z = true) (hj : lay[j]? = some (f, d)) (hH : H[i]? = some (.inl vs)) (hv : vs[j]? = some v) (nx : WP l Z C lay own mn bytes maxL ret R n0 ro Q k n (pc + 3) L (v :: S) H) : WP l Z C lay own mn bytes maxL ret R n0 ro Q k n pc L (.ref i :: S) H :=
  WP.moved (fun p e s m args below meth c T locs ad Ls X A hr N hL hz => by
    have F := (hr.1 i _ hH).2 j _ v hj hv
    obtain ⟨T', X', e', st⟩ := getF X A.1 A.2.1 A.2.2.2.2.2.2.1 (host := "") (Or.inl hw) Via.refl rfl F (g := mkF m pc Ls (.ref (ad i) :: S.map (rf ad))) rfl rfl (hb A.2.2.1 hd)
    exact ⟨T', locs, X', by rw [e']; exact hr, by rw [e']; exact Kp.refl _ _ _, N, fun t ht => st t ht⟩) nx
theorem WP.iaload {i : Nat} {xs : List Int32} {j x : Int32} (hd : decode bytes pc = .ok (.iaload, 1)) (hH : H[i]? = some (cI xs)) (hx : rd xs j = some x) (nx : WP l Z C lay own mn bytes maxL ret R n0 ro Q k n (pc + 1) L (.int x :: S) H) : WP l Z C lay own mn bytes maxL ret R n0 ro Q k n pc L (.int j :: .ref i :: S) H :=
  WP.moved (fun p e s m args below meth c T locs ad Ls X A hr N hL hz => by
    obtain ⟨cl, Ar, hsl⟩ := hr.1 i _ hH
    obtain ⟨q1, q2⟩ := rd_slots hsl hx
    exact ⟨T, locs, X, hr, Kp.refl _ _ _, N, fun t ht => X.iaload A.1 (j := j) Ar.1 (State.isArrayOf_alike A.2.1.alike Ar.2.1) Ar.2.2 q1 q2 (g := mkF m pc Ls (.int j :: .ref (ad i) :: S.map (rf ad))) rfl rfl (hb A.2.2.1 hd) _ ht⟩) nx
theorem WP.laload {i : Nat} {xs : List Int64} {j : Int32} {x : Int64} (hd : decode bytes pc = .ok (.laload, 1)) (hH : H[i]? = some (cJ xs)) (hx : rd xs j = some x) (nx : WP l Z C lay own mn bytes maxL ret R n0 ro Q k n (pc + 1) L (.long x :: S) H) : WP l Z C lay own mn bytes maxL ret R n0 ro Q k n pc L (.int j :: .ref i :: S) H :=
  WP.moved (fun p e s m args below meth c T locs ad Ls X A hr N hL hz => by
    obtain ⟨cl, Ar, hsl⟩ := hr.1 i _ hH
    obtain ⟨q1, q2⟩ := rd_slots hsl hx
    exact ⟨T, locs, X, hr, Kp.refl _ _ _, N, fun t ht => X.laload A.1 (j := j) Ar.1 (State.isArrayOf_alike A.2.1.alike Ar.2.1) Ar.2.2 q1 q2 (g := mkF m pc Ls (.int j :: .ref (ad i) :: S.map (rf ad))) rfl rfl (hb A.2.2.1 hd) _ ht⟩) nx
theorem baloadZ {p : Program} {e : Env} {s : State} {m : MethodId} {args : Array Value} {below : List Frame} {meth : Method} {c : Code} {T : State} {locs : List Loc} {cells slots : Nat} (X : Stand p l e R s m args below meth c T locs cells slots) (hexec : p.tables.exec = Jvm.exec) {a : Addr} {cell : Cell} {j : Int32} {v : Value} (hcell : T.heap[a]? = some cell) (harr : s.isArrayOf cell .boolean) (hknown : cell.vm ≠ .unknown)
    (hin : ¬ (j < 0 ∨ cell.slots.size ≤ j.toNatClampNeg)) (hv : cell.slots[j.toNatClampNeg]? = some v) {g : JFrame} (hg : g.method = m) {rest : List Value} (hstack : g.stack = .int j :: .ref a :: rest) (hdg : decode c.code g.pc = .ok (.baload, 1)) (target : State)
    (hrest : Steps p.tables e below (T.setTop { g with pc := g.pc + 1, stack := v :: rest }) target) : Steps p.tables e below (T.setTop g) target := by
  have hT := State.isArrayOf_alike X.warmed.alike harr
  subst hg
  jvm_step X.here [hexec, hdg, baload.wp_booleans (e := e) (s := T) (f := g) X.here.top hstack hcell hT hin hknown hv]
  exact hrest
theorem WP.baload {i : Nat} {xs : List Int32} {j x : Int32} (hd : decode bytes pc = .ok (.baload, 1)) (hH : H[i]? = some (cZ xs)) (hx : rd xs j = some x) (nx : WP l Z C lay own mn bytes maxL ret R n0 ro Q k n (pc + 1) L (.int x :: S) H) : WP l Z C lay own mn bytes maxL ret R n0 ro Q k n pc L (.int j :: .ref i :: S) H :=
  WP.moved (fun p e s m args below meth c T locs ad Ls X A hr N hL hz => by
    obtain ⟨cl, Ar, hsl⟩ := hr.1 i _ hH
    obtain ⟨q1, q2⟩ := rd_slots hsl hx
    exact ⟨T, locs, X, hr, Kp.refl _ _ _, N, fun t ht => baloadZ X A.1 (j := j) Ar.1 (State.isArrayOf_alike A.2.1.alike Ar.2.1) Ar.2.2 q1 q2 (g := mkF m pc Ls (.int j :: .ref (ad i) :: S.map (rf ad))) rfl rfl (hb A.2.2.1 hd) _ ht⟩) nx
theorem WP.arraylength {i : Nat} {xs : List Int32} (hd : decode bytes pc = .ok (.arraylength, 1)) (hH : H[i]? = some (cI xs)) (nx : WP l Z C lay own mn bytes maxL ret R n0 ro Q k n (pc + 1) L (.int xs.length.toInt32 :: S) H) : WP l Z C lay own mn bytes maxL ret R n0 ro Q k n pc L (.ref i :: S) H :=
  WP.moved (fun p e s m args below meth c T locs ad Ls X A hr N hL hz => by
    obtain ⟨cl, Ar, hsl⟩ := hr.1 i _ hH
    have e1 : cl.slots.size = xs.length := by rw [← Array.length_toList, hsl, List.length_map]
    refine ⟨T, locs, X, hr, Kp.refl _ _ _, N, fun t ht => X.arraylength A.1 Ar.1 (State.isArrayOf_alike A.2.1.alike Ar.2.1) (g := mkF m pc Ls (.ref (ad i) :: S.map (rf ad))) rfl rfl (hb A.2.2.1 hd) _ ?_⟩
    rw [e1]; exact ht) nx
theorem WP.iastore {i : Nat} {xs xs' : List Int32} {j : Int32} {x : Int32} (hd : decode bytes pc = .ok (.iastore, 1)) (hH : H[i]? = some (cI xs)) (hi : ro ≤ i) (hx : wr xs j x = some xs') (hH' : H.set i (cI xs') = H') (nx : WP l Z C lay own mn bytes maxL ret R n0 ro Q k n (pc + 1) L S H') : WP l Z C lay own mn bytes maxL ret R n0 ro Q k n pc L (.int x :: .int j :: .ref i :: S) H :=
  WP.moved (fun p e s m args below meth c T locs ad Ls X A hr N hL hz => by
    obtain ⟨cl, Ar, hsl⟩ := hr.1 i _ hH
    obtain ⟨q1, q2⟩ := wr_slots hsl hx
    obtain ⟨T', h', X', e', w, st⟩ := stI X A.1 A.2.1 rfl Ar (j := j) (x := x) q1 (g := mkF m pc Ls (.int x :: .int j :: .ref (ad i) :: S.map (rf ad))) rfl rfl (hb A.2.2.1 hd)
    subst e'
    have hi' := get_lt hH
    have P := hr.put (h' := T'.heap) (c := cI xs') hi' w.size (fun a cz hne q => by
      obtain ⟨c', g1, -, -, -, g5, -⟩ := wr_at w q
      rw [g5 hne] at g1; exact g1) ⟨_, Ar.same w, q2⟩
    exact ⟨T', _, X', hH' ▸ P.1, P.2, Fr.snoc X' N (hr.2.2.2.1 i hi' hi), fun t ht => st t ht⟩) nx
theorem WP.lastore {i : Nat} {xs xs' : List Int64} {j : Int32} {x : Int64} (hd : decode bytes pc = .ok (.lastore, 1)) (hH : H[i]? = some (cJ xs)) (hi : ro ≤ i) (hx : wr xs j x = some xs') (hH' : H.set i (cJ xs') = H') (nx : WP l Z C lay own mn bytes maxL ret R n0 ro Q k n (pc + 1) L S H') : WP l Z C lay own mn bytes maxL ret R n0 ro Q k n pc L (.long x :: .int j :: .ref i :: S) H :=
  WP.moved (fun p e s m args below meth c T locs ad Ls X A hr N hL hz => by
    obtain ⟨cl, Ar, hsl⟩ := hr.1 i _ hH
    obtain ⟨q1, q2⟩ := wr_slots hsl hx
    obtain ⟨T', h', X', e', w, st⟩ := stJ X A.1 A.2.1 rfl Ar (j := j) (x := x) q1 (g := mkF m pc Ls (.long x :: .int j :: .ref (ad i) :: S.map (rf ad))) rfl rfl (hb A.2.2.1 hd)
    subst e'
    have hi' := get_lt hH
    have P := hr.put (h' := T'.heap) (c := cJ xs') hi' w.size (fun a cz hne q => by
      obtain ⟨c', g1, -, -, -, g5, -⟩ := wr_at w q
      rw [g5 hne] at g1; exact g1) ⟨_, Ar.same w, q2⟩
    exact ⟨T', _, X', hH' ▸ P.1, P.2, Fr.snoc X' N (hr.2.2.2.1 i hi' hi), fun t ht => st t ht⟩) nx
theorem WP.bastore {i : Nat} {xs xs' : List Int32} {j : Int32} {x : Int32} (hd : decode bytes pc = .ok (.bastore, 1)) (hH : H[i]? = some (cZ xs)) (hi : ro ≤ i) (hx : wr xs j (x &&& 1) = some xs') (hH' : H.set i (cZ xs') = H') (nx : WP l Z C lay own mn bytes maxL ret R n0 ro Q k n (pc + 1) L S H') : WP l Z C lay own mn bytes maxL ret R n0 ro Q k n pc L (.int x :: .int j :: .ref i :: S) H :=
  WP.moved (fun p e s m args below meth c T locs ad Ls X A hr N hL hz => by
    obtain ⟨cl, Ar, hsl⟩ := hr.1 i _ hH
    obtain ⟨q1, q2⟩ := wr_slots hsl hx
    obtain ⟨T', h', X', e', w, st⟩ := stZ X A.1 A.2.1 rfl Ar (j := j) (x := x) q1 (g := mkF m pc Ls (.int x :: .int j :: .ref (ad i) :: S.map (rf ad))) rfl rfl (hb A.2.2.1 hd)
    subst e'
    have hi' := get_lt hH
    have P := hr.put (h' := T'.heap) (c := cZ xs') hi' w.size (fun a cz hne q => by
      obtain ⟨c', g1, -, -, -, g5, -⟩ := wr_at w q
      rw [g5 hne] at g1; exact g1) ⟨_, Ar.same w, q2⟩
    exact ⟨T', _, X', hH' ▸ P.1, P.2, Fr.snoc X' N (hr.2.2.2.1 i hi' hi), fun t ht => st t ht⟩) nx
/-- a field of the one class is written -/
theorem WP.put {idx i j kk : Nat} {f d : String} {vs : List Value} {v v' old : Value} {ty : FieldType} (hd : decode bytes pc = .ok (.putfield idx, 3)) (hw : (Cond.fieldLink own idx C f d).before a0 Z = true) (hl : (Cond.lays C C f d).before a0 Z = true ∨ ((Cond.laysFinal C C f d).before a0 Z = true ∧ own = C ∧ mn = "<init>")) (wi : (Cond.instantiable C kk).before a0 Z = true)
    (hlay : ∀ (a b : Nat) (f g : String × String), lay[a]? = some f → lay[b]? = some g → a ≠ b → RoadKit.slotOf Z C f.1 f.2 ≠ RoadKit.slotOf Z C g.1 g.2) (hty : parseFieldDescriptor d = some ty) (hn : ∀ ad, narrow ty (rf ad v) = rf ad v') (hf : ∀ ad, fits ty (rf ad v') = true)
    (hj : lay[j]? = some (f, d)) (hH : H[i]? = some (.inl vs)) (hv : vs[j]? = some old) (hi : ro ≤ i) (hH' : H.set i (.inl (vs.set j v')) = H') (nx : WP l Z C lay own mn bytes maxL ret R n0 ro Q k n (pc + 3) L S H') : WP l Z C lay own mn bytes maxL ret R n0 ro Q k n pc L (v :: .ref i :: S) H :=
  WP.moved (fun p e s m args below meth c T locs ad Ls X A hr N hL hz => by
    obtain ⟨E, F⟩ := hr.1 i _ hH
    obtain ⟨T', h', X', e', w, st⟩ := putFN X A.1 A.2.1 A.2.2.2.2.2.2.1 hw Via.refl rfl (F j _ old hj hv) E (hl.imp id fun q => ⟨q.1, q.2.1, A.2.2.2.2.2.2.2.trans q.2.2⟩) wi hty (hn ad) (hf ad) (g := mkF m pc Ls (rf ad v :: .ref (ad i) :: S.map (rf ad))) rfl rfl (hb A.2.2.1 hd)
    subst e'
    have hi' := get_lt hH
    have P := hr.put (h' := T'.heap) (c := .inl (vs.set j v')) hi' w.size (fun a cz hne q => by
      obtain ⟨c', g1, -, -, -, g5, -⟩ := wr_at w q
      rw [g5 hne] at g1; exact g1) ⟨E.wr w, fun a g u hg hu => by
        rw [List.getElem?_set] at hu
        by_cases e : j = a
        · subst e
          cases hj.symm.trans hg
          rw [if_pos rfl, if_pos (get_lt hv)] at hu
          cases hu
          exact (F j _ old hj hv).same w
        · rw [if_neg e] at hu
          exact (F a g u hg hu).other w (Or.inr (hlay a j g (f, d) hg hj (Ne.symm e)))⟩
    exact ⟨T', _, X', hH' ▸ P.1, P.2, Fr.snoc X' N (hr.2.2.2.1 i hi' hi), fun t ht => st t ht⟩) nx
/-- newarray -/
theorem WP.newarray {aty : ArrayType} {c0 : OwnC} {cnt : Int32} (hd : decode bytes pc = .ok (.newarray aty, 2)) (hw : (Cond.arrayClass (newarray.typeOf aty)).before a0 Z = true) (hn : ¬ cnt < 0) (hb8 : cnt.toNatClampNeg * 8 ≤ 536870912) (hc : k + 1 ≤ R.cells) (hl : n + cnt.toNatClampNeg ≤ R.slots)
    (h0 : (aty = .int ∧ c0 = cI (List.replicate cnt.toNatClampNeg 0)) ∨ (aty = .long ∧ c0 = cJ (List.replicate cnt.toNatClampNeg 0)) ∨ (aty = .boolean ∧ c0 = cZ (List.replicate cnt.toNatClampNeg 0)))
    (nx : WP l Z C lay own mn bytes maxL ret R n0 ro Q (k + 1) (n + cnt.toNatClampNeg) (pc + 2) L (.ref H.length :: S) (H ++ [c0])) : WP l Z C lay own mn bytes maxL ret R n0 ro Q k n pc L (.int cnt :: S) H :=
  WP.moved (fun p e s m args below meth c T locs ad Ls X A hr N hL hz => by
    have hcb : componentBytes (newarray.typeOf aty) ≤ 8 := by cases aty <;> decide
    obtain ⟨cA, kA, comp, h1, h2, h3, X', st⟩ := X.newarrayPrim A.1 (mvA A.2.1 hw) (g := mkF m pc Ls (.int cnt :: S.map (rf ad))) rfl (hb A.2.2.1 hd) rfl hn (Nat.le_trans (Nat.mul_le_mul (Nat.le_refl _) hcb) hb8) hc hl
    rw [A.2.1.alike.findClass] at h1
    obtain ⟨kZ, z1, -⟩ := Vm.findClass_spec h1
    obtain ⟨k', z2, z3⟩ := A.2.1.alike.2.2 _ _ z1
    cases h2.symm.trans z2
    have hE : Ext T.heap (T.heap.push { cls := cA, slots := Array.replicate cnt.toNatClampNeg (defaultValue (newarray.typeOf aty)), vm := .none }) := ⟨by simp, fun a c h => by
      rw [Array.getElem?_push_lt (Array.getElem?_eq_some_iff.mp h).1]; exact (Array.getElem?_eq_getElem _).symm.trans h⟩
    have Ar : Arr Z (T.heap.push { cls := cA, slots := Array.replicate cnt.toNatClampNeg (defaultValue (newarray.typeOf aty)), vm := .none }) T.heap.size { cls := cA, slots := Array.replicate cnt.toNatClampNeg (defaultValue (newarray.typeOf aty)), vm := .none } (newarray.typeOf aty) :=
      ⟨by simp, ⟨by simp, kZ, z1, comp, by rw [← h3, z3]⟩, by simp⟩
    have hc0 : CelOk Z C lay ad (T.heap.push { cls := cA, slots := Array.replicate cnt.toNatClampNeg (defaultValue (newarray.typeOf aty)), vm := .none }) T.heap.size c0 := by
      rcases h0 with ⟨rfl, rfl⟩ | ⟨rfl, rfl⟩ | ⟨rfl, rfl⟩
      all_goals exact ⟨_, Ar, by simp [defaultValue, newarray.typeOf]⟩
    have P := hr.push (h' := T.heap.push _) (by simp) hE hc0
    refine ⟨_, locs, X', P.1, P.2.1, N, fun t ht => st t ?_⟩
    have e0 : (List.map (rf ad) (.ref H.length :: S)) = .ref T.heap.size :: S.map (rf ad) := by show (Value.ref (ad H.length) :: _) = _; rw [P.2.2]
    rw [e0] at ht; exact ht) nx
theorem rf_default (ad : Nat → Addr) (ty : FieldType) : rf ad (defaultValue ty) = defaultValue ty := by cases ty <;> rfl
/-- new -/
theorem WP.new {idx kk : Nat} {vs : List Value} (hd : decode bytes pc = .ok (.new idx, 3)) (hw : (Cond.classLink own idx C).before a0 Z = true) (wi : (Cond.instantiable C kk).before a0 Z = true) (wz : (Cond.initialized C).before a0 Z = true) (hc : k + 1 ≤ R.cells) (hl : n + kk ≤ R.slots)
    (h0 : ∀ (i : Nat) (f : String × String) (v : Value), lay[i]? = some f → vs[i]? = some v → Laid Z a0 C C f.1 f.2 ∧ ∃ ty, parseFieldDescriptor f.2 = some ty ∧ v = defaultValue ty)
    (nx : WP l Z C lay own mn bytes maxL ret R n0 ro Q (k + 1) (n + kk) (pc + 3) L (.ref H.length :: S) (H ++ [.inl vs])) : WP l Z C lay own mn bytes maxL ret R n0 ro Q k n pc L S H :=
  WP.moved (fun p e s m args below meth c T locs ad Ls X A hr N hL hz => by
    obtain ⟨vm', cC, kC, h1, h2, h3, h4, X', st⟩ := X.newCold A.1 A.2.2.2.2.2.2.1 (mv A.2.1 hw) (mv A.2.1 wi) (mv A.2.1 wz) (g := mkF m pc Ls (S.map (rf ad))) rfl (hb A.2.2.1 hd) hc hl
    rw [A.2.1.alike.findClass] at h1
    obtain ⟨kZ, z1, -⟩ := Vm.findClass_spec h1
    obtain ⟨k', z2, z3⟩ := A.2.1.alike.2.2 _ _ z1
    cases h2.symm.trans z2
    have ei : kC.instanceTypes = kZ.instanceTypes := by rw [z3]
    have hN : (T.heap.push { cls := cC, slots := kC.instanceTypes.map defaultValue, vm := .none })[T.heap.size]? = some { cls := cC, slots := kC.instanceTypes.map defaultValue, vm := .none } := by simp
    have hE : Ext T.heap (T.heap.push { cls := cC, slots := kC.instanceTypes.map defaultValue, vm := .none }) := ⟨by simp, fun a c h => by
      rw [Array.getElem?_push_lt (Array.getElem?_eq_some_iff.mp h).1]; exact (Array.getElem?_eq_getElem _).symm.trans h⟩
    have hc0 : CelOk Z C lay ad (T.heap.push { cls := cC, slots := kC.instanceTypes.map defaultValue, vm := .none }) T.heap.size (.inl vs) := by
      refine ⟨⟨_, kZ, hN, h1, z1, rfl, fun _ => by simp [ei]⟩, fun i f v hf hv => ?_⟩
      obtain ⟨La, ty, ht, rfl⟩ := h0 i f v hf hv
      obtain ⟨c1, k1, cf, kf, i1, f1, a1, a2, a3, a4, a5, a6, -⟩ := La.spec
      cases h1.symm.trans a1
      cases z1.symm.trans a2
      rw [rf_default]
      exact ⟨_, cf, kf, i1, f1, hN, a3, a4, by simp, rfl, a5, by simp [ei, a6, (State.fieldFound?_type a3 ht).2]⟩
    have P := hr.push (h' := T.heap.push _) (by simp) hE hc0
    refine ⟨_, locs, X', P.1, P.2.1, N, fun t ht => st t ?_⟩
    have e0 : (List.map (rf ad) (.ref H.length :: S)) = .ref T.heap.size :: S.map (rf ad) := by show (Value.ref (ad H.length) :: _) = _; rw [P.2.2]
    rw [e0] at ht; exact ht) nx
/-- Object.<init> -/
theorem WP.initO {idx i : Nat} (hd : decode bytes pc = .ok (.invokespecial idx, 3)) (w1 : (Cond.methodLink own idx Lib.objectInit).before a0 Z = true) (w2 : (Cond.instanceMethod Lib.objectInit).before a0 Z = true) (w3 : (Cond.code Lib.objectInit ⟨#[0xb1]⟩ 1 none).before a0 Z = true) (hf : 1 ≤ R.frames) (hl : (S.map fun v => v.category).sum + 12 ≤ R.locals)
    (nx : WP l Z C lay own mn bytes maxL ret R n0 ro Q k n (pc + 3) L S H) : WP l Z C lay own mn bytes maxL ret R n0 ro Q k n pc L (.ref i :: S) H :=
  WP.moved (fun p e s m args below meth c T locs ad Ls X A hr N hL hz => by
    obtain ⟨T', X', e', st⟩ := RoadKit.initO X A.1 A.2.1 A.2.2.2.2.2.2.1 w1 w2 w3 rfl (g := mkF m pc Ls (.ref (ad i) :: S.map (rf ad))) rfl (hz.trans A.2.2.2.1.symm) rfl (hb A.2.2.1 hd) hf (W := (S.map fun v => v.category).sum) (by show 2 * 0 + _ ≤ _; rw [rf_cats]; omega) hl
    exact ⟨T', locs, X', by rw [e']; exact hr, by rw [e']; exact Kp.refl _ _ _, N, fun t ht => st t ht⟩) nx
theorem WP.leave {v : Option Value} (hk : k ≤ R.cells) (hn : n ≤ R.slots) (hv : ret = none → v = none) (hq : Q v H)
    (hs : ∀ (p : Program) (e : Env) (s : State) (m : MethodId) (args : Array Value) (below : List Frame) (meth : Method) (c : Code) (T : State) (locs : List Loc) (ad : Nat → Addr) (Ls : Array Slot) (fs : List Frame), Stand p l e R s m args below meth c T locs k n → Am Z own mn bytes maxL ret p s m meth c →
      (∀ (f : JFrame) (acts : List Action), f.method = m → f.locked = none → f.entered = [] → (doReturn e (T.setTop f) acts (v.map (rf ad))).1 = T.setFrames fs) → Steps p.tables e below (T.setTop (mkF m pc Ls (S.map (rf ad)))) (T.setFrames fs)) : WP l Z C lay own mn bytes maxL ret R n0 ro Q k n pc L S H := by
  intro p e s m args below meth c T locs ad Ls X A hr N hL hz
  obtain ⟨fs, hr', hrun, hended, hW, hsame⟩ := X.leave (v := v.map (rf ad)) (fun q => by rw [hv (A.2.2.2.2.1.symm.trans q)]; rfl) A.2.2.2.2.2.1
  exact ⟨_, v, H, locs, hs p e s m args below meth c T locs ad Ls fs X A hr', hrun, hended, hq, hr, Kp.refl _ _ _, N, ⟨_, rfl⟩, hW, hsame.mono hk hn⟩
theorem retI' {p : Program} {e : Env} {s : State} {m : MethodId} {args : Array Value} {below : List Frame} {meth : Method} {c : Code} {T : State} {locs : List Loc} {cells slots : Nat} (X : Stand p l e R s m args below meth c T locs cells slots) (hx : p.tables.exec = Jvm.exec) {pc : Nat} {Ls : Array Slot} {z : Int32} {rest : List Value} (hret : meth.sig.returnType = some .int) (hd : decode c.code pc = .ok (.ireturn, 1)) {fs : List Frame}
    (hl : ∀ (f : JFrame) (acts : List Action), f.method = m → f.locked = none → f.entered = [] → (doReturn e (T.setTop f) acts (some (.int z))).1 = T.setFrames fs) : Steps p.tables e below (T.setTop (mkF m pc Ls (.int z :: rest))) (T.setFrames fs) := by
  have hm' : T.vm.method? m = some meth := X.method'
  have hn : narrow .int (.int z) = .int z := rfl
  show Steps p.tables e below (T.setTop { method := m, pc := pc, locals := Ls, stack := _ :: rest, locked := none }) _
  jvm_step X.here [X.here.top, hx, hd, hm', hret, hn]
  first | (intro acts; rw [hl _ acts rfl rfl rfl]) | rw [hl _ _ rfl rfl rfl]
  exact Steps.refl _
theorem WP.ireturn {x : Int32} (hd : decode bytes pc = .ok (.ireturn, 1)) (hret : ret = some .int) (hk : k ≤ R.cells) (hn : n ≤ R.slots) (hq : Q (some (.int x)) H) : WP l Z C lay own mn bytes maxL ret R n0 ro Q k n pc L (.int x :: S) H :=
  WP.leave (v := some (.int x)) hk hn (fun q => by rw [hret] at q; cases q) hq fun p e s m args below meth c T locs ad Ls fs X A hr' => retI' X A.1 (A.2.2.2.2.1.trans hret) (hb A.2.2.1 hd) hr'
theorem WP.zreturn {x : Int32} (hd : decode bytes pc = .ok (.ireturn, 1)) (hret : ret = some .boolean) (hk : k ≤ R.cells) (hn : n ≤ R.slots) (hq : Q (some (.int (x &&& 1))) H) : WP l Z C lay own mn bytes maxL ret R n0 ro Q k n pc L (.int x :: S) H :=
  WP.leave (v := some (.int (x &&& 1))) hk hn (fun q => by rw [hret] at q; cases q) hq fun p e s m args below meth c T locs ad Ls fs X A hr' => retN X A.1 (t := .boolean) (A.2.2.2.2.1.trans hret) (Or.inl rfl) (hb A.2.2.1 hd) hr'
theorem WP.lreturn {x : Int64} (hd : decode bytes pc = .ok (.lreturn, 1)) (hret : ret = some .long) (hk : k ≤ R.cells) (hn : n ≤ R.slots) (hq : Q (some (.long x)) H) : WP l Z C lay own mn bytes maxL ret R n0 ro Q k n pc L [.long x] H :=
  WP.leave (v := some (.long x)) hk hn (fun q => by rw [hret] at q; cases q) hq fun p e s m args below meth c T locs ad Ls fs X A hr' => X.lreturnOut A.1 (A.2.2.2.2.1.trans hret) (hb A.2.2.1 hd) hr'
theorem WP.vreturn (hd : decode bytes pc = .ok (.return_, 1)) (hret : ret = none) (hk : k ≤ R.cells) (hn : n ≤ R.slots) (hq : Q none H) : WP l Z C lay own mn bytes maxL ret R n0 ro Q k n pc L [] H :=
  WP.leave (v := none) hk hn (fun _ => rfl) hq fun p e s m args below meth c T locs ad Ls fs X A hr' => X.returnOut A.1 (A.2.2.2.2.1.trans hret) (hb A.2.2.1 hd) hr'
end Rules
/-! ## a callee's promise, said of the small view -/
def QQ (Z : State) (C : String) (lay : List (String × String)) (n0 ro : Nat) (ad : Nat → Addr) (N : Nat) (h : Heap) (Q : Option Value → List OwnC → Prop) (v : Option Value) (h' : Heap) (L : List Loc) : Prop :=
  ∃ w H', v = w.map (rf ad) ∧ Q w H' ∧ HR Z C lay n0 ro ad H' h' ∧ Kp ad N h h' ∧ Fr n0 L
def CS (l : Launch) (Z : State) (C : String) (lay : List (String × String)) (y : MethodName) (bytes : ByteArray) (maxL : Nat) (ret : Option FieldType) (R : Room) (ro : Nat) (as : List Value) (H : List OwnC) (Q : Option Value → List OwnC → Prop) : Prop :=
  ∀ (ws : List Cond) (n0 : Nat) (ad : Nat → Addr) (h : Heap), HR Z C lay n0 ro ad H h →
    MetFree l y (head1 (Cond.code y bytes maxL ret :: ws) R) (fun a U => a = (as.map (rf ad)).toArray ∧ Z.Warmed39 U.vm ∧ U.heap = h) (fun _ _ _ _ _ => True)
      (fun _ U o U' => ∃ v L, o = .returned v ∧ QQ Z C lay n0 ro ad H.length h Q v U'.heap L ∧ FrameEnd U o U' L R.cells R.slots)
section Calls
variable {l : Launch} {Z : State} {a0 : Array Value} {C : String} {lay : List (String × String)} {own mn : String} {bytes cb : ByteArray} {maxL cm : Nat} {ret cr : Option FieldType} {R Rc : Room} {n0 ro : Nat} {Q Qc : Option Value → List OwnC → Prop} {k n pc pc' : Nat} {L L' : List Slot} {S S0 as : List Value} {H H' : List OwnC} {y : MethodName}
theorem CS.of_wp (hx : plainName y.cls = true) (hn : (laid as).length ≤ maxL) (w : ∀ n0, WP l Z C lay y.cls y.name bytes maxL ret R n0 ro Q 0 0 0 (entL as maxL) [] H) : CS l Z C lay y bytes maxL ret R ro as H Q := by
  intro ws n0 ad h hr
  refine MetFree.of_bodySF (plainFor_of_name hx) hisR ?_
  intro p e s m args below meth c s₁ Bd hml0 hP hK
  obtain ⟨rfl, hZ, hh⟩ := hP
  have e0 : s₁.heap = h := by rw [← hh, Bd.state]; rfl
  obtain ⟨E1, E2⟩ := entry_LR ad as maxL hn
  obtain ⟨s₂, v, H', locs', h1, h2, h3, h4, h5, h6, h7, h8⟩ := w n0 p e s m _ below meth c s₁ [] ad _ (Stand.of_body Bd) ⟨Bd.exec, hZ, Bd.bytes, hml0, Bd.returns, Bd.notSynchronized, findClass_of_methodNamed Bd.named, (name_of_methodNamed Bd.named Bd.method).1⟩ (by rw [e0]; exact hr) (Fr.nil n0) E1 E2
  rw [e0] at h6
  exact ⟨s₂, _, h1, h2, h3, _, locs', rfl, ⟨v, H', rfl, h4, h5, h6, h7⟩, h8⟩
theorem CS.mono (cs : CS l Z C lay y bytes maxL ret R ro as H Q) (h : ∀ v H', Q v H' → Qc v H') : CS l Z C lay y bytes maxL ret R ro as H Qc := by
  intro ws n0 ad hh hr p e ha hc hk s m args below hf happ hP hK
  obtain ⟨N, o, h1, h2, h3, v, L, h4, ⟨w, H', g1, g2, g3⟩, h5⟩ := cs ws n0 ad hh hr p e ha hc hk s m args below hf happ hP hK
  exact ⟨N, o, h1, h2, h3, v, L, h4, ⟨w, H', g1, h _ _ g2, g3⟩, h5⟩
/-- what every call leaves: the walk goes on behind it -/
theorem go_on {p : Program} {e : Env} {s : State} {m : MethodId} {args : Array Value} {below : List Frame} {meth : Method} {c : Code} {T : State} {locs : List Loc} {ad : Nat → Addr} {Ls : Array Slot} {B : Pt} {v : Option Value} {Lc : List Loc} {s₀ : State}
    (nx : ∀ v H', Qc v H' → WP l Z C lay own mn bytes maxL ret R n0 ro Q (k + Rc.cells) (n + Rc.slots) (pc + 3) L (v.toList ++ S) H') (X : Stand p l e R s m args below meth c B.U B.locs B.cells B.slots) (A : Am Z own mn bytes maxL ret p s m meth c) (hr : HR Z C lay n0 ro ad H T.heap) (N : Fr n0 locs) (hL : LR ad L Ls) (hz : Ls.size = maxL)
    (hQ : QQ Z C lay n0 ro ad H.length T.heap Qc v B.U.heap Lc) (e1 : B.locs = locs ++ Lc) (e2 : B.cells = k + Rc.cells) (e3 : B.slots = n + Rc.slots) (st : Steps p.tables e below s₀ (B.U.setTop (mkF m (pc + 3) Ls (v.toList ++ S.map (rf ad))))) :
    ∃ (s₂ : State) (v : Option Value) (H' : List OwnC) (locs' : List Loc), Steps p.tables e below s₀ s₂ ∧ s₂.status = .running ∧ Ended s₂ below (.returned (v.map (rf ad))) ∧ Q v H' ∧ HR Z C lay n0 ro ad H' s₂.heap ∧ Kp ad H.length T.heap s₂.heap ∧ Fr n0 locs' ∧ FrameEnd s (.returned (v.map (rf ad))) s₂ locs' R.cells R.slots := by
  obtain ⟨w, H1, rfl, g2, g3, g4, g5⟩ := hQ
  rw [e1, e2, e3] at X
  obtain ⟨s₂, v, H2, locs2, h1, h2, h3, h4, h5, h6, h7⟩ := nx w H1 g2 p e s m args below meth c B.U _ ad Ls X A g3 (N.app g5) hL hz
  refine ⟨s₂, v, H2, locs2, st.trans ?_, h2, h3, h4, h5, Kp.trans hr g4 h6, h7⟩
  have e0 : (w.toList ++ S).map (rf ad) = (w.map (rf ad)).toList ++ S.map (rf ad) := by cases w <;> rfl
  rw [← e0]; exact h1
theorem stack_of (ad : Nat → Addr) (h : S0 = as.reverse ++ S) : S0.map (rf ad) = (as.map (rf ad)).reverse ++ S.map (rf ad) := by rw [h, List.map_append, List.map_reverse]
theorem stack_of1 {i : Nat} (ad : Nat → Addr) (h : S0 = as.reverse ++ .ref i :: S) : S0.map (rf ad) = (as.map (rf ad)).reverse ++ .ref (ad i) :: S.map (rf ad) := by rw [h, List.map_append, List.map_reverse]; rfl
theorem WP.callS {idx : Nat} (hd : decode bytes pc = .ok (.invokestatic idx, 3)) (w1 : (Cond.methodLink own idx y).before a0 Z = true) (w2 : (Cond.static y).before a0 Z = true) (w3 : (Cond.initialized y.cls).before a0 Z = true) (w4 : (Cond.code y cb cm cr).before a0 Z = true) (hy : y.cls ≠ "java/lang/invoke/MethodHandle" ∧ y.cls ≠ "java/lang/invoke/VarHandle")
    (cs : CS l Z C lay y cb cm cr Rc ro as H Qc) (hS : S0 = as.reverse ++ S) (hlen : ∀ sig, parseMethodDescriptor y.desc = some sig → as.length = sig.parameters.length) (hf : Rc.frames + 1 ≤ R.frames) (hl : (S.map fun v => v.category).sum + (cm + 11) + Rc.locals ≤ R.locals) (hc : k + Rc.cells ≤ R.cells) (hs : n + Rc.slots ≤ R.slots)
    (nx : ∀ v H', Qc v H' → WP l Z C lay own mn bytes maxL ret R n0 ro Q (k + Rc.cells) (n + Rc.slots) (pc + 3) L (v.toList ++ S) H') : WP l Z C lay own mn bytes maxL ret R n0 ro Q k n pc L S0 H := by
  intro p e s m args below meth c T locs ad Ls X A hr N hL hz
  obtain ⟨v, vm₁, B, hW₁, X', ⟨Lc, hQ, e1, e2, e3⟩, st⟩ := Jvm.LawKit.callS X A.1 (y := y) A.2.2.2.2.2.2.1 (mvT A.2.1 w1) (mvT A.2.1 w2) (mvT A.2.1 w3) (mvT A.2.1 w4) hy
    (backOf (W := (S.map fun v => v.category).sum) (cs [] n0 ad T.heap hr) A.2.1 w4 w3 hf hl) (g := mkF m pc Ls (S0.map (rf ad))) rfl (hz.trans A.2.2.2.1.symm) (argsL := as.map (rf ad)) (rest := S.map (rf ad)) (fun sig q => by rw [List.length_map]; exact hlen sig q) (stack_of ad hS) (by show 2 * 0 + _ ≤ _; rw [rf_cats]; omega) (hb A.2.2.1 hd) (fun _ _ => ⟨rfl, rfl, hc, hs⟩)
  exact go_on (T := T) nx X' A hr N hL hz hQ e1 e2 e3 (st _ (Steps.refl _))
theorem WP.callV {idx i : Nat} {vs : List Value} (hd : decode bytes pc = .ok (.invokevirtual idx, 3)) (w1 : (Cond.methodLink own idx y).before a0 Z = true) (w2 : (Cond.declares y).before a0 Z = true) (w3 : (Cond.selects C y y).before a0 Z = true) (w4 : (Cond.instanceMethod y).before a0 Z = true) (w5 : (Cond.code y cb cm cr).before a0 Z = true) (w6 : (Cond.initialized y.cls).before a0 Z = true) (hy : y.cls ≠ "java/lang/invoke/MethodHandle" ∧ y.cls ≠ "java/lang/invoke/VarHandle")
    (hH : H[i]? = some (.inl vs)) (cs : CS l Z C lay y cb cm cr Rc ro (.ref i :: as) H Qc) (hS : S0 = as.reverse ++ .ref i :: S) (hlen : ∀ sig, parseMethodDescriptor y.desc = some sig → as.length = sig.parameters.length) (hf : Rc.frames + 1 ≤ R.frames) (hl : (S.map fun v => v.category).sum + (cm + 11) + Rc.locals ≤ R.locals) (hc : k + Rc.cells ≤ R.cells) (hs : n + Rc.slots ≤ R.slots)
    (nx : ∀ v H', Qc v H' → WP l Z C lay own mn bytes maxL ret R n0 ro Q (k + Rc.cells) (n + Rc.slots) (pc + 3) L (v.toList ++ S) H') : WP l Z C lay own mn bytes maxL ret R n0 ro Q k n pc L S0 H := by
  intro p e s m args below meth c T locs ad Ls X A hr N hL hz
  obtain ⟨cq, kq, qa, qb, qc⟩ := isOf A.2.1 rfl (hr.1 i _ hH).1
  obtain ⟨v, vm₁, B, hW₁, X', ⟨Lc, hQ, e1, e2, e3⟩, st⟩ := X.virtualBack A.1 (y := y) (z := y) A.2.2.2.2.2.2.1 (mvT A.2.1 w1) (mvT A.2.1 w2) (notFace_of_selects (args := #[]) (mvT A.2.1 w3)) (mvT A.2.1 w3) (mvT A.2.1 w4) hy
    (backOf (W := (S.map fun v => v.category).sum) (cs [] n0 ad T.heap hr) A.2.1 w5 w6 hf hl) qa qc (g := mkF m pc Ls (S0.map (rf ad))) rfl (hz.trans A.2.2.2.1.symm) (Steps.refl _) (argsL := as.map (rf ad)) (rest := S.map (rf ad)) (fun sig q => by rw [List.length_map]; exact hlen sig q) (stack_of1 ad hS) (by show 2 * 0 + _ ≤ _; rw [rf_cats]; omega) (hb A.2.2.1 hd) (fun _ _ => ⟨rfl, rfl, hc, hs⟩)
  exact go_on (T := T) nx X' A hr N hL hz hQ e1 e2 e3 st
theorem WP.callP {idx i kk : Nat} {vs : List Value} (hd : decode bytes pc = .ok (.invokevirtual idx, 3)) (w1 : (Cond.methodLink own idx y).before a0 Z = true) (w2 : (Cond.privateMethod y).before a0 Z = true) (wi : (Cond.instantiable y.cls kk).before a0 Z = true) (w4 : (Cond.instanceMethod y).before a0 Z = true) (w5 : (Cond.code y cb cm cr).before a0 Z = true) (w6 : (Cond.initialized y.cls).before a0 Z = true) (hy : y.cls ≠ "java/lang/invoke/MethodHandle" ∧ y.cls ≠ "java/lang/invoke/VarHandle")
    (hH : H[i]? = some (.inl vs)) (cs : CS l Z C lay y cb cm cr Rc ro (.ref i :: as) H Qc) (hS : S0 = as.reverse ++ .ref i :: S) (hlen : ∀ sig, parseMethodDescriptor y.desc = some sig → as.length = sig.parameters.length) (hf : Rc.frames + 1 ≤ R.frames) (hl : (S.map fun v => v.category).sum + (cm + 11) + Rc.locals ≤ R.locals) (hc : k + Rc.cells ≤ R.cells) (hs : n + Rc.slots ≤ R.slots)
    (nx : ∀ v H', Qc v H' → WP l Z C lay own mn bytes maxL ret R n0 ro Q (k + Rc.cells) (n + Rc.slots) (pc + 3) L (v.toList ++ S) H') : WP l Z C lay own mn bytes maxL ret R n0 ro Q k n pc L S0 H := by
  intro p e s m args below meth c T locs ad Ls X A hr N hL hz
  obtain ⟨cq, q, q'⟩ := (hr.1 i _ hH).1.cell
  have hpr : s.PrivateAt y := Cond.privateMethod_at (mvP A.2.1 w2 (args := #[]))
  have hin : (Cond.instanceMethod y).before args s = true := mvT A.2.1 w4
  have hsel : (Cond.selects y.cls y y).before args s = true := by
    have wi' : (Cond.instantiable y.cls kk).before args s = true := mvT A.2.1 wi
    obtain ⟨c1, k1, g1, g2, g3, g4, -⟩ := Cond.instantiable_spec wi'
    have g5 : k1.isInterface = false := by
      cases hq : k1.isInterface
      · rfl
      · rw [hq] at g4; cases g4
    exact selects_self_of_private g1 g2 g5 hpr hin hy
  obtain ⟨v, vm₁, B, hW₁, X', ⟨Lc, hQ, e1, e2, e3⟩, st⟩ := X.privateBack A.1 (y := y) A.2.2.2.2.2.2.1 (mvT A.2.1 w1) hin hsel hpr (mvT A.2.1 w5) hy
    (backOf (W := (S.map fun v => v.category).sum) (cs [] n0 ad T.heap hr) A.2.1 w5 w6 hf hl) (g := mkF m pc Ls (S0.map (rf ad))) rfl (hz.trans A.2.2.2.1.symm) (Steps.refl _) q q' (argsL := as.map (rf ad)) (rest := S.map (rf ad)) (fun sig q => by rw [List.length_map]; exact hlen sig q) (stack_of1 ad hS) (by show 2 * 0 + _ ≤ _; rw [rf_cats]; omega) (hb A.2.2.1 hd) (fun _ _ => ⟨rfl, rfl, hc, hs⟩)
  exact go_on (T := T) nx X' A hr N hL hz hQ e1 e2 e3 st
theorem WP.callI {idx i : Nat} (hd : decode bytes pc = .ok (.invokespecial idx, 3)) (hn1 : y.name = "<init>") (w1 : (Cond.methodLink own idx y).before a0 Z = true) (w4 : (Cond.instanceMethod y).before a0 Z = true) (w5 : (Cond.code y cb cm none).before a0 Z = true) (w6 : (Cond.initialized y.cls).before a0 Z = true) (hy : y.cls ≠ "java/lang/invoke/MethodHandle" ∧ y.cls ≠ "java/lang/invoke/VarHandle")
    (cs : CS l Z C lay y cb cm none Rc ro (.ref i :: as) H Qc) (hS : S0 = as.reverse ++ .ref i :: S) (hlen : ∀ sig, parseMethodDescriptor y.desc = some sig → as.length = sig.parameters.length) (hf : Rc.frames + 1 ≤ R.frames) (hl : (S.map fun v => v.category).sum + (cm + 11) + Rc.locals ≤ R.locals) (hc : k + Rc.cells ≤ R.cells) (hs : n + Rc.slots ≤ R.slots)
    (nx : ∀ v H', Qc v H' → WP l Z C lay own mn bytes maxL ret R n0 ro Q (k + Rc.cells) (n + Rc.slots) (pc + 3) L (v.toList ++ S) H') : WP l Z C lay own mn bytes maxL ret R n0 ro Q k n pc L S0 H := by
  intro p e s m args below meth c T locs ad Ls X A hr N hL hz
  obtain ⟨v, vm₁, B, hW₁, X', ⟨Lc, hQ, e1, e2, e3⟩, st⟩ := X.specialBack A.1 (y := y) hn1 A.2.2.2.2.2.2.1 (mvT A.2.1 w1) (mvT A.2.1 w4) (mvT A.2.1 w5) hy
    (backOf (W := (S.map fun v => v.category).sum) (cs [] n0 ad T.heap hr) A.2.1 w5 w6 hf hl) (g := mkF m pc Ls (S0.map (rf ad))) rfl (hz.trans A.2.2.2.1.symm) (Steps.refl _) (a := ad i) (argsL := as.map (rf ad)) (rest := S.map (rf ad)) (fun sig q => by rw [List.length_map]; exact hlen sig q) (stack_of1 ad hS) (by show 2 * 0 + _ ≤ _; rw [rf_cats]; omega) (hb A.2.2.1 hd) (fun _ _ => ⟨rfl, rfl, hc, hs⟩)
  exact go_on (T := T) nx X' A hr N hL hz hQ e1 e2 e3 st
end Calls
/-! ## a callee that sees a part of the heap -/
def rn (ρ : Nat → Nat) : Value → Value
  | .ref i => .ref (ρ i)
  | .int x => .int x
  | .long x => .long x
  | .float x => .float x
  | .double x => .double x
  | .null => .null
  | .retAddr x => .retAddr x
theorem rf_rn (ad : Nat → Addr) (ρ : Nat → Nat) (v : Value) : rf ad (rn ρ v) = rf (fun j => ad (ρ j)) v := by cases v <;> rfl
def rnC (ρ : Nat → Nat) : OwnC → OwnC
  | .inl vs => .inl (vs.map (rn ρ))
  | .inr x => .inr x
theorem CelOk_rn {Z : State} {C : String} {lay : List (String × String)} {ad : Nat → Addr} {ρ : Nat → Nat} {h : Heap} {a : Addr} {c : OwnC} : CelOk Z C lay ad h a (rnC ρ c) ↔ CelOk Z C lay (fun j => ad (ρ j)) h a c := by
  rcases c with vs | xs | xs | xs
  · constructor
    · rintro ⟨E, F⟩
      refine ⟨E, fun i f v hf hv => ?_⟩
      have := F i f (rn ρ v) hf (by rw [List.getElem?_map, hv]; rfl)
      rwa [rf_rn] at this
    · rintro ⟨E, F⟩
      refine ⟨E, fun i f v hf hv => ?_⟩
      rw [List.getElem?_map] at hv
      obtain ⟨w, hw, rfl⟩ := Option.map_eq_some_iff.mp hv
      rw [rf_rn]; exact F i f w hf hw
  all_goals exact Iff.rfl
def patch (ρ : Nat → Nat) : List Nat → List OwnC → List OwnC → List OwnC
  | [], D, H => H ++ D.map (rnC ρ)
  | i :: is, c :: D, H => patch ρ is D (H.set i (rnC ρ c))
  | _ :: _, [], H => H
theorem patch_len (ρ : Nat → Nat) : ∀ (foot : List Nat) (D H : List OwnC), foot.length ≤ D.length → (patch ρ foot D H).length = H.length + (D.length - foot.length)
  | [], D, H, _ => by simp [patch]
  | i :: is, [], H, h => by simp at h
  | i :: is, c :: D, H, h => by
    show (patch ρ is D (H.set i (rnC ρ c))).length = _
    rw [patch_len ρ is D _ (by simpa using h)]; simp
theorem patch_out (ρ : Nat → Nat) : ∀ (foot : List Nat) (D H : List OwnC) (i : Nat), i < H.length → i ∉ foot → (patch ρ foot D H)[i]? = H[i]?
  | [], D, H, i, hi, _ => by simp [patch, List.getElem?_append_left hi]
  | j :: is, [], H, i, _, _ => rfl
  | j :: is, c :: D, H, i, hi, hn => by
    show (patch ρ is D (H.set j (rnC ρ c)))[i]? = _
    rw [patch_out ρ is D _ i (by simpa using hi) (fun q => hn (List.mem_cons_of_mem _ q)), List.getElem?_set_ne (fun q => hn (by rw [q]; exact List.mem_cons_self ..))]
theorem patch_new (ρ : Nat → Nat) : ∀ (foot : List Nat) (D H : List OwnC) (t : Nat), foot.length ≤ D.length → (patch ρ foot D H)[H.length + t]? = (D[foot.length + t]?).map (rnC ρ)
  | [], D, H, t, _ => by simp [patch, List.getElem?_append_right (Nat.le_add_right _ _)]
  | i :: is, [], H, _, h => by simp at h
  | i :: is, c :: D, H, t, h => by
    show (patch ρ is D (H.set i (rnC ρ c)))[H.length + t]? = _
    have := patch_new ρ is D (H.set i (rnC ρ c)) t (by simpa using h)
    rw [List.length_set] at this
    rw [this]; simp [Nat.add_right_comm _ 1 t]
theorem patch_in (ρ : Nat → Nat) : ∀ (foot : List Nat) (D H : List OwnC) (j i : Nat), foot.Nodup → (∀ x ∈ foot, x < H.length) → foot[j]? = some i → foot.length ≤ D.length → (patch ρ foot D H)[i]? = (D[j]?).map (rnC ρ)
  | [], D, H, j, i, _, _, h, _ => by simp at h
  | x :: is, [], H, j, i, _, _, _, h => by simp at h
  | x :: is, c :: D, H, 0, i, nd, hl, h, _ => by
    obtain rfl : x = i := by simpa using h
    show (patch ρ is D (H.set x (rnC ρ c)))[x]? = _
    rw [patch_out ρ is D _ x (by simpa using hl x (List.mem_cons_self ..)) (List.nodup_cons.mp nd).1]
    simp [hl x (List.mem_cons_self ..)]
  | x :: is, c :: D, H, j + 1, i, nd, hl, h, hd => by
    show (patch ρ is D (H.set x (rnC ρ c)))[i]? = _
    rw [patch_in ρ is D _ j i (List.nodup_cons.mp nd).2 (fun y hy => by simpa using hl y (List.mem_cons_of_mem _ hy)) (by simpa using h) (by simpa using hd)]
    simp
def ro1 (foot : List Nat) (N : Nat) (j : Nat) : Nat := if j < foot.length then foot.getD j 0 else N + (j - foot.length)
theorem ro1_in {foot : List Nat} {N j i : Nat} (h : foot[j]? = some i) : ro1 foot N j = i := by
  have hj := get_lt h
  unfold ro1
  rw [if_pos hj, List.getD_eq_getElem?_getD, h]; rfl
theorem ro1_new (foot : List Nat) (N t : Nat) : ro1 foot N (foot.length + t) = N + t := by
  unfold ro1
  rw [if_neg (by omega)]; omega
theorem CS.frame {l : Launch} {Z : State} {C : String} {lay : List (String × String)} {y : MethodName} {bytes : ByteArray} {maxL : Nat} {ret : Option FieldType} {R : Room} {ro roc : Nat} {as asc : List Value} {H Hc : List OwnC} {Qc : Option Value → List OwnC → Prop} (foot : List Nat)
    (cs : CS l Z C lay y bytes maxL ret R roc asc Hc Qc) (hlen : Hc.length = foot.length) (hnd : foot.Nodup) (hlt : ∀ x ∈ foot, x < H.length) (hcell : foot.map (fun i => H[i]?) = Hc.map (fun c => some (rnC (ro1 foot H.length) c))) (hro : ∀ x ∈ foot.drop roc, ro ≤ x) (has : asc.map (rn (ro1 foot H.length)) = as) :
    CS l Z C lay y bytes maxL ret R ro as H (fun v H' => ∃ vc D, Qc vc D ∧ v = vc.map (rn (ro1 foot H.length)) ∧ H' = patch (ro1 foot H.length) foot D H) := by
  intro ws n0 ad h hr
  obtain ⟨r1, r2, r3, r4, r5⟩ := hr
  have cellAt : ∀ (j i : Nat), foot[j]? = some i → ∃ c, Hc[j]? = some c ∧ H[i]? = some (rnC (ro1 foot H.length) c) := fun j i hj => by
    have h1 : (foot.map (fun i => H[i]?))[j]? = some H[i]? := by rw [List.getElem?_map, hj]; rfl
    rw [hcell, List.getElem?_map] at h1
    obtain ⟨c, e1, e2⟩ := Option.map_eq_some_iff.mp h1
    exact ⟨c, e1, e2.symm⟩
  have idx : ∀ j : Nat, j < foot.length → ∃ i, foot[j]? = some i ∧ i < H.length := fun j hj => ⟨_, List.getElem?_eq_getElem hj, hlt _ (List.getElem_mem hj)⟩
  have hrc : HR Z C lay n0 roc (fun j => ad (ro1 foot H.length j)) Hc h := by
    refine ⟨fun j c hj => ?_, fun i j hi hj q => ?_, fun t => ?_, fun j hj hr => ?_, r5⟩
    · obtain ⟨i, e1, e2⟩ := idx j (hlen ▸ get_lt hj)
      obtain ⟨c', g1, g2⟩ := cellAt j i e1
      cases g1.symm.trans hj
      show CelOk Z C lay (fun j => ad (ro1 foot H.length j)) h (ad (ro1 foot H.length j)) c
      rw [ro1_in e1]
      exact CelOk_rn.mp (r1 i _ g2)
    · rw [hlen] at hi hj
      obtain ⟨i', e1, e2⟩ := idx i hi
      obtain ⟨j', g1, g2⟩ := idx j hj
      dsimp only at q
      rw [ro1_in e1, ro1_in g1] at q
      have q' := r2 _ _ e2 g2 q
      subst q'
      exact (List.getElem?_inj hi hnd).mp (e1.trans g1.symm)
    · dsimp only
      rw [hlen, ro1_new]; exact r3 t
    · rw [hlen] at hj
      obtain ⟨i', e1, e2⟩ := idx j hj
      dsimp only
      rw [ro1_in e1]; refine r4 _ e2 (hro i' (List.mem_of_getElem? (i := j - roc) ?_)); rw [List.getElem?_drop, Nat.add_sub_cancel' hr]; exact e1
  intro p e ha hc hk s m args below hf happ hP hK
  have eas : (asc.map (rf fun j => ad (ro1 foot H.length j))) = as.map (rf ad) := by
    rw [← has, List.map_map]; congr 1; funext v; exact (rf_rn ad _ v).symm
  obtain ⟨N, o, h1, h2, h3, v, L, h4, ⟨w, D, rfl, g2, g3, g4, g5⟩, h5⟩ := cs ws n0 _ h hrc p e ha hc hk s m args below hf happ (by rw [eas]; exact hP) hK
  refine ⟨N, o, h1, h2, h3, _, L, h4, ⟨w.map (rn (ro1 foot H.length)), patch (ro1 foot H.length) foot D H, ?_, ⟨w, D, g2, rfl, rfl⟩, ?_, ?_, g5⟩, h5⟩
  · cases w with
    | none => rfl
    | some w => exact congrArg some (rf_rn ad _ w).symm
  · generalize hU : (stepsAlone p.tables e N s).heap = h' at g3 g4
    obtain ⟨d1, d2, d3, d4, d5⟩ := g3
    have hD : foot.length ≤ D.length := by
      by_cases q : foot.length ≤ D.length
      · exact q
      · exfalso
        obtain ⟨i, e1, e2⟩ := idx D.length (by omega)
        have z := d3 0
        simp only [Nat.add_zero] at z
        rw [ro1_in e1] at z
        obtain ⟨c', -, g2'⟩ := cellAt _ i e1
        have a1 := (r1 i _ g2').lt
        rw [z] at a1
        exact absurd a1 (Nat.not_lt.mpr g4.1)
    have hPl := patch_len (ro1 foot H.length) foot D H hD
    have old : ∀ i, i < H.length → ad i < h.size := fun i hi => (r1 i _ (List.getElem?_eq_getElem hi)).lt
    have new : ∀ i, H.length ≤ i → h.size ≤ ad i := fun i hi => by
      obtain ⟨t, rfl⟩ := Nat.exists_eq_add_of_le hi
      rw [r3 t]; exact Nat.le_add_right _ _
    refine ⟨fun i c hi => ?_, fun i j hi hj q => ?_, fun t => ?_, fun i hi hr => ?_, Nat.le_trans r5 g4.1⟩
    · by_cases hl : i < H.length
      · by_cases hm : i ∈ foot
        · obtain ⟨j, hj⟩ := List.getElem?_of_mem hm
          rw [patch_in _ foot D H j i hnd hlt hj hD] at hi
          obtain ⟨c', e1, rfl⟩ := Option.map_eq_some_iff.mp hi
          have := d1 j c' e1
          dsimp only at this
          rw [ro1_in hj] at this
          exact CelOk_rn.mpr this
        · rw [patch_out _ foot D H i hl hm] at hi
          refine (r1 i c hi).keep fun cz q => g4.2 _ cz q fun j hj q' => ?_
          rw [hlen] at hj
          obtain ⟨i', e1, e2⟩ := idx j hj
          dsimp only at q'
          rw [ro1_in e1] at q'
          have := r2 _ _ e2 hl q'
          subst this
          exact hm (List.mem_of_getElem? e1)
      · obtain ⟨t, rfl⟩ := Nat.exists_eq_add_of_le (Nat.le_of_not_lt hl)
        rw [patch_new _ foot D H t hD] at hi
        obtain ⟨c', e1, rfl⟩ := Option.map_eq_some_iff.mp hi
        have := d1 _ c' e1
        dsimp only at this
        rw [ro1_new] at this
        exact CelOk_rn.mpr this
    · by_cases a1 : i < H.length
      · by_cases a2 : j < H.length
        · exact r2 _ _ a1 a2 q
        · have b1 := old i a1
          rw [q] at b1
          exact absurd b1 (Nat.not_lt.mpr (new j (Nat.le_of_not_lt a2)))
      · by_cases a2 : j < H.length
        · have b1 := new i (Nat.le_of_not_lt a1)
          rw [q] at b1
          exact absurd (old j a2) (Nat.not_lt.mpr b1)
        · obtain ⟨t, rfl⟩ := Nat.exists_eq_add_of_le (Nat.le_of_not_lt a1)
          obtain ⟨t', rfl⟩ := Nat.exists_eq_add_of_le (Nat.le_of_not_lt a2)
          rw [r3, r3] at q; exact congrArg (H.length + ·) (Nat.add_left_cancel q)
    · have z := d3 t
      dsimp only at z
      have e1 : D.length + t = foot.length + (D.length - foot.length + t) := by omega
      rw [e1, ro1_new] at z
      rw [hPl, Nat.add_assoc]; exact z
    · by_cases a1 : i < H.length
      · exact r4 i a1 hr
      · exact Nat.le_trans r5 (new i (Nat.le_of_not_lt a1))
  · refine ⟨g4.1, fun a cz hz hn => g4.2 a cz hz fun j hj q => ?_⟩
    rw [hlen] at hj
    obtain ⟨i', e1, e2⟩ := idx j hj
    dsimp only at q
    rw [ro1_in e1] at q
    exact hn i' e2 q
/-! ## an object's state: ints (and booleans), longs, int[] (and boolean[]), long[], each by a number -/
abbrev St : Type := (Nat → Int32) × (Nat → Int64) × (Nat → List Int32) × (Nat → List Int64)
def upd {α : Type} (f : Nat → α) (i : Nat) (v : α) : Nat → α := fun j => if j = i then v else f j
def gI (s : St) (i : Nat) : Int32 := s.1 i
def gJ (s : St) (i : Nat) : Int64 := s.2.1 i
def gA (s : St) (i : Nat) : List Int32 := s.2.2.1 i
def gB (s : St) (i : Nat) : List Int64 := s.2.2.2 i
def sI (s : St) (i : Nat) (v : Int32) : St := (upd s.1 i v, s.2.1, s.2.2.1, s.2.2.2)
def sJ (s : St) (i : Nat) (v : Int64) : St := (s.1, upd s.2.1 i v, s.2.2.1, s.2.2.2)
def sA (s : St) (i : Nat) (v : List Int32) : St := (s.1, s.2.1, upd s.2.2.1 i v, s.2.2.2)
def sB (s : St) (i : Nat) (v : List Int64) : St := (s.1, s.2.1, s.2.2.1, upd s.2.2.2 i v)
theorem gI_sI (s : St) (i j : Nat) (v : Int32) : gI (sI s i v) j = if j = i then v else gI s j := rfl
theorem gI_sJ (s : St) (i j : Nat) (v : Int64) : gI (sJ s i v) j = gI s j := rfl
theorem gI_sA (s : St) (i j : Nat) (v : List Int32) : gI (sA s i v) j = gI s j := rfl
theorem gI_sB (s : St) (i j : Nat) (v : List Int64) : gI (sB s i v) j = gI s j := rfl
theorem gJ_sI (s : St) (i j : Nat) (v : Int32) : gJ (sI s i v) j = gJ s j := rfl
theorem gJ_sJ (s : St) (i j : Nat) (v : Int64) : gJ (sJ s i v) j = if j = i then v else gJ s j := rfl
theorem gJ_sA (s : St) (i j : Nat) (v : List Int32) : gJ (sA s i v) j = gJ s j := rfl
theorem gJ_sB (s : St) (i j : Nat) (v : List Int64) : gJ (sB s i v) j = gJ s j := rfl
theorem gA_sI (s : St) (i j : Nat) (v : Int32) : gA (sI s i v) j = gA s j := rfl
theorem gA_sJ (s : St) (i j : Nat) (v : Int64) : gA (sJ s i v) j = gA s j := rfl
theorem gA_sA (s : St) (i j : Nat) (v : List Int32) : gA (sA s i v) j = if j = i then v else gA s j := rfl
theorem gA_sB (s : St) (i j : Nat) (v : List Int64) : gA (sB s i v) j = gA s j := rfl
theorem gB_sI (s : St) (i j : Nat) (v : Int32) : gB (sI s i v) j = gB s j := rfl
theorem gB_sJ (s : St) (i j : Nat) (v : Int64) : gB (sJ s i v) j = gB s j := rfl
theorem gB_sA (s : St) (i j : Nat) (v : List Int32) : gB (sA s i v) j = gB s j := rfl
theorem gB_sB (s : St) (i j : Nat) (v : List Int64) : gB (sB s i v) j = if j = i then v else gB s j := rfl
def wrA (s : St) (i : Nat) (j x : Int32) : Option St := (wr (gA s i) j x).map (sA s i)
def wrB (s : St) (i : Nat) (j : Int32) (x : Int64) : Option St := (wr (gB s i) j x).map (sB s i)
theorem wrA_e {s s' : St} {i : Nat} {j x : Int32} (h : wrA s i j x = some s') : ∃ ys, wr (gA s i) j x = some ys ∧ s' = sA s i ys := by
  obtain ⟨ys, h1, h2⟩ := Option.map_eq_some_iff.mp h
  exact ⟨ys, h1, h2.symm⟩
theorem wrB_e {s s' : St} {i : Nat} {j : Int32} {x : Int64} (h : wrB s i j x = some s') : ∃ ys, wr (gB s i) j x = some ys ∧ s' = sB s i ys := by
  obtain ⟨ys, h1, h2⟩ := Option.map_eq_some_iff.mp h
  exact ⟨ys, h1, h2.symm⟩
def lt {α β : Type} (x : α) (f : α → β) : β := f x
theorem lt_e {α β : Type} {x : α} {f : α → β} {r : β} (h : lt x f = r) : ∃ y, y = x ∧ f y = r := ⟨x, rfl, h⟩
theorem ite_e {α : Type} {c : Prop} [Decidable c] {a b r : α} (h : (if c then a else b) = r) : (c ∧ a = r) ∨ (¬ c ∧ b = r) := by
  by_cases hc : c
  · rw [if_pos hc] at h; exact Or.inl ⟨hc, h⟩
  · rw [if_neg hc] at h; exact Or.inr ⟨hc, h⟩
theorem nz_e {α : Type} {c : Prop} [Decidable c] {b : Option α} {r : α} (h : (if c then none else b) = some r) : ¬ c ∧ b = some r := by
  by_cases hc : c
  · rw [if_pos hc] at h; cases h
  · rw [if_neg hc] at h; exact ⟨hc, h⟩
/-! the class's fields -/
def LaidAll (Z : State) (a0 : Array Value) (C : String) : List (String × String) → List Value → Prop
  | f :: fs, v :: vs => (Laid Z a0 C C f.1 f.2 ∧ ∃ ty, parseFieldDescriptor f.2 = some ty ∧ v = defaultValue ty) ∧ LaidAll Z a0 C fs vs
  | [], [] => True
  | _, _ => False
theorem LaidAll.new {Z : State} {a0 : Array Value} {C : String} : ∀ {lay : List (String × String)} {vs : List Value}, LaidAll Z a0 C lay vs → ∀ (i : Nat) (f : String × String) (v : Value), lay[i]? = some f → vs[i]? = some v → Laid Z a0 C C f.1 f.2 ∧ ∃ ty, parseFieldDescriptor f.2 = some ty ∧ v = defaultValue ty
  | [], [], _, i, f, v, h, _ => by simp at h
  | g :: fs, w :: vs, h, 0, f, v, h1, h2 => by
    obtain rfl : g = f := by simpa using h1
    obtain rfl : w = v := by simpa using h2
    exact h.1
  | g :: fs, w :: vs, h, i + 1, f, v, h1, h2 => LaidAll.new h.2 i f v (by simpa using h1) (by simpa using h2)
theorem LaidAll.len {Z : State} {a0 : Array Value} {C : String} : ∀ {lay : List (String × String)} {vs : List Value}, LaidAll Z a0 C lay vs → lay.length = vs.length
  | [], [], _ => rfl
  | g :: fs, w :: vs, h => congrArg Nat.succ (LaidAll.len h.2)
theorem LaidAll.ne {Z : State} {a0 : Array Value} {C : String} {lay : List (String × String)} {vs : List Value} (h : LaidAll Z a0 C lay vs) (nd : (lay.map Prod.fst).Nodup) : ∀ (a b : Nat) (f g : String × String), lay[a]? = some f → lay[b]? = some g → a ≠ b → RoadKit.slotOf Z C f.1 f.2 ≠ RoadKit.slotOf Z C g.1 g.2 := by
  intro a b f g ha hb' hne
  have la := get_lt ha
  have lb := get_lt hb'
  obtain ⟨L1, t1, e1, -⟩ := h.new a f _ ha (List.getElem?_eq_getElem (h.len ▸ la))
  obtain ⟨L2, t2, e2, -⟩ := h.new b g _ hb' (List.getElem?_eq_getElem (h.len ▸ lb))
  refine slot_ne L1 L2 (fun q => hne ?_) e1 e2
  have h1 : (lay.map Prod.fst)[a]? = some f.1 := by rw [List.getElem?_map, ha]; rfl
  have h2 : (lay.map Prod.fst)[b]? = some g.1 := by rw [List.getElem?_map, hb']; rfl
  exact (List.getElem?_inj (by simpa using la) nd).mp (h1.trans (by rw [q]; exact h2.symm))
section Puts
variable {l : Launch} {Z : State} {a0 : Array Value} {C : String} {lay : List (String × String)} {own mn : String} {bytes : ByteArray} {maxL : Nat} {ret : Option FieldType} {R : Room} {n0 ro : Nat} {Q : Option Value → List OwnC → Prop} {k n pc pc' : Nat} {L L' : List Slot} {S S' : List Value} {H H' : List OwnC}
theorem WP.putI {idx i j kk : Nat} {f : String} {vs : List Value} {x : Int32} {old : Value} (hd : decode bytes pc = .ok (.putfield idx, 3)) (hw : (Cond.fieldLink own idx C f "I").before a0 Z = true) (hl : (Cond.lays C C f "I").before a0 Z = true ∨ ((Cond.laysFinal C C f "I").before a0 Z = true ∧ own = C ∧ mn = "<init>")) (wi : (Cond.instantiable C kk).before a0 Z = true)
    (hlay : ∀ (a b : Nat) (f g : String × String), lay[a]? = some f → lay[b]? = some g → a ≠ b → RoadKit.slotOf Z C f.1 f.2 ≠ RoadKit.slotOf Z C g.1 g.2) (hj : lay[j]? = some (f, "I")) (hH : H[i]? = some (.inl vs)) (hv : vs[j]? = some old) (hi : ro ≤ i) (hH' : H.set i (.inl (vs.set j (.int x))) = H') (nx : WP l Z C lay own mn bytes maxL ret R n0 ro Q k n (pc + 3) L S H') : WP l Z C lay own mn bytes maxL ret R n0 ro Q k n pc L (.int x :: .ref i :: S) H :=
  WP.put hd hw hl wi hlay (ty := .int) (by decide) (fun _ => rfl) (fun _ => rfl) hj hH hv hi hH' nx
theorem WP.putJ {idx i j kk : Nat} {f : String} {vs : List Value} {x : Int64} {old : Value} (hd : decode bytes pc = .ok (.putfield idx, 3)) (hw : (Cond.fieldLink own idx C f "J").before a0 Z = true) (hl : (Cond.lays C C f "J").before a0 Z = true ∨ ((Cond.laysFinal C C f "J").before a0 Z = true ∧ own = C ∧ mn = "<init>")) (wi : (Cond.instantiable C kk).before a0 Z = true)
    (hlay : ∀ (a b : Nat) (f g : String × String), lay[a]? = some f → lay[b]? = some g → a ≠ b → RoadKit.slotOf Z C f.1 f.2 ≠ RoadKit.slotOf Z C g.1 g.2) (hj : lay[j]? = some (f, "J")) (hH : H[i]? = some (.inl vs)) (hv : vs[j]? = some old) (hi : ro ≤ i) (hH' : H.set i (.inl (vs.set j (.long x))) = H') (nx : WP l Z C lay own mn bytes maxL ret R n0 ro Q k n (pc + 3) L S H') : WP l Z C lay own mn bytes maxL ret R n0 ro Q k n pc L (.long x :: .ref i :: S) H :=
  WP.put hd hw hl wi hlay (ty := .long) (by decide) (fun _ => rfl) (fun _ => rfl) hj hH hv hi hH' nx
theorem WP.putZ {idx i j kk : Nat} {f : String} {vs : List Value} {x : Int32} {old : Value} (hd : decode bytes pc = .ok (.putfield idx, 3)) (hw : (Cond.fieldLink own idx C f "Z").before a0 Z = true) (hl : (Cond.lays C C f "Z").before a0 Z = true ∨ ((Cond.laysFinal C C f "Z").before a0 Z = true ∧ own = C ∧ mn = "<init>")) (wi : (Cond.instantiable C kk).before a0 Z = true)
    (hlay : ∀ (a b : Nat) (f g : String × String), lay[a]? = some f → lay[b]? = some g → a ≠ b → RoadKit.slotOf Z C f.1 f.2 ≠ RoadKit.slotOf Z C g.1 g.2) (hj : lay[j]? = some (f, "Z")) (hH : H[i]? = some (.inl vs)) (hv : vs[j]? = some old) (hi : ro ≤ i) (hH' : H.set i (.inl (vs.set j (.int (x &&& 1)))) = H') (nx : WP l Z C lay own mn bytes maxL ret R n0 ro Q k n (pc + 3) L S H') : WP l Z C lay own mn bytes maxL ret R n0 ro Q k n pc L (.int x :: .ref i :: S) H :=
  WP.put (v' := .int (x &&& 1)) hd hw hl wi hlay (ty := .boolean) (by decide) (fun _ => rfl) (fun _ => fits_nar_bool x) hj hH hv hi hH' nx
theorem WP.putR {idx i j kk i2 : Nat} {f d : String} {vs : List Value} {old : Value} {ty : FieldType} (hd : decode bytes pc = .ok (.putfield idx, 3)) (hw : (Cond.fieldLink own idx C f d).before a0 Z = true) (hl : (Cond.lays C C f d).before a0 Z = true ∨ ((Cond.laysFinal C C f d).before a0 Z = true ∧ own = C ∧ mn = "<init>")) (wi : (Cond.instantiable C kk).before a0 Z = true)
    (hlay : ∀ (a b : Nat) (f g : String × String), lay[a]? = some f → lay[b]? = some g → a ≠ b → RoadKit.slotOf Z C f.1 f.2 ≠ RoadKit.slotOf Z C g.1 g.2) (hty : parseFieldDescriptor d = some ty) (hn : ∀ a, narrow ty (.ref a) = .ref a) (hf : ∀ a, fits ty (.ref a) = true) (hj : lay[j]? = some (f, d)) (hH : H[i]? = some (.inl vs)) (hv : vs[j]? = some old) (hi : ro ≤ i) (hH' : H.set i (.inl (vs.set j (.ref i2))) = H') (nx : WP l Z C lay own mn bytes maxL ret R n0 ro Q k n (pc + 3) L S H') : WP l Z C lay own mn bytes maxL ret R n0 ro Q k n pc L (.ref i2 :: .ref i :: S) H :=
  WP.put (v' := .ref i2) hd hw hl wi hlay hty (fun ad => hn (ad i2)) (fun ad => hf (ad i2)) hj hH hv hi hH' nx
end Puts
/-! ## the start of a law -/
theorem HR.start0 (s : State) (C : String) (lay : List (String × String)) : HR s C lay s.heap.size 0 (fun t => s.heap.size + t) [] s.heap :=
  ⟨fun i c h => by simp at h, fun i j h => by simp at h, fun t => by simp, fun i h => by simp at h, Nat.le_refl _⟩
theorem script_ints {s : State} {a : Addr} {c : Cell} (hf : Fit s) (A : Arr s s.heap a c .int) : ∃ xs : List Int32, c.slots.toList = xs.map Value.int := by
  have h : ∀ v ∈ c.slots.toList, ∃ x : Int32, v = Value.int x := fun v hv => by
    obtain ⟨i, hi, e⟩ := List.mem_iff_getElem.mp hv
    have hi' : i < c.slots.size := by simpa using hi
    have q := hf A.1 hi'
    obtain ⟨hs, k, hk, comp, hkind⟩ := A.2.1
    have e2 : s.slotType? c.cls c.vm i = some .int := by
      cases hq : c.vm <;> first | exact absurd hq (hs _) | simp [State.slotType?, hk, hkind]
    have e3 : c.slots[i] = v := by rw [← e]; simp
    have q2 : fits .int v = true := by rw [← e3]; simpa [State.fitsSlot, e2] using q
    exact fit_I q2 (by simp)
  generalize c.slots.toList = L at h
  induction L with
  | nil => exact ⟨[], rfl⟩
  | cons v L ih =>
    obtain ⟨x, rfl⟩ := h v (List.mem_cons_self ..)
    obtain ⟨xs, rfl⟩ := ih fun w hw => h w (List.mem_cons_of_mem _ hw)
    exact ⟨x :: xs, rfl⟩
def ad1 (a N : Nat) : Nat → Addr
  | 0 => a
  | t + 1 => N + t
theorem HR.start1 {s : State} (C : String) (lay : List (String × String)) {a : Addr} {c : Cell} {xs : List Int32} (A : Arr s s.heap a c .int) (hx : c.slots.toList = xs.map Value.int) : HR s C lay s.heap.size 1 (ad1 a s.heap.size) [cI xs] s.heap := by
  refine ⟨fun i cc h => ?_, fun i j hi hj _ => ?_, fun t => ?_, fun i hi hr => ?_, Nat.le_refl _⟩
  · have hi := get_lt h
    simp at hi; subst hi
    simp at h; subst h
    exact ⟨c, A, hx⟩
  · simp at hi hj; omega
  · show ad1 a s.heap.size (1 + t) = _; rw [Nat.add_comm 1 t]; rfl
  · simp at hi; omega
theorem script_len {s : State} {a : Addr} {c : Cell} {n : Nat} {args : Array Value} {t : Term} (ev : t.eval args s none [] s = some (.ref a)) (A : Arr s s.heap a c .int) (e1 : c.slots.size = n) (h : (Cond.le (Term.length t) (Term.int (260 : Int32))).value args s none s [] = some true) : n ≤ 260 := by
  have hat := A.fin (Vm.Alike.refl _)
  have hl : (Term.length t).eval args s none [] s = if n < 2 ^ 31 then some (.int n.toInt32) else none := by
    simp only [Term.eval, ev, hat, Option.bind_eq_bind, Option.bind_some, e1]; rfl
  by_cases hn : n < 2 ^ 31
  · rw [if_pos hn] at hl
    have h1 := gotT (Cond.le_ints hl (Term.int_eval (260 : Int32))) h
    have h2 : n.toInt32.toInt = n := by
      show (Int32.ofNat n).toInt = n
      exact Int32.toInt_ofNat_of_lt hn
    have h3 := Int32.le_iff_toInt_le.mp h1
    rw [h2] at h3
    have : (260 : Int32).toInt = 260 := by decide
    omega
  · rw [if_neg hn] at hl
    simp [Cond.value, hl] at h
/-! ## plain laws -/
/-- with fuel enough it answers r -/
def Ev {α : Type} (f : Nat → Option α) (r : α) : Prop := ∃ N, ∀ n, N ≤ n → f n = some r
theorem Ev.const {α : Type} {x : Option α} {r : α} (h : x = some r) : Ev (fun _ => x) r := ⟨0, fun _ _ => h⟩
theorem Ev.get {α : Type} {f : Nat → Option α} {r : α} (h : Ev f r) : ∃ n, f n = some r := by obtain ⟨N, h⟩ := h; exact ⟨N, h N (Nat.le_refl _)⟩
theorem Ev.step {α : Type} {f g : Nat → Option α} {r : α} (e : ∀ n, f (n + 1) = g n) (h : Ev g r) : Ev f r := by
  obtain ⟨N, h⟩ := h
  refine ⟨N + 1, fun n hn => ?_⟩
  cases n with
  | zero => omega
  | succ n => rw [e n]; exact h n (by omega)
theorem Ev.congr {α : Type} {f g : Nat → Option α} {r : α} (e : ∀ n, f n = g n) (h : Ev g r) : Ev f r := by
  obtain ⟨N, h⟩ := h
  exact ⟨N, fun n hn => (e n).trans (h n hn)⟩
theorem Ev.bind {α β : Type} {f : Nat → Option β} {g : Nat → β → Option α} {c : β} {r : α} (h1 : Ev f c) (h2 : Ev (fun n => g n c) r) : Ev (fun n => (f n).bind (g n)) r := by
  obtain ⟨N, h1⟩ := h1
  obtain ⟨M, h2⟩ := h2
  refine ⟨N + M, fun n hn => ?_⟩
  show (f n).bind (g n) = some r
  rw [h1 n (by omega)]; exact h2 n (by omega)
theorem Ev.uniq {α : Type} {f : Nat → Option α} {r r' : α} (h : Ev f r) (h' : Ev f r') : r = r' := by
  obtain ⟨N, h⟩ := h
  obtain ⟨M, h'⟩ := h'
  exact Option.some.inj ((h (N + M) (by omega)).symm.trans (h' (N + M) (by omega)))
/-! Int32 as Int -/
theorem x32_lt {x y : Int32} : x < y ↔ x.toInt < y.toInt := Int32.lt_iff_toInt_lt
theorem x32_eq {x y : Int32} : x = y ↔ x.toInt = y.toInt := Int32.toInt_inj.symm
theorem x32_add {x y : Int32} (h1 : -2147483648 ≤ x.toInt + y.toInt) (h2 : x.toInt + y.toInt < 2147483648) : (x + y).toInt = x.toInt + y.toInt := by
  rw [Int32.toInt_add]; exact Int.bmod_eq_of_le (by omega) (by omega)
theorem x32_sub {x y : Int32} (h1 : -2147483648 ≤ x.toInt - y.toInt) (h2 : x.toInt - y.toInt < 2147483648) : (x - y).toInt = x.toInt - y.toInt := by
  rw [Int32.toInt_sub]; exact Int.bmod_eq_of_le (by omega) (by omega)
theorem x32_mul {x y : Int32} (h1 : -2147483648 ≤ x.toInt * y.toInt) (h2 : x.toInt * y.toInt < 2147483648) : (x * y).toInt = x.toInt * y.toInt := by
  rw [Int32.toInt_mul]; exact Int.bmod_eq_of_le (by omega) (by omega)
theorem clamp_nat (x : Int32) : x.toNatClampNeg = x.toInt.toNat := rfl
/-! reading and writing -/
theorem rd_of {α : Type} {xs : List α} {i : Int32} {k : Nat} {x : α} (hi : i.toInt = k) (h : xs[k]? = some x) : rd xs i = some x := by
  have h0 : ¬ i < 0 := by rw [x32_lt, hi]; show ¬ (k : Int) < 0; omega
  unfold rd
  rw [if_neg h0, clamp_nat, hi]; exact h
theorem wr_of {α : Type} {xs : List α} {i : Int32} {k : Nat} (x : α) (hi : i.toInt = k) (h : k < xs.length) : wr xs i x = some (xs.set k x) := by
  have h0 : ¬ i < 0 := by rw [x32_lt, hi]; show ¬ (k : Int) < 0; omega
  unfold wr
  rw [if_neg h0, clamp_nat, hi]; exact if_pos h
theorem wrA_of {s : St} {f : Nat} {i : Int32} {k : Nat} (x : Int32) (hi : i.toInt = k) (h : k < (gA s f).length) : wrA s f i x = some (sA s f ((gA s f).set k x)) := by
  unfold wrA; rw [wr_of x hi h]; rfl
theorem wrB_of {s : St} {f : Nat} {i : Int32} {k : Nat} (x : Int64) (hi : i.toInt = k) (h : k < (gB s f).length) : wrB s f i x = some (sB s f ((gB s f).set k x)) := by
  unfold wrB; rw [wr_of x hi h]; rfl
theorem nn_of {i : Int32} (h : ¬ i < 0) : ∃ k : Nat, i.toInt = k := ⟨i.toInt.toNat, by
  rw [x32_lt] at h
  have : (0 : Int32).toInt = 0 := by decide
  omega⟩
theorem Ev.all {α : Type} {f : Nat → Option α} {r : α} (h : ∀ n, f n = some r) : Ev f r := ⟨0, fun n _ => h n⟩
theorem ofN_int {k : Nat} (h : k < 2147483648) : (Int32.ofNat k).toInt = k := Int32.toInt_ofNat_of_lt (by omega)
theorem ofN_lt {i m : Nat} (hi : i < 2147483648) (hm : m < 2147483648) : Int32.ofNat i < Int32.ofNat m ↔ i < m := by
  rw [x32_lt, ofN_int hi, ofN_int hm]; omega
theorem ofN_succ (k : Nat) : Int32.ofNat k + 1 = Int32.ofNat (k + 1) := (Int32.ofNat_add k 1).symm
theorem ofN_eq {i m : Nat} (hi : i < 2147483648) (hm : m < 2147483648) : Int32.ofNat i = Int32.ofNat m ↔ i = m := by
  rw [x32_eq, ofN_int hi, ofN_int hm]; omega
theorem ofN_of {x : Int32} {k : Nat} (h : x.toInt = k) : x = Int32.ofNat k := by
  have h2 := Int32.toInt_lt x
  rw [x32_eq, ofN_int (by omega)]; exact h
/-- a loop that counts up to N -/
theorem loop_up {α σ : Type} {F : Nat → Int32 → σ → Option α} {E : Nat → σ → Option α} {N : Nat} (Inv : Nat → σ → Prop)
    (hstep : ∀ (i : Nat) (s : σ), i < N → Inv i s → ∃ s', Inv (i + 1) s' ∧ ∀ n, F (n + 1) (Int32.ofNat i) s = F n (Int32.ofNat (i + 1)) s')
    (hend : ∀ s, Inv N s → ∀ n, F (n + 1) (Int32.ofNat N) s = E n s) : ∀ (k i : Nat) (s : σ), i + k = N → Inv i s → ∃ s', Inv N s' ∧ ∀ r, Ev (fun n => E n s') r → Ev (fun n => F n (Int32.ofNat i) s) r := by
  intro k
  induction k with
  | zero =>
    intro i s hi h
    obtain rfl : i = N := by omega
    exact ⟨s, h, fun r hr => Ev.step (hend s h) hr⟩
  | succ k ih =>
    intro i s hi h
    obtain ⟨s', h1, h2⟩ := hstep i s (by omega) h
    obtain ⟨s2, h3, h4⟩ := ih (i + 1) s' (by omega) h1
    exact ⟨s2, h3, fun r hr => Ev.step h2 (h4 r hr)⟩
theorem set_len {α : Type} (xs : List α) (k : Nat) (x : α) : (xs.set k x).length = xs.length := List.length_set
theorem ofN_ltL {i m : Nat} (hi : i < 2147483648) (hm : m < 2147483648) : Int32.ofNat i < (OfNat.ofNat m : Int32) ↔ i < m := ofN_lt hi hm
theorem ofN_gtL {i m : Nat} (hi : i < 2147483648) (hm : m < 2147483648) : (OfNat.ofNat m : Int32) < Int32.ofNat i ↔ m < i := ofN_lt hm hi
theorem ofN_eqL {i m : Nat} (hi : i < 2147483648) (hm : m < 2147483648) : Int32.ofNat i = (OfNat.ofNat m : Int32) ↔ i = m := ofN_eq hi hm
theorem ofN_nn {i : Nat} (hi : i < 2147483648) : ¬ Int32.ofNat i < 0 := fun h => Nat.not_lt_zero _ ((ofN_ltL hi (by decide)).mp h)
theorem lit_int {m : Nat} (hm : m < 2147483648) : (OfNat.ofNat m : Int32).toInt = m := ofN_int hm
theorem upd_upd {α : Type} (f : Nat → α) (i : Nat) (x y : α) : upd (upd f i x) i y = upd f i y := by
  funext j; unfold upd; by_cases h : j = i <;> simp [h]
theorem upd_self {α : Type} (f : Nat → α) (i : Nat) : upd f i (f i) = f := by
  funext j; unfold upd; by_cases h : j = i <;> simp [h]
theorem sA_sA (s : St) (i : Nat) (x y : List Int32) : sA (sA s i x) i y = sA s i y := by unfold sA; dsimp only; rw [upd_upd]
theorem sB_sB (s : St) (i : Nat) (x y : List Int64) : sB (sB s i x) i y = sB s i y := by unfold sB; dsimp only; rw [upd_upd]
theorem sI_sI (s : St) (i : Nat) (x y : Int32) : sI (sI s i x) i y = sI s i y := by unfold sI; dsimp only; rw [upd_upd]
theorem sA_self {s : St} {i : Nat} {x : List Int32} (h : gA s i = x) : sA s i x = s := by
  subst h; unfold sA gA; rw [upd_self]
theorem sB_self {s : St} {i : Nat} {x : List Int64} (h : gB s i = x) : sB s i x = s := by
  subst h; unfold sB gB; rw [upd_self]
theorem sI_self {s : St} {i : Nat} {x : Int32} (h : gI s i = x) : sI s i x = s := by
  subst h; unfold sI gI; rw [upd_self]
theorem fill_set {α : Type} (a b : α) (n i : Nat) (h : i < n) : (List.replicate i a ++ List.replicate (n - i) b).set i a = List.replicate (i + 1) a ++ List.replicate (n - (i + 1)) b := by
  rw [List.set_append_right _ _ (by simp), List.length_replicate, Nat.sub_self]
  obtain ⟨m, hm⟩ : ∃ m, n - i = m + 1 := ⟨n - i - 1, by omega⟩
  have hm2 : n - (i + 1) = m := by omega
  rw [hm, hm2, List.replicate_succ, List.set_cons_zero, List.replicate_succ', List.append_assoc]; rfl
theorem and_nat (x : Int32) (m : Nat) (hm : m < 2147483648) : ∃ k, k ≤ m ∧ (x &&& Int32.ofNat m) = Int32.ofNat k := by
  refine ⟨(x.toBitVec &&& BitVec.ofNat 32 m).toNat, ?_, ?_⟩
  · rw [BitVec.toNat_and, BitVec.toNat_ofNat, Nat.mod_eq_of_lt (by omega)]
    exact Nat.and_le_right
  · apply Int32.toBitVec_inj.mp
    show x.toBitVec &&& BitVec.ofNat 32 m = BitVec.ofNat 32 _
    rw [BitVec.ofNat_toNat, BitVec.setWidth_eq]
theorem and_natL (x : Int32) (m : Nat) (hm : m < 2147483648) : ∃ k, k ≤ m ∧ (x &&& (OfNat.ofNat m : Int32)) = Int32.ofNat k := and_nat x m hm
theorem nat_lt {i : Int32} {m : Nat} (h : ¬ i < 0) (h2 : i < (OfNat.ofNat m : Int32)) (hm : m < 2147483648) : ∃ k : Nat, k < m ∧ i = Int32.ofNat k := by
  obtain ⟨k, hk⟩ := nn_of h
  rw [x32_lt, lit_int hm, hk] at h2
  exact ⟨k, by omega, ofN_of hk⟩
theorem nat_le {i : Int32} {m : Nat} (h : ¬ i < 0) (h2 : ¬ (OfNat.ofNat m : Int32) < i) (hm : m < 2147483648) : ∃ k : Nat, k ≤ m ∧ i = Int32.ofNat k := by
  obtain ⟨k, hk⟩ := nn_of h
  rw [x32_lt, lit_int hm, hk] at h2
  exact ⟨k, by omega, ofN_of hk⟩
theorem rd_at {α : Type} {xs : List α} {k : Nat} {x : α} (hk : k < 2147483648) (h : xs[k]? = some x) : rd xs (Int32.ofNat k) = some x := rd_of (ofN_int hk) h
theorem wr_at' {α : Type} {xs : List α} {k : Nat} (x : α) (hk : k < 2147483648) (h : k < xs.length) : wr xs (Int32.ofNat k) x = some (xs.set k x) := wr_of x (ofN_int hk) h
theorem rep_get {α : Type} {n k : Nat} (a : α) (h : k < n) : (List.replicate n a)[k]? = some a := by rw [List.getElem?_replicate, if_pos h]
theorem get_set_self {α : Type} {xs : List α} {k : Nat} (x : α) (h : k < xs.length) : (xs.set k x)[k]? = some x := by rw [List.getElem?_set_self h]
theorem get_set_ne {α : Type} {xs : List α} {k j : Nat} (x : α) (h : k ≠ j) : (xs.set k x)[j]? = xs[j]? := List.getElem?_set_ne h
theorem upd_comm {α : Type} (f : Nat → α) {i j : Nat} (h : i ≠ j) (x y : α) : upd (upd f i x) j y = upd (upd f j y) i x := by
  funext m; unfold upd
  by_cases h1 : m = j
  · subst h1; rw [if_pos rfl, if_neg (Ne.symm h), if_pos rfl]
  · rw [if_neg h1]; by_cases h2 : m = i
    · rw [if_pos h2, if_pos h2]
    · rw [if_neg h2, if_neg h2, if_neg h1]
theorem sA_comm {s : St} {i j : Nat} (h : i ≠ j) {x y : List Int32} : sA (sA s i x) j y = sA (sA s j y) i x := by unfold sA; dsimp only; rw [upd_comm _ h]
theorem sB_comm {s : St} {i j : Nat} (h : i ≠ j) {x y : List Int64} : sB (sB s i x) j y = sB (sB s j y) i x := by unfold sB; dsimp only; rw [upd_comm _ h]
theorem sI_comm {s : St} {i j : Nat} (h : i ≠ j) {x y : Int32} : sI (sI s i x) j y = sI (sI s j y) i x := by unfold sI; dsimp only; rw [upd_comm _ h]
theorem sJ_self {s : St} {i : Nat} {x : Int64} (h : gJ s i = x) : sJ s i x = s := by
  subst h; unfold sJ gJ; rw [upd_self]
theorem wrA_nop {s : St} {f N k : Nat} {v : Int32} (h : gA s f = List.replicate N v) (hk : k < N) (hN : N ≤ 2147483647) : wrA s f (Int32.ofNat k) v = some s := by
  rw [wrA_of (k := k) v (ofN_int (by omega)) (by rw [h, List.length_replicate]; exact hk), sA_self (by rw [h, List.set_replicate_self])]
theorem wrB_nop {s : St} {f N k : Nat} {v : Int64} (h : gB s f = List.replicate N v) (hk : k < N) (hN : N ≤ 2147483647) : wrB s f (Int32.ofNat k) v = some s := by
  rw [wrB_of (k := k) v (ofN_int (by omega)) (by rw [h, List.length_replicate]; exact hk), sB_self (by rw [h, List.set_replicate_self])]
/-- a loop that fills -/
theorem wrA_fill {s : St} {f N k : Nat} {u v : Int32} (hk : k < N) (hN : N ≤ 2147483647) : wrA (sA s f (List.replicate k v ++ List.replicate (N - k) u)) f (Int32.ofNat k) v = some (sA s f (List.replicate (k + 1) v ++ List.replicate (N - (k + 1)) u)) := by
  rw [wrA_of (k := k) v (ofN_int (by omega)) (by rw [gA_sA, if_pos rfl]; simp; omega), gA_sA, if_pos rfl, fill_set _ _ _ _ hk, sA_sA]
theorem fill_start {s : St} {f N : Nat} {u v : Int32} (h : gA s f = List.replicate N u) : s = sA s f (List.replicate 0 v ++ List.replicate (N - 0) u) := (sA_self (by rw [h]; rfl)).symm
theorem fill_end {s : St} {f N : Nat} {u v : Int32} : sA s f (List.replicate N v ++ List.replicate (N - N) u) = sA s f (List.replicate N v) := by rw [Nat.sub_self]; simp
theorem x32_neg {x : Int32} (h : -2147483648 < x.toInt) : (-x).toInt = -x.toInt := by
  have := Int32.toInt_lt x
  rw [Int32.toInt_neg]; exact Int.bmod_eq_of_le (by omega) (by omega)
theorem x64_neg {x : Int64} (h : -9223372036854775808 < x.toInt) : (-x).toInt = -x.toInt := by
  have := Int64.toInt_lt x
  rw [Int64.toInt_neg]; exact Int.bmod_eq_of_le (by omega) (by omega)
theorem x64_lt {x y : Int64} : x < y ↔ x.toInt < y.toInt := Int64.lt_iff_toInt_lt
theorem x64_eq {x y : Int64} : x = y ↔ x.toInt = y.toInt := Int64.toInt_inj.symm
theorem x64_add {x y : Int64} (h1 : -9223372036854775808 ≤ x.toInt + y.toInt) (h2 : x.toInt + y.toInt < 9223372036854775808) : (x + y).toInt = x.toInt + y.toInt := by
  rw [Int64.toInt_add]; exact Int.bmod_eq_of_le (by omega) (by omega)
theorem x64_sub {x y : Int64} (h1 : -9223372036854775808 ≤ x.toInt - y.toInt) (h2 : x.toInt - y.toInt < 9223372036854775808) : (x - y).toInt = x.toInt - y.toInt := by
  rw [Int64.toInt_sub]; exact Int.bmod_eq_of_le (by omega) (by omega)
theorem x64_mul {x y : Int64} (h1 : -9223372036854775808 ≤ x.toInt * y.toInt) (h2 : x.toInt * y.toInt < 9223372036854775808) : (x * y).toInt = x.toInt * y.toInt := by
  rw [Int64.toInt_mul]; exact Int.bmod_eq_of_le (by omega) (by omega)
end Jvm.Own
namespace Jvm.Pilot.@@N@@
open Jvm Jvm.ClassFile Sem Op Lib Jvm.Free Jvm.Stand Jvm.LawKit Jvm.RoadKit Bundle Jvm.Pilot.@@N@@.Jvm.D Jvm.Own
abbrev HW (a0 : Array Value) (Z : State) : Prop := ∀ d ∈ tables_1, d.before a0 Z = true
abbrev CN : String := "RingLweKem"
def lay : List (String × String) := [("poly", "[I"), ("pw", "[I"), ("rev", "[I"), ("idR", "I"), ("idE", "I"), ("idE1", "I"), ("idE2", "I"), ("idUF", "I"), ("idVF", "I"), ("idWA", "I"), ("idWB", "I"), ("eta", "I"), ("du", "I"), ("dv", "I"), ("g", "I"), ("state", "I")]
abbrev vs0 : List Value := [.null, .null, .null, .int 0, .int 0, .int 0, .int 0, .int 0, .int 0, .int 0, .int 0, .int 0, .int 0, .int 0, .int 0, .int 0]
abbrev Hb (b : Nat) (s : St) : List OwnC := [cO [.ref (b + 1), .ref (b + 2), .ref (b + 3), .int (gI s 0), .int (gI s 1), .int (gI s 2), .int (gI s 3), .int (gI s 4), .int (gI s 5), .int (gI s 6), .int (gI s 7), .int (gI s 8), .int (gI s 9), .int (gI s 10), .int (gI s 11), .int (gI s 12)], cI (gA s 0), cI (gA s 1), cI (gA s 2)]
def st0 : St := (fun _ => 0, fun _ => 0, fun i => ([List.replicate 272 0, List.replicate 32 0, List.replicate 16 0] : List (List Int32)).getD i [], fun i => ([] : List (List Int64)).getD i [])
theorem m_0 : (Jvm.Cond.classLink "RingLweKemL3" (7 : Nat) "RingLweKem") ∈ tables_1 := List.mem_of_getElem? (i := 0) rfl
theorem m_1 : (Jvm.Cond.instantiable "RingLweKem" (16 : Nat)) ∈ tables_1 := List.mem_of_getElem? (i := 1) rfl
theorem m_2 : (Jvm.Cond.initialized "RingLweKem") ∈ tables_1 := List.mem_of_getElem? (i := 2) rfl
theorem m_3 : (Jvm.Cond.methodLink "RingLweKemL3" (9 : Nat) ({ cls := "RingLweKem", name := "<init>", desc := "(III)V" } : Jvm.MethodName)) ∈ tables_1 := List.mem_of_getElem? (i := 3) rfl
theorem m_4 : (Jvm.Cond.instanceMethod ({ cls := "RingLweKem", name := "<init>", desc := "(III)V" } : Jvm.MethodName)) ∈ tables_1 := List.mem_of_getElem? (i := 4) rfl
theorem m_5 : (Jvm.Cond.code ({ cls := "RingLweKem", name := "<init>", desc := "(III)V" } : Jvm.MethodName) prog_1_method_1_code (4 : Nat) (Option.none : Option Jvm.ClassFile.FieldType)) ∈ tables_1 := List.mem_of_getElem? (i := 5) rfl
theorem m_6 : (Jvm.Cond.methodLink "RingLweKem" (1 : Nat) ({ cls := "java/lang/Object", name := "<init>", desc := "()V" } : Jvm.MethodName)) ∈ tables_1 := List.mem_of_getElem? (i := 6) rfl
theorem m_7 : (Jvm.Cond.instanceMethod ({ cls := "java/lang/Object", name := "<init>", desc := "()V" } : Jvm.MethodName)) ∈ tables_1 := List.mem_of_getElem? (i := 7) rfl
theorem m_8 : (Jvm.Cond.code ({ cls := "java/lang/Object", name := "<init>", desc := "()V" } : Jvm.MethodName) object_method_1_code (1 : Nat) (Option.none : Option Jvm.ClassFile.FieldType)) ∈ tables_1 := List.mem_of_getElem? (i := 8) rfl
theorem m_9 : (Jvm.Cond.arrayClass Jvm.ClassFile.FieldType.int) ∈ tables_1 := List.mem_of_getElem? (i := 9) rfl
theorem m_10 : (Jvm.Cond.fieldLink "RingLweKem" (7 : Nat) "RingLweKem" "poly" "[I") ∈ tables_1 := List.mem_of_getElem? (i := 10) rfl
theorem m_11 : (Jvm.Cond.laysFinal "RingLweKem" "RingLweKem" "poly" "[I") ∈ tables_1 := List.mem_of_getElem? (i := 11) rfl
theorem m_12 : (Jvm.Cond.fieldLink "RingLweKem" (13 : Nat) "RingLweKem" "pw" "[I") ∈ tables_1 := List.mem_of_getElem? (i := 12) rfl
theorem m_13 : (Jvm.Cond.laysFinal "RingLweKem" "RingLweKem" "pw" "[I") ∈ tables_1 := List.mem_of_getElem? (i := 13) rfl
theorem m_14 : (Jvm.Cond.fieldLink "RingLweKem" (16 : Nat) "RingLweKem" "rev" "[I") ∈ tables_1 := List.mem_of_getElem? (i := 14) rfl
theorem m_15 : (Jvm.Cond.laysFinal "RingLweKem" "RingLweKem" "rev" "[I") ∈ tables_1 := List.mem_of_getElem? (i := 15) rfl
theorem m_16 : (Jvm.Cond.fieldLink "RingLweKem" (19 : Nat) "RingLweKem" "idR" "I") ∈ tables_1 := List.mem_of_getElem? (i := 16) rfl
theorem m_17 : (Jvm.Cond.laysFinal "RingLweKem" "RingLweKem" "idR" "I") ∈ tables_1 := List.mem_of_getElem? (i := 17) rfl
theorem m_18 : (Jvm.Cond.fieldLink "RingLweKem" (23 : Nat) "RingLweKem" "idE" "I") ∈ tables_1 := List.mem_of_getElem? (i := 18) rfl
theorem m_19 : (Jvm.Cond.laysFinal "RingLweKem" "RingLweKem" "idE" "I") ∈ tables_1 := List.mem_of_getElem? (i := 19) rfl
theorem m_20 : (Jvm.Cond.fieldLink "RingLweKem" (26 : Nat) "RingLweKem" "idE1" "I") ∈ tables_1 := List.mem_of_getElem? (i := 20) rfl
theorem m_21 : (Jvm.Cond.laysFinal "RingLweKem" "RingLweKem" "idE1" "I") ∈ tables_1 := List.mem_of_getElem? (i := 21) rfl
theorem m_22 : (Jvm.Cond.fieldLink "RingLweKem" (29 : Nat) "RingLweKem" "idE2" "I") ∈ tables_1 := List.mem_of_getElem? (i := 22) rfl
theorem m_23 : (Jvm.Cond.laysFinal "RingLweKem" "RingLweKem" "idE2" "I") ∈ tables_1 := List.mem_of_getElem? (i := 23) rfl
theorem m_24 : (Jvm.Cond.fieldLink "RingLweKem" (32 : Nat) "RingLweKem" "idUF" "I") ∈ tables_1 := List.mem_of_getElem? (i := 24) rfl
theorem m_25 : (Jvm.Cond.laysFinal "RingLweKem" "RingLweKem" "idUF" "I") ∈ tables_1 := List.mem_of_getElem? (i := 25) rfl
theorem m_26 : (Jvm.Cond.fieldLink "RingLweKem" (35 : Nat) "RingLweKem" "idVF" "I") ∈ tables_1 := List.mem_of_getElem? (i := 26) rfl
theorem m_27 : (Jvm.Cond.laysFinal "RingLweKem" "RingLweKem" "idVF" "I") ∈ tables_1 := List.mem_of_getElem? (i := 27) rfl
theorem m_28 : (Jvm.Cond.fieldLink "RingLweKem" (38 : Nat) "RingLweKem" "idWA" "I") ∈ tables_1 := List.mem_of_getElem? (i := 28) rfl
theorem m_29 : (Jvm.Cond.laysFinal "RingLweKem" "RingLweKem" "idWA" "I") ∈ tables_1 := List.mem_of_getElem? (i := 29) rfl
theorem m_30 : (Jvm.Cond.fieldLink "RingLweKem" (41 : Nat) "RingLweKem" "idWB" "I") ∈ tables_1 := List.mem_of_getElem? (i := 30) rfl
theorem m_31 : (Jvm.Cond.laysFinal "RingLweKem" "RingLweKem" "idWB" "I") ∈ tables_1 := List.mem_of_getElem? (i := 31) rfl
theorem m_32 : (Jvm.Cond.methodLink "RingLweKem" (44 : Nat) ({ cls := "RingLweKem", name := "clamp", desc := "(III)I" } : Jvm.MethodName)) ∈ tables_1 := List.mem_of_getElem? (i := 32) rfl
theorem m_33 : (Jvm.Cond.instanceMethod ({ cls := "RingLweKem", name := "clamp", desc := "(III)I" } : Jvm.MethodName)) ∈ tables_1 := List.mem_of_getElem? (i := 33) rfl
theorem m_34 : (Jvm.Cond.privateMethod ({ cls := "RingLweKem", name := "clamp", desc := "(III)I" } : Jvm.MethodName)) ∈ tables_1 := List.mem_of_getElem? (i := 34) rfl
theorem m_35 : (Jvm.Cond.code ({ cls := "RingLweKem", name := "clamp", desc := "(III)I" } : Jvm.MethodName) prog_1_method_16_code (4 : Nat) (Option.some Jvm.ClassFile.FieldType.int)) ∈ tables_1 := List.mem_of_getElem? (i := 35) rfl
theorem m_36 : (Jvm.Cond.fieldLink "RingLweKem" (48 : Nat) "RingLweKem" "eta" "I") ∈ tables_1 := List.mem_of_getElem? (i := 36) rfl
theorem m_37 : (Jvm.Cond.lays "RingLweKem" "RingLweKem" "eta" "I") ∈ tables_1 := List.mem_of_getElem? (i := 37) rfl
theorem m_38 : (Jvm.Cond.fieldLink "RingLweKem" (51 : Nat) "RingLweKem" "du" "I") ∈ tables_1 := List.mem_of_getElem? (i := 38) rfl
theorem m_39 : (Jvm.Cond.lays "RingLweKem" "RingLweKem" "du" "I") ∈ tables_1 := List.mem_of_getElem? (i := 39) rfl
theorem m_40 : (Jvm.Cond.fieldLink "RingLweKem" (54 : Nat) "RingLweKem" "dv" "I") ∈ tables_1 := List.mem_of_getElem? (i := 40) rfl
theorem m_41 : (Jvm.Cond.lays "RingLweKem" "RingLweKem" "dv" "I") ∈ tables_1 := List.mem_of_getElem? (i := 41) rfl
theorem m_42 : (Jvm.Cond.fieldLink "RingLweKem" (57 : Nat) "RingLweKem" "g" "I") ∈ tables_1 := List.mem_of_getElem? (i := 42) rfl
theorem m_43 : (Jvm.Cond.lays "RingLweKem" "RingLweKem" "g" "I") ∈ tables_1 := List.mem_of_getElem? (i := 43) rfl
theorem m_44 : (Jvm.Cond.fieldLink "RingLweKem" (60 : Nat) "RingLweKem" "state" "I") ∈ tables_1 := List.mem_of_getElem? (i := 44) rfl
theorem m_45 : (Jvm.Cond.lays "RingLweKem" "RingLweKem" "state" "I") ∈ tables_1 := List.mem_of_getElem? (i := 45) rfl
theorem m_46 : (Jvm.Cond.methodLink "RingLweKem" (63 : Nat) ({ cls := "RingLweKem", name := "initTables", desc := "()V" } : Jvm.MethodName)) ∈ tables_1 := List.mem_of_getElem? (i := 46) rfl
theorem m_47 : (Jvm.Cond.instanceMethod ({ cls := "RingLweKem", name := "initTables", desc := "()V" } : Jvm.MethodName)) ∈ tables_1 := List.mem_of_getElem? (i := 47) rfl
theorem m_48 : (Jvm.Cond.privateMethod ({ cls := "RingLweKem", name := "initTables", desc := "()V" } : Jvm.MethodName)) ∈ tables_1 := List.mem_of_getElem? (i := 48) rfl
theorem m_49 : (Jvm.Cond.code ({ cls := "RingLweKem", name := "initTables", desc := "()V" } : Jvm.MethodName) prog_1_method_17_code (2 : Nat) (Option.none : Option Jvm.ClassFile.FieldType)) ∈ tables_1 := List.mem_of_getElem? (i := 49) rfl
theorem m_50 : (Jvm.Cond.methodLink "RingLweKemL3" (12 : Nat) ({ cls := "RingLweKem", name := "setOperand", desc := "(III)Z" } : Jvm.MethodName)) ∈ tables_1 := List.mem_of_getElem? (i := 50) rfl
theorem m_51 : (Jvm.Cond.declares ({ cls := "RingLweKem", name := "setOperand", desc := "(III)Z" } : Jvm.MethodName)) ∈ tables_1 := List.mem_of_getElem? (i := 51) rfl
theorem m_52 : (Jvm.Cond.instanceMethod ({ cls := "RingLweKem", name := "setOperand", desc := "(III)Z" } : Jvm.MethodName)) ∈ tables_1 := List.mem_of_getElem? (i := 52) rfl
theorem m_53 : (Jvm.Cond.selects "RingLweKem" ({ cls := "RingLweKem", name := "setOperand", desc := "(III)Z" } : Jvm.MethodName) ({ cls := "RingLweKem", name := "setOperand", desc := "(III)Z" } : Jvm.MethodName)) ∈ tables_1 := List.mem_of_getElem? (i := 53) rfl
theorem m_54 : (Jvm.Cond.code ({ cls := "RingLweKem", name := "setOperand", desc := "(III)Z" } : Jvm.MethodName) prog_1_method_5_code (4 : Nat) (Option.some Jvm.ClassFile.FieldType.boolean)) ∈ tables_1 := List.mem_of_getElem? (i := 54) rfl
theorem m_55 : (Jvm.Cond.methodLink "RingLweKem" (73 : Nat) ({ cls := "RingLweKem", name := "mod", desc := "(I)I" } : Jvm.MethodName)) ∈ tables_1 := List.mem_of_getElem? (i := 55) rfl
theorem m_56 : (Jvm.Cond.instanceMethod ({ cls := "RingLweKem", name := "mod", desc := "(I)I" } : Jvm.MethodName)) ∈ tables_1 := List.mem_of_getElem? (i := 56) rfl
theorem m_57 : (Jvm.Cond.privateMethod ({ cls := "RingLweKem", name := "mod", desc := "(I)I" } : Jvm.MethodName)) ∈ tables_1 := List.mem_of_getElem? (i := 57) rfl
theorem m_58 : (Jvm.Cond.code ({ cls := "RingLweKem", name := "mod", desc := "(I)I" } : Jvm.MethodName) prog_1_method_18_code (3 : Nat) (Option.some Jvm.ClassFile.FieldType.int)) ∈ tables_1 := List.mem_of_getElem? (i := 58) rfl
theorem m_59 : (Jvm.Cond.methodLink "RingLweKemL3" (16 : Nat) ({ cls := "RingLweKem", name := "multiply", desc := "()V" } : Jvm.MethodName)) ∈ tables_1 := List.mem_of_getElem? (i := 59) rfl
theorem m_60 : (Jvm.Cond.declares ({ cls := "RingLweKem", name := "multiply", desc := "()V" } : Jvm.MethodName)) ∈ tables_1 := List.mem_of_getElem? (i := 60) rfl
theorem m_61 : (Jvm.Cond.instanceMethod ({ cls := "RingLweKem", name := "multiply", desc := "()V" } : Jvm.MethodName)) ∈ tables_1 := List.mem_of_getElem? (i := 61) rfl
theorem m_62 : (Jvm.Cond.selects "RingLweKem" ({ cls := "RingLweKem", name := "multiply", desc := "()V" } : Jvm.MethodName) ({ cls := "RingLweKem", name := "multiply", desc := "()V" } : Jvm.MethodName)) ∈ tables_1 := List.mem_of_getElem? (i := 62) rfl
theorem m_63 : (Jvm.Cond.code ({ cls := "RingLweKem", name := "multiply", desc := "()V" } : Jvm.MethodName) prog_1_method_6_code (1 : Nat) (Option.none : Option Jvm.ClassFile.FieldType)) ∈ tables_1 := List.mem_of_getElem? (i := 63) rfl
theorem m_64 : (Jvm.Cond.methodLink "RingLweKem" (77 : Nat) ({ cls := "RingLweKem", name := "mul", desc := "(III)V" } : Jvm.MethodName)) ∈ tables_1 := List.mem_of_getElem? (i := 64) rfl
theorem m_65 : (Jvm.Cond.instanceMethod ({ cls := "RingLweKem", name := "mul", desc := "(III)V" } : Jvm.MethodName)) ∈ tables_1 := List.mem_of_getElem? (i := 65) rfl
theorem m_66 : (Jvm.Cond.privateMethod ({ cls := "RingLweKem", name := "mul", desc := "(III)V" } : Jvm.MethodName)) ∈ tables_1 := List.mem_of_getElem? (i := 66) rfl
theorem m_67 : (Jvm.Cond.code ({ cls := "RingLweKem", name := "mul", desc := "(III)V" } : Jvm.MethodName) prog_1_method_31_code (7 : Nat) (Option.none : Option Jvm.ClassFile.FieldType)) ∈ tables_1 := List.mem_of_getElem? (i := 67) rfl
theorem m_68 : (Jvm.Cond.methodLink "RingLweKem" (113 : Nat) ({ cls := "RingLweKem", name := "copy", desc := "(II)V" } : Jvm.MethodName)) ∈ tables_1 := List.mem_of_getElem? (i := 68) rfl
theorem m_69 : (Jvm.Cond.instanceMethod ({ cls := "RingLweKem", name := "copy", desc := "(II)V" } : Jvm.MethodName)) ∈ tables_1 := List.mem_of_getElem? (i := 69) rfl
theorem m_70 : (Jvm.Cond.privateMethod ({ cls := "RingLweKem", name := "copy", desc := "(II)V" } : Jvm.MethodName)) ∈ tables_1 := List.mem_of_getElem? (i := 70) rfl
theorem m_71 : (Jvm.Cond.code ({ cls := "RingLweKem", name := "copy", desc := "(II)V" } : Jvm.MethodName) prog_1_method_28_code (6 : Nat) (Option.none : Option Jvm.ClassFile.FieldType)) ∈ tables_1 := List.mem_of_getElem? (i := 71) rfl
theorem m_72 : (Jvm.Cond.methodLink "RingLweKem" (116 : Nat) ({ cls := "RingLweKem", name := "forward", desc := "(I)V" } : Jvm.MethodName)) ∈ tables_1 := List.mem_of_getElem? (i := 72) rfl
theorem m_73 : (Jvm.Cond.instanceMethod ({ cls := "RingLweKem", name := "forward", desc := "(I)V" } : Jvm.MethodName)) ∈ tables_1 := List.mem_of_getElem? (i := 73) rfl
theorem m_74 : (Jvm.Cond.privateMethod ({ cls := "RingLweKem", name := "forward", desc := "(I)V" } : Jvm.MethodName)) ∈ tables_1 := List.mem_of_getElem? (i := 74) rfl
theorem m_75 : (Jvm.Cond.code ({ cls := "RingLweKem", name := "forward", desc := "(I)V" } : Jvm.MethodName) prog_1_method_32_code (4 : Nat) (Option.none : Option Jvm.ClassFile.FieldType)) ∈ tables_1 := List.mem_of_getElem? (i := 75) rfl
theorem m_76 : (Jvm.Cond.methodLink "RingLweKem" (122 : Nat) ({ cls := "RingLweKem", name := "bitReverse", desc := "(I)V" } : Jvm.MethodName)) ∈ tables_1 := List.mem_of_getElem? (i := 76) rfl
theorem m_77 : (Jvm.Cond.instanceMethod ({ cls := "RingLweKem", name := "bitReverse", desc := "(I)V" } : Jvm.MethodName)) ∈ tables_1 := List.mem_of_getElem? (i := 77) rfl
theorem m_78 : (Jvm.Cond.privateMethod ({ cls := "RingLweKem", name := "bitReverse", desc := "(I)V" } : Jvm.MethodName)) ∈ tables_1 := List.mem_of_getElem? (i := 78) rfl
theorem m_79 : (Jvm.Cond.code ({ cls := "RingLweKem", name := "bitReverse", desc := "(I)V" } : Jvm.MethodName) prog_1_method_34_code (6 : Nat) (Option.none : Option Jvm.ClassFile.FieldType)) ∈ tables_1 := List.mem_of_getElem? (i := 79) rfl
theorem m_80 : (Jvm.Cond.methodLink "RingLweKem" (125 : Nat) ({ cls := "RingLweKem", name := "butterflies", desc := "(IZ)V" } : Jvm.MethodName)) ∈ tables_1 := List.mem_of_getElem? (i := 80) rfl
theorem m_81 : (Jvm.Cond.instanceMethod ({ cls := "RingLweKem", name := "butterflies", desc := "(IZ)V" } : Jvm.MethodName)) ∈ tables_1 := List.mem_of_getElem? (i := 81) rfl
theorem m_82 : (Jvm.Cond.privateMethod ({ cls := "RingLweKem", name := "butterflies", desc := "(IZ)V" } : Jvm.MethodName)) ∈ tables_1 := List.mem_of_getElem? (i := 82) rfl
theorem m_83 : (Jvm.Cond.code ({ cls := "RingLweKem", name := "butterflies", desc := "(IZ)V" } : Jvm.MethodName) prog_1_method_35_code (15 : Nat) (Option.none : Option Jvm.ClassFile.FieldType)) ∈ tables_1 := List.mem_of_getElem? (i := 83) rfl
theorem m_84 : (Jvm.Cond.methodLink "RingLweKem" (119 : Nat) ({ cls := "RingLweKem", name := "inverse", desc := "(I)V" } : Jvm.MethodName)) ∈ tables_1 := List.mem_of_getElem? (i := 84) rfl
theorem m_85 : (Jvm.Cond.instanceMethod ({ cls := "RingLweKem", name := "inverse", desc := "(I)V" } : Jvm.MethodName)) ∈ tables_1 := List.mem_of_getElem? (i := 85) rfl
theorem m_86 : (Jvm.Cond.privateMethod ({ cls := "RingLweKem", name := "inverse", desc := "(I)V" } : Jvm.MethodName)) ∈ tables_1 := List.mem_of_getElem? (i := 86) rfl
theorem m_87 : (Jvm.Cond.code ({ cls := "RingLweKem", name := "inverse", desc := "(I)V" } : Jvm.MethodName) prog_1_method_33_code (5 : Nat) (Option.none : Option Jvm.ClassFile.FieldType)) ∈ tables_1 := List.mem_of_getElem? (i := 87) rfl
theorem m_88 : (Jvm.Cond.methodLink "RingLweKemL3" (19 : Nat) ({ cls := "RingLweKemL3", name := "md", desc := "(I)I" } : Jvm.MethodName)) ∈ tables_1 := List.mem_of_getElem? (i := 88) rfl
theorem m_89 : (Jvm.Cond.static ({ cls := "RingLweKemL3", name := "md", desc := "(I)I" } : Jvm.MethodName)) ∈ tables_1 := List.mem_of_getElem? (i := 89) rfl
theorem m_90 : (Jvm.Cond.initialized "RingLweKemL3") ∈ tables_1 := List.mem_of_getElem? (i := 90) rfl
theorem m_91 : (Jvm.Cond.code ({ cls := "RingLweKemL3", name := "md", desc := "(I)I" } : Jvm.MethodName) method_2_code (1 : Nat) (Option.some Jvm.ClassFile.FieldType.int)) ∈ tables_1 := List.mem_of_getElem? (i := 91) rfl
theorem m_92 : (Jvm.Cond.methodLink "RingLweKemL3" (25 : Nat) ({ cls := "RingLweKem", name := "get", desc := "(II)I" } : Jvm.MethodName)) ∈ tables_1 := List.mem_of_getElem? (i := 92) rfl
theorem m_93 : (Jvm.Cond.declares ({ cls := "RingLweKem", name := "get", desc := "(II)I" } : Jvm.MethodName)) ∈ tables_1 := List.mem_of_getElem? (i := 93) rfl
theorem m_94 : (Jvm.Cond.instanceMethod ({ cls := "RingLweKem", name := "get", desc := "(II)I" } : Jvm.MethodName)) ∈ tables_1 := List.mem_of_getElem? (i := 94) rfl
theorem m_95 : (Jvm.Cond.selects "RingLweKem" ({ cls := "RingLweKem", name := "get", desc := "(II)I" } : Jvm.MethodName) ({ cls := "RingLweKem", name := "get", desc := "(II)I" } : Jvm.MethodName)) ∈ tables_1 := List.mem_of_getElem? (i := 95) rfl
theorem m_96 : (Jvm.Cond.code ({ cls := "RingLweKem", name := "get", desc := "(II)I" } : Jvm.MethodName) prog_1_method_7_code (3 : Nat) (Option.some Jvm.ClassFile.FieldType.int)) ∈ tables_1 := List.mem_of_getElem? (i := 96) rfl
theorem laid0 {Z : State} {a0 : Array Value} (hw : HW a0 Z) : LaidAll Z a0 CN lay vs0 :=
  ⟨⟨Or.inr (hw _ m_11), .array .int, by decide, rfl⟩, ⟨Or.inr (hw _ m_13), .array .int, by decide, rfl⟩, ⟨Or.inr (hw _ m_15), .array .int, by decide, rfl⟩, ⟨Or.inr (hw _ m_17), .int, by decide, rfl⟩, ⟨Or.inr (hw _ m_19), .int, by decide, rfl⟩, ⟨Or.inr (hw _ m_21), .int, by decide, rfl⟩, ⟨Or.inr (hw _ m_23), .int, by decide, rfl⟩, ⟨Or.inr (hw _ m_25), .int, by decide, rfl⟩, ⟨Or.inr (hw _ m_27), .int, by decide, rfl⟩, ⟨Or.inr (hw _ m_29), .int, by decide, rfl⟩, ⟨Or.inr (hw _ m_31), .int, by decide, rfl⟩, ⟨Or.inl (hw _ m_37), .int, by decide, rfl⟩, ⟨Or.inl (hw _ m_39), .int, by decide, rfl⟩, ⟨Or.inl (hw _ m_41), .int, by decide, rfl⟩, ⟨Or.inl (hw _ m_43), .int, by decide, rfl⟩, ⟨Or.inl (hw _ m_45), .int, by decide, rfl⟩, trivial⟩
theorem hlay {Z : State} {a0 : Array Value} (hw : HW a0 Z) : ∀ (a b : Nat) (f g : String × String), lay[a]? = some f → lay[b]? = some g → a ≠ b → RoadKit.slotOf Z CN f.1 f.2 ≠ RoadKit.slotOf Z CN g.1 g.2 := (laid0 hw).ne (by decide)
theorem vs0_ok {Z : State} {a0 : Array Value} (hw : HW a0 Z) : ∀ (i : Nat) (f : String × String) (v : Value), lay[i]? = some f → vs0[i]? = some v → Laid Z a0 CN CN f.1 f.2 ∧ ∃ ty, parseFieldDescriptor f.2 = some ty ∧ v = defaultValue ty := (laid0 hw).new
theorem pn_cls : plainName CN = true := by first | (simp [plainName, overriddenIn]; done) | decide +kernel
theorem pn_law : plainName "RingLweKemL3" = true := by first | (simp [plainName, overriddenIn]; done) | decide +kernel
theorem d1_0 : dc prog_1_method_16_code 0 (.iload_n 1) 1 := by decide +kernel
theorem d1_1 : dc prog_1_method_16_code 1 (.iload_n 2) 1 := by decide +kernel
theorem d1_2 : dc prog_1_method_16_code 2 (.if_icmp .ge 5) 3 := by decide +kernel
theorem d1_5 : dc prog_1_method_16_code 5 (.iload_n 2) 1 := by decide +kernel
theorem d1_6 : dc prog_1_method_16_code 6 (.ireturn) 1 := by decide +kernel
theorem d1_7 : dc prog_1_method_16_code 7 (.iload_n 1) 1 := by decide +kernel
theorem d1_8 : dc prog_1_method_16_code 8 (.iload_n 3) 1 := by decide +kernel
theorem d1_9 : dc prog_1_method_16_code 9 (.if_icmp .le 5) 3 := by decide +kernel
theorem d1_12 : dc prog_1_method_16_code 12 (.iload_n 3) 1 := by decide +kernel
theorem d1_13 : dc prog_1_method_16_code 13 (.ireturn) 1 := by decide +kernel
theorem d1_14 : dc prog_1_method_16_code 14 (.iload_n 1) 1 := by decide +kernel
theorem d1_15 : dc prog_1_method_16_code 15 (.ireturn) 1 := by decide +kernel
abbrev y1 : MethodName := ⟨"RingLweKem", "clamp", "(III)I"⟩
theorem hy1 : y1.cls ≠ "java/lang/invoke/MethodHandle" ∧ y1.cls ≠ "java/lang/invoke/VarHandle" := by decide
theorem pd1 : parseMethodDescriptor y1.desc = some ⟨[.int, .int, .int], some .int⟩ := by decide +kernel
abbrev R1 : Room := { frames := 0, cells := 0, slots := 0, locals := 0 }
abbrev P1 (s : St) (r : Int32) : Option Value → List OwnC → Prop := fun v H' => v = some (.int r) ∧ H' = (Hb 0 s)
abbrev W1 (l : Launch) (Z : State) (n0 : Nat) (Q : Option Value → List OwnC → Prop) (k n pc : Nat) (L : List Slot) (S : List Value) (H : List OwnC) : Prop := WP l Z CN lay "RingLweKem" "clamp" prog_1_method_16_code 4 (some FieldType.int) R1 n0 0 Q k n pc L S H
def f_clamp (p1 : Int32) (p2 : Int32) (p3 : Int32) (s : St) : Option (Int32) :=
  if p1 < p2 then
    some p2
  else
    if p3 < p1 then
      some p3
    else
      some p1
set_option maxRecDepth 65536 in
set_option maxHeartbeats 4000000 in
theorem ok1 (l : Launch) (Z : State) (a0 : Array Value) (hw : HW a0 Z) (p1 : Int32) (p2 : Int32) (p3 : Int32) (s : St) (r : Int32) (h : f_clamp p1 p2 p3 s = some r) : CS l Z CN lay y1 prog_1_method_16_code 4 (some FieldType.int) R1 0 [.ref 0, .int p1, .int p2, .int p3] (Hb 0 s) (P1 s r) := by
  refine CS.of_wp pn_cls (leb rfl) fun n0 => ?_
  show W1 l Z n0 (P1 s r) 0 0 0 [.val (.ref 0), .val (.int p1), .val (.int p2), .val (.int p3)] [] (Hb 0 s)
  unfold f_clamp at h
  refine WP.iloadN d1_0 rfl ?_
  refine WP.iloadN d1_1 rfl ?_
  rcases ite_e h with ⟨hc1, h⟩ | ⟨hc1, h⟩
  ·
    refine WP.icmpN d1_2 (XT.ii_ge_f hc1) ?_
    refine WP.iloadN d1_5 rfl ?_
    cases h
    exact WP.ireturn d1_6 rfl (leb rfl) (leb rfl) ⟨rfl, rfl⟩
  ·
    refine WP.icmpY (pc' := 7) d1_2 (XT.ii_ge_t hc1) (by decide) rfl ?_
    refine WP.iloadN d1_7 rfl ?_
    refine WP.iloadN d1_8 rfl ?_
    rcases ite_e h with ⟨hc2, h⟩ | ⟨hc2, h⟩
    ·
      refine WP.icmpN d1_9 (XT.ii_le_f hc2) ?_
      refine WP.iloadN d1_12 rfl ?_
      cases h
      exact WP.ireturn d1_13 rfl (leb rfl) (leb rfl) ⟨rfl, rfl⟩
    ·
      refine WP.icmpY (pc' := 14) d1_9 (XT.ii_le_t hc2) (by decide) rfl ?_
      refine WP.iloadN d1_14 rfl ?_
      cases h
      exact WP.ireturn d1_15 rfl (leb rfl) (leb rfl) ⟨rfl, rfl⟩
theorem d2_0 : dc prog_1_method_17_code 0 (.aload_n 0) 1 := by decide +kernel
theorem d2_1 : dc prog_1_method_17_code 1 (.getfield 13) 3 := by decide +kernel
theorem d2_4 : dc prog_1_method_17_code 4 (.iconst 0) 1 := by decide +kernel
theorem d2_5 : dc prog_1_method_17_code 5 (.iconst 1) 1 := by decide +kernel
theorem d2_6 : dc prog_1_method_17_code 6 (.iastore) 1 := by decide +kernel
theorem d2_7 : dc prog_1_method_17_code 7 (.iconst 1) 1 := by decide +kernel
theorem d2_8 : dc prog_1_method_17_code 8 (.istore_n 1) 1 := by decide +kernel
theorem d2_9 : dc prog_1_method_17_code 9 (.iload_n 1) 1 := by decide +kernel
theorem d2_10 : dc prog_1_method_17_code 10 (.bipush 32) 2 := by decide +kernel
theorem d2_12 : dc prog_1_method_17_code 12 (.if_icmp .ge 31) 3 := by decide +kernel
theorem d2_15 : dc prog_1_method_17_code 15 (.aload_n 0) 1 := by decide +kernel
theorem d2_16 : dc prog_1_method_17_code 16 (.getfield 13) 3 := by decide +kernel
theorem d2_19 : dc prog_1_method_17_code 19 (.iload_n 1) 1 := by decide +kernel
theorem d2_20 : dc prog_1_method_17_code 20 (.aload_n 0) 1 := by decide +kernel
theorem d2_21 : dc prog_1_method_17_code 21 (.getfield 13) 3 := by decide +kernel
theorem d2_24 : dc prog_1_method_17_code 24 (.iload_n 1) 1 := by decide +kernel
theorem d2_25 : dc prog_1_method_17_code 25 (.iconst 1) 1 := by decide +kernel
theorem d2_26 : dc prog_1_method_17_code 26 (.isub) 1 := by decide +kernel
theorem d2_27 : dc prog_1_method_17_code 27 (.iaload) 1 := by decide +kernel
theorem d2_28 : dc prog_1_method_17_code 28 (.sipush 136) 3 := by decide +kernel
theorem d2_31 : dc prog_1_method_17_code 31 (.imul) 1 := by decide +kernel
theorem d2_32 : dc prog_1_method_17_code 32 (.sipush 257) 3 := by decide +kernel
theorem d2_35 : dc prog_1_method_17_code 35 (.irem) 1 := by decide +kernel
theorem d2_36 : dc prog_1_method_17_code 36 (.iastore) 1 := by decide +kernel
theorem d2_37 : dc prog_1_method_17_code 37 (.iinc 1 1) 3 := by decide +kernel
theorem d2_40 : dc prog_1_method_17_code 40 (.goto (-31)) 3 := by decide +kernel
theorem d2_43 : dc prog_1_method_17_code 43 (.iconst 0) 1 := by decide +kernel
theorem d2_44 : dc prog_1_method_17_code 44 (.istore_n 1) 1 := by decide +kernel
theorem d2_45 : dc prog_1_method_17_code 45 (.iload_n 1) 1 := by decide +kernel
theorem d2_46 : dc prog_1_method_17_code 46 (.bipush 16) 2 := by decide +kernel
theorem d2_48 : dc prog_1_method_17_code 48 (.if_icmp .ge 39) 3 := by decide +kernel
theorem d2_51 : dc prog_1_method_17_code 51 (.aload_n 0) 1 := by decide +kernel
theorem d2_52 : dc prog_1_method_17_code 52 (.getfield 16) 3 := by decide +kernel
theorem d2_55 : dc prog_1_method_17_code 55 (.iload_n 1) 1 := by decide +kernel
theorem d2_56 : dc prog_1_method_17_code 56 (.iload_n 1) 1 := by decide +kernel
theorem d2_57 : dc prog_1_method_17_code 57 (.iconst 1) 1 := by decide +kernel
theorem d2_58 : dc prog_1_method_17_code 58 (.iand) 1 := by decide +kernel
theorem d2_59 : dc prog_1_method_17_code 59 (.iconst 3) 1 := by decide +kernel
theorem d2_60 : dc prog_1_method_17_code 60 (.ishl) 1 := by decide +kernel
theorem d2_61 : dc prog_1_method_17_code 61 (.iload_n 1) 1 := by decide +kernel
theorem d2_62 : dc prog_1_method_17_code 62 (.iconst 2) 1 := by decide +kernel
theorem d2_63 : dc prog_1_method_17_code 63 (.iand) 1 := by decide +kernel
theorem d2_64 : dc prog_1_method_17_code 64 (.iconst 1) 1 := by decide +kernel
theorem d2_65 : dc prog_1_method_17_code 65 (.ishl) 1 := by decide +kernel
theorem d2_66 : dc prog_1_method_17_code 66 (.ior) 1 := by decide +kernel
theorem d2_67 : dc prog_1_method_17_code 67 (.iload_n 1) 1 := by decide +kernel
theorem d2_68 : dc prog_1_method_17_code 68 (.iconst 4) 1 := by decide +kernel
theorem d2_69 : dc prog_1_method_17_code 69 (.iand) 1 := by decide +kernel
theorem d2_70 : dc prog_1_method_17_code 70 (.iconst 1) 1 := by decide +kernel
theorem d2_71 : dc prog_1_method_17_code 71 (.ishr) 1 := by decide +kernel
theorem d2_72 : dc prog_1_method_17_code 72 (.ior) 1 := by decide +kernel
theorem d2_73 : dc prog_1_method_17_code 73 (.iload_n 1) 1 := by decide +kernel
theorem d2_74 : dc prog_1_method_17_code 74 (.bipush 8) 2 := by decide +kernel
theorem d2_76 : dc prog_1_method_17_code 76 (.iand) 1 := by decide +kernel
theorem d2_77 : dc prog_1_method_17_code 77 (.iconst 3) 1 := by decide +kernel
theorem d2_78 : dc prog_1_method_17_code 78 (.ishr) 1 := by decide +kernel
theorem d2_79 : dc prog_1_method_17_code 79 (.ior) 1 := by decide +kernel
theorem d2_80 : dc prog_1_method_17_code 80 (.iastore) 1 := by decide +kernel
theorem d2_81 : dc prog_1_method_17_code 81 (.iinc 1 1) 3 := by decide +kernel
theorem d2_84 : dc prog_1_method_17_code 84 (.goto (-39)) 3 := by decide +kernel
theorem d2_87 : dc prog_1_method_17_code 87 (.return_) 1 := by decide +kernel
abbrev y2 : MethodName := ⟨"RingLweKem", "initTables", "()V"⟩
theorem hy2 : y2.cls ≠ "java/lang/invoke/MethodHandle" ∧ y2.cls ≠ "java/lang/invoke/VarHandle" := by decide
theorem pd2 : parseMethodDescriptor y2.desc = some ⟨[], none⟩ := by decide +kernel
abbrev R2 : Room := { frames := 0, cells := 0, slots := 0, locals := 0 }
abbrev P2 (r : St) : Option Value → List OwnC → Prop := fun v H' => v = none ∧ H' = (Hb 0 r)
abbrev W2 (l : Launch) (Z : State) (n0 : Nat) (Q : Option Value → List OwnC → Prop) (k n pc : Nat) (L : List Slot) (S : List Value) (H : List OwnC) : Prop := WP l Z CN lay "RingLweKem" "initTables" prog_1_method_17_code 2 (none) R2 n0 0 Q k n pc L S H
def g_initTables_45 (k45 : Int32 → St → Option (St)) (n : Nat) (v1 : Int32) (s : St) : Option (St) :=
  if v1 < (16 : Int32) then
    (wrA s 2 v1 (((((v1 &&& (1 : Int32)) <<< ((3 : Int32) &&& 31)) ||| ((v1 &&& (2 : Int32)) <<< ((1 : Int32) &&& 31))) ||| ((v1 &&& (4 : Int32)) >>> ((1 : Int32) &&& 31))) ||| ((v1 &&& (8 : Int32)) >>> ((3 : Int32) &&& 31)))).bind fun s2 =>
    lt (v1 + (1 : Int32)) fun x3 =>
    k45 x3 s2
  else
    some s
set_option maxRecDepth 65536 in
set_option maxHeartbeats 4000000 in
theorem okg2_45 (l : Launch) (Z : State) (a0 : Array Value) (hw : HW a0 Z) (n0 : Nat) (k45 : Int32 → St → Option (St)) (hk45 : ∀ (v1 : Int32) (s : St) (r : St), k45 v1 s = some r → W2 l Z n0 (P2 r) 0 0 45 [.val (.ref 0), .val (.int v1)] [] (Hb 0 s)) (n : Nat) (v1 : Int32) (s : St) (r : St) (h : g_initTables_45 k45 n v1 s = some r) : W2 l Z n0 (P2 r) 0 0 45 [.val (.ref 0), .val (.int v1)] [] (Hb 0 s) := by
  unfold g_initTables_45 at h
  refine WP.iloadN d2_45 rfl ?_
  refine WP.bipush (16 : Int32) d2_46 rfl ?_
  rcases ite_e h with ⟨hc1, h⟩ | ⟨hc1, h⟩
  ·
    refine WP.icmpN d2_48 (XT.ii_ge_f hc1) ?_
    refine WP.aloadN d2_51 rfl ?_
    refine WP.getfield (i := 0) (j := 2) d2_52 (hw _ m_14) rfl rfl rfl ?_
    refine WP.iloadN d2_55 rfl ?_
    refine WP.iloadN d2_56 rfl ?_
    refine WP.iconst (1 : Int32) d2_57 rfl ?_
    refine WP.iand d2_58 ?_
    refine WP.iconst (3 : Int32) d2_59 rfl ?_
    refine WP.ishl d2_60 ?_
    refine WP.iloadN d2_61 rfl ?_
    refine WP.iconst (2 : Int32) d2_62 rfl ?_
    refine WP.iand d2_63 ?_
    refine WP.iconst (1 : Int32) d2_64 rfl ?_
    refine WP.ishl d2_65 ?_
    refine WP.ior d2_66 ?_
    refine WP.iloadN d2_67 rfl ?_
    refine WP.iconst (4 : Int32) d2_68 rfl ?_
    refine WP.iand d2_69 ?_
    refine WP.iconst (1 : Int32) d2_70 rfl ?_
    refine WP.ishr d2_71 ?_
    refine WP.ior d2_72 ?_
    refine WP.iloadN d2_73 rfl ?_
    refine WP.bipush (8 : Int32) d2_74 rfl ?_
    refine WP.iand d2_76 ?_
    refine WP.iconst (3 : Int32) d2_77 rfl ?_
    refine WP.ishr d2_78 ?_
    refine WP.ior d2_79 ?_
    obtain ⟨s2, hs2, h⟩ := Option.bind_eq_some_iff.mp h
    obtain ⟨ys2, gs2, es2⟩ := wrA_e hs2
    refine WP.iastore (i := 3) (xs := gA s 2) (H' := (Hb 0 s2)) d2_80 rfl (leb rfl) gs2 (by subst es2; rfl) ?_
    obtain ⟨x3, ex3, h⟩ := lt_e h
    refine WP.iinc (L' := [.val (.ref 0), .val (.int x3)]) (1 : Int32) d2_81 rfl rfl (by subst ex3; rfl) ?_
    refine WP.goto (pc' := 45) d2_84 (by decide) rfl ?_
    exact WP.weak (L' := [.val (.ref 0), .val (.int x3)]) ⟨rfl, rfl, trivial⟩ (hk45 x3 s2 _ h)
  ·
    refine WP.icmpY (pc' := 87) d2_48 (XT.ii_ge_t hc1) (by decide) rfl ?_
    cases h
    exact WP.vreturn d2_87 rfl (leb rfl) (leb rfl) ⟨rfl, rfl⟩
def f_initTables_45 : Nat → Int32 → St → Option (St)
  | 0 => fun _ _ => none
  | n + 1 => g_initTables_45 (f_initTables_45 n) n
theorem ok2_45 (l : Launch) (Z : State) (a0 : Array Value) (hw : HW a0 Z) (n0 : Nat) : ∀ (n : Nat) (v1 : Int32) (s : St) (r : St), f_initTables_45 n v1 s = some r → W2 l Z n0 (P2 r) 0 0 45 [.val (.ref 0), .val (.int v1)] [] (Hb 0 s)
  | 0, v1, s, r, h => nomatch (show none = some r from h)
  | n + 1, v1, s, r, h => okg2_45 l Z a0 hw n0 _ (ok2_45 l Z a0 hw n0 n) n v1 s r h
def g_initTables_9 (k9 : Int32 → St → Option (St)) (n : Nat) (v1 : Int32) (s : St) : Option (St) :=
  if v1 < (32 : Int32) then
    (rd (gA s 1) (v1 - (1 : Int32))).bind fun x2 =>
    (wrA s 1 v1 ((x2 * (136 : Int32)) % (257 : Int32))).bind fun s3 =>
    lt (v1 + (1 : Int32)) fun x4 =>
    k9 x4 s3
  else
    f_initTables_45 n (0 : Int32) s
set_option maxRecDepth 65536 in
set_option maxHeartbeats 4000000 in
theorem okg2_9 (l : Launch) (Z : State) (a0 : Array Value) (hw : HW a0 Z) (n0 : Nat) (k9 : Int32 → St → Option (St)) (hk9 : ∀ (v1 : Int32) (s : St) (r : St), k9 v1 s = some r → W2 l Z n0 (P2 r) 0 0 9 [.val (.ref 0), .val (.int v1)] [] (Hb 0 s)) (n : Nat) (v1 : Int32) (s : St) (r : St) (h : g_initTables_9 k9 n v1 s = some r) : W2 l Z n0 (P2 r) 0 0 9 [.val (.ref 0), .val (.int v1)] [] (Hb 0 s) := by
  unfold g_initTables_9 at h
  refine WP.iloadN d2_9 rfl ?_
  refine WP.bipush (32 : Int32) d2_10 rfl ?_
  rcases ite_e h with ⟨hc1, h⟩ | ⟨hc1, h⟩
  ·
    refine WP.icmpN d2_12 (XT.ii_ge_f hc1) ?_
    refine WP.aloadN d2_15 rfl ?_
    refine WP.getfield (i := 0) (j := 1) d2_16 (hw _ m_12) rfl rfl rfl ?_
    refine WP.iloadN d2_19 rfl ?_
    refine WP.aloadN d2_20 rfl ?_
    refine WP.getfield (i := 0) (j := 1) d2_21 (hw _ m_12) rfl rfl rfl ?_
    refine WP.iloadN d2_24 rfl ?_
    refine WP.iconst (1 : Int32) d2_25 rfl ?_
    refine WP.isub d2_26 ?_
    obtain ⟨x2, hx2, h⟩ := Option.bind_eq_some_iff.mp h
    refine WP.iaload (i := 2) d2_27 rfl hx2 ?_
    refine WP.sipush (136 : Int32) d2_28 rfl ?_
    refine WP.imul d2_31 ?_
    refine WP.sipush (257 : Int32) d2_32 rfl ?_
    refine WP.irem d2_35 (by decide) ?_
    obtain ⟨s3, hs3, h⟩ := Option.bind_eq_some_iff.mp h
    obtain ⟨ys3, gs3, es3⟩ := wrA_e hs3
    refine WP.iastore (i := 2) (xs := gA s 1) (H' := (Hb 0 s3)) d2_36 rfl (leb rfl) gs3 (by subst es3; rfl) ?_
    obtain ⟨x4, ex4, h⟩ := lt_e h
    refine WP.iinc (L' := [.val (.ref 0), .val (.int x4)]) (1 : Int32) d2_37 rfl rfl (by subst ex4; rfl) ?_
    refine WP.goto (pc' := 9) d2_40 (by decide) rfl ?_
    exact WP.weak (L' := [.val (.ref 0), .val (.int x4)]) ⟨rfl, rfl, trivial⟩ (hk9 x4 s3 _ h)
  ·
    refine WP.icmpY (pc' := 43) d2_12 (XT.ii_ge_t hc1) (by decide) rfl ?_
    refine WP.iconst (0 : Int32) d2_43 rfl ?_
    refine WP.istoreN (L' := [.val (.ref 0), .val (.int (0 : Int32))]) d2_44 (leb rfl) rfl ?_
    exact WP.weak (L' := [.val (.ref 0), .val (.int (0 : Int32))]) ⟨rfl, rfl, trivial⟩ (ok2_45 l Z a0 hw n0 n (0 : Int32) s _ h)
def f_initTables_9 : Nat → Int32 → St → Option (St)
  | 0 => fun _ _ => none
  | n + 1 => g_initTables_9 (f_initTables_9 n) n
theorem ok2_9 (l : Launch) (Z : State) (a0 : Array Value) (hw : HW a0 Z) (n0 : Nat) : ∀ (n : Nat) (v1 : Int32) (s : St) (r : St), f_initTables_9 n v1 s = some r → W2 l Z n0 (P2 r) 0 0 9 [.val (.ref 0), .val (.int v1)] [] (Hb 0 s)
  | 0, v1, s, r, h => nomatch (show none = some r from h)
  | n + 1, v1, s, r, h => okg2_9 l Z a0 hw n0 _ (ok2_9 l Z a0 hw n0 n) n v1 s r h
def f_initTables (n : Nat) (s : St) : Option (St) :=
  (wrA s 1 (0 : Int32) (1 : Int32)).bind fun s1 =>
  f_initTables_9 n (1 : Int32) s1
set_option maxRecDepth 65536 in
set_option maxHeartbeats 4000000 in
theorem ok2 (l : Launch) (Z : State) (a0 : Array Value) (hw : HW a0 Z) (n : Nat) (s : St) (r : St) (h : f_initTables n s = some r) : CS l Z CN lay y2 prog_1_method_17_code 2 (none) R2 0 [.ref 0] (Hb 0 s) (P2 r) := by
  refine CS.of_wp pn_cls (leb rfl) fun n0 => ?_
  show W2 l Z n0 (P2 r) 0 0 0 [.val (.ref 0), .unset] [] (Hb 0 s)
  unfold f_initTables at h
  refine WP.aloadN d2_0 rfl ?_
  refine WP.getfield (i := 0) (j := 1) d2_1 (hw _ m_12) rfl rfl rfl ?_
  refine WP.iconst (0 : Int32) d2_4 rfl ?_
  refine WP.iconst (1 : Int32) d2_5 rfl ?_
  obtain ⟨s1, hs1, h⟩ := Option.bind_eq_some_iff.mp h
  obtain ⟨ys1, gs1, es1⟩ := wrA_e hs1
  refine WP.iastore (i := 2) (xs := gA s 1) (H' := (Hb 0 s1)) d2_6 rfl (leb rfl) gs1 (by subst es1; rfl) ?_
  refine WP.iconst (1 : Int32) d2_7 rfl ?_
  refine WP.istoreN (L' := [.val (.ref 0), .val (.int (1 : Int32))]) d2_8 (leb rfl) rfl ?_
  exact WP.weak (L' := [.val (.ref 0), .val (.int (1 : Int32))]) ⟨rfl, rfl, trivial⟩ (ok2_9 l Z a0 hw n0 n (1 : Int32) s1 _ h)
theorem d0_0 : dc prog_1_method_1_code 0 (.aload_n 0) 1 := by decide +kernel
theorem d0_1 : dc prog_1_method_1_code 1 (.invokespecial 1) 3 := by decide +kernel
theorem d0_4 : dc prog_1_method_1_code 4 (.aload_n 0) 1 := by decide +kernel
theorem d0_5 : dc prog_1_method_1_code 5 (.sipush 272) 3 := by decide +kernel
theorem d0_8 : dc prog_1_method_1_code 8 (.newarray .int) 2 := by decide +kernel
theorem d0_10 : dc prog_1_method_1_code 10 (.putfield 7) 3 := by decide +kernel
theorem d0_13 : dc prog_1_method_1_code 13 (.aload_n 0) 1 := by decide +kernel
theorem d0_14 : dc prog_1_method_1_code 14 (.bipush 32) 2 := by decide +kernel
theorem d0_16 : dc prog_1_method_1_code 16 (.newarray .int) 2 := by decide +kernel
theorem d0_18 : dc prog_1_method_1_code 18 (.putfield 13) 3 := by decide +kernel
theorem d0_21 : dc prog_1_method_1_code 21 (.aload_n 0) 1 := by decide +kernel
theorem d0_22 : dc prog_1_method_1_code 22 (.bipush 16) 2 := by decide +kernel
theorem d0_24 : dc prog_1_method_1_code 24 (.newarray .int) 2 := by decide +kernel
theorem d0_26 : dc prog_1_method_1_code 26 (.putfield 16) 3 := by decide +kernel
theorem d0_29 : dc prog_1_method_1_code 29 (.aload_n 0) 1 := by decide +kernel
theorem d0_30 : dc prog_1_method_1_code 30 (.bipush 9) 2 := by decide +kernel
theorem d0_32 : dc prog_1_method_1_code 32 (.putfield 19) 3 := by decide +kernel
theorem d0_35 : dc prog_1_method_1_code 35 (.aload_n 0) 1 := by decide +kernel
theorem d0_36 : dc prog_1_method_1_code 36 (.bipush 10) 2 := by decide +kernel
theorem d0_38 : dc prog_1_method_1_code 38 (.putfield 23) 3 := by decide +kernel
theorem d0_41 : dc prog_1_method_1_code 41 (.aload_n 0) 1 := by decide +kernel
theorem d0_42 : dc prog_1_method_1_code 42 (.bipush 11) 2 := by decide +kernel
theorem d0_44 : dc prog_1_method_1_code 44 (.putfield 26) 3 := by decide +kernel
theorem d0_47 : dc prog_1_method_1_code 47 (.aload_n 0) 1 := by decide +kernel
theorem d0_48 : dc prog_1_method_1_code 48 (.bipush 12) 2 := by decide +kernel
theorem d0_50 : dc prog_1_method_1_code 50 (.putfield 29) 3 := by decide +kernel
theorem d0_53 : dc prog_1_method_1_code 53 (.aload_n 0) 1 := by decide +kernel
theorem d0_54 : dc prog_1_method_1_code 54 (.bipush 13) 2 := by decide +kernel
theorem d0_56 : dc prog_1_method_1_code 56 (.putfield 32) 3 := by decide +kernel
theorem d0_59 : dc prog_1_method_1_code 59 (.aload_n 0) 1 := by decide +kernel
theorem d0_60 : dc prog_1_method_1_code 60 (.bipush 14) 2 := by decide +kernel
theorem d0_62 : dc prog_1_method_1_code 62 (.putfield 35) 3 := by decide +kernel
theorem d0_65 : dc prog_1_method_1_code 65 (.aload_n 0) 1 := by decide +kernel
theorem d0_66 : dc prog_1_method_1_code 66 (.bipush 15) 2 := by decide +kernel
theorem d0_68 : dc prog_1_method_1_code 68 (.putfield 38) 3 := by decide +kernel
theorem d0_71 : dc prog_1_method_1_code 71 (.aload_n 0) 1 := by decide +kernel
theorem d0_72 : dc prog_1_method_1_code 72 (.bipush 16) 2 := by decide +kernel
theorem d0_74 : dc prog_1_method_1_code 74 (.putfield 41) 3 := by decide +kernel
theorem d0_77 : dc prog_1_method_1_code 77 (.aload_n 0) 1 := by decide +kernel
theorem d0_78 : dc prog_1_method_1_code 78 (.aload_n 0) 1 := by decide +kernel
theorem d0_79 : dc prog_1_method_1_code 79 (.iload_n 1) 1 := by decide +kernel
theorem d0_80 : dc prog_1_method_1_code 80 (.iconst 1) 1 := by decide +kernel
theorem d0_81 : dc prog_1_method_1_code 81 (.iconst 3) 1 := by decide +kernel
theorem d0_82 : dc prog_1_method_1_code 82 (.invokevirtual 44) 3 := by decide +kernel
theorem d0_85 : dc prog_1_method_1_code 85 (.putfield 48) 3 := by decide +kernel
theorem d0_88 : dc prog_1_method_1_code 88 (.aload_n 0) 1 := by decide +kernel
theorem d0_89 : dc prog_1_method_1_code 89 (.aload_n 0) 1 := by decide +kernel
theorem d0_90 : dc prog_1_method_1_code 90 (.iload_n 2) 1 := by decide +kernel
theorem d0_91 : dc prog_1_method_1_code 91 (.iconst 1) 1 := by decide +kernel
theorem d0_92 : dc prog_1_method_1_code 92 (.bipush 9) 2 := by decide +kernel
theorem d0_94 : dc prog_1_method_1_code 94 (.invokevirtual 44) 3 := by decide +kernel
theorem d0_97 : dc prog_1_method_1_code 97 (.putfield 51) 3 := by decide +kernel
theorem d0_100 : dc prog_1_method_1_code 100 (.aload_n 0) 1 := by decide +kernel
theorem d0_101 : dc prog_1_method_1_code 101 (.aload_n 0) 1 := by decide +kernel
theorem d0_102 : dc prog_1_method_1_code 102 (.iload_n 3) 1 := by decide +kernel
theorem d0_103 : dc prog_1_method_1_code 103 (.iconst 1) 1 := by decide +kernel
theorem d0_104 : dc prog_1_method_1_code 104 (.bipush 9) 2 := by decide +kernel
theorem d0_106 : dc prog_1_method_1_code 106 (.invokevirtual 44) 3 := by decide +kernel
theorem d0_109 : dc prog_1_method_1_code 109 (.putfield 54) 3 := by decide +kernel
theorem d0_112 : dc prog_1_method_1_code 112 (.aload_n 0) 1 := by decide +kernel
theorem d0_113 : dc prog_1_method_1_code 113 (.iconst 0) 1 := by decide +kernel
theorem d0_114 : dc prog_1_method_1_code 114 (.putfield 57) 3 := by decide +kernel
theorem d0_117 : dc prog_1_method_1_code 117 (.aload_n 0) 1 := by decide +kernel
theorem d0_118 : dc prog_1_method_1_code 118 (.iconst 0) 1 := by decide +kernel
theorem d0_119 : dc prog_1_method_1_code 119 (.putfield 60) 3 := by decide +kernel
theorem d0_122 : dc prog_1_method_1_code 122 (.aload_n 0) 1 := by decide +kernel
theorem d0_123 : dc prog_1_method_1_code 123 (.invokevirtual 63) 3 := by decide +kernel
theorem d0_126 : dc prog_1_method_1_code 126 (.return_) 1 := by decide +kernel
abbrev y0 : MethodName := ⟨"RingLweKem", "<init>", "(III)V"⟩
theorem hy0 : y0.cls ≠ "java/lang/invoke/MethodHandle" ∧ y0.cls ≠ "java/lang/invoke/VarHandle" := by decide
theorem pd0 : parseMethodDescriptor y0.desc = some ⟨[.int, .int, .int], none⟩ := by decide +kernel
abbrev R0 : Room := { frames := 1, cells := 3, slots := 320, locals := 16 }
abbrev P0 (r : St) : Option Value → List OwnC → Prop := fun v H' => v = none ∧ H' = (Hb 0 r)
abbrev W0 (l : Launch) (Z : State) (n0 : Nat) (Q : Option Value → List OwnC → Prop) (k n pc : Nat) (L : List Slot) (S : List Value) (H : List OwnC) : Prop := WP l Z CN lay "RingLweKem" "<init>" prog_1_method_1_code 4 (none) R0 n0 0 Q k n pc L S H
def f_init (n : Nat) (p1 : Int32) (p2 : Int32) (p3 : Int32) : Option (St) :=
  lt (st0) fun s1 =>
  lt (sI s1 0 (9 : Int32)) fun s2 =>
  lt (sI s2 1 (10 : Int32)) fun s3 =>
  lt (sI s3 2 (11 : Int32)) fun s4 =>
  lt (sI s4 3 (12 : Int32)) fun s5 =>
  lt (sI s5 4 (13 : Int32)) fun s6 =>
  lt (sI s6 5 (14 : Int32)) fun s7 =>
  lt (sI s7 6 (15 : Int32)) fun s8 =>
  lt (sI s8 7 (16 : Int32)) fun s9 =>
  (f_clamp p1 (1 : Int32) (3 : Int32) s9).bind fun c10 =>
  lt (sI s9 8 c10) fun s11 =>
  (f_clamp p2 (1 : Int32) (9 : Int32) s11).bind fun c12 =>
  lt (sI s11 9 c12) fun s13 =>
  (f_clamp p3 (1 : Int32) (9 : Int32) s13).bind fun c14 =>
  lt (sI s13 10 c14) fun s15 =>
  lt (sI s15 11 (0 : Int32)) fun s16 =>
  lt (sI s16 12 (0 : Int32)) fun s17 =>
  (f_initTables n s17).bind fun c18 =>
  some c18
set_option maxRecDepth 65536 in
set_option maxHeartbeats 4000000 in
theorem ok0 (l : Launch) (Z : State) (a0 : Array Value) (hw : HW a0 Z) (n : Nat) (p1 : Int32) (p2 : Int32) (p3 : Int32) (r : St) (h : f_init n p1 p2 p3 = some r) : CS l Z CN lay y0 prog_1_method_1_code 4 (none) R0 0 [.ref 0, .int p1, .int p2, .int p3] [cO vs0] (P0 r) := by
  refine CS.of_wp pn_cls (leb rfl) fun n0 => ?_
  show W0 l Z n0 (P0 r) 0 0 0 [.val (.ref 0), .val (.int p1), .val (.int p2), .val (.int p3)] [] [cO vs0]
  unfold f_init at h
  refine WP.aloadN d0_0 rfl ?_
  refine WP.initO d0_1 (hw _ m_6) (hw _ m_7) (hw _ m_8) (leb rfl) (leb rfl) ?_
  refine WP.aloadN d0_4 rfl ?_
  refine WP.sipush (272 : Int32) d0_5 rfl ?_
  refine WP.newarray d0_8 (hw _ m_9) (by decide) (leb rfl) (leb rfl) (leb rfl) (Or.inl ⟨rfl, rfl⟩) ?_
  show W0 l Z n0 (P0 r) 1 272 10 [.val (.ref 0), .val (.int p1), .val (.int p2), .val (.int p3)] [.ref 1, .ref 0] ([cO [.null, .null, .null, .int (0 : Int32), .int (0 : Int32), .int (0 : Int32), .int (0 : Int32), .int (0 : Int32), .int (0 : Int32), .int (0 : Int32), .int (0 : Int32), .int (0 : Int32), .int (0 : Int32), .int (0 : Int32), .int (0 : Int32), .int (0 : Int32)], cI (List.replicate 272 0)] : List OwnC)
  refine WP.putR (ty := .array .int) (i := 0) (j := 0) (H' := ([cO [.ref 1, .null, .null, .int (0 : Int32), .int (0 : Int32), .int (0 : Int32), .int (0 : Int32), .int (0 : Int32), .int (0 : Int32), .int (0 : Int32), .int (0 : Int32), .int (0 : Int32), .int (0 : Int32), .int (0 : Int32), .int (0 : Int32), .int (0 : Int32)], cI (List.replicate 272 0)] : List OwnC)) d0_10 (hw _ m_10) (Or.inr ⟨(hw _ m_11), rfl, rfl⟩) (hw _ m_1) (hlay hw) (by decide) (fun _ => rfl) (fun _ => rfl) rfl rfl rfl (leb rfl) rfl ?_
  refine WP.aloadN d0_13 rfl ?_
  refine WP.bipush (32 : Int32) d0_14 rfl ?_
  refine WP.newarray d0_16 (hw _ m_9) (by decide) (leb rfl) (leb rfl) (leb rfl) (Or.inl ⟨rfl, rfl⟩) ?_
  show W0 l Z n0 (P0 r) 2 304 18 [.val (.ref 0), .val (.int p1), .val (.int p2), .val (.int p3)] [.ref 2, .ref 0] ([cO [.ref 1, .null, .null, .int (0 : Int32), .int (0 : Int32), .int (0 : Int32), .int (0 : Int32), .int (0 : Int32), .int (0 : Int32), .int (0 : Int32), .int (0 : Int32), .int (0 : Int32), .int (0 : Int32), .int (0 : Int32), .int (0 : Int32), .int (0 : Int32)], cI (List.replicate 272 0), cI (List.replicate 32 0)] : List OwnC)
  refine WP.putR (ty := .array .int) (i := 0) (j := 1) (H' := ([cO [.ref 1, .ref 2, .null, .int (0 : Int32), .int (0 : Int32), .int (0 : Int32), .int (0 : Int32), .int (0 : Int32), .int (0 : Int32), .int (0 : Int32), .int (0 : Int32), .int (0 : Int32), .int (0 : Int32), .int (0 : Int32), .int (0 : Int32), .int (0 : Int32)], cI (List.replicate 272 0), cI (List.replicate 32 0)] : List OwnC)) d0_18 (hw _ m_12) (Or.inr ⟨(hw _ m_13), rfl, rfl⟩) (hw _ m_1) (hlay hw) (by decide) (fun _ => rfl) (fun _ => rfl) rfl rfl rfl (leb rfl) rfl ?_
  refine WP.aloadN d0_21 rfl ?_
  refine WP.bipush (16 : Int32) d0_22 rfl ?_
  refine WP.newarray d0_24 (hw _ m_9) (by decide) (leb rfl) (leb rfl) (leb rfl) (Or.inl ⟨rfl, rfl⟩) ?_
  show W0 l Z n0 (P0 r) 3 320 26 [.val (.ref 0), .val (.int p1), .val (.int p2), .val (.int p3)] [.ref 3, .ref 0] ([cO [.ref 1, .ref 2, .null, .int (0 : Int32), .int (0 : Int32), .int (0 : Int32), .int (0 : Int32), .int (0 : Int32), .int (0 : Int32), .int (0 : Int32), .int (0 : Int32), .int (0 : Int32), .int (0 : Int32), .int (0 : Int32), .int (0 : Int32), .int (0 : Int32)], cI (List.replicate 272 0), cI (List.replicate 32 0), cI (List.replicate 16 0)] : List OwnC)
  obtain ⟨s1, es1, h⟩ := lt_e h
  refine WP.putR (ty := .array .int) (i := 0) (j := 2) (H' := (Hb 0 s1)) d0_26 (hw _ m_14) (Or.inr ⟨(hw _ m_15), rfl, rfl⟩) (hw _ m_1) (hlay hw) (by decide) (fun _ => rfl) (fun _ => rfl) rfl rfl rfl (leb rfl) (by subst es1; rfl) ?_
  refine WP.aloadN d0_29 rfl ?_
  refine WP.bipush (9 : Int32) d0_30 rfl ?_
  obtain ⟨s2, es2, h⟩ := lt_e h
  refine WP.putI (i := 0) (j := 3) (H' := (Hb 0 s2)) d0_32 (hw _ m_16) (Or.inr ⟨(hw _ m_17), rfl, rfl⟩) (hw _ m_1) (hlay hw) rfl rfl rfl (leb rfl) (by subst es2; rfl) ?_
  refine WP.aloadN d0_35 rfl ?_
  refine WP.bipush (10 : Int32) d0_36 rfl ?_
  obtain ⟨s3, es3, h⟩ := lt_e h
  refine WP.putI (i := 0) (j := 4) (H' := (Hb 0 s3)) d0_38 (hw _ m_18) (Or.inr ⟨(hw _ m_19), rfl, rfl⟩) (hw _ m_1) (hlay hw) rfl rfl rfl (leb rfl) (by subst es3; rfl) ?_
  refine WP.aloadN d0_41 rfl ?_
  refine WP.bipush (11 : Int32) d0_42 rfl ?_
  obtain ⟨s4, es4, h⟩ := lt_e h
  refine WP.putI (i := 0) (j := 5) (H' := (Hb 0 s4)) d0_44 (hw _ m_20) (Or.inr ⟨(hw _ m_21), rfl, rfl⟩) (hw _ m_1) (hlay hw) rfl rfl rfl (leb rfl) (by subst es4; rfl) ?_
  refine WP.aloadN d0_47 rfl ?_
  refine WP.bipush (12 : Int32) d0_48 rfl ?_
  obtain ⟨s5, es5, h⟩ := lt_e h
  refine WP.putI (i := 0) (j := 6) (H' := (Hb 0 s5)) d0_50 (hw _ m_22) (Or.inr ⟨(hw _ m_23), rfl, rfl⟩) (hw _ m_1) (hlay hw) rfl rfl rfl (leb rfl) (by subst es5; rfl) ?_
  refine WP.aloadN d0_53 rfl ?_
  refine WP.bipush (13 : Int32) d0_54 rfl ?_
  obtain ⟨s6, es6, h⟩ := lt_e h
  refine WP.putI (i := 0) (j := 7) (H' := (Hb 0 s6)) d0_56 (hw _ m_24) (Or.inr ⟨(hw _ m_25), rfl, rfl⟩) (hw _ m_1) (hlay hw) rfl rfl rfl (leb rfl) (by subst es6; rfl) ?_
  refine WP.aloadN d0_59 rfl ?_
  refine WP.bipush (14 : Int32) d0_60 rfl ?_
  obtain ⟨s7, es7, h⟩ := lt_e h
  refine WP.putI (i := 0) (j := 8) (H' := (Hb 0 s7)) d0_62 (hw _ m_26) (Or.inr ⟨(hw _ m_27), rfl, rfl⟩) (hw _ m_1) (hlay hw) rfl rfl rfl (leb rfl) (by subst es7; rfl) ?_
  refine WP.aloadN d0_65 rfl ?_
  refine WP.bipush (15 : Int32) d0_66 rfl ?_
  obtain ⟨s8, es8, h⟩ := lt_e h
  refine WP.putI (i := 0) (j := 9) (H' := (Hb 0 s8)) d0_68 (hw _ m_28) (Or.inr ⟨(hw _ m_29), rfl, rfl⟩) (hw _ m_1) (hlay hw) rfl rfl rfl (leb rfl) (by subst es8; rfl) ?_
  refine WP.aloadN d0_71 rfl ?_
  refine WP.bipush (16 : Int32) d0_72 rfl ?_
  obtain ⟨s9, es9, h⟩ := lt_e h
  refine WP.putI (i := 0) (j := 10) (H' := (Hb 0 s9)) d0_74 (hw _ m_30) (Or.inr ⟨(hw _ m_31), rfl, rfl⟩) (hw _ m_1) (hlay hw) rfl rfl rfl (leb rfl) (by subst es9; rfl) ?_
  refine WP.aloadN d0_77 rfl ?_
  refine WP.aloadN d0_78 rfl ?_
  refine WP.iloadN d0_79 rfl ?_
  refine WP.iconst (1 : Int32) d0_80 rfl ?_
  refine WP.iconst (3 : Int32) d0_81 rfl ?_
  obtain ⟨c10, hc10, h⟩ := Option.bind_eq_some_iff.mp h
  refine WP.callP (i := 0) (y := y1) (as := [.int p1, .int (1 : Int32), .int (3 : Int32)]) (S := [.ref 0]) d0_82 (hw _ m_32) (hw _ m_34) (hw _ m_1) (hw _ m_33) (hw _ m_35) (hw _ m_2) hy1 rfl (ok1 l Z a0 hw p1 (1 : Int32) (3 : Int32) s9 _ hc10) rfl (lenOf pd1 rfl) (leb rfl) (leb rfl) (leb rfl) (leb rfl) ?_
  rintro _ _ ⟨rfl, rfl⟩
  show W0 l Z n0 (P0 r) 3 320 85 [.val (.ref 0), .val (.int p1), .val (.int p2), .val (.int p3)] [.int c10, .ref 0] (Hb 0 s9)
  obtain ⟨s11, es11, h⟩ := lt_e h
  refine WP.putI (i := 0) (j := 11) (H' := (Hb 0 s11)) d0_85 (hw _ m_36) (Or.inl (hw _ m_37)) (hw _ m_1) (hlay hw) rfl rfl rfl (leb rfl) (by subst es11; rfl) ?_
  refine WP.aloadN d0_88 rfl ?_
  refine WP.aloadN d0_89 rfl ?_
  refine WP.iloadN d0_90 rfl ?_
  refine WP.iconst (1 : Int32) d0_91 rfl ?_
  refine WP.bipush (9 : Int32) d0_92 rfl ?_
  obtain ⟨c12, hc12, h⟩ := Option.bind_eq_some_iff.mp h
  refine WP.callP (i := 0) (y := y1) (as := [.int p2, .int (1 : Int32), .int (9 : Int32)]) (S := [.ref 0]) d0_94 (hw _ m_32) (hw _ m_34) (hw _ m_1) (hw _ m_33) (hw _ m_35) (hw _ m_2) hy1 rfl (ok1 l Z a0 hw p2 (1 : Int32) (9 : Int32) s11 _ hc12) rfl (lenOf pd1 rfl) (leb rfl) (leb rfl) (leb rfl) (leb rfl) ?_
  rintro _ _ ⟨rfl, rfl⟩
  show W0 l Z n0 (P0 r) 3 320 97 [.val (.ref 0), .val (.int p1), .val (.int p2), .val (.int p3)] [.int c12, .ref 0] (Hb 0 s11)
  obtain ⟨s13, es13, h⟩ := lt_e h
  refine WP.putI (i := 0) (j := 12) (H' := (Hb 0 s13)) d0_97 (hw _ m_38) (Or.inl (hw _ m_39)) (hw _ m_1) (hlay hw) rfl rfl rfl (leb rfl) (by subst es13; rfl) ?_
  refine WP.aloadN d0_100 rfl ?_
  refine WP.aloadN d0_101 rfl ?_
  refine WP.iloadN d0_102 rfl ?_
  refine WP.iconst (1 : Int32) d0_103 rfl ?_
  refine WP.bipush (9 : Int32) d0_104 rfl ?_
  obtain ⟨c14, hc14, h⟩ := Option.bind_eq_some_iff.mp h
  refine WP.callP (i := 0) (y := y1) (as := [.int p3, .int (1 : Int32), .int (9 : Int32)]) (S := [.ref 0]) d0_106 (hw _ m_32) (hw _ m_34) (hw _ m_1) (hw _ m_33) (hw _ m_35) (hw _ m_2) hy1 rfl (ok1 l Z a0 hw p3 (1 : Int32) (9 : Int32) s13 _ hc14) rfl (lenOf pd1 rfl) (leb rfl) (leb rfl) (leb rfl) (leb rfl) ?_
  rintro _ _ ⟨rfl, rfl⟩
  show W0 l Z n0 (P0 r) 3 320 109 [.val (.ref 0), .val (.int p1), .val (.int p2), .val (.int p3)] [.int c14, .ref 0] (Hb 0 s13)
  obtain ⟨s15, es15, h⟩ := lt_e h
  refine WP.putI (i := 0) (j := 13) (H' := (Hb 0 s15)) d0_109 (hw _ m_40) (Or.inl (hw _ m_41)) (hw _ m_1) (hlay hw) rfl rfl rfl (leb rfl) (by subst es15; rfl) ?_
  refine WP.aloadN d0_112 rfl ?_
  refine WP.iconst (0 : Int32) d0_113 rfl ?_
  obtain ⟨s16, es16, h⟩ := lt_e h
  refine WP.putI (i := 0) (j := 14) (H' := (Hb 0 s16)) d0_114 (hw _ m_42) (Or.inl (hw _ m_43)) (hw _ m_1) (hlay hw) rfl rfl rfl (leb rfl) (by subst es16; rfl) ?_
  refine WP.aloadN d0_117 rfl ?_
  refine WP.iconst (0 : Int32) d0_118 rfl ?_
  obtain ⟨s17, es17, h⟩ := lt_e h
  refine WP.putI (i := 0) (j := 15) (H' := (Hb 0 s17)) d0_119 (hw _ m_44) (Or.inl (hw _ m_45)) (hw _ m_1) (hlay hw) rfl rfl rfl (leb rfl) (by subst es17; rfl) ?_
  refine WP.aloadN d0_122 rfl ?_
  obtain ⟨c18, hc18, h⟩ := Option.bind_eq_some_iff.mp h
  refine WP.callP (i := 0) (y := y2) (as := []) (S := []) d0_123 (hw _ m_46) (hw _ m_48) (hw _ m_1) (hw _ m_47) (hw _ m_49) (hw _ m_2) hy2 rfl (ok2 l Z a0 hw n s17 _ hc18) rfl (lenOf pd2 rfl) (leb rfl) (leb rfl) (leb rfl) (leb rfl) ?_
  rintro _ _ ⟨rfl, rfl⟩
  show W0 l Z n0 (P0 r) 3 320 126 [.val (.ref 0), .val (.int p1), .val (.int p2), .val (.int p3)] [] (Hb 0 c18)
  cases h
  exact WP.vreturn d0_126 rfl (leb rfl) (leb rfl) ⟨rfl, rfl⟩
theorem d4_0 : dc prog_1_method_18_code 0 (.iload_n 1) 1 := by decide +kernel
theorem d4_1 : dc prog_1_method_18_code 1 (.sipush 257) 3 := by decide +kernel
theorem d4_4 : dc prog_1_method_18_code 4 (.irem) 1 := by decide +kernel
theorem d4_5 : dc prog_1_method_18_code 5 (.istore_n 2) 1 := by decide +kernel
theorem d4_6 : dc prog_1_method_18_code 6 (.iload_n 2) 1 := by decide +kernel
theorem d4_7 : dc prog_1_method_18_code 7 (.ifCond .ge 9) 3 := by decide +kernel
theorem d4_10 : dc prog_1_method_18_code 10 (.iinc 2 257) 6 := by decide +kernel
theorem d4_16 : dc prog_1_method_18_code 16 (.iload_n 2) 1 := by decide +kernel
theorem d4_17 : dc prog_1_method_18_code 17 (.ireturn) 1 := by decide +kernel
abbrev y4 : MethodName := ⟨"RingLweKem", "mod", "(I)I"⟩
theorem hy4 : y4.cls ≠ "java/lang/invoke/MethodHandle" ∧ y4.cls ≠ "java/lang/invoke/VarHandle" := by decide
theorem pd4 : parseMethodDescriptor y4.desc = some ⟨[.int], some .int⟩ := by decide +kernel
abbrev R4 : Room := { frames := 0, cells := 0, slots := 0, locals := 0 }
abbrev P4 (s : St) (r : Int32) : Option Value → List OwnC → Prop := fun v H' => v = some (.int r) ∧ H' = (Hb 0 s)
abbrev W4 (l : Launch) (Z : State) (n0 : Nat) (Q : Option Value → List OwnC → Prop) (k n pc : Nat) (L : List Slot) (S : List Value) (H : List OwnC) : Prop := WP l Z CN lay "RingLweKem" "mod" prog_1_method_18_code 3 (some FieldType.int) R4 n0 0 Q k n pc L S H
def f_mod_16 (v2 : Int32) (s : St) : Option (Int32) :=
  some v2
set_option maxRecDepth 65536 in
set_option maxHeartbeats 4000000 in
theorem ok4_16 (l : Launch) (Z : State) (a0 : Array Value) (hw : HW a0 Z) (n0 : Nat) (v2 : Int32) (s : St) (r : Int32) (h : f_mod_16 v2 s = some r) : W4 l Z n0 (P4 s r) 0 0 16 [.unset, .unset, .val (.int v2)] [] (Hb 0 s) := by
  unfold f_mod_16 at h
  refine WP.iloadN d4_16 rfl ?_
  cases h
  exact WP.ireturn d4_17 rfl (leb rfl) (leb rfl) ⟨rfl, rfl⟩
def f_mod (p1 : Int32) (s : St) : Option (Int32) :=
  lt (p1 % (257 : Int32)) fun x1 =>
  if x1 < 0 then
    lt (x1 + (257 : Int32)) fun x3 =>
    f_mod_16 x3 s
  else
    f_mod_16 x1 s
set_option maxRecDepth 65536 in
set_option maxHeartbeats 4000000 in
theorem ok4 (l : Launch) (Z : State) (a0 : Array Value) (hw : HW a0 Z) (p1 : Int32) (s : St) (r : Int32) (h : f_mod p1 s = some r) : CS l Z CN lay y4 prog_1_method_18_code 3 (some FieldType.int) R4 0 [.ref 0, .int p1] (Hb 0 s) (P4 s r) := by
  refine CS.of_wp pn_cls (leb rfl) fun n0 => ?_
  show W4 l Z n0 (P4 s r) 0 0 0 [.val (.ref 0), .val (.int p1), .unset] [] (Hb 0 s)
  unfold f_mod at h
  refine WP.iloadN d4_0 rfl ?_
  refine WP.sipush (257 : Int32) d4_1 rfl ?_
  refine WP.irem d4_4 (by decide) ?_
  obtain ⟨x1, ex1, h⟩ := lt_e h
  refine WP.istoreN (L' := [.val (.ref 0), .val (.int p1), .val (.int x1)]) d4_5 (leb rfl) (by subst ex1; rfl) ?_
  refine WP.iloadN d4_6 rfl ?_
  rcases ite_e h with ⟨hc2, h⟩ | ⟨hc2, h⟩
  ·
    refine WP.ifN d4_7 (XT.i0_ge_f hc2) ?_
    obtain ⟨x3, ex3, h⟩ := lt_e h
    refine WP.iincW (L' := [.val (.ref 0), .val (.int p1), .val (.int x3)]) (257 : Int32) d4_10 rfl rfl (by subst ex3; rfl) ?_
    exact WP.weak (L' := [.unset, .unset, .val (.int x3)]) ⟨rfl, trivial⟩ (ok4_16 l Z a0 hw n0 x3 s _ h)
  ·
    refine WP.ifY (pc' := 16) d4_7 (XT.i0_ge_t hc2) (by decide) rfl ?_
    exact WP.weak (L' := [.unset, .unset, .val (.int x1)]) ⟨rfl, trivial⟩ (ok4_16 l Z a0 hw n0 x1 s _ h)
theorem d3_0 : dc prog_1_method_5_code 0 (.iload_n 1) 1 := by decide +kernel
theorem d3_1 : dc prog_1_method_5_code 1 (.ifCond .eq 10) 3 := by decide +kernel
theorem d3_4 : dc prog_1_method_5_code 4 (.iload_n 1) 1 := by decide +kernel
theorem d3_5 : dc prog_1_method_5_code 5 (.iconst 1) 1 := by decide +kernel
theorem d3_6 : dc prog_1_method_5_code 6 (.if_icmp .eq 5) 3 := by decide +kernel
theorem d3_9 : dc prog_1_method_5_code 9 (.iconst 0) 1 := by decide +kernel
theorem d3_10 : dc prog_1_method_5_code 10 (.ireturn) 1 := by decide +kernel
theorem d3_11 : dc prog_1_method_5_code 11 (.iload_n 2) 1 := by decide +kernel
theorem d3_12 : dc prog_1_method_5_code 12 (.ifCond .lt 9) 3 := by decide +kernel
theorem d3_15 : dc prog_1_method_5_code 15 (.iload_n 2) 1 := by decide +kernel
theorem d3_16 : dc prog_1_method_5_code 16 (.bipush 15) 2 := by decide +kernel
theorem d3_18 : dc prog_1_method_5_code 18 (.if_icmp .le 5) 3 := by decide +kernel
theorem d3_21 : dc prog_1_method_5_code 21 (.iconst 0) 1 := by decide +kernel
theorem d3_22 : dc prog_1_method_5_code 22 (.ireturn) 1 := by decide +kernel
theorem d3_23 : dc prog_1_method_5_code 23 (.aload_n 0) 1 := by decide +kernel
theorem d3_24 : dc prog_1_method_5_code 24 (.getfield 7) 3 := by decide +kernel
theorem d3_27 : dc prog_1_method_5_code 27 (.iload_n 1) 1 := by decide +kernel
theorem d3_28 : dc prog_1_method_5_code 28 (.bipush 16) 2 := by decide +kernel
theorem d3_30 : dc prog_1_method_5_code 30 (.imul) 1 := by decide +kernel
theorem d3_31 : dc prog_1_method_5_code 31 (.iload_n 2) 1 := by decide +kernel
theorem d3_32 : dc prog_1_method_5_code 32 (.iadd) 1 := by decide +kernel
theorem d3_33 : dc prog_1_method_5_code 33 (.aload_n 0) 1 := by decide +kernel
theorem d3_34 : dc prog_1_method_5_code 34 (.iload_n 3) 1 := by decide +kernel
theorem d3_35 : dc prog_1_method_5_code 35 (.invokevirtual 73) 3 := by decide +kernel
theorem d3_38 : dc prog_1_method_5_code 38 (.iastore) 1 := by decide +kernel
theorem d3_39 : dc prog_1_method_5_code 39 (.iconst 1) 1 := by decide +kernel
theorem d3_40 : dc prog_1_method_5_code 40 (.ireturn) 1 := by decide +kernel
abbrev y3 : MethodName := ⟨"RingLweKem", "setOperand", "(III)Z"⟩
theorem hy3 : y3.cls ≠ "java/lang/invoke/MethodHandle" ∧ y3.cls ≠ "java/lang/invoke/VarHandle" := by decide
theorem pd3 : parseMethodDescriptor y3.desc = some ⟨[.int, .int, .int], some .boolean⟩ := by decide +kernel
abbrev R3 : Room := { frames := 1, cells := 0, slots := 0, locals := 16 }
abbrev P3 (r : Int32 × St) : Option Value → List OwnC → Prop := fun v H' => v = some (.int r.1) ∧ H' = (Hb 0 r.2)
abbrev W3 (l : Launch) (Z : State) (n0 : Nat) (Q : Option Value → List OwnC → Prop) (k n pc : Nat) (L : List Slot) (S : List Value) (H : List OwnC) : Prop := WP l Z CN lay "RingLweKem" "setOperand" prog_1_method_5_code 4 (some FieldType.boolean) R3 n0 0 Q k n pc L S H
def f_setOperand_21 (s : St) : Option (Int32 × St) :=
  some ((0 : Int32), s)
set_option maxRecDepth 65536 in
set_option maxHeartbeats 4000000 in
theorem ok3_21 (l : Launch) (Z : State) (a0 : Array Value) (hw : HW a0 Z) (n0 : Nat) (s : St) (r : Int32 × St) (h : f_setOperand_21 s = some r) : W3 l Z n0 (P3 r) 0 0 21 [.unset, .unset, .unset, .unset] [] (Hb 0 s) := by
  unfold f_setOperand_21 at h
  refine WP.iconst (0 : Int32) d3_21 rfl ?_
  cases h
  exact WP.zreturn d3_22 rfl (leb rfl) (leb rfl) ⟨rfl, rfl⟩
def f_setOperand_11 (v1 : Int32) (v2 : Int32) (v3 : Int32) (s : St) : Option (Int32 × St) :=
  if v2 < 0 then
    f_setOperand_21 s
  else
    if (15 : Int32) < v2 then
      f_setOperand_21 s
    else
      (f_mod v3 s).bind fun c3 =>
      (wrA s 0 ((v1 * (16 : Int32)) + v2) c3).bind fun s4 =>
      some ((1 : Int32), s4)
set_option maxRecDepth 65536 in
set_option maxHeartbeats 4000000 in
theorem ok3_11 (l : Launch) (Z : State) (a0 : Array Value) (hw : HW a0 Z) (n0 : Nat) (v1 : Int32) (v2 : Int32) (v3 : Int32) (s : St) (r : Int32 × St) (h : f_setOperand_11 v1 v2 v3 s = some r) : W3 l Z n0 (P3 r) 0 0 11 [.val (.ref 0), .val (.int v1), .val (.int v2), .val (.int v3)] [] (Hb 0 s) := by
  unfold f_setOperand_11 at h
  refine WP.iloadN d3_11 rfl ?_
  rcases ite_e h with ⟨hc1, h⟩ | ⟨hc1, h⟩
  ·
    refine WP.ifY (pc' := 21) d3_12 (XT.i0_lt_t hc1) (by decide) rfl ?_
    exact WP.weak (L' := [.unset, .unset, .unset, .unset]) trivial (ok3_21 l Z a0 hw n0 s _ h)
  ·
    refine WP.ifN d3_12 (XT.i0_lt_f hc1) ?_
    refine WP.iloadN d3_15 rfl ?_
    refine WP.bipush (15 : Int32) d3_16 rfl ?_
    rcases ite_e h with ⟨hc2, h⟩ | ⟨hc2, h⟩
    ·
      refine WP.icmpN d3_18 (XT.ii_le_f hc2) ?_
      exact WP.weak (L' := [.unset, .unset, .unset, .unset]) trivial (ok3_21 l Z a0 hw n0 s _ h)
    ·
      refine WP.icmpY (pc' := 23) d3_18 (XT.ii_le_t hc2) (by decide) rfl ?_
      refine WP.aloadN d3_23 rfl ?_
      refine WP.getfield (i := 0) (j := 0) d3_24 (hw _ m_10) rfl rfl rfl ?_
      refine WP.iloadN d3_27 rfl ?_
      refine WP.bipush (16 : Int32) d3_28 rfl ?_
      refine WP.imul d3_30 ?_
      refine WP.iloadN d3_31 rfl ?_
      refine WP.iadd d3_32 ?_
      refine WP.aloadN d3_33 rfl ?_
      refine WP.iloadN d3_34 rfl ?_
      obtain ⟨c3, hc3, h⟩ := Option.bind_eq_some_iff.mp h
      refine WP.callP (i := 0) (y := y4) (as := [.int v3]) (S := [.int ((v1 * (16 : Int32)) + v2), .ref 1]) d3_35 (hw _ m_55) (hw _ m_57) (hw _ m_1) (hw _ m_56) (hw _ m_58) (hw _ m_2) hy4 rfl (ok4 l Z a0 hw v3 s _ hc3) rfl (lenOf pd4 rfl) (leb rfl) (leb rfl) (leb rfl) (leb rfl) ?_
      rintro _ _ ⟨rfl, rfl⟩
      show W3 l Z n0 (P3 r) 0 0 38 [.val (.ref 0), .val (.int v1), .val (.int v2), .val (.int v3)] [.int c3, .int ((v1 * (16 : Int32)) + v2), .ref 1] (Hb 0 s)
      obtain ⟨s4, hs4, h⟩ := Option.bind_eq_some_iff.mp h
      obtain ⟨ys4, gs4, es4⟩ := wrA_e hs4
      refine WP.iastore (i := 1) (xs := gA s 0) (H' := (Hb 0 s4)) d3_38 rfl (leb rfl) gs4 (by subst es4; rfl) ?_
      refine WP.iconst (1 : Int32) d3_39 rfl ?_
      cases h
      exact WP.zreturn d3_40 rfl (leb rfl) (leb rfl) ⟨rfl, rfl⟩
def f_setOperand (p1 : Int32) (p2 : Int32) (p3 : Int32) (s : St) : Option (Int32 × St) :=
  if p1 = 0 then
    f_setOperand_11 p1 p2 p3 s
  else
    if p1 = (1 : Int32) then
      f_setOperand_11 p1 p2 p3 s
    else
      some ((0 : Int32), s)
set_option maxRecDepth 65536 in
set_option maxHeartbeats 4000000 in
theorem ok3 (l : Launch) (Z : State) (a0 : Array Value) (hw : HW a0 Z) (p1 : Int32) (p2 : Int32) (p3 : Int32) (s : St) (r : Int32 × St) (h : f_setOperand p1 p2 p3 s = some r) : CS l Z CN lay y3 prog_1_method_5_code 4 (some FieldType.boolean) R3 0 [.ref 0, .int p1, .int p2, .int p3] (Hb 0 s) (P3 r) := by
  refine CS.of_wp pn_cls (leb rfl) fun n0 => ?_
  show W3 l Z n0 (P3 r) 0 0 0 [.val (.ref 0), .val (.int p1), .val (.int p2), .val (.int p3)] [] (Hb 0 s)
  unfold f_setOperand at h
  refine WP.iloadN d3_0 rfl ?_
  rcases ite_e h with ⟨hc1, h⟩ | ⟨hc1, h⟩
  ·
    refine WP.ifY (pc' := 11) d3_1 (XT.i0_eq_t hc1) (by decide) rfl ?_
    exact WP.weak (L' := [.val (.ref 0), .val (.int p1), .val (.int p2), .val (.int p3)]) ⟨rfl, rfl, rfl, rfl, trivial⟩ (ok3_11 l Z a0 hw n0 p1 p2 p3 s _ h)
  ·
    refine WP.ifN d3_1 (XT.i0_eq_f hc1) ?_
    refine WP.iloadN d3_4 rfl ?_
    refine WP.iconst (1 : Int32) d3_5 rfl ?_
    rcases ite_e h with ⟨hc2, h⟩ | ⟨hc2, h⟩
    ·
      refine WP.icmpY (pc' := 11) d3_6 (XT.ii_eq_t hc2) (by decide) rfl ?_
      exact WP.weak (L' := [.val (.ref 0), .val (.int p1), .val (.int p2), .val (.int p3)]) ⟨rfl, rfl, rfl, rfl, trivial⟩ (ok3_11 l Z a0 hw n0 p1 p2 p3 s _ h)
    ·
      refine WP.icmpN d3_6 (XT.ii_eq_f hc2) ?_
      refine WP.iconst (0 : Int32) d3_9 rfl ?_
      cases h
      exact WP.zreturn d3_10 rfl (leb rfl) (leb rfl) ⟨rfl, rfl⟩
theorem d7_0 : dc prog_1_method_28_code 0 (.iload_n 1) 1 := by decide +kernel
theorem d7_1 : dc prog_1_method_28_code 1 (.bipush 16) 2 := by decide +kernel
theorem d7_3 : dc prog_1_method_28_code 3 (.imul) 1 := by decide +kernel
theorem d7_4 : dc prog_1_method_28_code 4 (.istore_n 3) 1 := by decide +kernel
theorem d7_5 : dc prog_1_method_28_code 5 (.iload_n 2) 1 := by decide +kernel
theorem d7_6 : dc prog_1_method_28_code 6 (.bipush 16) 2 := by decide +kernel
theorem d7_8 : dc prog_1_method_28_code 8 (.imul) 1 := by decide +kernel
theorem d7_9 : dc prog_1_method_28_code 9 (.istore 4) 2 := by decide +kernel
theorem d7_11 : dc prog_1_method_28_code 11 (.iconst 0) 1 := by decide +kernel
theorem d7_12 : dc prog_1_method_28_code 12 (.istore 5) 2 := by decide +kernel
theorem d7_14 : dc prog_1_method_28_code 14 (.iload 5) 2 := by decide +kernel
theorem d7_16 : dc prog_1_method_28_code 16 (.bipush 16) 2 := by decide +kernel
theorem d7_18 : dc prog_1_method_28_code 18 (.if_icmp .ge 28) 3 := by decide +kernel
theorem d7_21 : dc prog_1_method_28_code 21 (.aload_n 0) 1 := by decide +kernel
theorem d7_22 : dc prog_1_method_28_code 22 (.getfield 7) 3 := by decide +kernel
theorem d7_25 : dc prog_1_method_28_code 25 (.iload 4) 2 := by decide +kernel
theorem d7_27 : dc prog_1_method_28_code 27 (.iload 5) 2 := by decide +kernel
theorem d7_29 : dc prog_1_method_28_code 29 (.iadd) 1 := by decide +kernel
theorem d7_30 : dc prog_1_method_28_code 30 (.aload_n 0) 1 := by decide +kernel
theorem d7_31 : dc prog_1_method_28_code 31 (.getfield 7) 3 := by decide +kernel
theorem d7_34 : dc prog_1_method_28_code 34 (.iload_n 3) 1 := by decide +kernel
theorem d7_35 : dc prog_1_method_28_code 35 (.iload 5) 2 := by decide +kernel
theorem d7_37 : dc prog_1_method_28_code 37 (.iadd) 1 := by decide +kernel
theorem d7_38 : dc prog_1_method_28_code 38 (.iaload) 1 := by decide +kernel
theorem d7_39 : dc prog_1_method_28_code 39 (.iastore) 1 := by decide +kernel
theorem d7_40 : dc prog_1_method_28_code 40 (.iinc 5 1) 3 := by decide +kernel
theorem d7_43 : dc prog_1_method_28_code 43 (.goto (-29)) 3 := by decide +kernel
theorem d7_46 : dc prog_1_method_28_code 46 (.return_) 1 := by decide +kernel
abbrev y7 : MethodName := ⟨"RingLweKem", "copy", "(II)V"⟩
theorem hy7 : y7.cls ≠ "java/lang/invoke/MethodHandle" ∧ y7.cls ≠ "java/lang/invoke/VarHandle" := by decide
theorem pd7 : parseMethodDescriptor y7.desc = some ⟨[.int, .int], none⟩ := by decide +kernel
abbrev R7 : Room := { frames := 0, cells := 0, slots := 0, locals := 0 }
abbrev P7 (r : St) : Option Value → List OwnC → Prop := fun v H' => v = none ∧ H' = (Hb 0 r)
abbrev W7 (l : Launch) (Z : State) (n0 : Nat) (Q : Option Value → List OwnC → Prop) (k n pc : Nat) (L : List Slot) (S : List Value) (H : List OwnC) : Prop := WP l Z CN lay "RingLweKem" "copy" prog_1_method_28_code 6 (none) R7 n0 0 Q k n pc L S H
def g_copy_14 (k14 : Int32 → Int32 → Int32 → St → Option (St)) (n : Nat) (v3 : Int32) (v4 : Int32) (v5 : Int32) (s : St) : Option (St) :=
  if v5 < (16 : Int32) then
    (rd (gA s 0) (v3 + v5)).bind fun x2 =>
    (wrA s 0 (v4 + v5) x2).bind fun s3 =>
    lt (v5 + (1 : Int32)) fun x4 =>
    k14 v3 v4 x4 s3
  else
    some s
set_option maxRecDepth 65536 in
set_option maxHeartbeats 4000000 in
theorem okg7_14 (l : Launch) (Z : State) (a0 : Array Value) (hw : HW a0 Z) (n0 : Nat) (k14 : Int32 → Int32 → Int32 → St → Option (St)) (hk14 : ∀ (v3 : Int32) (v4 : Int32) (v5 : Int32) (s : St) (r : St), k14 v3 v4 v5 s = some r → W7 l Z n0 (P7 r) 0 0 14 [.val (.ref 0), .unset, .unset, .val (.int v3), .val (.int v4), .val (.int v5)] [] (Hb 0 s)) (n : Nat) (v3 : Int32) (v4 : Int32) (v5 : Int32) (s : St) (r : St) (h : g_copy_14 k14 n v3 v4 v5 s = some r) : W7 l Z n0 (P7 r) 0 0 14 [.val (.ref 0), .unset, .unset, .val (.int v3), .val (.int v4), .val (.int v5)] [] (Hb 0 s) := by
  unfold g_copy_14 at h
  refine WP.iload d7_14 rfl ?_
  refine WP.bipush (16 : Int32) d7_16 rfl ?_
  rcases ite_e h with ⟨hc1, h⟩ | ⟨hc1, h⟩
  ·
    refine WP.icmpN d7_18 (XT.ii_ge_f hc1) ?_
    refine WP.aloadN d7_21 rfl ?_
    refine WP.getfield (i := 0) (j := 0) d7_22 (hw _ m_10) rfl rfl rfl ?_
    refine WP.iload d7_25 rfl ?_
    refine WP.iload d7_27 rfl ?_
    refine WP.iadd d7_29 ?_
    refine WP.aloadN d7_30 rfl ?_
    refine WP.getfield (i := 0) (j := 0) d7_31 (hw _ m_10) rfl rfl rfl ?_
    refine WP.iloadN d7_34 rfl ?_
    refine WP.iload d7_35 rfl ?_
    refine WP.iadd d7_37 ?_
    obtain ⟨x2, hx2, h⟩ := Option.bind_eq_some_iff.mp h
    refine WP.iaload (i := 1) d7_38 rfl hx2 ?_
    obtain ⟨s3, hs3, h⟩ := Option.bind_eq_some_iff.mp h
    obtain ⟨ys3, gs3, es3⟩ := wrA_e hs3
    refine WP.iastore (i := 1) (xs := gA s 0) (H' := (Hb 0 s3)) d7_39 rfl (leb rfl) gs3 (by subst es3; rfl) ?_
    obtain ⟨x4, ex4, h⟩ := lt_e h
    refine WP.iinc (L' := [.val (.ref 0), .unset, .unset, .val (.int v3), .val (.int v4), .val (.int x4)]) (1 : Int32) d7_40 rfl rfl (by subst ex4; rfl) ?_
    refine WP.goto (pc' := 14) d7_43 (by decide) rfl ?_
    exact WP.weak (L' := [.val (.ref 0), .unset, .unset, .val (.int v3), .val (.int v4), .val (.int x4)]) ⟨rfl, rfl, rfl, rfl, trivial⟩ (hk14 v3 v4 x4 s3 _ h)
  ·
    refine WP.icmpY (pc' := 46) d7_18 (XT.ii_ge_t hc1) (by decide) rfl ?_
    cases h
    exact WP.vreturn d7_46 rfl (leb rfl) (leb rfl) ⟨rfl, rfl⟩
def f_copy_14 : Nat → Int32 → Int32 → Int32 → St → Option (St)
  | 0 => fun _ _ _ _ => none
  | n + 1 => g_copy_14 (f_copy_14 n) n
theorem ok7_14 (l : Launch) (Z : State) (a0 : Array Value) (hw : HW a0 Z) (n0 : Nat) : ∀ (n : Nat) (v3 : Int32) (v4 : Int32) (v5 : Int32) (s : St) (r : St), f_copy_14 n v3 v4 v5 s = some r → W7 l Z n0 (P7 r) 0 0 14 [.val (.ref 0), .unset, .unset, .val (.int v3), .val (.int v4), .val (.int v5)] [] (Hb 0 s)
  | 0, v3, v4, v5, s, r, h => nomatch (show none = some r from h)
  | n + 1, v3, v4, v5, s, r, h => okg7_14 l Z a0 hw n0 _ (ok7_14 l Z a0 hw n0 n) n v3 v4 v5 s r h
def f_copy (n : Nat) (p1 : Int32) (p2 : Int32) (s : St) : Option (St) :=
  lt (p1 * (16 : Int32)) fun x1 =>
  lt (p2 * (16 : Int32)) fun x2 =>
  f_copy_14 n x1 x2 (0 : Int32) s
set_option maxRecDepth 65536 in
set_option maxHeartbeats 4000000 in
theorem ok7 (l : Launch) (Z : State) (a0 : Array Value) (hw : HW a0 Z) (n : Nat) (p1 : Int32) (p2 : Int32) (s : St) (r : St) (h : f_copy n p1 p2 s = some r) : CS l Z CN lay y7 prog_1_method_28_code 6 (none) R7 0 [.ref 0, .int p1, .int p2] (Hb 0 s) (P7 r) := by
  refine CS.of_wp pn_cls (leb rfl) fun n0 => ?_
  show W7 l Z n0 (P7 r) 0 0 0 [.val (.ref 0), .val (.int p1), .val (.int p2), .unset, .unset, .unset] [] (Hb 0 s)
  unfold f_copy at h
  refine WP.iloadN d7_0 rfl ?_
  refine WP.bipush (16 : Int32) d7_1 rfl ?_
  refine WP.imul d7_3 ?_
  obtain ⟨x1, ex1, h⟩ := lt_e h
  refine WP.istoreN (L' := [.val (.ref 0), .val (.int p1), .val (.int p2), .val (.int x1), .unset, .unset]) d7_4 (leb rfl) (by subst ex1; rfl) ?_
  refine WP.iloadN d7_5 rfl ?_
  refine WP.bipush (16 : Int32) d7_6 rfl ?_
  refine WP.imul d7_8 ?_
  obtain ⟨x2, ex2, h⟩ := lt_e h
  refine WP.istore (L' := [.val (.ref 0), .val (.int p1), .val (.int p2), .val (.int x1), .val (.int x2), .unset]) d7_9 (leb rfl) (by subst ex2; rfl) ?_
  refine WP.iconst (0 : Int32) d7_11 rfl ?_
  refine WP.istore (L' := [.val (.ref 0), .val (.int p1), .val (.int p2), .val (.int x1), .val (.int x2), .val (.int (0 : Int32))]) d7_12 (leb rfl) rfl ?_
  exact WP.weak (L' := [.val (.ref 0), .unset, .unset, .val (.int x1), .val (.int x2), .val (.int (0 : Int32))]) ⟨rfl, rfl, rfl, rfl, trivial⟩ (ok7_14 l Z a0 hw n0 n x1 x2 (0 : Int32) s _ h)
theorem d9_0 : dc prog_1_method_34_code 0 (.iload_n 1) 1 := by decide +kernel
theorem d9_1 : dc prog_1_method_34_code 1 (.bipush 16) 2 := by decide +kernel
theorem d9_3 : dc prog_1_method_34_code 3 (.imul) 1 := by decide +kernel
theorem d9_4 : dc prog_1_method_34_code 4 (.istore_n 2) 1 := by decide +kernel
theorem d9_5 : dc prog_1_method_34_code 5 (.iconst 0) 1 := by decide +kernel
theorem d9_6 : dc prog_1_method_34_code 6 (.istore_n 3) 1 := by decide +kernel
theorem d9_7 : dc prog_1_method_34_code 7 (.iload_n 3) 1 := by decide +kernel
theorem d9_8 : dc prog_1_method_34_code 8 (.bipush 16) 2 := by decide +kernel
theorem d9_10 : dc prog_1_method_34_code 10 (.if_icmp .ge 61) 3 := by decide +kernel
theorem d9_13 : dc prog_1_method_34_code 13 (.aload_n 0) 1 := by decide +kernel
theorem d9_14 : dc prog_1_method_34_code 14 (.getfield 16) 3 := by decide +kernel
theorem d9_17 : dc prog_1_method_34_code 17 (.iload_n 3) 1 := by decide +kernel
theorem d9_18 : dc prog_1_method_34_code 18 (.iaload) 1 := by decide +kernel
theorem d9_19 : dc prog_1_method_34_code 19 (.istore 4) 2 := by decide +kernel
theorem d9_21 : dc prog_1_method_34_code 21 (.iload_n 3) 1 := by decide +kernel
theorem d9_22 : dc prog_1_method_34_code 22 (.iload 4) 2 := by decide +kernel
theorem d9_24 : dc prog_1_method_34_code 24 (.if_icmp .ge 41) 3 := by decide +kernel
theorem d9_27 : dc prog_1_method_34_code 27 (.aload_n 0) 1 := by decide +kernel
theorem d9_28 : dc prog_1_method_34_code 28 (.getfield 7) 3 := by decide +kernel
theorem d9_31 : dc prog_1_method_34_code 31 (.iload_n 2) 1 := by decide +kernel
theorem d9_32 : dc prog_1_method_34_code 32 (.iload_n 3) 1 := by decide +kernel
theorem d9_33 : dc prog_1_method_34_code 33 (.iadd) 1 := by decide +kernel
theorem d9_34 : dc prog_1_method_34_code 34 (.iaload) 1 := by decide +kernel
theorem d9_35 : dc prog_1_method_34_code 35 (.istore 5) 2 := by decide +kernel
theorem d9_37 : dc prog_1_method_34_code 37 (.aload_n 0) 1 := by decide +kernel
theorem d9_38 : dc prog_1_method_34_code 38 (.getfield 7) 3 := by decide +kernel
theorem d9_41 : dc prog_1_method_34_code 41 (.iload_n 2) 1 := by decide +kernel
theorem d9_42 : dc prog_1_method_34_code 42 (.iload_n 3) 1 := by decide +kernel
theorem d9_43 : dc prog_1_method_34_code 43 (.iadd) 1 := by decide +kernel
theorem d9_44 : dc prog_1_method_34_code 44 (.aload_n 0) 1 := by decide +kernel
theorem d9_45 : dc prog_1_method_34_code 45 (.getfield 7) 3 := by decide +kernel
theorem d9_48 : dc prog_1_method_34_code 48 (.iload_n 2) 1 := by decide +kernel
theorem d9_49 : dc prog_1_method_34_code 49 (.iload 4) 2 := by decide +kernel
theorem d9_51 : dc prog_1_method_34_code 51 (.iadd) 1 := by decide +kernel
theorem d9_52 : dc prog_1_method_34_code 52 (.iaload) 1 := by decide +kernel
theorem d9_53 : dc prog_1_method_34_code 53 (.iastore) 1 := by decide +kernel
theorem d9_54 : dc prog_1_method_34_code 54 (.aload_n 0) 1 := by decide +kernel
theorem d9_55 : dc prog_1_method_34_code 55 (.getfield 7) 3 := by decide +kernel
theorem d9_58 : dc prog_1_method_34_code 58 (.iload_n 2) 1 := by decide +kernel
theorem d9_59 : dc prog_1_method_34_code 59 (.iload 4) 2 := by decide +kernel
theorem d9_61 : dc prog_1_method_34_code 61 (.iadd) 1 := by decide +kernel
theorem d9_62 : dc prog_1_method_34_code 62 (.iload 5) 2 := by decide +kernel
theorem d9_64 : dc prog_1_method_34_code 64 (.iastore) 1 := by decide +kernel
theorem d9_65 : dc prog_1_method_34_code 65 (.iinc 3 1) 3 := by decide +kernel
theorem d9_68 : dc prog_1_method_34_code 68 (.goto (-61)) 3 := by decide +kernel
theorem d9_71 : dc prog_1_method_34_code 71 (.return_) 1 := by decide +kernel
abbrev y9 : MethodName := ⟨"RingLweKem", "bitReverse", "(I)V"⟩
theorem hy9 : y9.cls ≠ "java/lang/invoke/MethodHandle" ∧ y9.cls ≠ "java/lang/invoke/VarHandle" := by decide
theorem pd9 : parseMethodDescriptor y9.desc = some ⟨[.int], none⟩ := by decide +kernel
abbrev R9 : Room := { frames := 0, cells := 0, slots := 0, locals := 0 }
abbrev P9 (r : St) : Option Value → List OwnC → Prop := fun v H' => v = none ∧ H' = (Hb 0 r)
abbrev W9 (l : Launch) (Z : State) (n0 : Nat) (Q : Option Value → List OwnC → Prop) (k n pc : Nat) (L : List Slot) (S : List Value) (H : List OwnC) : Prop := WP l Z CN lay "RingLweKem" "bitReverse" prog_1_method_34_code 6 (none) R9 n0 0 Q k n pc L S H
def f_bitReverse_65 (k7 : Int32 → Int32 → St → Option (St)) (n : Nat) (v2 : Int32) (v3 : Int32) (s : St) : Option (St) :=
  lt (v3 + (1 : Int32)) fun x1 =>
  k7 v2 x1 s
set_option maxRecDepth 65536 in
set_option maxHeartbeats 4000000 in
theorem ok9_65 (l : Launch) (Z : State) (a0 : Array Value) (hw : HW a0 Z) (n0 : Nat) (k7 : Int32 → Int32 → St → Option (St)) (hk7 : ∀ (v2 : Int32) (v3 : Int32) (s : St) (r : St), k7 v2 v3 s = some r → W9 l Z n0 (P9 r) 0 0 7 [.val (.ref 0), .unset, .val (.int v2), .val (.int v3), .unset, .unset] [] (Hb 0 s)) (n : Nat) (v2 : Int32) (v3 : Int32) (s : St) (r : St) (h : f_bitReverse_65 k7 n v2 v3 s = some r) : W9 l Z n0 (P9 r) 0 0 65 [.val (.ref 0), .unset, .val (.int v2), .val (.int v3), .unset, .unset] [] (Hb 0 s) := by
  unfold f_bitReverse_65 at h
  obtain ⟨x1, ex1, h⟩ := lt_e h
  refine WP.iinc (L' := [.val (.ref 0), .unset, .val (.int v2), .val (.int x1), .unset, .unset]) (1 : Int32) d9_65 rfl rfl (by subst ex1; rfl) ?_
  refine WP.goto (pc' := 7) d9_68 (by decide) rfl ?_
  exact WP.weak (L' := [.val (.ref 0), .unset, .val (.int v2), .val (.int x1), .unset, .unset]) ⟨rfl, rfl, rfl, trivial⟩ (hk7 v2 x1 s _ h)
def g_bitReverse_7 (k7 : Int32 → Int32 → St → Option (St)) (n : Nat) (v2 : Int32) (v3 : Int32) (s : St) : Option (St) :=
  if v3 < (16 : Int32) then
    (rd (gA s 2) v3).bind fun x2 =>
    if v3 < x2 then
      (rd (gA s 0) (v2 + v3)).bind fun x4 =>
      (rd (gA s 0) (v2 + x2)).bind fun x5 =>
      (wrA s 0 (v2 + v3) x5).bind fun s6 =>
      (wrA s6 0 (v2 + x2) x4).bind fun s7 =>
      f_bitReverse_65 k7 n v2 v3 s7
    else
      f_bitReverse_65 k7 n v2 v3 s
  else
    some s
set_option maxRecDepth 65536 in
set_option maxHeartbeats 4000000 in
theorem okg9_7 (l : Launch) (Z : State) (a0 : Array Value) (hw : HW a0 Z) (n0 : Nat) (k7 : Int32 → Int32 → St → Option (St)) (hk7 : ∀ (v2 : Int32) (v3 : Int32) (s : St) (r : St), k7 v2 v3 s = some r → W9 l Z n0 (P9 r) 0 0 7 [.val (.ref 0), .unset, .val (.int v2), .val (.int v3), .unset, .unset] [] (Hb 0 s)) (n : Nat) (v2 : Int32) (v3 : Int32) (s : St) (r : St) (h : g_bitReverse_7 k7 n v2 v3 s = some r) : W9 l Z n0 (P9 r) 0 0 7 [.val (.ref 0), .unset, .val (.int v2), .val (.int v3), .unset, .unset] [] (Hb 0 s) := by
  unfold g_bitReverse_7 at h
  refine WP.iloadN d9_7 rfl ?_
  refine WP.bipush (16 : Int32) d9_8 rfl ?_
  rcases ite_e h with ⟨hc1, h⟩ | ⟨hc1, h⟩
  ·
    refine WP.icmpN d9_10 (XT.ii_ge_f hc1) ?_
    refine WP.aloadN d9_13 rfl ?_
    refine WP.getfield (i := 0) (j := 2) d9_14 (hw _ m_14) rfl rfl rfl ?_
    refine WP.iloadN d9_17 rfl ?_
    obtain ⟨x2, hx2, h⟩ := Option.bind_eq_some_iff.mp h
    refine WP.iaload (i := 3) d9_18 rfl hx2 ?_
    refine WP.istore (L' := [.val (.ref 0), .unset, .val (.int v2), .val (.int v3), .val (.int x2), .unset]) d9_19 (leb rfl) rfl ?_
    refine WP.iloadN d9_21 rfl ?_
    refine WP.iload d9_22 rfl ?_
    rcases ite_e h with ⟨hc3, h⟩ | ⟨hc3, h⟩
    ·
      refine WP.icmpN d9_24 (XT.ii_ge_f hc3) ?_
      refine WP.aloadN d9_27 rfl ?_
      refine WP.getfield (i := 0) (j := 0) d9_28 (hw _ m_10) rfl rfl rfl ?_
      refine WP.iloadN d9_31 rfl ?_
      refine WP.iloadN d9_32 rfl ?_
      refine WP.iadd d9_33 ?_
      obtain ⟨x4, hx4, h⟩ := Option.bind_eq_some_iff.mp h
      refine WP.iaload (i := 1) d9_34 rfl hx4 ?_
      refine WP.istore (L' := [.val (.ref 0), .unset, .val (.int v2), .val (.int v3), .val (.int x2), .val (.int x4)]) d9_35 (leb rfl) rfl ?_
      refine WP.aloadN d9_37 rfl ?_
      refine WP.getfield (i := 0) (j := 0) d9_38 (hw _ m_10) rfl rfl rfl ?_
      refine WP.iloadN d9_41 rfl ?_
      refine WP.iloadN d9_42 rfl ?_
      refine WP.iadd d9_43 ?_
      refine WP.aloadN d9_44 rfl ?_
      refine WP.getfield (i := 0) (j := 0) d9_45 (hw _ m_10) rfl rfl rfl ?_
      refine WP.iloadN d9_48 rfl ?_
      refine WP.iload d9_49 rfl ?_
      refine WP.iadd d9_51 ?_
      obtain ⟨x5, hx5, h⟩ := Option.bind_eq_some_iff.mp h
      refine WP.iaload (i := 1) d9_52 rfl hx5 ?_
      obtain ⟨s6, hs6, h⟩ := Option.bind_eq_some_iff.mp h
      obtain ⟨ys6, gs6, es6⟩ := wrA_e hs6
      refine WP.iastore (i := 1) (xs := gA s 0) (H' := (Hb 0 s6)) d9_53 rfl (leb rfl) gs6 (by subst es6; rfl) ?_
      refine WP.aloadN d9_54 rfl ?_
      refine WP.getfield (i := 0) (j := 0) d9_55 (hw _ m_10) rfl rfl rfl ?_
      refine WP.iloadN d9_58 rfl ?_
      refine WP.iload d9_59 rfl ?_
      refine WP.iadd d9_61 ?_
      refine WP.iload d9_62 rfl ?_
      obtain ⟨s7, hs7, h⟩ := Option.bind_eq_some_iff.mp h
      obtain ⟨ys7, gs7, es7⟩ := wrA_e hs7
      refine WP.iastore (i := 1) (xs := gA s6 0) (H' := (Hb 0 s7)) d9_64 rfl (leb rfl) gs7 (by subst es7; rfl) ?_
      exact WP.weak (L' := [.val (.ref 0), .unset, .val (.int v2), .val (.int v3), .unset, .unset]) ⟨rfl, rfl, rfl, trivial⟩ (ok9_65 l Z a0 hw n0 _ hk7 n v2 v3 s7 _ h)
    ·
      refine WP.icmpY (pc' := 65) d9_24 (XT.ii_ge_t hc3) (by decide) rfl ?_
      exact WP.weak (L' := [.val (.ref 0), .unset, .val (.int v2), .val (.int v3), .unset, .unset]) ⟨rfl, rfl, rfl, trivial⟩ (ok9_65 l Z a0 hw n0 _ hk7 n v2 v3 s _ h)
  ·
    refine WP.icmpY (pc' := 71) d9_10 (XT.ii_ge_t hc1) (by decide) rfl ?_
    cases h
    exact WP.vreturn d9_71 rfl (leb rfl) (leb rfl) ⟨rfl, rfl⟩
def f_bitReverse_7 : Nat → Int32 → Int32 → St → Option (St)
  | 0 => fun _ _ _ => none
  | n + 1 => g_bitReverse_7 (f_bitReverse_7 n) n
theorem ok9_7 (l : Launch) (Z : State) (a0 : Array Value) (hw : HW a0 Z) (n0 : Nat) : ∀ (n : Nat) (v2 : Int32) (v3 : Int32) (s : St) (r : St), f_bitReverse_7 n v2 v3 s = some r → W9 l Z n0 (P9 r) 0 0 7 [.val (.ref 0), .unset, .val (.int v2), .val (.int v3), .unset, .unset] [] (Hb 0 s)
  | 0, v2, v3, s, r, h => nomatch (show none = some r from h)
  | n + 1, v2, v3, s, r, h => okg9_7 l Z a0 hw n0 _ (ok9_7 l Z a0 hw n0 n) n v2 v3 s r h
def f_bitReverse (n : Nat) (p1 : Int32) (s : St) : Option (St) :=
  lt (p1 * (16 : Int32)) fun x1 =>
  f_bitReverse_7 n x1 (0 : Int32) s
set_option maxRecDepth 65536 in
set_option maxHeartbeats 4000000 in
theorem ok9 (l : Launch) (Z : State) (a0 : Array Value) (hw : HW a0 Z) (n : Nat) (p1 : Int32) (s : St) (r : St) (h : f_bitReverse n p1 s = some r) : CS l Z CN lay y9 prog_1_method_34_code 6 (none) R9 0 [.ref 0, .int p1] (Hb 0 s) (P9 r) := by
  refine CS.of_wp pn_cls (leb rfl) fun n0 => ?_
  show W9 l Z n0 (P9 r) 0 0 0 [.val (.ref 0), .val (.int p1), .unset, .unset, .unset, .unset] [] (Hb 0 s)
  unfold f_bitReverse at h
  refine WP.iloadN d9_0 rfl ?_
  refine WP.bipush (16 : Int32) d9_1 rfl ?_
  refine WP.imul d9_3 ?_
  obtain ⟨x1, ex1, h⟩ := lt_e h
  refine WP.istoreN (L' := [.val (.ref 0), .val (.int p1), .val (.int x1), .unset, .unset, .unset]) d9_4 (leb rfl) (by subst ex1; rfl) ?_
  refine WP.iconst (0 : Int32) d9_5 rfl ?_
  refine WP.istoreN (L' := [.val (.ref 0), .val (.int p1), .val (.int x1), .val (.int (0 : Int32)), .unset, .unset]) d9_6 (leb rfl) rfl ?_
  exact WP.weak (L' := [.val (.ref 0), .unset, .val (.int x1), .val (.int (0 : Int32)), .unset, .unset]) ⟨rfl, rfl, rfl, trivial⟩ (ok9_7 l Z a0 hw n0 n x1 (0 : Int32) s _ h)
theorem d10_0 : dc prog_1_method_35_code 0 (.iload_n 1) 1 := by decide +kernel
theorem d10_1 : dc prog_1_method_35_code 1 (.bipush 16) 2 := by decide +kernel
theorem d10_3 : dc prog_1_method_35_code 3 (.imul) 1 := by decide +kernel
theorem d10_4 : dc prog_1_method_35_code 4 (.istore_n 3) 1 := by decide +kernel
theorem d10_5 : dc prog_1_method_35_code 5 (.iconst 2) 1 := by decide +kernel
theorem d10_6 : dc prog_1_method_35_code 6 (.istore 4) 2 := by decide +kernel
theorem d10_8 : dc prog_1_method_35_code 8 (.iload 4) 2 := by decide +kernel
theorem d10_10 : dc prog_1_method_35_code 10 (.bipush 16) 2 := by decide +kernel
theorem d10_12 : dc prog_1_method_35_code 12 (.if_icmp .gt 164) 3 := by decide +kernel
theorem d10_15 : dc prog_1_method_35_code 15 (.iload 4) 2 := by decide +kernel
theorem d10_17 : dc prog_1_method_35_code 17 (.iconst 1) 1 := by decide +kernel
theorem d10_18 : dc prog_1_method_35_code 18 (.ishr) 1 := by decide +kernel
theorem d10_19 : dc prog_1_method_35_code 19 (.istore 5) 2 := by decide +kernel
theorem d10_21 : dc prog_1_method_35_code 21 (.bipush 32) 2 := by decide +kernel
theorem d10_23 : dc prog_1_method_35_code 23 (.iload 4) 2 := by decide +kernel
theorem d10_25 : dc prog_1_method_35_code 25 (.idiv) 1 := by decide +kernel
theorem d10_26 : dc prog_1_method_35_code 26 (.istore 6) 2 := by decide +kernel
theorem d10_28 : dc prog_1_method_35_code 28 (.iconst 0) 1 := by decide +kernel
theorem d10_29 : dc prog_1_method_35_code 29 (.istore 7) 2 := by decide +kernel
theorem d10_31 : dc prog_1_method_35_code 31 (.iload 7) 2 := by decide +kernel
theorem d10_33 : dc prog_1_method_35_code 33 (.bipush 8) 2 := by decide +kernel
theorem d10_35 : dc prog_1_method_35_code 35 (.if_icmp .ge 132) 3 := by decide +kernel
theorem d10_38 : dc prog_1_method_35_code 38 (.iload 7) 2 := by decide +kernel
theorem d10_40 : dc prog_1_method_35_code 40 (.iload 5) 2 := by decide +kernel
theorem d10_42 : dc prog_1_method_35_code 42 (.idiv) 1 := by decide +kernel
theorem d10_43 : dc prog_1_method_35_code 43 (.istore 8) 2 := by decide +kernel
theorem d10_45 : dc prog_1_method_35_code 45 (.iload 7) 2 := by decide +kernel
theorem d10_47 : dc prog_1_method_35_code 47 (.iload 8) 2 := by decide +kernel
theorem d10_49 : dc prog_1_method_35_code 49 (.iload 5) 2 := by decide +kernel
theorem d10_51 : dc prog_1_method_35_code 51 (.imul) 1 := by decide +kernel
theorem d10_52 : dc prog_1_method_35_code 52 (.isub) 1 := by decide +kernel
theorem d10_53 : dc prog_1_method_35_code 53 (.istore 9) 2 := by decide +kernel
theorem d10_55 : dc prog_1_method_35_code 55 (.iload_n 3) 1 := by decide +kernel
theorem d10_56 : dc prog_1_method_35_code 56 (.iload 8) 2 := by decide +kernel
theorem d10_58 : dc prog_1_method_35_code 58 (.iload 4) 2 := by decide +kernel
theorem d10_60 : dc prog_1_method_35_code 60 (.imul) 1 := by decide +kernel
theorem d10_61 : dc prog_1_method_35_code 61 (.iadd) 1 := by decide +kernel
theorem d10_62 : dc prog_1_method_35_code 62 (.iload 9) 2 := by decide +kernel
theorem d10_64 : dc prog_1_method_35_code 64 (.iadd) 1 := by decide +kernel
theorem d10_65 : dc prog_1_method_35_code 65 (.istore 10) 2 := by decide +kernel
theorem d10_67 : dc prog_1_method_35_code 67 (.iload 10) 2 := by decide +kernel
theorem d10_69 : dc prog_1_method_35_code 69 (.iload 5) 2 := by decide +kernel
theorem d10_71 : dc prog_1_method_35_code 71 (.iadd) 1 := by decide +kernel
theorem d10_72 : dc prog_1_method_35_code 72 (.istore 11) 2 := by decide +kernel
theorem d10_74 : dc prog_1_method_35_code 74 (.iload 9) 2 := by decide +kernel
theorem d10_76 : dc prog_1_method_35_code 76 (.iload 6) 2 := by decide +kernel
theorem d10_78 : dc prog_1_method_35_code 78 (.imul) 1 := by decide +kernel
theorem d10_79 : dc prog_1_method_35_code 79 (.istore 12) 2 := by decide +kernel
theorem d10_81 : dc prog_1_method_35_code 81 (.iload_n 2) 1 := by decide +kernel
theorem d10_82 : dc prog_1_method_35_code 82 (.ifCond .eq 13) 3 := by decide +kernel
theorem d10_85 : dc prog_1_method_35_code 85 (.bipush 32) 2 := by decide +kernel
theorem d10_87 : dc prog_1_method_35_code 87 (.iload 12) 2 := by decide +kernel
theorem d10_89 : dc prog_1_method_35_code 89 (.isub) 1 := by decide +kernel
theorem d10_90 : dc prog_1_method_35_code 90 (.bipush 31) 2 := by decide +kernel
theorem d10_92 : dc prog_1_method_35_code 92 (.iand) 1 := by decide +kernel
theorem d10_93 : dc prog_1_method_35_code 93 (.istore 12) 2 := by decide +kernel
theorem d10_95 : dc prog_1_method_35_code 95 (.aload_n 0) 1 := by decide +kernel
theorem d10_96 : dc prog_1_method_35_code 96 (.getfield 7) 3 := by decide +kernel
theorem d10_99 : dc prog_1_method_35_code 99 (.iload 11) 2 := by decide +kernel
theorem d10_101 : dc prog_1_method_35_code 101 (.iaload) 1 := by decide +kernel
theorem d10_102 : dc prog_1_method_35_code 102 (.aload_n 0) 1 := by decide +kernel
theorem d10_103 : dc prog_1_method_35_code 103 (.getfield 13) 3 := by decide +kernel
theorem d10_106 : dc prog_1_method_35_code 106 (.iload 12) 2 := by decide +kernel
theorem d10_108 : dc prog_1_method_35_code 108 (.iaload) 1 := by decide +kernel
theorem d10_109 : dc prog_1_method_35_code 109 (.imul) 1 := by decide +kernel
theorem d10_110 : dc prog_1_method_35_code 110 (.sipush 257) 3 := by decide +kernel
theorem d10_113 : dc prog_1_method_35_code 113 (.irem) 1 := by decide +kernel
theorem d10_114 : dc prog_1_method_35_code 114 (.istore 13) 2 := by decide +kernel
theorem d10_116 : dc prog_1_method_35_code 116 (.aload_n 0) 1 := by decide +kernel
theorem d10_117 : dc prog_1_method_35_code 117 (.getfield 7) 3 := by decide +kernel
theorem d10_120 : dc prog_1_method_35_code 120 (.iload 10) 2 := by decide +kernel
theorem d10_122 : dc prog_1_method_35_code 122 (.iaload) 1 := by decide +kernel
theorem d10_123 : dc prog_1_method_35_code 123 (.istore 14) 2 := by decide +kernel
theorem d10_125 : dc prog_1_method_35_code 125 (.aload_n 0) 1 := by decide +kernel
theorem d10_126 : dc prog_1_method_35_code 126 (.getfield 7) 3 := by decide +kernel
theorem d10_129 : dc prog_1_method_35_code 129 (.iload 10) 2 := by decide +kernel
theorem d10_131 : dc prog_1_method_35_code 131 (.iload 14) 2 := by decide +kernel
theorem d10_133 : dc prog_1_method_35_code 133 (.iload 13) 2 := by decide +kernel
theorem d10_135 : dc prog_1_method_35_code 135 (.iadd) 1 := by decide +kernel
theorem d10_136 : dc prog_1_method_35_code 136 (.sipush 257) 3 := by decide +kernel
theorem d10_139 : dc prog_1_method_35_code 139 (.irem) 1 := by decide +kernel
theorem d10_140 : dc prog_1_method_35_code 140 (.iastore) 1 := by decide +kernel
theorem d10_141 : dc prog_1_method_35_code 141 (.aload_n 0) 1 := by decide +kernel
theorem d10_142 : dc prog_1_method_35_code 142 (.getfield 7) 3 := by decide +kernel
theorem d10_145 : dc prog_1_method_35_code 145 (.iload 11) 2 := by decide +kernel
theorem d10_147 : dc prog_1_method_35_code 147 (.iload 14) 2 := by decide +kernel
theorem d10_149 : dc prog_1_method_35_code 149 (.iload 13) 2 := by decide +kernel
theorem d10_151 : dc prog_1_method_35_code 151 (.isub) 1 := by decide +kernel
theorem d10_152 : dc prog_1_method_35_code 152 (.sipush 257) 3 := by decide +kernel
theorem d10_155 : dc prog_1_method_35_code 155 (.iadd) 1 := by decide +kernel
theorem d10_156 : dc prog_1_method_35_code 156 (.sipush 257) 3 := by decide +kernel
theorem d10_159 : dc prog_1_method_35_code 159 (.irem) 1 := by decide +kernel
theorem d10_160 : dc prog_1_method_35_code 160 (.iastore) 1 := by decide +kernel
theorem d10_161 : dc prog_1_method_35_code 161 (.iinc 7 1) 3 := by decide +kernel
theorem d10_164 : dc prog_1_method_35_code 164 (.goto (-133)) 3 := by decide +kernel
theorem d10_167 : dc prog_1_method_35_code 167 (.iload 4) 2 := by decide +kernel
theorem d10_169 : dc prog_1_method_35_code 169 (.iconst 1) 1 := by decide +kernel
theorem d10_170 : dc prog_1_method_35_code 170 (.ishl) 1 := by decide +kernel
theorem d10_171 : dc prog_1_method_35_code 171 (.istore 4) 2 := by decide +kernel
theorem d10_173 : dc prog_1_method_35_code 173 (.goto (-165)) 3 := by decide +kernel
theorem d10_176 : dc prog_1_method_35_code 176 (.return_) 1 := by decide +kernel
abbrev y10 : MethodName := ⟨"RingLweKem", "butterflies", "(IZ)V"⟩
theorem hy10 : y10.cls ≠ "java/lang/invoke/MethodHandle" ∧ y10.cls ≠ "java/lang/invoke/VarHandle" := by decide
theorem pd10 : parseMethodDescriptor y10.desc = some ⟨[.int, .boolean], none⟩ := by decide +kernel
abbrev R10 : Room := { frames := 0, cells := 0, slots := 0, locals := 0 }
abbrev P10 (r : St) : Option Value → List OwnC → Prop := fun v H' => v = none ∧ H' = (Hb 0 r)
abbrev W10 (l : Launch) (Z : State) (n0 : Nat) (Q : Option Value → List OwnC → Prop) (k n pc : Nat) (L : List Slot) (S : List Value) (H : List OwnC) : Prop := WP l Z CN lay "RingLweKem" "butterflies" prog_1_method_35_code 15 (none) R10 n0 0 Q k n pc L S H
def f_butterflies_95 (k8 : Int32 → Int32 → Int32 → St → Option (St)) (k31 : Int32 → Int32 → Int32 → Int32 → Int32 → Int32 → St → Option (St)) (n : Nat) (v2 : Int32) (v3 : Int32) (v4 : Int32) (v5 : Int32) (v6 : Int32) (v7 : Int32) (v10 : Int32) (v11 : Int32) (v12 : Int32) (s : St) : Option (St) :=
  (rd (gA s 0) v11).bind fun x1 =>
  (rd (gA s 1) v12).bind fun x2 =>
  lt ((x1 * x2) % (257 : Int32)) fun x3 =>
  (rd (gA s 0) v10).bind fun x4 =>
  (wrA s 0 v10 ((x4 + x3) % (257 : Int32))).bind fun s5 =>
  (wrA s5 0 v11 (((x4 - x3) + (257 : Int32)) % (257 : Int32))).bind fun s6 =>
  lt (v7 + (1 : Int32)) fun x7 =>
  k31 v2 v3 v4 v5 v6 x7 s6
set_option maxRecDepth 65536 in
set_option maxHeartbeats 4000000 in
theorem ok10_95 (l : Launch) (Z : State) (a0 : Array Value) (hw : HW a0 Z) (n0 : Nat) (k8 : Int32 → Int32 → Int32 → St → Option (St)) (hk8 : ∀ (v2 : Int32) (v3 : Int32) (v4 : Int32) (s : St) (r : St), k8 v2 v3 v4 s = some r → W10 l Z n0 (P10 r) 0 0 8 [.val (.ref 0), .unset, .val (.int v2), .val (.int v3), .val (.int v4), .unset, .unset, .unset, .unset, .unset, .unset, .unset, .unset, .unset, .unset] [] (Hb 0 s)) (k31 : Int32 → Int32 → Int32 → Int32 → Int32 → Int32 → St → Option (St)) (hk31 : ∀ (v2 : Int32) (v3 : Int32) (v4 : Int32) (v5 : Int32) (v6 : Int32) (v7 : Int32) (s : St) (r : St), k31 v2 v3 v4 v5 v6 v7 s = some r → W10 l Z n0 (P10 r) 0 0 31 [.val (.ref 0), .unset, .val (.int v2), .val (.int v3), .val (.int v4), .val (.int v5), .val (.int v6), .val (.int v7), .unset, .unset, .unset, .unset, .unset, .unset, .unset] [] (Hb 0 s)) (n : Nat) (v2 : Int32) (v3 : Int32) (v4 : Int32) (v5 : Int32) (v6 : Int32) (v7 : Int32) (v10 : Int32) (v11 : Int32) (v12 : Int32) (s : St) (r : St) (h : f_butterflies_95 k8 k31 n v2 v3 v4 v5 v6 v7 v10 v11 v12 s = some r) : W10 l Z n0 (P10 r) 0 0 95 [.val (.ref 0), .unset, .val (.int v2), .val (.int v3), .val (.int v4), .val (.int v5), .val (.int v6), .val (.int v7), .unset, .unset, .val (.int v10), .val (.int v11), .val (.int v12), .unset, .unset] [] (Hb 0 s) := by
  unfold f_butterflies_95 at h
  refine WP.aloadN d10_95 rfl ?_
  refine WP.getfield (i := 0) (j := 0) d10_96 (hw _ m_10) rfl rfl rfl ?_
  refine WP.iload d10_99 rfl ?_
  obtain ⟨x1, hx1, h⟩ := Option.bind_eq_some_iff.mp h
  refine WP.iaload (i := 1) d10_101 rfl hx1 ?_
  refine WP.aloadN d10_102 rfl ?_
  refine WP.getfield (i := 0) (j := 1) d10_103 (hw _ m_12) rfl rfl rfl ?_
  refine WP.iload d10_106 rfl ?_
  obtain ⟨x2, hx2, h⟩ := Option.bind_eq_some_iff.mp h
  refine WP.iaload (i := 2) d10_108 rfl hx2 ?_
  refine WP.imul d10_109 ?_
  refine WP.sipush (257 : Int32) d10_110 rfl ?_
  refine WP.irem d10_113 (by decide) ?_
  obtain ⟨x3, ex3, h⟩ := lt_e h
  refine WP.istore (L' := [.val (.ref 0), .unset, .val (.int v2), .val (.int v3), .val (.int v4), .val (.int v5), .val (.int v6), .val (.int v7), .unset, .unset, .val (.int v10), .val (.int v11), .val (.int v12), .val (.int x3), .unset]) d10_114 (leb rfl) (by subst ex3; rfl) ?_
  refine WP.aloadN d10_116 rfl ?_
  refine WP.getfield (i := 0) (j := 0) d10_117 (hw _ m_10) rfl rfl rfl ?_
  refine WP.iload d10_120 rfl ?_
  obtain ⟨x4, hx4, h⟩ := Option.bind_eq_some_iff.mp h
  refine WP.iaload (i := 1) d10_122 rfl hx4 ?_
  refine WP.istore (L' := [.val (.ref 0), .unset, .val (.int v2), .val (.int v3), .val (.int v4), .val (.int v5), .val (.int v6), .val (.int v7), .unset, .unset, .val (.int v10), .val (.int v11), .val (.int v12), .val (.int x3), .val (.int x4)]) d10_123 (leb rfl) rfl ?_
  refine WP.aloadN d10_125 rfl ?_
  refine WP.getfield (i := 0) (j := 0) d10_126 (hw _ m_10) rfl rfl rfl ?_
  refine WP.iload d10_129 rfl ?_
  refine WP.iload d10_131 rfl ?_
  refine WP.iload d10_133 rfl ?_
  refine WP.iadd d10_135 ?_
  refine WP.sipush (257 : Int32) d10_136 rfl ?_
  refine WP.irem d10_139 (by decide) ?_
  obtain ⟨s5, hs5, h⟩ := Option.bind_eq_some_iff.mp h
  obtain ⟨ys5, gs5, es5⟩ := wrA_e hs5
  refine WP.iastore (i := 1) (xs := gA s 0) (H' := (Hb 0 s5)) d10_140 rfl (leb rfl) gs5 (by subst es5; rfl) ?_
  refine WP.aloadN d10_141 rfl ?_
  refine WP.getfield (i := 0) (j := 0) d10_142 (hw _ m_10) rfl rfl rfl ?_
  refine WP.iload d10_145 rfl ?_
  refine WP.iload d10_147 rfl ?_
  refine WP.iload d10_149 rfl ?_
  refine WP.isub d10_151 ?_
  refine WP.sipush (257 : Int32) d10_152 rfl ?_
  refine WP.iadd d10_155 ?_
  refine WP.sipush (257 : Int32) d10_156 rfl ?_
  refine WP.irem d10_159 (by decide) ?_
  obtain ⟨s6, hs6, h⟩ := Option.bind_eq_some_iff.mp h
  obtain ⟨ys6, gs6, es6⟩ := wrA_e hs6
  refine WP.iastore (i := 1) (xs := gA s5 0) (H' := (Hb 0 s6)) d10_160 rfl (leb rfl) gs6 (by subst es6; rfl) ?_
  obtain ⟨x7, ex7, h⟩ := lt_e h
  refine WP.iinc (L' := [.val (.ref 0), .unset, .val (.int v2), .val (.int v3), .val (.int v4), .val (.int v5), .val (.int v6), .val (.int x7), .unset, .unset, .val (.int v10), .val (.int v11), .val (.int v12), .val (.int x3), .val (.int x4)]) (1 : Int32) d10_161 rfl rfl (by subst ex7; rfl) ?_
  refine WP.goto (pc' := 31) d10_164 (by decide) rfl ?_
  exact WP.weak (L' := [.val (.ref 0), .unset, .val (.int v2), .val (.int v3), .val (.int v4), .val (.int v5), .val (.int v6), .val (.int x7), .unset, .unset, .unset, .unset, .unset, .unset, .unset]) ⟨rfl, rfl, rfl, rfl, rfl, rfl, rfl, trivial⟩ (hk31 v2 v3 v4 v5 v6 x7 s6 _ h)
def g_butterflies_31 (k8 : Int32 → Int32 → Int32 → St → Option (St)) (k31 : Int32 → Int32 → Int32 → Int32 → Int32 → Int32 → St → Option (St)) (n : Nat) (v2 : Int32) (v3 : Int32) (v4 : Int32) (v5 : Int32) (v6 : Int32) (v7 : Int32) (s : St) : Option (St) :=
  if v7 < (8 : Int32) then
    if v5 = 0 then none else
    lt (v7 / v5) fun x3 =>
    lt (v7 - (x3 * v5)) fun x4 =>
    lt ((v3 + (x3 * v4)) + x4) fun x5 =>
    lt (x5 + v5) fun x6 =>
    lt (x4 * v6) fun x7 =>
    if v2 = 0 then
      f_butterflies_95 k8 k31 n v2 v3 v4 v5 v6 v7 x5 x6 x7 s
    else
      lt (((32 : Int32) - x7) &&& (31 : Int32)) fun x9 =>
      f_butterflies_95 k8 k31 n v2 v3 v4 v5 v6 v7 x5 x6 x9 s
  else
    lt (v4 <<< ((1 : Int32) &&& 31)) fun x10 =>
    k8 v2 v3 x10 s
set_option maxRecDepth 65536 in
set_option maxHeartbeats 4000000 in
theorem okg10_31 (l : Launch) (Z : State) (a0 : Array Value) (hw : HW a0 Z) (n0 : Nat) (k8 : Int32 → Int32 → Int32 → St → Option (St)) (hk8 : ∀ (v2 : Int32) (v3 : Int32) (v4 : Int32) (s : St) (r : St), k8 v2 v3 v4 s = some r → W10 l Z n0 (P10 r) 0 0 8 [.val (.ref 0), .unset, .val (.int v2), .val (.int v3), .val (.int v4), .unset, .unset, .unset, .unset, .unset, .unset, .unset, .unset, .unset, .unset] [] (Hb 0 s)) (k31 : Int32 → Int32 → Int32 → Int32 → Int32 → Int32 → St → Option (St)) (hk31 : ∀ (v2 : Int32) (v3 : Int32) (v4 : Int32) (v5 : Int32) (v6 : Int32) (v7 : Int32) (s : St) (r : St), k31 v2 v3 v4 v5 v6 v7 s = some r → W10 l Z n0 (P10 r) 0 0 31 [.val (.ref 0), .unset, .val (.int v2), .val (.int v3), .val (.int v4), .val (.int v5), .val (.int v6), .val (.int v7), .unset, .unset, .unset, .unset, .unset, .unset, .unset] [] (Hb 0 s)) (n : Nat) (v2 : Int32) (v3 : Int32) (v4 : Int32) (v5 : Int32) (v6 : Int32) (v7 : Int32) (s : St) (r : St) (h : g_butterflies_31 k8 k31 n v2 v3 v4 v5 v6 v7 s = some r) : W10 l Z n0 (P10 r) 0 0 31 [.val (.ref 0), .unset, .val (.int v2), .val (.int v3), .val (.int v4), .val (.int v5), .val (.int v6), .val (.int v7), .unset, .unset, .unset, .unset, .unset, .unset, .unset] [] (Hb 0 s) := by
  unfold g_butterflies_31 at h
  refine WP.iload d10_31 rfl ?_
  refine WP.bipush (8 : Int32) d10_33 rfl ?_
  rcases ite_e h with ⟨hc1, h⟩ | ⟨hc1, h⟩
  ·
    refine WP.icmpN d10_35 (XT.ii_ge_f hc1) ?_
    refine WP.iload d10_38 rfl ?_
    refine WP.iload d10_40 rfl ?_
    obtain ⟨hz2, h⟩ := nz_e h
    refine WP.idiv d10_42 hz2 ?_
    obtain ⟨x3, ex3, h⟩ := lt_e h
    refine WP.istore (L' := [.val (.ref 0), .unset, .val (.int v2), .val (.int v3), .val (.int v4), .val (.int v5), .val (.int v6), .val (.int v7), .val (.int x3), .unset, .unset, .unset, .unset, .unset, .unset]) d10_43 (leb rfl) (by subst ex3; rfl) ?_
    refine WP.iload d10_45 rfl ?_
    refine WP.iload d10_47 rfl ?_
    refine WP.iload d10_49 rfl ?_
    refine WP.imul d10_51 ?_
    refine WP.isub d10_52 ?_
    obtain ⟨x4, ex4, h⟩ := lt_e h
    refine WP.istore (L' := [.val (.ref 0), .unset, .val (.int v2), .val (.int v3), .val (.int v4), .val (.int v5), .val (.int v6), .val (.int v7), .val (.int x3), .val (.int x4), .unset, .unset, .unset, .unset, .unset]) d10_53 (leb rfl) (by subst ex4; rfl) ?_
    refine WP.iloadN d10_55 rfl ?_
    refine WP.iload d10_56 rfl ?_
    refine WP.iload d10_58 rfl ?_
    refine WP.imul d10_60 ?_
    refine WP.iadd d10_61 ?_
    refine WP.iload d10_62 rfl ?_
    refine WP.iadd d10_64 ?_
    obtain ⟨x5, ex5, h⟩ := lt_e h
    refine WP.istore (L' := [.val (.ref 0), .unset, .val (.int v2), .val (.int v3), .val (.int v4), .val (.int v5), .val (.int v6), .val (.int v7), .val (.int x3), .val (.int x4), .val (.int x5), .unset, .unset, .unset, .unset]) d10_65 (leb rfl) (by subst ex5; rfl) ?_
    refine WP.iload d10_67 rfl ?_
    refine WP.iload d10_69 rfl ?_
    refine WP.iadd d10_71 ?_
    obtain ⟨x6, ex6, h⟩ := lt_e h
    refine WP.istore (L' := [.val (.ref 0), .unset, .val (.int v2), .val (.int v3), .val (.int v4), .val (.int v5), .val (.int v6), .val (.int v7), .val (.int x3), .val (.int x4), .val (.int x5), .val (.int x6), .unset, .unset, .unset]) d10_72 (leb rfl) (by subst ex6; rfl) ?_
    refine WP.iload d10_74 rfl ?_
    refine WP.iload d10_76 rfl ?_
    refine WP.imul d10_78 ?_
    obtain ⟨x7, ex7, h⟩ := lt_e h
    refine WP.istore (L' := [.val (.ref 0), .unset, .val (.int v2), .val (.int v3), .val (.int v4), .val (.int v5), .val (.int v6), .val (.int v7), .val (.int x3), .val (.int x4), .val (.int x5), .val (.int x6), .val (.int x7), .unset, .unset]) d10_79 (leb rfl) (by subst ex7; rfl) ?_
    refine WP.iloadN d10_81 rfl ?_
    rcases ite_e h with ⟨hc8, h⟩ | ⟨hc8, h⟩
    ·
      refine WP.ifY (pc' := 95) d10_82 (XT.i0_eq_t hc8) (by decide) rfl ?_
      exact WP.weak (L' := [.val (.ref 0), .unset, .val (.int v2), .val (.int v3), .val (.int v4), .val (.int v5), .val (.int v6), .val (.int v7), .unset, .unset, .val (.int x5), .val (.int x6), .val (.int x7), .unset, .unset]) ⟨rfl, rfl, rfl, rfl, rfl, rfl, rfl, rfl, rfl, rfl, trivial⟩ (ok10_95 l Z a0 hw n0 _ hk8 _ hk31 n v2 v3 v4 v5 v6 v7 x5 x6 x7 s _ h)
    ·
      refine WP.ifN d10_82 (XT.i0_eq_f hc8) ?_
      refine WP.bipush (32 : Int32) d10_85 rfl ?_
      refine WP.iload d10_87 rfl ?_
      refine WP.isub d10_89 ?_
      refine WP.bipush (31 : Int32) d10_90 rfl ?_
      refine WP.iand d10_92 ?_
      obtain ⟨x9, ex9, h⟩ := lt_e h
      refine WP.istore (L' := [.val (.ref 0), .unset, .val (.int v2), .val (.int v3), .val (.int v4), .val (.int v5), .val (.int v6), .val (.int v7), .val (.int x3), .val (.int x4), .val (.int x5), .val (.int x6), .val (.int x9), .unset, .unset]) d10_93 (leb rfl) (by subst ex9; rfl) ?_
      exact WP.weak (L' := [.val (.ref 0), .unset, .val (.int v2), .val (.int v3), .val (.int v4), .val (.int v5), .val (.int v6), .val (.int v7), .unset, .unset, .val (.int x5), .val (.int x6), .val (.int x9), .unset, .unset]) ⟨rfl, rfl, rfl, rfl, rfl, rfl, rfl, rfl, rfl, rfl, trivial⟩ (ok10_95 l Z a0 hw n0 _ hk8 _ hk31 n v2 v3 v4 v5 v6 v7 x5 x6 x9 s _ h)
  ·
    refine WP.icmpY (pc' := 167) d10_35 (XT.ii_ge_t hc1) (by decide) rfl ?_
    refine WP.iload d10_167 rfl ?_
    refine WP.iconst (1 : Int32) d10_169 rfl ?_
    refine WP.ishl d10_170 ?_
    obtain ⟨x10, ex10, h⟩ := lt_e h
    refine WP.istore (L' := [.val (.ref 0), .unset, .val (.int v2), .val (.int v3), .val (.int x10), .val (.int v5), .val (.int v6), .val (.int v7), .unset, .unset, .unset, .unset, .unset, .unset, .unset]) d10_171 (leb rfl) (by subst ex10; rfl) ?_
    refine WP.goto (pc' := 8) d10_173 (by decide) rfl ?_
    exact WP.weak (L' := [.val (.ref 0), .unset, .val (.int v2), .val (.int v3), .val (.int x10), .unset, .unset, .unset, .unset, .unset, .unset, .unset, .unset, .unset, .unset]) ⟨rfl, rfl, rfl, rfl, trivial⟩ (hk8 v2 v3 x10 s _ h)
def f_butterflies_31 (k8 : Int32 → Int32 → Int32 → St → Option (St)) : Nat → Int32 → Int32 → Int32 → Int32 → Int32 → Int32 → St → Option (St)
  | 0 => fun _ _ _ _ _ _ _ => none
  | n + 1 => g_butterflies_31 k8 (f_butterflies_31 k8 n) n
theorem ok10_31 (l : Launch) (Z : State) (a0 : Array Value) (hw : HW a0 Z) (n0 : Nat) (k8 : Int32 → Int32 → Int32 → St → Option (St)) (hk8 : ∀ (v2 : Int32) (v3 : Int32) (v4 : Int32) (s : St) (r : St), k8 v2 v3 v4 s = some r → W10 l Z n0 (P10 r) 0 0 8 [.val (.ref 0), .unset, .val (.int v2), .val (.int v3), .val (.int v4), .unset, .unset, .unset, .unset, .unset, .unset, .unset, .unset, .unset, .unset] [] (Hb 0 s)) : ∀ (n : Nat) (v2 : Int32) (v3 : Int32) (v4 : Int32) (v5 : Int32) (v6 : Int32) (v7 : Int32) (s : St) (r : St), f_butterflies_31 k8 n v2 v3 v4 v5 v6 v7 s = some r → W10 l Z n0 (P10 r) 0 0 31 [.val (.ref 0), .unset, .val (.int v2), .val (.int v3), .val (.int v4), .val (.int v5), .val (.int v6), .val (.int v7), .unset, .unset, .unset, .unset, .unset, .unset, .unset] [] (Hb 0 s)
  | 0, v2, v3, v4, v5, v6, v7, s, r, h => nomatch (show none = some r from h)
  | n + 1, v2, v3, v4, v5, v6, v7, s, r, h => okg10_31 l Z a0 hw n0 _ hk8 _ (ok10_31 l Z a0 hw n0 k8 hk8 n) n v2 v3 v4 v5 v6 v7 s r h
def g_butterflies_8 (k8 : Int32 → Int32 → Int32 → St → Option (St)) (n : Nat) (v2 : Int32) (v3 : Int32) (v4 : Int32) (s : St) : Option (St) :=
  if (16 : Int32) < v4 then
    some s
  else
    lt (v4 >>> ((1 : Int32) &&& 31)) fun x2 =>
    if v4 = 0 then none else
    lt ((32 : Int32) / v4) fun x4 =>
    f_butterflies_31 k8 n v2 v3 v4 x2 x4 (0 : Int32) s
set_option maxRecDepth 65536 in
set_option maxHeartbeats 4000000 in
theorem okg10_8 (l : Launch) (Z : State) (a0 : Array Value) (hw : HW a0 Z) (n0 : Nat) (k8 : Int32 → Int32 → Int32 → St → Option (St)) (hk8 : ∀ (v2 : Int32) (v3 : Int32) (v4 : Int32) (s : St) (r : St), k8 v2 v3 v4 s = some r → W10 l Z n0 (P10 r) 0 0 8 [.val (.ref 0), .unset, .val (.int v2), .val (.int v3), .val (.int v4), .unset, .unset, .unset, .unset, .unset, .unset, .unset, .unset, .unset, .unset] [] (Hb 0 s)) (n : Nat) (v2 : Int32) (v3 : Int32) (v4 : Int32) (s : St) (r : St) (h : g_butterflies_8 k8 n v2 v3 v4 s = some r) : W10 l Z n0 (P10 r) 0 0 8 [.val (.ref 0), .unset, .val (.int v2), .val (.int v3), .val (.int v4), .unset, .unset, .unset, .unset, .unset, .unset, .unset, .unset, .unset, .unset] [] (Hb 0 s) := by
  unfold g_butterflies_8 at h
  refine WP.iload d10_8 rfl ?_
  refine WP.bipush (16 : Int32) d10_10 rfl ?_
  rcases ite_e h with ⟨hc1, h⟩ | ⟨hc1, h⟩
  ·
    refine WP.icmpY (pc' := 176) d10_12 (XT.ii_gt_t hc1) (by decide) rfl ?_
    cases h
    exact WP.vreturn d10_176 rfl (leb rfl) (leb rfl) ⟨rfl, rfl⟩
  ·
    refine WP.icmpN d10_12 (XT.ii_gt_f hc1) ?_
    refine WP.iload d10_15 rfl ?_
    refine WP.iconst (1 : Int32) d10_17 rfl ?_
    refine WP.ishr d10_18 ?_
    obtain ⟨x2, ex2, h⟩ := lt_e h
    refine WP.istore (L' := [.val (.ref 0), .unset, .val (.int v2), .val (.int v3), .val (.int v4), .val (.int x2), .unset, .unset, .unset, .unset, .unset, .unset, .unset, .unset, .unset]) d10_19 (leb rfl) (by subst ex2; rfl) ?_
    refine WP.bipush (32 : Int32) d10_21 rfl ?_
    refine WP.iload d10_23 rfl ?_
    obtain ⟨hz3, h⟩ := nz_e h
    refine WP.idiv d10_25 hz3 ?_
    obtain ⟨x4, ex4, h⟩ := lt_e h
    refine WP.istore (L' := [.val (.ref 0), .unset, .val (.int v2), .val (.int v3), .val (.int v4), .val (.int x2), .val (.int x4), .unset, .unset, .unset, .unset, .unset, .unset, .unset, .unset]) d10_26 (leb rfl) (by subst ex4; rfl) ?_
    refine WP.iconst (0 : Int32) d10_28 rfl ?_
    refine WP.istore (L' := [.val (.ref 0), .unset, .val (.int v2), .val (.int v3), .val (.int v4), .val (.int x2), .val (.int x4), .val (.int (0 : Int32)), .unset, .unset, .unset, .unset, .unset, .unset, .unset]) d10_29 (leb rfl) rfl ?_
    exact WP.weak (L' := [.val (.ref 0), .unset, .val (.int v2), .val (.int v3), .val (.int v4), .val (.int x2), .val (.int x4), .val (.int (0 : Int32)), .unset, .unset, .unset, .unset, .unset, .unset, .unset]) ⟨rfl, rfl, rfl, rfl, rfl, rfl, rfl, trivial⟩ (ok10_31 l Z a0 hw n0 _ hk8 n v2 v3 v4 x2 x4 (0 : Int32) s _ h)
def f_butterflies_8 : Nat → Int32 → Int32 → Int32 → St → Option (St)
  | 0 => fun _ _ _ _ => none
  | n + 1 => g_butterflies_8 (f_butterflies_8 n) n
theorem ok10_8 (l : Launch) (Z : State) (a0 : Array Value) (hw : HW a0 Z) (n0 : Nat) : ∀ (n : Nat) (v2 : Int32) (v3 : Int32) (v4 : Int32) (s : St) (r : St), f_butterflies_8 n v2 v3 v4 s = some r → W10 l Z n0 (P10 r) 0 0 8 [.val (.ref 0), .unset, .val (.int v2), .val (.int v3), .val (.int v4), .unset, .unset, .unset, .unset, .unset, .unset, .unset, .unset, .unset, .unset] [] (Hb 0 s)
  | 0, v2, v3, v4, s, r, h => nomatch (show none = some r from h)
  | n + 1, v2, v3, v4, s, r, h => okg10_8 l Z a0 hw n0 _ (ok10_8 l Z a0 hw n0 n) n v2 v3 v4 s r h
def f_butterflies (n : Nat) (p1 : Int32) (p2 : Int32) (s : St) : Option (St) :=
  lt (p1 * (16 : Int32)) fun x1 =>
  f_butterflies_8 n p2 x1 (2 : Int32) s
set_option maxRecDepth 65536 in
set_option maxHeartbeats 4000000 in
theorem ok10 (l : Launch) (Z : State) (a0 : Array Value) (hw : HW a0 Z) (n : Nat) (p1 : Int32) (p2 : Int32) (s : St) (r : St) (h : f_butterflies n p1 p2 s = some r) : CS l Z CN lay y10 prog_1_method_35_code 15 (none) R10 0 [.ref 0, .int p1, .int p2] (Hb 0 s) (P10 r) := by
  refine CS.of_wp pn_cls (leb rfl) fun n0 => ?_
  show W10 l Z n0 (P10 r) 0 0 0 [.val (.ref 0), .val (.int p1), .val (.int p2), .unset, .unset, .unset, .unset, .unset, .unset, .unset, .unset, .unset, .unset, .unset, .unset] [] (Hb 0 s)
  unfold f_butterflies at h
  refine WP.iloadN d10_0 rfl ?_
  refine WP.bipush (16 : Int32) d10_1 rfl ?_
  refine WP.imul d10_3 ?_
  obtain ⟨x1, ex1, h⟩ := lt_e h
  refine WP.istoreN (L' := [.val (.ref 0), .val (.int p1), .val (.int p2), .val (.int x1), .unset, .unset, .unset, .unset, .unset, .unset, .unset, .unset, .unset, .unset, .unset]) d10_4 (leb rfl) (by subst ex1; rfl) ?_
  refine WP.iconst (2 : Int32) d10_5 rfl ?_
  refine WP.istore (L' := [.val (.ref 0), .val (.int p1), .val (.int p2), .val (.int x1), .val (.int (2 : Int32)), .unset, .unset, .unset, .unset, .unset, .unset, .unset, .unset, .unset, .unset]) d10_6 (leb rfl) rfl ?_
  exact WP.weak (L' := [.val (.ref 0), .unset, .val (.int p2), .val (.int x1), .val (.int (2 : Int32)), .unset, .unset, .unset, .unset, .unset, .unset, .unset, .unset, .unset, .unset]) ⟨rfl, rfl, rfl, rfl, trivial⟩ (ok10_8 l Z a0 hw n0 n p2 x1 (2 : Int32) s _ h)
theorem d8_0 : dc prog_1_method_32_code 0 (.iload_n 1) 1 := by decide +kernel
theorem d8_1 : dc prog_1_method_32_code 1 (.bipush 16) 2 := by decide +kernel
theorem d8_3 : dc prog_1_method_32_code 3 (.imul) 1 := by decide +kernel
theorem d8_4 : dc prog_1_method_32_code 4 (.istore_n 2) 1 := by decide +kernel
theorem d8_5 : dc prog_1_method_32_code 5 (.iconst 0) 1 := by decide +kernel
theorem d8_6 : dc prog_1_method_32_code 6 (.istore_n 3) 1 := by decide +kernel
theorem d8_7 : dc prog_1_method_32_code 7 (.iload_n 3) 1 := by decide +kernel
theorem d8_8 : dc prog_1_method_32_code 8 (.bipush 16) 2 := by decide +kernel
theorem d8_10 : dc prog_1_method_32_code 10 (.if_icmp .ge 36) 3 := by decide +kernel
theorem d8_13 : dc prog_1_method_32_code 13 (.aload_n 0) 1 := by decide +kernel
theorem d8_14 : dc prog_1_method_32_code 14 (.getfield 7) 3 := by decide +kernel
theorem d8_17 : dc prog_1_method_32_code 17 (.iload_n 2) 1 := by decide +kernel
theorem d8_18 : dc prog_1_method_32_code 18 (.iload_n 3) 1 := by decide +kernel
theorem d8_19 : dc prog_1_method_32_code 19 (.iadd) 1 := by decide +kernel
theorem d8_20 : dc prog_1_method_32_code 20 (.aload_n 0) 1 := by decide +kernel
theorem d8_21 : dc prog_1_method_32_code 21 (.getfield 7) 3 := by decide +kernel
theorem d8_24 : dc prog_1_method_32_code 24 (.iload_n 2) 1 := by decide +kernel
theorem d8_25 : dc prog_1_method_32_code 25 (.iload_n 3) 1 := by decide +kernel
theorem d8_26 : dc prog_1_method_32_code 26 (.iadd) 1 := by decide +kernel
theorem d8_27 : dc prog_1_method_32_code 27 (.iaload) 1 := by decide +kernel
theorem d8_28 : dc prog_1_method_32_code 28 (.aload_n 0) 1 := by decide +kernel
theorem d8_29 : dc prog_1_method_32_code 29 (.getfield 13) 3 := by decide +kernel
theorem d8_32 : dc prog_1_method_32_code 32 (.iload_n 3) 1 := by decide +kernel
theorem d8_33 : dc prog_1_method_32_code 33 (.iaload) 1 := by decide +kernel
theorem d8_34 : dc prog_1_method_32_code 34 (.imul) 1 := by decide +kernel
theorem d8_35 : dc prog_1_method_32_code 35 (.sipush 257) 3 := by decide +kernel
theorem d8_38 : dc prog_1_method_32_code 38 (.irem) 1 := by decide +kernel
theorem d8_39 : dc prog_1_method_32_code 39 (.iastore) 1 := by decide +kernel
theorem d8_40 : dc prog_1_method_32_code 40 (.iinc 3 1) 3 := by decide +kernel
theorem d8_43 : dc prog_1_method_32_code 43 (.goto (-36)) 3 := by decide +kernel
theorem d8_46 : dc prog_1_method_32_code 46 (.aload_n 0) 1 := by decide +kernel
theorem d8_47 : dc prog_1_method_32_code 47 (.iload_n 1) 1 := by decide +kernel
theorem d8_48 : dc prog_1_method_32_code 48 (.invokevirtual 122) 3 := by decide +kernel
theorem d8_51 : dc prog_1_method_32_code 51 (.aload_n 0) 1 := by decide +kernel
theorem d8_52 : dc prog_1_method_32_code 52 (.iload_n 1) 1 := by decide +kernel
theorem d8_53 : dc prog_1_method_32_code 53 (.iconst 0) 1 := by decide +kernel
theorem d8_54 : dc prog_1_method_32_code 54 (.invokevirtual 125) 3 := by decide +kernel
theorem d8_57 : dc prog_1_method_32_code 57 (.return_) 1 := by decide +kernel
abbrev y8 : MethodName := ⟨"RingLweKem", "forward", "(I)V"⟩
theorem hy8 : y8.cls ≠ "java/lang/invoke/MethodHandle" ∧ y8.cls ≠ "java/lang/invoke/VarHandle" := by decide
theorem pd8 : parseMethodDescriptor y8.desc = some ⟨[.int], none⟩ := by decide +kernel
abbrev R8 : Room := { frames := 1, cells := 0, slots := 0, locals := 26 }
abbrev P8 (r : St) : Option Value → List OwnC → Prop := fun v H' => v = none ∧ H' = (Hb 0 r)
abbrev W8 (l : Launch) (Z : State) (n0 : Nat) (Q : Option Value → List OwnC → Prop) (k n pc : Nat) (L : List Slot) (S : List Value) (H : List OwnC) : Prop := WP l Z CN lay "RingLweKem" "forward" prog_1_method_32_code 4 (none) R8 n0 0 Q k n pc L S H
def g_forward_7 (k7 : Int32 → Int32 → Int32 → St → Option (St)) (n : Nat) (v1 : Int32) (v2 : Int32) (v3 : Int32) (s : St) : Option (St) :=
  if v3 < (16 : Int32) then
    (rd (gA s 0) (v2 + v3)).bind fun x2 =>
    (rd (gA s 1) v3).bind fun x3 =>
    (wrA s 0 (v2 + v3) ((x2 * x3) % (257 : Int32))).bind fun s4 =>
    lt (v3 + (1 : Int32)) fun x5 =>
    k7 v1 v2 x5 s4
  else
    (f_bitReverse n v1 s).bind fun c6 =>
    (f_butterflies n v1 (0 : Int32) c6).bind fun c7 =>
    some c7
set_option maxRecDepth 65536 in
set_option maxHeartbeats 4000000 in
theorem okg8_7 (l : Launch) (Z : State) (a0 : Array Value) (hw : HW a0 Z) (n0 : Nat) (k7 : Int32 → Int32 → Int32 → St → Option (St)) (hk7 : ∀ (v1 : Int32) (v2 : Int32) (v3 : Int32) (s : St) (r : St), k7 v1 v2 v3 s = some r → W8 l Z n0 (P8 r) 0 0 7 [.val (.ref 0), .val (.int v1), .val (.int v2), .val (.int v3)] [] (Hb 0 s)) (n : Nat) (v1 : Int32) (v2 : Int32) (v3 : Int32) (s : St) (r : St) (h : g_forward_7 k7 n v1 v2 v3 s = some r) : W8 l Z n0 (P8 r) 0 0 7 [.val (.ref 0), .val (.int v1), .val (.int v2), .val (.int v3)] [] (Hb 0 s) := by
  unfold g_forward_7 at h
  refine WP.iloadN d8_7 rfl ?_
  refine WP.bipush (16 : Int32) d8_8 rfl ?_
  rcases ite_e h with ⟨hc1, h⟩ | ⟨hc1, h⟩
  ·
    refine WP.icmpN d8_10 (XT.ii_ge_f hc1) ?_
    refine WP.aloadN d8_13 rfl ?_
    refine WP.getfield (i := 0) (j := 0) d8_14 (hw _ m_10) rfl rfl rfl ?_
    refine WP.iloadN d8_17 rfl ?_
    refine WP.iloadN d8_18 rfl ?_
    refine WP.iadd d8_19 ?_
    refine WP.aloadN d8_20 rfl ?_
    refine WP.getfield (i := 0) (j := 0) d8_21 (hw _ m_10) rfl rfl rfl ?_
    refine WP.iloadN d8_24 rfl ?_
    refine WP.iloadN d8_25 rfl ?_
    refine WP.iadd d8_26 ?_
    obtain ⟨x2, hx2, h⟩ := Option.bind_eq_some_iff.mp h
    refine WP.iaload (i := 1) d8_27 rfl hx2 ?_
    refine WP.aloadN d8_28 rfl ?_
    refine WP.getfield (i := 0) (j := 1) d8_29 (hw _ m_12) rfl rfl rfl ?_
    refine WP.iloadN d8_32 rfl ?_
    obtain ⟨x3, hx3, h⟩ := Option.bind_eq_some_iff.mp h
    refine WP.iaload (i := 2) d8_33 rfl hx3 ?_
    refine WP.imul d8_34 ?_
    refine WP.sipush (257 : Int32) d8_35 rfl ?_
    refine WP.irem d8_38 (by decide) ?_
    obtain ⟨s4, hs4, h⟩ := Option.bind_eq_some_iff.mp h
    obtain ⟨ys4, gs4, es4⟩ := wrA_e hs4
    refine WP.iastore (i := 1) (xs := gA s 0) (H' := (Hb 0 s4)) d8_39 rfl (leb rfl) gs4 (by subst es4; rfl) ?_
    obtain ⟨x5, ex5, h⟩ := lt_e h
    refine WP.iinc (L' := [.val (.ref 0), .val (.int v1), .val (.int v2), .val (.int x5)]) (1 : Int32) d8_40 rfl rfl (by subst ex5; rfl) ?_
    refine WP.goto (pc' := 7) d8_43 (by decide) rfl ?_
    exact WP.weak (L' := [.val (.ref 0), .val (.int v1), .val (.int v2), .val (.int x5)]) ⟨rfl, rfl, rfl, rfl, trivial⟩ (hk7 v1 v2 x5 s4 _ h)
  ·
    refine WP.icmpY (pc' := 46) d8_10 (XT.ii_ge_t hc1) (by decide) rfl ?_
    refine WP.aloadN d8_46 rfl ?_
    refine WP.iloadN d8_47 rfl ?_
    obtain ⟨c6, hc6, h⟩ := Option.bind_eq_some_iff.mp h
    refine WP.callP (i := 0) (y := y9) (as := [.int v1]) (S := []) d8_48 (hw _ m_76) (hw _ m_78) (hw _ m_1) (hw _ m_77) (hw _ m_79) (hw _ m_2) hy9 rfl (ok9 l Z a0 hw n v1 s _ hc6) rfl (lenOf pd9 rfl) (leb rfl) (leb rfl) (leb rfl) (leb rfl) ?_
    rintro _ _ ⟨rfl, rfl⟩
    show W8 l Z n0 (P8 r) 0 0 51 [.val (.ref 0), .val (.int v1), .val (.int v2), .val (.int v3)] [] (Hb 0 c6)
    refine WP.aloadN d8_51 rfl ?_
    refine WP.iloadN d8_52 rfl ?_
    refine WP.iconst (0 : Int32) d8_53 rfl ?_
    obtain ⟨c7, hc7, h⟩ := Option.bind_eq_some_iff.mp h
    refine WP.callP (i := 0) (y := y10) (as := [.int v1, .int (0 : Int32)]) (S := []) d8_54 (hw _ m_80) (hw _ m_82) (hw _ m_1) (hw _ m_81) (hw _ m_83) (hw _ m_2) hy10 rfl (ok10 l Z a0 hw n v1 (0 : Int32) c6 _ hc7) rfl (lenOf pd10 rfl) (leb rfl) (leb rfl) (leb rfl) (leb rfl) ?_
    rintro _ _ ⟨rfl, rfl⟩
    show W8 l Z n0 (P8 r) 0 0 57 [.val (.ref 0), .val (.int v1), .val (.int v2), .val (.int v3)] [] (Hb 0 c7)
    cases h
    exact WP.vreturn d8_57 rfl (leb rfl) (leb rfl) ⟨rfl, rfl⟩
def f_forward_7 : Nat → Int32 → Int32 → Int32 → St → Option (St)
  | 0 => fun _ _ _ _ => none
  | n + 1 => g_forward_7 (f_forward_7 n) n
theorem ok8_7 (l : Launch) (Z : State) (a0 : Array Value) (hw : HW a0 Z) (n0 : Nat) : ∀ (n : Nat) (v1 : Int32) (v2 : Int32) (v3 : Int32) (s : St) (r : St), f_forward_7 n v1 v2 v3 s = some r → W8 l Z n0 (P8 r) 0 0 7 [.val (.ref 0), .val (.int v1), .val (.int v2), .val (.int v3)] [] (Hb 0 s)
  | 0, v1, v2, v3, s, r, h => nomatch (show none = some r from h)
  | n + 1, v1, v2, v3, s, r, h => okg8_7 l Z a0 hw n0 _ (ok8_7 l Z a0 hw n0 n) n v1 v2 v3 s r h
def f_forward (n : Nat) (p1 : Int32) (s : St) : Option (St) :=
  lt (p1 * (16 : Int32)) fun x1 =>
  f_forward_7 n p1 x1 (0 : Int32) s
set_option maxRecDepth 65536 in
set_option maxHeartbeats 4000000 in
theorem ok8 (l : Launch) (Z : State) (a0 : Array Value) (hw : HW a0 Z) (n : Nat) (p1 : Int32) (s : St) (r : St) (h : f_forward n p1 s = some r) : CS l Z CN lay y8 prog_1_method_32_code 4 (none) R8 0 [.ref 0, .int p1] (Hb 0 s) (P8 r) := by
  refine CS.of_wp pn_cls (leb rfl) fun n0 => ?_
  show W8 l Z n0 (P8 r) 0 0 0 [.val (.ref 0), .val (.int p1), .unset, .unset] [] (Hb 0 s)
  unfold f_forward at h
  refine WP.iloadN d8_0 rfl ?_
  refine WP.bipush (16 : Int32) d8_1 rfl ?_
  refine WP.imul d8_3 ?_
  obtain ⟨x1, ex1, h⟩ := lt_e h
  refine WP.istoreN (L' := [.val (.ref 0), .val (.int p1), .val (.int x1), .unset]) d8_4 (leb rfl) (by subst ex1; rfl) ?_
  refine WP.iconst (0 : Int32) d8_5 rfl ?_
  refine WP.istoreN (L' := [.val (.ref 0), .val (.int p1), .val (.int x1), .val (.int (0 : Int32))]) d8_6 (leb rfl) rfl ?_
  exact WP.weak (L' := [.val (.ref 0), .val (.int p1), .val (.int x1), .val (.int (0 : Int32))]) ⟨rfl, rfl, rfl, rfl, trivial⟩ (ok8_7 l Z a0 hw n0 n p1 x1 (0 : Int32) s _ h)
theorem d11_0 : dc prog_1_method_33_code 0 (.iload_n 1) 1 := by decide +kernel
theorem d11_1 : dc prog_1_method_33_code 1 (.bipush 16) 2 := by decide +kernel
theorem d11_3 : dc prog_1_method_33_code 3 (.imul) 1 := by decide +kernel
theorem d11_4 : dc prog_1_method_33_code 4 (.istore_n 2) 1 := by decide +kernel
theorem d11_5 : dc prog_1_method_33_code 5 (.aload_n 0) 1 := by decide +kernel
theorem d11_6 : dc prog_1_method_33_code 6 (.iload_n 1) 1 := by decide +kernel
theorem d11_7 : dc prog_1_method_33_code 7 (.invokevirtual 122) 3 := by decide +kernel
theorem d11_10 : dc prog_1_method_33_code 10 (.aload_n 0) 1 := by decide +kernel
theorem d11_11 : dc prog_1_method_33_code 11 (.iload_n 1) 1 := by decide +kernel
theorem d11_12 : dc prog_1_method_33_code 12 (.iconst 1) 1 := by decide +kernel
theorem d11_13 : dc prog_1_method_33_code 13 (.invokevirtual 125) 3 := by decide +kernel
theorem d11_16 : dc prog_1_method_33_code 16 (.iconst 0) 1 := by decide +kernel
theorem d11_17 : dc prog_1_method_33_code 17 (.istore_n 3) 1 := by decide +kernel
theorem d11_18 : dc prog_1_method_33_code 18 (.iload_n 3) 1 := by decide +kernel
theorem d11_19 : dc prog_1_method_33_code 19 (.bipush 16) 2 := by decide +kernel
theorem d11_21 : dc prog_1_method_33_code 21 (.if_icmp .ge 54) 3 := by decide +kernel
theorem d11_24 : dc prog_1_method_33_code 24 (.aload_n 0) 1 := by decide +kernel
theorem d11_25 : dc prog_1_method_33_code 25 (.getfield 7) 3 := by decide +kernel
theorem d11_28 : dc prog_1_method_33_code 28 (.iload_n 2) 1 := by decide +kernel
theorem d11_29 : dc prog_1_method_33_code 29 (.iload_n 3) 1 := by decide +kernel
theorem d11_30 : dc prog_1_method_33_code 30 (.iadd) 1 := by decide +kernel
theorem d11_31 : dc prog_1_method_33_code 31 (.iaload) 1 := by decide +kernel
theorem d11_32 : dc prog_1_method_33_code 32 (.aload_n 0) 1 := by decide +kernel
theorem d11_33 : dc prog_1_method_33_code 33 (.getfield 13) 3 := by decide +kernel
theorem d11_36 : dc prog_1_method_33_code 36 (.bipush 32) 2 := by decide +kernel
theorem d11_38 : dc prog_1_method_33_code 38 (.iload_n 3) 1 := by decide +kernel
theorem d11_39 : dc prog_1_method_33_code 39 (.isub) 1 := by decide +kernel
theorem d11_40 : dc prog_1_method_33_code 40 (.bipush 31) 2 := by decide +kernel
theorem d11_42 : dc prog_1_method_33_code 42 (.iand) 1 := by decide +kernel
theorem d11_43 : dc prog_1_method_33_code 43 (.iaload) 1 := by decide +kernel
theorem d11_44 : dc prog_1_method_33_code 44 (.imul) 1 := by decide +kernel
theorem d11_45 : dc prog_1_method_33_code 45 (.sipush 257) 3 := by decide +kernel
theorem d11_48 : dc prog_1_method_33_code 48 (.irem) 1 := by decide +kernel
theorem d11_49 : dc prog_1_method_33_code 49 (.istore 4) 2 := by decide +kernel
theorem d11_51 : dc prog_1_method_33_code 51 (.aload_n 0) 1 := by decide +kernel
theorem d11_52 : dc prog_1_method_33_code 52 (.getfield 7) 3 := by decide +kernel
theorem d11_55 : dc prog_1_method_33_code 55 (.iload_n 2) 1 := by decide +kernel
theorem d11_56 : dc prog_1_method_33_code 56 (.iload_n 3) 1 := by decide +kernel
theorem d11_57 : dc prog_1_method_33_code 57 (.iadd) 1 := by decide +kernel
theorem d11_58 : dc prog_1_method_33_code 58 (.iload 4) 2 := by decide +kernel
theorem d11_60 : dc prog_1_method_33_code 60 (.sipush 241) 3 := by decide +kernel
theorem d11_63 : dc prog_1_method_33_code 63 (.imul) 1 := by decide +kernel
theorem d11_64 : dc prog_1_method_33_code 64 (.sipush 257) 3 := by decide +kernel
theorem d11_67 : dc prog_1_method_33_code 67 (.irem) 1 := by decide +kernel
theorem d11_68 : dc prog_1_method_33_code 68 (.iastore) 1 := by decide +kernel
theorem d11_69 : dc prog_1_method_33_code 69 (.iinc 3 1) 3 := by decide +kernel
theorem d11_72 : dc prog_1_method_33_code 72 (.goto (-54)) 3 := by decide +kernel
theorem d11_75 : dc prog_1_method_33_code 75 (.return_) 1 := by decide +kernel
abbrev y11 : MethodName := ⟨"RingLweKem", "inverse", "(I)V"⟩
theorem hy11 : y11.cls ≠ "java/lang/invoke/MethodHandle" ∧ y11.cls ≠ "java/lang/invoke/VarHandle" := by decide
theorem pd11 : parseMethodDescriptor y11.desc = some ⟨[.int], none⟩ := by decide +kernel
abbrev R11 : Room := { frames := 1, cells := 0, slots := 0, locals := 26 }
abbrev P11 (r : St) : Option Value → List OwnC → Prop := fun v H' => v = none ∧ H' = (Hb 0 r)
abbrev W11 (l : Launch) (Z : State) (n0 : Nat) (Q : Option Value → List OwnC → Prop) (k n pc : Nat) (L : List Slot) (S : List Value) (H : List OwnC) : Prop := WP l Z CN lay "RingLweKem" "inverse" prog_1_method_33_code 5 (none) R11 n0 0 Q k n pc L S H
def g_inverse_18 (k18 : Int32 → Int32 → St → Option (St)) (n : Nat) (v2 : Int32) (v3 : Int32) (s : St) : Option (St) :=
  if v3 < (16 : Int32) then
    (rd (gA s 0) (v2 + v3)).bind fun x2 =>
    (rd (gA s 1) (((32 : Int32) - v3) &&& (31 : Int32))).bind fun x3 =>
    lt ((x2 * x3) % (257 : Int32)) fun x4 =>
    (wrA s 0 (v2 + v3) ((x4 * (241 : Int32)) % (257 : Int32))).bind fun s5 =>
    lt (v3 + (1 : Int32)) fun x6 =>
    k18 v2 x6 s5
  else
    some s
set_option maxRecDepth 65536 in
set_option maxHeartbeats 4000000 in
theorem okg11_18 (l : Launch) (Z : State) (a0 : Array Value) (hw : HW a0 Z) (n0 : Nat) (k18 : Int32 → Int32 → St → Option (St)) (hk18 : ∀ (v2 : Int32) (v3 : Int32) (s : St) (r : St), k18 v2 v3 s = some r → W11 l Z n0 (P11 r) 0 0 18 [.val (.ref 0), .unset, .val (.int v2), .val (.int v3), .unset] [] (Hb 0 s)) (n : Nat) (v2 : Int32) (v3 : Int32) (s : St) (r : St) (h : g_inverse_18 k18 n v2 v3 s = some r) : W11 l Z n0 (P11 r) 0 0 18 [.val (.ref 0), .unset, .val (.int v2), .val (.int v3), .unset] [] (Hb 0 s) := by
  unfold g_inverse_18 at h
  refine WP.iloadN d11_18 rfl ?_
  refine WP.bipush (16 : Int32) d11_19 rfl ?_
  rcases ite_e h with ⟨hc1, h⟩ | ⟨hc1, h⟩
  ·
    refine WP.icmpN d11_21 (XT.ii_ge_f hc1) ?_
    refine WP.aloadN d11_24 rfl ?_
    refine WP.getfield (i := 0) (j := 0) d11_25 (hw _ m_10) rfl rfl rfl ?_
    refine WP.iloadN d11_28 rfl ?_
    refine WP.iloadN d11_29 rfl ?_
    refine WP.iadd d11_30 ?_
    obtain ⟨x2, hx2, h⟩ := Option.bind_eq_some_iff.mp h
    refine WP.iaload (i := 1) d11_31 rfl hx2 ?_
    refine WP.aloadN d11_32 rfl ?_
    refine WP.getfield (i := 0) (j := 1) d11_33 (hw _ m_12) rfl rfl rfl ?_
    refine WP.bipush (32 : Int32) d11_36 rfl ?_
    refine WP.iloadN d11_38 rfl ?_
    refine WP.isub d11_39 ?_
    refine WP.bipush (31 : Int32) d11_40 rfl ?_
    refine WP.iand d11_42 ?_
    obtain ⟨x3, hx3, h⟩ := Option.bind_eq_some_iff.mp h
    refine WP.iaload (i := 2) d11_43 rfl hx3 ?_
    refine WP.imul d11_44 ?_
    refine WP.sipush (257 : Int32) d11_45 rfl ?_
    refine WP.irem d11_48 (by decide) ?_
    obtain ⟨x4, ex4, h⟩ := lt_e h
    refine WP.istore (L' := [.val (.ref 0), .unset, .val (.int v2), .val (.int v3), .val (.int x4)]) d11_49 (leb rfl) (by subst ex4; rfl) ?_
    refine WP.aloadN d11_51 rfl ?_
    refine WP.getfield (i := 0) (j := 0) d11_52 (hw _ m_10) rfl rfl rfl ?_
    refine WP.iloadN d11_55 rfl ?_
    refine WP.iloadN d11_56 rfl ?_
    refine WP.iadd d11_57 ?_
    refine WP.iload d11_58 rfl ?_
    refine WP.sipush (241 : Int32) d11_60 rfl ?_
    refine WP.imul d11_63 ?_
    refine WP.sipush (257 : Int32) d11_64 rfl ?_
    refine WP.irem d11_67 (by decide) ?_
    obtain ⟨s5, hs5, h⟩ := Option.bind_eq_some_iff.mp h
    obtain ⟨ys5, gs5, es5⟩ := wrA_e hs5
    refine WP.iastore (i := 1) (xs := gA s 0) (H' := (Hb 0 s5)) d11_68 rfl (leb rfl) gs5 (by subst es5; rfl) ?_
    obtain ⟨x6, ex6, h⟩ := lt_e h
    refine WP.iinc (L' := [.val (.ref 0), .unset, .val (.int v2), .val (.int x6), .val (.int x4)]) (1 : Int32) d11_69 rfl rfl (by subst ex6; rfl) ?_
    refine WP.goto (pc' := 18) d11_72 (by decide) rfl ?_
    exact WP.weak (L' := [.val (.ref 0), .unset, .val (.int v2), .val (.int x6), .unset]) ⟨rfl, rfl, rfl, trivial⟩ (hk18 v2 x6 s5 _ h)
  ·
    refine WP.icmpY (pc' := 75) d11_21 (XT.ii_ge_t hc1) (by decide) rfl ?_
    cases h
    exact WP.vreturn d11_75 rfl (leb rfl) (leb rfl) ⟨rfl, rfl⟩
def f_inverse_18 : Nat → Int32 → Int32 → St → Option (St)
  | 0 => fun _ _ _ => none
  | n + 1 => g_inverse_18 (f_inverse_18 n) n
theorem ok11_18 (l : Launch) (Z : State) (a0 : Array Value) (hw : HW a0 Z) (n0 : Nat) : ∀ (n : Nat) (v2 : Int32) (v3 : Int32) (s : St) (r : St), f_inverse_18 n v2 v3 s = some r → W11 l Z n0 (P11 r) 0 0 18 [.val (.ref 0), .unset, .val (.int v2), .val (.int v3), .unset] [] (Hb 0 s)
  | 0, v2, v3, s, r, h => nomatch (show none = some r from h)
  | n + 1, v2, v3, s, r, h => okg11_18 l Z a0 hw n0 _ (ok11_18 l Z a0 hw n0 n) n v2 v3 s r h
def f_inverse (n : Nat) (p1 : Int32) (s : St) : Option (St) :=
  lt (p1 * (16 : Int32)) fun x1 =>
  (f_bitReverse n p1 s).bind fun c2 =>
  (f_butterflies n p1 (1 : Int32) c2).bind fun c3 =>
  f_inverse_18 n x1 (0 : Int32) c3
set_option maxRecDepth 65536 in
set_option maxHeartbeats 4000000 in
theorem ok11 (l : Launch) (Z : State) (a0 : Array Value) (hw : HW a0 Z) (n : Nat) (p1 : Int32) (s : St) (r : St) (h : f_inverse n p1 s = some r) : CS l Z CN lay y11 prog_1_method_33_code 5 (none) R11 0 [.ref 0, .int p1] (Hb 0 s) (P11 r) := by
  refine CS.of_wp pn_cls (leb rfl) fun n0 => ?_
  show W11 l Z n0 (P11 r) 0 0 0 [.val (.ref 0), .val (.int p1), .unset, .unset, .unset] [] (Hb 0 s)
  unfold f_inverse at h
  refine WP.iloadN d11_0 rfl ?_
  refine WP.bipush (16 : Int32) d11_1 rfl ?_
  refine WP.imul d11_3 ?_
  obtain ⟨x1, ex1, h⟩ := lt_e h
  refine WP.istoreN (L' := [.val (.ref 0), .val (.int p1), .val (.int x1), .unset, .unset]) d11_4 (leb rfl) (by subst ex1; rfl) ?_
  refine WP.aloadN d11_5 rfl ?_
  refine WP.iloadN d11_6 rfl ?_
  obtain ⟨c2, hc2, h⟩ := Option.bind_eq_some_iff.mp h
  refine WP.callP (i := 0) (y := y9) (as := [.int p1]) (S := []) d11_7 (hw _ m_76) (hw _ m_78) (hw _ m_1) (hw _ m_77) (hw _ m_79) (hw _ m_2) hy9 rfl (ok9 l Z a0 hw n p1 s _ hc2) rfl (lenOf pd9 rfl) (leb rfl) (leb rfl) (leb rfl) (leb rfl) ?_
  rintro _ _ ⟨rfl, rfl⟩
  show W11 l Z n0 (P11 r) 0 0 10 [.val (.ref 0), .val (.int p1), .val (.int x1), .unset, .unset] [] (Hb 0 c2)
  refine WP.aloadN d11_10 rfl ?_
  refine WP.iloadN d11_11 rfl ?_
  refine WP.iconst (1 : Int32) d11_12 rfl ?_
  obtain ⟨c3, hc3, h⟩ := Option.bind_eq_some_iff.mp h
  refine WP.callP (i := 0) (y := y10) (as := [.int p1, .int (1 : Int32)]) (S := []) d11_13 (hw _ m_80) (hw _ m_82) (hw _ m_1) (hw _ m_81) (hw _ m_83) (hw _ m_2) hy10 rfl (ok10 l Z a0 hw n p1 (1 : Int32) c2 _ hc3) rfl (lenOf pd10 rfl) (leb rfl) (leb rfl) (leb rfl) (leb rfl) ?_
  rintro _ _ ⟨rfl, rfl⟩
  show W11 l Z n0 (P11 r) 0 0 16 [.val (.ref 0), .val (.int p1), .val (.int x1), .unset, .unset] [] (Hb 0 c3)
  refine WP.iconst (0 : Int32) d11_16 rfl ?_
  refine WP.istoreN (L' := [.val (.ref 0), .val (.int p1), .val (.int x1), .val (.int (0 : Int32)), .unset]) d11_17 (leb rfl) rfl ?_
  exact WP.weak (L' := [.val (.ref 0), .unset, .val (.int x1), .val (.int (0 : Int32)), .unset]) ⟨rfl, rfl, rfl, trivial⟩ (ok11_18 l Z a0 hw n0 n x1 (0 : Int32) c3 _ h)
theorem d6_0 : dc prog_1_method_31_code 0 (.aload_n 0) 1 := by decide +kernel
theorem d6_1 : dc prog_1_method_31_code 1 (.iload_n 1) 1 := by decide +kernel
theorem d6_2 : dc prog_1_method_31_code 2 (.bipush 15) 2 := by decide +kernel
theorem d6_4 : dc prog_1_method_31_code 4 (.invokevirtual 113) 3 := by decide +kernel
theorem d6_7 : dc prog_1_method_31_code 7 (.aload_n 0) 1 := by decide +kernel
theorem d6_8 : dc prog_1_method_31_code 8 (.iload_n 2) 1 := by decide +kernel
theorem d6_9 : dc prog_1_method_31_code 9 (.bipush 16) 2 := by decide +kernel
theorem d6_11 : dc prog_1_method_31_code 11 (.invokevirtual 113) 3 := by decide +kernel
theorem d6_14 : dc prog_1_method_31_code 14 (.aload_n 0) 1 := by decide +kernel
theorem d6_15 : dc prog_1_method_31_code 15 (.bipush 15) 2 := by decide +kernel
theorem d6_17 : dc prog_1_method_31_code 17 (.invokevirtual 116) 3 := by decide +kernel
theorem d6_20 : dc prog_1_method_31_code 20 (.aload_n 0) 1 := by decide +kernel
theorem d6_21 : dc prog_1_method_31_code 21 (.bipush 16) 2 := by decide +kernel
theorem d6_23 : dc prog_1_method_31_code 23 (.invokevirtual 116) 3 := by decide +kernel
theorem d6_26 : dc prog_1_method_31_code 26 (.sipush 240) 3 := by decide +kernel
theorem d6_29 : dc prog_1_method_31_code 29 (.istore 4) 2 := by decide +kernel
theorem d6_31 : dc prog_1_method_31_code 31 (.sipush 256) 3 := by decide +kernel
theorem d6_34 : dc prog_1_method_31_code 34 (.istore 5) 2 := by decide +kernel
theorem d6_36 : dc prog_1_method_31_code 36 (.iconst 0) 1 := by decide +kernel
theorem d6_37 : dc prog_1_method_31_code 37 (.istore 6) 2 := by decide +kernel
theorem d6_39 : dc prog_1_method_31_code 39 (.iload 6) 2 := by decide +kernel
theorem d6_41 : dc prog_1_method_31_code 41 (.bipush 16) 2 := by decide +kernel
theorem d6_43 : dc prog_1_method_31_code 43 (.if_icmp .ge 44) 3 := by decide +kernel
theorem d6_46 : dc prog_1_method_31_code 46 (.aload_n 0) 1 := by decide +kernel
theorem d6_47 : dc prog_1_method_31_code 47 (.getfield 7) 3 := by decide +kernel
theorem d6_50 : dc prog_1_method_31_code 50 (.iload 4) 2 := by decide +kernel
theorem d6_52 : dc prog_1_method_31_code 52 (.iload 6) 2 := by decide +kernel
theorem d6_54 : dc prog_1_method_31_code 54 (.iadd) 1 := by decide +kernel
theorem d6_55 : dc prog_1_method_31_code 55 (.aload_n 0) 1 := by decide +kernel
theorem d6_56 : dc prog_1_method_31_code 56 (.getfield 7) 3 := by decide +kernel
theorem d6_59 : dc prog_1_method_31_code 59 (.iload 4) 2 := by decide +kernel
theorem d6_61 : dc prog_1_method_31_code 61 (.iload 6) 2 := by decide +kernel
theorem d6_63 : dc prog_1_method_31_code 63 (.iadd) 1 := by decide +kernel
theorem d6_64 : dc prog_1_method_31_code 64 (.iaload) 1 := by decide +kernel
theorem d6_65 : dc prog_1_method_31_code 65 (.aload_n 0) 1 := by decide +kernel
theorem d6_66 : dc prog_1_method_31_code 66 (.getfield 7) 3 := by decide +kernel
theorem d6_69 : dc prog_1_method_31_code 69 (.iload 5) 2 := by decide +kernel
theorem d6_71 : dc prog_1_method_31_code 71 (.iload 6) 2 := by decide +kernel
theorem d6_73 : dc prog_1_method_31_code 73 (.iadd) 1 := by decide +kernel
theorem d6_74 : dc prog_1_method_31_code 74 (.iaload) 1 := by decide +kernel
theorem d6_75 : dc prog_1_method_31_code 75 (.imul) 1 := by decide +kernel
theorem d6_76 : dc prog_1_method_31_code 76 (.sipush 257) 3 := by decide +kernel
theorem d6_79 : dc prog_1_method_31_code 79 (.irem) 1 := by decide +kernel
theorem d6_80 : dc prog_1_method_31_code 80 (.iastore) 1 := by decide +kernel
theorem d6_81 : dc prog_1_method_31_code 81 (.iinc 6 1) 3 := by decide +kernel
theorem d6_84 : dc prog_1_method_31_code 84 (.goto (-45)) 3 := by decide +kernel
theorem d6_87 : dc prog_1_method_31_code 87 (.aload_n 0) 1 := by decide +kernel
theorem d6_88 : dc prog_1_method_31_code 88 (.bipush 15) 2 := by decide +kernel
theorem d6_90 : dc prog_1_method_31_code 90 (.invokevirtual 119) 3 := by decide +kernel
theorem d6_93 : dc prog_1_method_31_code 93 (.aload_n 0) 1 := by decide +kernel
theorem d6_94 : dc prog_1_method_31_code 94 (.bipush 15) 2 := by decide +kernel
theorem d6_96 : dc prog_1_method_31_code 96 (.iload_n 3) 1 := by decide +kernel
theorem d6_97 : dc prog_1_method_31_code 97 (.invokevirtual 113) 3 := by decide +kernel
theorem d6_100 : dc prog_1_method_31_code 100 (.return_) 1 := by decide +kernel
abbrev y6 : MethodName := ⟨"RingLweKem", "mul", "(III)V"⟩
theorem hy6 : y6.cls ≠ "java/lang/invoke/MethodHandle" ∧ y6.cls ≠ "java/lang/invoke/VarHandle" := by decide
theorem pd6 : parseMethodDescriptor y6.desc = some ⟨[.int, .int, .int], none⟩ := by decide +kernel
abbrev R6 : Room := { frames := 2, cells := 0, slots := 0, locals := 42 }
abbrev P6 (r : St) : Option Value → List OwnC → Prop := fun v H' => v = none ∧ H' = (Hb 0 r)
abbrev W6 (l : Launch) (Z : State) (n0 : Nat) (Q : Option Value → List OwnC → Prop) (k n pc : Nat) (L : List Slot) (S : List Value) (H : List OwnC) : Prop := WP l Z CN lay "RingLweKem" "mul" prog_1_method_31_code 7 (none) R6 n0 0 Q k n pc L S H
def g_mul_39 (k39 : Int32 → Int32 → Int32 → Int32 → St → Option (St)) (n : Nat) (v3 : Int32) (v4 : Int32) (v5 : Int32) (v6 : Int32) (s : St) : Option (St) :=
  if v6 < (16 : Int32) then
    (rd (gA s 0) (v4 + v6)).bind fun x2 =>
    (rd (gA s 0) (v5 + v6)).bind fun x3 =>
    (wrA s 0 (v4 + v6) ((x2 * x3) % (257 : Int32))).bind fun s4 =>
    lt (v6 + (1 : Int32)) fun x5 =>
    k39 v3 v4 v5 x5 s4
  else
    (f_inverse n (15 : Int32) s).bind fun c6 =>
    (f_copy n (15 : Int32) v3 c6).bind fun c7 =>
    some c7
set_option maxRecDepth 65536 in
set_option maxHeartbeats 4000000 in
theorem okg6_39 (l : Launch) (Z : State) (a0 : Array Value) (hw : HW a0 Z) (n0 : Nat) (k39 : Int32 → Int32 → Int32 → Int32 → St → Option (St)) (hk39 : ∀ (v3 : Int32) (v4 : Int32) (v5 : Int32) (v6 : Int32) (s : St) (r : St), k39 v3 v4 v5 v6 s = some r → W6 l Z n0 (P6 r) 0 0 39 [.val (.ref 0), .unset, .unset, .val (.int v3), .val (.int v4), .val (.int v5), .val (.int v6)] [] (Hb 0 s)) (n : Nat) (v3 : Int32) (v4 : Int32) (v5 : Int32) (v6 : Int32) (s : St) (r : St) (h : g_mul_39 k39 n v3 v4 v5 v6 s = some r) : W6 l Z n0 (P6 r) 0 0 39 [.val (.ref 0), .unset, .unset, .val (.int v3), .val (.int v4), .val (.int v5), .val (.int v6)] [] (Hb 0 s) := by
  unfold g_mul_39 at h
  refine WP.iload d6_39 rfl ?_
  refine WP.bipush (16 : Int32) d6_41 rfl ?_
  rcases ite_e h with ⟨hc1, h⟩ | ⟨hc1, h⟩
  ·
    refine WP.icmpN d6_43 (XT.ii_ge_f hc1) ?_
    refine WP.aloadN d6_46 rfl ?_
    refine WP.getfield (i := 0) (j := 0) d6_47 (hw _ m_10) rfl rfl rfl ?_
    refine WP.iload d6_50 rfl ?_
    refine WP.iload d6_52 rfl ?_
    refine WP.iadd d6_54 ?_
    refine WP.aloadN d6_55 rfl ?_
    refine WP.getfield (i := 0) (j := 0) d6_56 (hw _ m_10) rfl rfl rfl ?_
    refine WP.iload d6_59 rfl ?_
    refine WP.iload d6_61 rfl ?_
    refine WP.iadd d6_63 ?_
    obtain ⟨x2, hx2, h⟩ := Option.bind_eq_some_iff.mp h
    refine WP.iaload (i := 1) d6_64 rfl hx2 ?_
    refine WP.aloadN d6_65 rfl ?_
    refine WP.getfield (i := 0) (j := 0) d6_66 (hw _ m_10) rfl rfl rfl ?_
    refine WP.iload d6_69 rfl ?_
    refine WP.iload d6_71 rfl ?_
    refine WP.iadd d6_73 ?_
    obtain ⟨x3, hx3, h⟩ := Option.bind_eq_some_iff.mp h
    refine WP.iaload (i := 1) d6_74 rfl hx3 ?_
    refine WP.imul d6_75 ?_
    refine WP.sipush (257 : Int32) d6_76 rfl ?_
    refine WP.irem d6_79 (by decide) ?_
    obtain ⟨s4, hs4, h⟩ := Option.bind_eq_some_iff.mp h
    obtain ⟨ys4, gs4, es4⟩ := wrA_e hs4
    refine WP.iastore (i := 1) (xs := gA s 0) (H' := (Hb 0 s4)) d6_80 rfl (leb rfl) gs4 (by subst es4; rfl) ?_
    obtain ⟨x5, ex5, h⟩ := lt_e h
    refine WP.iinc (L' := [.val (.ref 0), .unset, .unset, .val (.int v3), .val (.int v4), .val (.int v5), .val (.int x5)]) (1 : Int32) d6_81 rfl rfl (by subst ex5; rfl) ?_
    refine WP.goto (pc' := 39) d6_84 (by decide) rfl ?_
    exact WP.weak (L' := [.val (.ref 0), .unset, .unset, .val (.int v3), .val (.int v4), .val (.int v5), .val (.int x5)]) ⟨rfl, rfl, rfl, rfl, rfl, trivial⟩ (hk39 v3 v4 v5 x5 s4 _ h)
  ·
    refine WP.icmpY (pc' := 87) d6_43 (XT.ii_ge_t hc1) (by decide) rfl ?_
    refine WP.aloadN d6_87 rfl ?_
    refine WP.bipush (15 : Int32) d6_88 rfl ?_
    obtain ⟨c6, hc6, h⟩ := Option.bind_eq_some_iff.mp h
    refine WP.callP (i := 0) (y := y11) (as := [.int (15 : Int32)]) (S := []) d6_90 (hw _ m_84) (hw _ m_86) (hw _ m_1) (hw _ m_85) (hw _ m_87) (hw _ m_2) hy11 rfl (ok11 l Z a0 hw n (15 : Int32) s _ hc6) rfl (lenOf pd11 rfl) (leb rfl) (leb rfl) (leb rfl) (leb rfl) ?_
    rintro _ _ ⟨rfl, rfl⟩
    show W6 l Z n0 (P6 r) 0 0 93 [.val (.ref 0), .unset, .unset, .val (.int v3), .val (.int v4), .val (.int v5), .val (.int v6)] [] (Hb 0 c6)
    refine WP.aloadN d6_93 rfl ?_
    refine WP.bipush (15 : Int32) d6_94 rfl ?_
    refine WP.iloadN d6_96 rfl ?_
    obtain ⟨c7, hc7, h⟩ := Option.bind_eq_some_iff.mp h
    refine WP.callP (i := 0) (y := y7) (as := [.int (15 : Int32), .int v3]) (S := []) d6_97 (hw _ m_68) (hw _ m_70) (hw _ m_1) (hw _ m_69) (hw _ m_71) (hw _ m_2) hy7 rfl (ok7 l Z a0 hw n (15 : Int32) v3 c6 _ hc7) rfl (lenOf pd7 rfl) (leb rfl) (leb rfl) (leb rfl) (leb rfl) ?_
    rintro _ _ ⟨rfl, rfl⟩
    show W6 l Z n0 (P6 r) 0 0 100 [.val (.ref 0), .unset, .unset, .val (.int v3), .val (.int v4), .val (.int v5), .val (.int v6)] [] (Hb 0 c7)
    cases h
    exact WP.vreturn d6_100 rfl (leb rfl) (leb rfl) ⟨rfl, rfl⟩
def f_mul_39 : Nat → Int32 → Int32 → Int32 → Int32 → St → Option (St)
  | 0 => fun _ _ _ _ _ => none
  | n + 1 => g_mul_39 (f_mul_39 n) n
theorem ok6_39 (l : Launch) (Z : State) (a0 : Array Value) (hw : HW a0 Z) (n0 : Nat) : ∀ (n : Nat) (v3 : Int32) (v4 : Int32) (v5 : Int32) (v6 : Int32) (s : St) (r : St), f_mul_39 n v3 v4 v5 v6 s = some r → W6 l Z n0 (P6 r) 0 0 39 [.val (.ref 0), .unset, .unset, .val (.int v3), .val (.int v4), .val (.int v5), .val (.int v6)] [] (Hb 0 s)
  | 0, v3, v4, v5, v6, s, r, h => nomatch (show none = some r from h)
  | n + 1, v3, v4, v5, v6, s, r, h => okg6_39 l Z a0 hw n0 _ (ok6_39 l Z a0 hw n0 n) n v3 v4 v5 v6 s r h
def f_mul (n : Nat) (p1 : Int32) (p2 : Int32) (p3 : Int32) (s : St) : Option (St) :=
  (f_copy n p1 (15 : Int32) s).bind fun c1 =>
  (f_copy n p2 (16 : Int32) c1).bind fun c2 =>
  (f_forward n (15 : Int32) c2).bind fun c3 =>
  (f_forward n (16 : Int32) c3).bind fun c4 =>
  f_mul_39 n p3 (240 : Int32) (256 : Int32) (0 : Int32) c4
set_option maxRecDepth 65536 in
set_option maxHeartbeats 4000000 in
theorem ok6 (l : Launch) (Z : State) (a0 : Array Value) (hw : HW a0 Z) (n : Nat) (p1 : Int32) (p2 : Int32) (p3 : Int32) (s : St) (r : St) (h : f_mul n p1 p2 p3 s = some r) : CS l Z CN lay y6 prog_1_method_31_code 7 (none) R6 0 [.ref 0, .int p1, .int p2, .int p3] (Hb 0 s) (P6 r) := by
  refine CS.of_wp pn_cls (leb rfl) fun n0 => ?_
  show W6 l Z n0 (P6 r) 0 0 0 [.val (.ref 0), .val (.int p1), .val (.int p2), .val (.int p3), .unset, .unset, .unset] [] (Hb 0 s)
  unfold f_mul at h
  refine WP.aloadN d6_0 rfl ?_
  refine WP.iloadN d6_1 rfl ?_
  refine WP.bipush (15 : Int32) d6_2 rfl ?_
  obtain ⟨c1, hc1, h⟩ := Option.bind_eq_some_iff.mp h
  refine WP.callP (i := 0) (y := y7) (as := [.int p1, .int (15 : Int32)]) (S := []) d6_4 (hw _ m_68) (hw _ m_70) (hw _ m_1) (hw _ m_69) (hw _ m_71) (hw _ m_2) hy7 rfl (ok7 l Z a0 hw n p1 (15 : Int32) s _ hc1) rfl (lenOf pd7 rfl) (leb rfl) (leb rfl) (leb rfl) (leb rfl) ?_
  rintro _ _ ⟨rfl, rfl⟩
  show W6 l Z n0 (P6 r) 0 0 7 [.val (.ref 0), .val (.int p1), .val (.int p2), .val (.int p3), .unset, .unset, .unset] [] (Hb 0 c1)
  refine WP.aloadN d6_7 rfl ?_
  refine WP.iloadN d6_8 rfl ?_
  refine WP.bipush (16 : Int32) d6_9 rfl ?_
  obtain ⟨c2, hc2, h⟩ := Option.bind_eq_some_iff.mp h
  refine WP.callP (i := 0) (y := y7) (as := [.int p2, .int (16 : Int32)]) (S := []) d6_11 (hw _ m_68) (hw _ m_70) (hw _ m_1) (hw _ m_69) (hw _ m_71) (hw _ m_2) hy7 rfl (ok7 l Z a0 hw n p2 (16 : Int32) c1 _ hc2) rfl (lenOf pd7 rfl) (leb rfl) (leb rfl) (leb rfl) (leb rfl) ?_
  rintro _ _ ⟨rfl, rfl⟩
  show W6 l Z n0 (P6 r) 0 0 14 [.val (.ref 0), .val (.int p1), .val (.int p2), .val (.int p3), .unset, .unset, .unset] [] (Hb 0 c2)
  refine WP.aloadN d6_14 rfl ?_
  refine WP.bipush (15 : Int32) d6_15 rfl ?_
  obtain ⟨c3, hc3, h⟩ := Option.bind_eq_some_iff.mp h
  refine WP.callP (i := 0) (y := y8) (as := [.int (15 : Int32)]) (S := []) d6_17 (hw _ m_72) (hw _ m_74) (hw _ m_1) (hw _ m_73) (hw _ m_75) (hw _ m_2) hy8 rfl (ok8 l Z a0 hw n (15 : Int32) c2 _ hc3) rfl (lenOf pd8 rfl) (leb rfl) (leb rfl) (leb rfl) (leb rfl) ?_
  rintro _ _ ⟨rfl, rfl⟩
  show W6 l Z n0 (P6 r) 0 0 20 [.val (.ref 0), .val (.int p1), .val (.int p2), .val (.int p3), .unset, .unset, .unset] [] (Hb 0 c3)
  refine WP.aloadN d6_20 rfl ?_
  refine WP.bipush (16 : Int32) d6_21 rfl ?_
  obtain ⟨c4, hc4, h⟩ := Option.bind_eq_some_iff.mp h
  refine WP.callP (i := 0) (y := y8) (as := [.int (16 : Int32)]) (S := []) d6_23 (hw _ m_72) (hw _ m_74) (hw _ m_1) (hw _ m_73) (hw _ m_75) (hw _ m_2) hy8 rfl (ok8 l Z a0 hw n (16 : Int32) c3 _ hc4) rfl (lenOf pd8 rfl) (leb rfl) (leb rfl) (leb rfl) (leb rfl) ?_
  rintro _ _ ⟨rfl, rfl⟩
  show W6 l Z n0 (P6 r) 0 0 26 [.val (.ref 0), .val (.int p1), .val (.int p2), .val (.int p3), .unset, .unset, .unset] [] (Hb 0 c4)
  refine WP.sipush (240 : Int32) d6_26 rfl ?_
  refine WP.istore (L' := [.val (.ref 0), .val (.int p1), .val (.int p2), .val (.int p3), .val (.int (240 : Int32)), .unset, .unset]) d6_29 (leb rfl) rfl ?_
  refine WP.sipush (256 : Int32) d6_31 rfl ?_
  refine WP.istore (L' := [.val (.ref 0), .val (.int p1), .val (.int p2), .val (.int p3), .val (.int (240 : Int32)), .val (.int (256 : Int32)), .unset]) d6_34 (leb rfl) rfl ?_
  refine WP.iconst (0 : Int32) d6_36 rfl ?_
  refine WP.istore (L' := [.val (.ref 0), .val (.int p1), .val (.int p2), .val (.int p3), .val (.int (240 : Int32)), .val (.int (256 : Int32)), .val (.int (0 : Int32))]) d6_37 (leb rfl) rfl ?_
  exact WP.weak (L' := [.val (.ref 0), .unset, .unset, .val (.int p3), .val (.int (240 : Int32)), .val (.int (256 : Int32)), .val (.int (0 : Int32))]) ⟨rfl, rfl, rfl, rfl, rfl, trivial⟩ (ok6_39 l Z a0 hw n0 n p3 (240 : Int32) (256 : Int32) (0 : Int32) c4 _ h)
theorem d5_0 : dc prog_1_method_6_code 0 (.aload_n 0) 1 := by decide +kernel
theorem d5_1 : dc prog_1_method_6_code 1 (.iconst 0) 1 := by decide +kernel
theorem d5_2 : dc prog_1_method_6_code 2 (.iconst 1) 1 := by decide +kernel
theorem d5_3 : dc prog_1_method_6_code 3 (.iconst 2) 1 := by decide +kernel
theorem d5_4 : dc prog_1_method_6_code 4 (.invokevirtual 77) 3 := by decide +kernel
theorem d5_7 : dc prog_1_method_6_code 7 (.return_) 1 := by decide +kernel
abbrev y5 : MethodName := ⟨"RingLweKem", "multiply", "()V"⟩
theorem hy5 : y5.cls ≠ "java/lang/invoke/MethodHandle" ∧ y5.cls ≠ "java/lang/invoke/VarHandle" := by decide
theorem pd5 : parseMethodDescriptor y5.desc = some ⟨[], none⟩ := by decide +kernel
abbrev R5 : Room := { frames := 3, cells := 0, slots := 0, locals := 60 }
abbrev P5 (r : St) : Option Value → List OwnC → Prop := fun v H' => v = none ∧ H' = (Hb 0 r)
abbrev W5 (l : Launch) (Z : State) (n0 : Nat) (Q : Option Value → List OwnC → Prop) (k n pc : Nat) (L : List Slot) (S : List Value) (H : List OwnC) : Prop := WP l Z CN lay "RingLweKem" "multiply" prog_1_method_6_code 1 (none) R5 n0 0 Q k n pc L S H
def f_multiply (n : Nat) (s : St) : Option (St) :=
  (f_mul n (0 : Int32) (1 : Int32) (2 : Int32) s).bind fun c1 =>
  some c1
set_option maxRecDepth 65536 in
set_option maxHeartbeats 4000000 in
theorem ok5 (l : Launch) (Z : State) (a0 : Array Value) (hw : HW a0 Z) (n : Nat) (s : St) (r : St) (h : f_multiply n s = some r) : CS l Z CN lay y5 prog_1_method_6_code 1 (none) R5 0 [.ref 0] (Hb 0 s) (P5 r) := by
  refine CS.of_wp pn_cls (leb rfl) fun n0 => ?_
  show W5 l Z n0 (P5 r) 0 0 0 [.val (.ref 0)] [] (Hb 0 s)
  unfold f_multiply at h
  refine WP.aloadN d5_0 rfl ?_
  refine WP.iconst (0 : Int32) d5_1 rfl ?_
  refine WP.iconst (1 : Int32) d5_2 rfl ?_
  refine WP.iconst (2 : Int32) d5_3 rfl ?_
  obtain ⟨c1, hc1, h⟩ := Option.bind_eq_some_iff.mp h
  refine WP.callP (i := 0) (y := y6) (as := [.int (0 : Int32), .int (1 : Int32), .int (2 : Int32)]) (S := []) d5_4 (hw _ m_64) (hw _ m_66) (hw _ m_1) (hw _ m_65) (hw _ m_67) (hw _ m_2) hy6 rfl (ok6 l Z a0 hw n (0 : Int32) (1 : Int32) (2 : Int32) s _ hc1) rfl (lenOf pd6 rfl) (leb rfl) (leb rfl) (leb rfl) (leb rfl) ?_
  rintro _ _ ⟨rfl, rfl⟩
  show W5 l Z n0 (P5 r) 0 0 7 [.val (.ref 0)] [] (Hb 0 c1)
  cases h
  exact WP.vreturn d5_7 rfl (leb rfl) (leb rfl) ⟨rfl, rfl⟩
theorem d12_0 : dc method_2_code 0 (.iload_n 0) 1 := by decide +kernel
theorem d12_1 : dc method_2_code 1 (.sipush 257) 3 := by decide +kernel
theorem d12_4 : dc method_2_code 4 (.irem) 1 := by decide +kernel
theorem d12_5 : dc method_2_code 5 (.sipush 257) 3 := by decide +kernel
theorem d12_8 : dc method_2_code 8 (.iadd) 1 := by decide +kernel
theorem d12_9 : dc method_2_code 9 (.sipush 257) 3 := by decide +kernel
theorem d12_12 : dc method_2_code 12 (.irem) 1 := by decide +kernel
theorem d12_13 : dc method_2_code 13 (.ireturn) 1 := by decide +kernel
abbrev y12 : MethodName := ⟨"RingLweKemL3", "md", "(I)I"⟩
theorem hy12 : y12.cls ≠ "java/lang/invoke/MethodHandle" ∧ y12.cls ≠ "java/lang/invoke/VarHandle" := by decide
theorem pd12 : parseMethodDescriptor y12.desc = some ⟨[.int], some .int⟩ := by decide +kernel
abbrev R12 : Room := { frames := 0, cells := 0, slots := 0, locals := 0 }
abbrev P12 (r : Int32) : Option Value → List OwnC → Prop := fun v H' => v = some (.int r) ∧ H' = ([] : List OwnC)
abbrev W12 (l : Launch) (Z : State) (n0 : Nat) (Q : Option Value → List OwnC → Prop) (k n pc : Nat) (L : List Slot) (S : List Value) (H : List OwnC) : Prop := WP l Z CN lay "RingLweKemL3" "md" method_2_code 1 (some FieldType.int) R12 n0 0 Q k n pc L S H
def f_L_md (p0 : Int32) : Option (Int32) :=
  some (((p0 % (257 : Int32)) + (257 : Int32)) % (257 : Int32))
set_option maxRecDepth 65536 in
set_option maxHeartbeats 4000000 in
theorem ok12 (l : Launch) (Z : State) (a0 : Array Value) (hw : HW a0 Z) (p0 : Int32) (r : Int32) (h : f_L_md p0 = some r) : CS l Z CN lay y12 method_2_code 1 (some FieldType.int) R12 0 [.int p0] ([] : List OwnC) (P12 r) := by
  refine CS.of_wp pn_law (leb rfl) fun n0 => ?_
  show W12 l Z n0 (P12 r) 0 0 0 [.val (.int p0)] [] ([] : List OwnC)
  unfold f_L_md at h
  refine WP.iloadN d12_0 rfl ?_
  refine WP.sipush (257 : Int32) d12_1 rfl ?_
  refine WP.irem d12_4 (by decide) ?_
  refine WP.sipush (257 : Int32) d12_5 rfl ?_
  refine WP.iadd d12_8 ?_
  refine WP.sipush (257 : Int32) d12_9 rfl ?_
  refine WP.irem d12_12 (by decide) ?_
  cases h
  exact WP.ireturn d12_13 rfl (leb rfl) (leb rfl) ⟨rfl, rfl⟩
theorem d13_0 : dc prog_1_method_7_code 0 (.iload_n 1) 1 := by decide +kernel
theorem d13_1 : dc prog_1_method_7_code 1 (.ifCond .lt 9) 3 := by decide +kernel
theorem d13_4 : dc prog_1_method_7_code 4 (.iload_n 1) 1 := by decide +kernel
theorem d13_5 : dc prog_1_method_7_code 5 (.bipush 8) 2 := by decide +kernel
theorem d13_7 : dc prog_1_method_7_code 7 (.if_icmp .le 5) 3 := by decide +kernel
theorem d13_10 : dc prog_1_method_7_code 10 (.iconst (-1)) 1 := by decide +kernel
theorem d13_11 : dc prog_1_method_7_code 11 (.ireturn) 1 := by decide +kernel
theorem d13_12 : dc prog_1_method_7_code 12 (.iload_n 2) 1 := by decide +kernel
theorem d13_13 : dc prog_1_method_7_code 13 (.ifCond .lt 9) 3 := by decide +kernel
theorem d13_16 : dc prog_1_method_7_code 16 (.iload_n 2) 1 := by decide +kernel
theorem d13_17 : dc prog_1_method_7_code 17 (.bipush 15) 2 := by decide +kernel
theorem d13_19 : dc prog_1_method_7_code 19 (.if_icmp .le 5) 3 := by decide +kernel
theorem d13_22 : dc prog_1_method_7_code 22 (.iconst (-1)) 1 := by decide +kernel
theorem d13_23 : dc prog_1_method_7_code 23 (.ireturn) 1 := by decide +kernel
theorem d13_24 : dc prog_1_method_7_code 24 (.aload_n 0) 1 := by decide +kernel
theorem d13_25 : dc prog_1_method_7_code 25 (.getfield 7) 3 := by decide +kernel
theorem d13_28 : dc prog_1_method_7_code 28 (.iload_n 1) 1 := by decide +kernel
theorem d13_29 : dc prog_1_method_7_code 29 (.bipush 16) 2 := by decide +kernel
theorem d13_31 : dc prog_1_method_7_code 31 (.imul) 1 := by decide +kernel
theorem d13_32 : dc prog_1_method_7_code 32 (.iload_n 2) 1 := by decide +kernel
theorem d13_33 : dc prog_1_method_7_code 33 (.iadd) 1 := by decide +kernel
theorem d13_34 : dc prog_1_method_7_code 34 (.iaload) 1 := by decide +kernel
theorem d13_35 : dc prog_1_method_7_code 35 (.ireturn) 1 := by decide +kernel
abbrev y13 : MethodName := ⟨"RingLweKem", "get", "(II)I"⟩
theorem hy13 : y13.cls ≠ "java/lang/invoke/MethodHandle" ∧ y13.cls ≠ "java/lang/invoke/VarHandle" := by decide
theorem pd13 : parseMethodDescriptor y13.desc = some ⟨[.int, .int], some .int⟩ := by decide +kernel
abbrev R13 : Room := { frames := 0, cells := 0, slots := 0, locals := 0 }
abbrev P13 (s : St) (r : Int32) : Option Value → List OwnC → Prop := fun v H' => v = some (.int r) ∧ H' = (Hb 0 s)
abbrev W13 (l : Launch) (Z : State) (n0 : Nat) (Q : Option Value → List OwnC → Prop) (k n pc : Nat) (L : List Slot) (S : List Value) (H : List OwnC) : Prop := WP l Z CN lay "RingLweKem" "get" prog_1_method_7_code 3 (some FieldType.int) R13 n0 0 Q k n pc L S H
def f_get_10 (s : St) : Option (Int32) :=
  some (-1 : Int32)
set_option maxRecDepth 65536 in
set_option maxHeartbeats 4000000 in
theorem ok13_10 (l : Launch) (Z : State) (a0 : Array Value) (hw : HW a0 Z) (n0 : Nat) (s : St) (r : Int32) (h : f_get_10 s = some r) : W13 l Z n0 (P13 s r) 0 0 10 [.unset, .unset, .unset] [] (Hb 0 s) := by
  unfold f_get_10 at h
  refine WP.iconst (-1 : Int32) d13_10 rfl ?_
  cases h
  exact WP.ireturn d13_11 rfl (leb rfl) (leb rfl) ⟨rfl, rfl⟩
def f_get_22 (s : St) : Option (Int32) :=
  some (-1 : Int32)
set_option maxRecDepth 65536 in
set_option maxHeartbeats 4000000 in
theorem ok13_22 (l : Launch) (Z : State) (a0 : Array Value) (hw : HW a0 Z) (n0 : Nat) (s : St) (r : Int32) (h : f_get_22 s = some r) : W13 l Z n0 (P13 s r) 0 0 22 [.unset, .unset, .unset] [] (Hb 0 s) := by
  unfold f_get_22 at h
  refine WP.iconst (-1 : Int32) d13_22 rfl ?_
  cases h
  exact WP.ireturn d13_23 rfl (leb rfl) (leb rfl) ⟨rfl, rfl⟩
def f_get (p1 : Int32) (p2 : Int32) (s : St) : Option (Int32) :=
  if p1 < 0 then
    f_get_10 s
  else
    if (8 : Int32) < p1 then
      f_get_10 s
    else
      if p2 < 0 then
        f_get_22 s
      else
        if (15 : Int32) < p2 then
          f_get_22 s
        else
          (rd (gA s 0) ((p1 * (16 : Int32)) + p2)).bind fun x5 =>
          some x5
set_option maxRecDepth 65536 in
set_option maxHeartbeats 4000000 in
theorem ok13 (l : Launch) (Z : State) (a0 : Array Value) (hw : HW a0 Z) (p1 : Int32) (p2 : Int32) (s : St) (r : Int32) (h : f_get p1 p2 s = some r) : CS l Z CN lay y13 prog_1_method_7_code 3 (some FieldType.int) R13 0 [.ref 0, .int p1, .int p2] (Hb 0 s) (P13 s r) := by
  refine CS.of_wp pn_cls (leb rfl) fun n0 => ?_
  show W13 l Z n0 (P13 s r) 0 0 0 [.val (.ref 0), .val (.int p1), .val (.int p2)] [] (Hb 0 s)
  unfold f_get at h
  refine WP.iloadN d13_0 rfl ?_
  rcases ite_e h with ⟨hc1, h⟩ | ⟨hc1, h⟩
  ·
    refine WP.ifY (pc' := 10) d13_1 (XT.i0_lt_t hc1) (by decide) rfl ?_
    exact WP.weak (L' := [.unset, .unset, .unset]) trivial (ok13_10 l Z a0 hw n0 s _ h)
  ·
    refine WP.ifN d13_1 (XT.i0_lt_f hc1) ?_
    refine WP.iloadN d13_4 rfl ?_
    refine WP.bipush (8 : Int32) d13_5 rfl ?_
    rcases ite_e h with ⟨hc2, h⟩ | ⟨hc2, h⟩
    ·
      refine WP.icmpN d13_7 (XT.ii_le_f hc2) ?_
      exact WP.weak (L' := [.unset, .unset, .unset]) trivial (ok13_10 l Z a0 hw n0 s _ h)
    ·
      refine WP.icmpY (pc' := 12) d13_7 (XT.ii_le_t hc2) (by decide) rfl ?_
      refine WP.iloadN d13_12 rfl ?_
      rcases ite_e h with ⟨hc3, h⟩ | ⟨hc3, h⟩
      ·
        refine WP.ifY (pc' := 22) d13_13 (XT.i0_lt_t hc3) (by decide) rfl ?_
        exact WP.weak (L' := [.unset, .unset, .unset]) trivial (ok13_22 l Z a0 hw n0 s _ h)
      ·
        refine WP.ifN d13_13 (XT.i0_lt_f hc3) ?_
        refine WP.iloadN d13_16 rfl ?_
        refine WP.bipush (15 : Int32) d13_17 rfl ?_
        rcases ite_e h with ⟨hc4, h⟩ | ⟨hc4, h⟩
        ·
          refine WP.icmpN d13_19 (XT.ii_le_f hc4) ?_
          exact WP.weak (L' := [.unset, .unset, .unset]) trivial (ok13_22 l Z a0 hw n0 s _ h)
        ·
          refine WP.icmpY (pc' := 24) d13_19 (XT.ii_le_t hc4) (by decide) rfl ?_
          refine WP.aloadN d13_24 rfl ?_
          refine WP.getfield (i := 0) (j := 0) d13_25 (hw _ m_10) rfl rfl rfl ?_
          refine WP.iloadN d13_28 rfl ?_
          refine WP.bipush (16 : Int32) d13_29 rfl ?_
          refine WP.imul d13_31 ?_
          refine WP.iloadN d13_32 rfl ?_
          refine WP.iadd d13_33 ?_
          obtain ⟨x5, hx5, h⟩ := Option.bind_eq_some_iff.mp h
          refine WP.iaload (i := 1) d13_34 rfl hx5 ?_
          cases h
          exact WP.ireturn d13_35 rfl (leb rfl) (leb rfl) ⟨rfl, rfl⟩
def fr0_f : List Nat := []
theorem fr0_c (x0 : St) : fr0_f.map (fun i => (Hb 0 x0)[i]?) = ([] : List OwnC).map (fun c => some (rnC (ro1 fr0_f (Hb 0 x0).length) c)) := rfl
theorem fr0_l (x0 : St) : ∀ x ∈ fr0_f, x < (Hb 0 x0).length := by show ∀ x ∈ fr0_f, x < 4; decide
theorem fr0_p (x0 : St) : patch (ro1 fr0_f (Hb 0 x0).length) fr0_f ([] : List OwnC) (Hb 0 x0) = (Hb 0 x0) := rfl
abbrev PLAW (r : Int32) : Option Value → List OwnC → Prop := fun v _ => v = some (.int r)
abbrev WLAW (l : Launch) (Z : State) (n0 : Nat) (Q : Option Value → List OwnC → Prop) (k n pc : Nat) (L : List Slot) (S : List Value) (H : List OwnC) : Prop := WP l Z CN lay "RingLweKemL3" "law" code maxLocals ret room_1 n0 0 Q k n pc L S H
def f_law_209 (k144 : Int32 → Int32 → Int32 → Int32 → St → Option (Int32)) (n : Nat) (v6 : Int32) (v11 : Int32) (v12 : Int32) (v13 : Int32) (t0 : Int32) (t1 : Int32) (s0 : St) : Option (Int32) :=
  if t1 = t0 then
    lt (v13 + (1 : Int32)) fun x2 =>
    k144 v6 v11 v12 x2 s0
  else
    some (0 : Int32)
set_option maxRecDepth 65536 in
set_option maxHeartbeats 4000000 in
theorem okLAW_209 (l : Launch) (Z : State) (a0 : Array Value) (hw : HW a0 Z) (n0 : Nat) (k144 : Int32 → Int32 → Int32 → Int32 → St → Option (Int32)) (hk144 : ∀ (v6 : Int32) (v11 : Int32) (v12 : Int32) (v13 : Int32) (s0 : St) (r : Int32), k144 v6 v11 v12 v13 s0 = some r → WLAW l Z n0 (PLAW r) 4 336 144 [.unset, .unset, .unset, .unset, .unset, .val (.ref 0), .val (.int v6), .unset, .unset, .unset, .unset, .val (.int v11), .val (.int v12), .val (.int v13), .unset, .unset] [] (Hb 0 s0)) (n : Nat) (v6 : Int32) (v11 : Int32) (v12 : Int32) (v13 : Int32) (t0 : Int32) (t1 : Int32) (s0 : St) (r : Int32) (h : f_law_209 k144 n v6 v11 v12 v13 t0 t1 s0 = some r) : WLAW l Z n0 (PLAW r) 4 336 209 [.unset, .unset, .unset, .unset, .unset, .val (.ref 0), .val (.int v6), .unset, .unset, .unset, .unset, .val (.int v11), .val (.int v12), .val (.int v13), .unset, .unset] [.int t0, .int t1] (Hb 0 s0) := by
  unfold f_law_209 at h
  rcases ite_e h with ⟨hc1, h⟩ | ⟨hc1, h⟩
  ·
    refine WP.icmpY (pc' := 214) at_209 (XT.ii_eq_t hc1) (by decide) rfl ?_
    obtain ⟨x2, ex2, h⟩ := lt_e h
    refine WP.iinc (L' := [.unset, .unset, .unset, .unset, .unset, .val (.ref 0), .val (.int v6), .unset, .unset, .unset, .unset, .val (.int v11), .val (.int v12), .val (.int x2), .unset, .unset]) (1 : Int32) at_214 rfl rfl (by subst ex2; rfl) ?_
    refine WP.goto (pc' := 144) at_217 (by decide) rfl ?_
    exact WP.weak (L' := [.unset, .unset, .unset, .unset, .unset, .val (.ref 0), .val (.int v6), .unset, .unset, .unset, .unset, .val (.int v11), .val (.int v12), .val (.int x2), .unset, .unset]) ⟨rfl, rfl, rfl, rfl, rfl, trivial⟩ (hk144 v6 v11 v12 x2 s0 _ h)
  ·
    refine WP.icmpN at_209 (XT.ii_eq_f hc1) ?_
    refine WP.iconst (0 : Int32) at_212 rfl ?_
    cases h
    exact WP.zreturn at_213 rfl (leb rfl) (leb rfl) rfl
def f_law_176 (k144 : Int32 → Int32 → Int32 → Int32 → St → Option (Int32)) (n : Nat) (v6 : Int32) (v11 : Int32) (v12 : Int32) (v13 : Int32) (t0 : Int32) (t1 : Int32) (s0 : St) : Option (Int32) :=
  if t1 = t0 then
    (f_get (2 : Int32) (v13 + (8 : Int32)) s0).bind fun c2 =>
    if v13 = v6 then
      f_law_209 k144 n v6 v11 v12 v13 v12 c2 s0
    else
      f_law_209 k144 n v6 v11 v12 v13 (0 : Int32) c2 s0
  else
    some (0 : Int32)
set_option maxRecDepth 65536 in
set_option maxHeartbeats 4000000 in
theorem okLAW_176 (l : Launch) (Z : State) (a0 : Array Value) (hw : HW a0 Z) (n0 : Nat) (k144 : Int32 → Int32 → Int32 → Int32 → St → Option (Int32)) (hk144 : ∀ (v6 : Int32) (v11 : Int32) (v12 : Int32) (v13 : Int32) (s0 : St) (r : Int32), k144 v6 v11 v12 v13 s0 = some r → WLAW l Z n0 (PLAW r) 4 336 144 [.unset, .unset, .unset, .unset, .unset, .val (.ref 0), .val (.int v6), .unset, .unset, .unset, .unset, .val (.int v11), .val (.int v12), .val (.int v13), .unset, .unset] [] (Hb 0 s0)) (n : Nat) (v6 : Int32) (v11 : Int32) (v12 : Int32) (v13 : Int32) (t0 : Int32) (t1 : Int32) (s0 : St) (r : Int32) (h : f_law_176 k144 n v6 v11 v12 v13 t0 t1 s0 = some r) : WLAW l Z n0 (PLAW r) 4 336 176 [.unset, .unset, .unset, .unset, .unset, .val (.ref 0), .val (.int v6), .unset, .unset, .unset, .unset, .val (.int v11), .val (.int v12), .val (.int v13), .unset, .unset] [.int t0, .int t1] (Hb 0 s0) := by
  unfold f_law_176 at h
  rcases ite_e h with ⟨hc1, h⟩ | ⟨hc1, h⟩
  ·
    refine WP.icmpY (pc' := 181) at_176 (XT.ii_eq_t hc1) (by decide) rfl ?_
    refine WP.aload at_181 rfl ?_
    refine WP.iconst (2 : Int32) at_183 rfl ?_
    refine WP.iload at_184 rfl ?_
    refine WP.bipush (8 : Int32) at_186 rfl ?_
    refine WP.iadd at_188 ?_
    obtain ⟨c2, hc2, h⟩ := Option.bind_eq_some_iff.mp h
    refine WP.callV (i := 0) (y := y13) (as := [.int (2 : Int32), .int (v13 + (8 : Int32))]) (S := []) at_189 (hw _ m_92) (hw _ m_93) (hw _ m_95) (hw _ m_94) (hw _ m_96) (hw _ m_2) hy13 rfl (ok13 l Z a0 hw (2 : Int32) (v13 + (8 : Int32)) s0 _ hc2) rfl (lenOf pd13 rfl) (leb rfl) (leb rfl) (leb rfl) (leb rfl) ?_
    rintro _ _ ⟨rfl, rfl⟩
    show WLAW l Z n0 (PLAW r) 4 336 192 [.unset, .unset, .unset, .unset, .unset, .val (.ref 0), .val (.int v6), .unset, .unset, .unset, .unset, .val (.int v11), .val (.int v12), .val (.int v13), .unset, .unset] [.int c2] (Hb 0 s0)
    refine WP.istore (L' := [.unset, .unset, .unset, .unset, .unset, .val (.ref 0), .val (.int v6), .unset, .unset, .unset, .unset, .val (.int v11), .val (.int v12), .val (.int v13), .unset, .val (.int c2)]) at_192 (leb rfl) rfl ?_
    refine WP.iload at_194 rfl ?_
    refine WP.iload at_196 rfl ?_
    refine WP.iload at_198 rfl ?_
    rcases ite_e h with ⟨hc3, h⟩ | ⟨hc3, h⟩
    ·
      refine WP.icmpN at_200 (XT.ii_ne_f hc3) ?_
      refine WP.iload at_203 rfl ?_
      refine WP.goto (pc' := 209) at_205 (by decide) rfl ?_
      exact WP.weak (L' := [.unset, .unset, .unset, .unset, .unset, .val (.ref 0), .val (.int v6), .unset, .unset, .unset, .unset, .val (.int v11), .val (.int v12), .val (.int v13), .unset, .unset]) ⟨rfl, rfl, rfl, rfl, rfl, trivial⟩ (okLAW_209 l Z a0 hw n0 _ hk144 n v6 v11 v12 v13 v12 c2 s0 _ h)
    ·
      refine WP.icmpY (pc' := 208) at_200 (XT.ii_ne_t hc3) (by decide) rfl ?_
      refine WP.iconst (0 : Int32) at_208 rfl ?_
      exact WP.weak (L' := [.unset, .unset, .unset, .unset, .unset, .val (.ref 0), .val (.int v6), .unset, .unset, .unset, .unset, .val (.int v11), .val (.int v12), .val (.int v13), .unset, .unset]) ⟨rfl, rfl, rfl, rfl, rfl, trivial⟩ (okLAW_209 l Z a0 hw n0 _ hk144 n v6 v11 v12 v13 (0 : Int32) c2 s0 _ h)
  ·
    refine WP.icmpN at_176 (XT.ii_eq_f hc1) ?_
    refine WP.iconst (0 : Int32) at_179 rfl ?_
    cases h
    exact WP.zreturn at_180 rfl (leb rfl) (leb rfl) rfl
def g_law_144 (k144 : Int32 → Int32 → Int32 → Int32 → St → Option (Int32)) (n : Nat) (v6 : Int32) (v11 : Int32) (v12 : Int32) (v13 : Int32) (s0 : St) : Option (Int32) :=
  if v13 < (8 : Int32) then
    (f_get (2 : Int32) v13 s0).bind fun c2 =>
    if v13 = v6 then
      f_law_176 k144 n v6 v11 v12 v13 v11 c2 s0
    else
      f_law_176 k144 n v6 v11 v12 v13 (0 : Int32) c2 s0
  else
    some (1 : Int32)
set_option maxRecDepth 65536 in
set_option maxHeartbeats 4000000 in
theorem okgLAW_144 (l : Launch) (Z : State) (a0 : Array Value) (hw : HW a0 Z) (n0 : Nat) (k144 : Int32 → Int32 → Int32 → Int32 → St → Option (Int32)) (hk144 : ∀ (v6 : Int32) (v11 : Int32) (v12 : Int32) (v13 : Int32) (s0 : St) (r : Int32), k144 v6 v11 v12 v13 s0 = some r → WLAW l Z n0 (PLAW r) 4 336 144 [.unset, .unset, .unset, .unset, .unset, .val (.ref 0), .val (.int v6), .unset, .unset, .unset, .unset, .val (.int v11), .val (.int v12), .val (.int v13), .unset, .unset] [] (Hb 0 s0)) (n : Nat) (v6 : Int32) (v11 : Int32) (v12 : Int32) (v13 : Int32) (s0 : St) (r : Int32) (h : g_law_144 k144 n v6 v11 v12 v13 s0 = some r) : WLAW l Z n0 (PLAW r) 4 336 144 [.unset, .unset, .unset, .unset, .unset, .val (.ref 0), .val (.int v6), .unset, .unset, .unset, .unset, .val (.int v11), .val (.int v12), .val (.int v13), .unset, .unset] [] (Hb 0 s0) := by
  unfold g_law_144 at h
  refine WP.iload at_144 rfl ?_
  refine WP.bipush (8 : Int32) at_146 rfl ?_
  rcases ite_e h with ⟨hc1, h⟩ | ⟨hc1, h⟩
  ·
    refine WP.icmpN at_148 (XT.ii_ge_f hc1) ?_
    refine WP.aload at_151 rfl ?_
    refine WP.iconst (2 : Int32) at_153 rfl ?_
    refine WP.iload at_154 rfl ?_
    obtain ⟨c2, hc2, h⟩ := Option.bind_eq_some_iff.mp h
    refine WP.callV (i := 0) (y := y13) (as := [.int (2 : Int32), .int v13]) (S := []) at_156 (hw _ m_92) (hw _ m_93) (hw _ m_95) (hw _ m_94) (hw _ m_96) (hw _ m_2) hy13 rfl (ok13 l Z a0 hw (2 : Int32) v13 s0 _ hc2) rfl (lenOf pd13 rfl) (leb rfl) (leb rfl) (leb rfl) (leb rfl) ?_
    rintro _ _ ⟨rfl, rfl⟩
    show WLAW l Z n0 (PLAW r) 4 336 159 [.unset, .unset, .unset, .unset, .unset, .val (.ref 0), .val (.int v6), .unset, .unset, .unset, .unset, .val (.int v11), .val (.int v12), .val (.int v13), .unset, .unset] [.int c2] (Hb 0 s0)
    refine WP.istore (L' := [.unset, .unset, .unset, .unset, .unset, .val (.ref 0), .val (.int v6), .unset, .unset, .unset, .unset, .val (.int v11), .val (.int v12), .val (.int v13), .val (.int c2), .unset]) at_159 (leb rfl) rfl ?_
    refine WP.iload at_161 rfl ?_
    refine WP.iload at_163 rfl ?_
    refine WP.iload at_165 rfl ?_
    rcases ite_e h with ⟨hc3, h⟩ | ⟨hc3, h⟩
    ·
      refine WP.icmpN at_167 (XT.ii_ne_f hc3) ?_
      refine WP.iload at_170 rfl ?_
      refine WP.goto (pc' := 176) at_172 (by decide) rfl ?_
      exact WP.weak (L' := [.unset, .unset, .unset, .unset, .unset, .val (.ref 0), .val (.int v6), .unset, .unset, .unset, .unset, .val (.int v11), .val (.int v12), .val (.int v13), .unset, .unset]) ⟨rfl, rfl, rfl, rfl, rfl, trivial⟩ (okLAW_176 l Z a0 hw n0 _ hk144 n v6 v11 v12 v13 v11 c2 s0 _ h)
    ·
      refine WP.icmpY (pc' := 175) at_167 (XT.ii_ne_t hc3) (by decide) rfl ?_
      refine WP.iconst (0 : Int32) at_175 rfl ?_
      exact WP.weak (L' := [.unset, .unset, .unset, .unset, .unset, .val (.ref 0), .val (.int v6), .unset, .unset, .unset, .unset, .val (.int v11), .val (.int v12), .val (.int v13), .unset, .unset]) ⟨rfl, rfl, rfl, rfl, rfl, trivial⟩ (okLAW_176 l Z a0 hw n0 _ hk144 n v6 v11 v12 v13 (0 : Int32) c2 s0 _ h)
  ·
    refine WP.icmpY (pc' := 220) at_148 (XT.ii_ge_t hc1) (by decide) rfl ?_
    refine WP.iconst (1 : Int32) at_220 rfl ?_
    cases h
    exact WP.zreturn at_221 rfl (leb rfl) (leb rfl) rfl
def f_law_144 : Nat → Int32 → Int32 → Int32 → Int32 → St → Option (Int32)
  | 0 => fun _ _ _ _ _ => none
  | n + 1 => g_law_144 (f_law_144 n) n
theorem okLAW_144 (l : Launch) (Z : State) (a0 : Array Value) (hw : HW a0 Z) (n0 : Nat) : ∀ (n : Nat) (v6 : Int32) (v11 : Int32) (v12 : Int32) (v13 : Int32) (s0 : St) (r : Int32), f_law_144 n v6 v11 v12 v13 s0 = some r → WLAW l Z n0 (PLAW r) 4 336 144 [.unset, .unset, .unset, .unset, .unset, .val (.ref 0), .val (.int v6), .unset, .unset, .unset, .unset, .val (.int v11), .val (.int v12), .val (.int v13), .unset, .unset] [] (Hb 0 s0)
  | 0, v6, v11, v12, v13, s0, r, h => nomatch (show none = some r from h)
  | n + 1, v6, v11, v12, v13, s0, r, h => okgLAW_144 l Z a0 hw n0 _ (okLAW_144 l Z a0 hw n0 n) n v6 v11 v12 v13 s0 r h
def f_law (n : Nat) (p0 : Int32) (p1 : Int32) (p2 : Int32) (p3 : Int32) (p4 : Int32) : Option (Int32) :=
  (f_init n p4 p4 p4).bind fun c1 =>
  lt (p4 &&& (7 : Int32)) fun x2 =>
  (f_setOperand (0 : Int32) (0 : Int32) p0 c1).bind fun c3 =>
  if c3.1 = 0 then
    some (0 : Int32)
  else
    (f_setOperand (0 : Int32) (8 : Int32) p1 c3.2).bind fun c5 =>
    if c5.1 = 0 then
      some (0 : Int32)
    else
      (f_setOperand (1 : Int32) x2 p2 c5.2).bind fun c7 =>
      if c7.1 = 0 then
        some (0 : Int32)
      else
        (f_setOperand (1 : Int32) (x2 + (8 : Int32)) p3 c7.2).bind fun c9 =>
        if c9.1 = 0 then
          some (0 : Int32)
        else
          (f_multiply n c9.2).bind fun c11 =>
          (f_L_md p0).bind fun c12 =>
          (f_L_md p1).bind fun c13 =>
          (f_L_md p2).bind fun c14 =>
          (f_L_md p3).bind fun c15 =>
          (f_L_md ((c12 * c14) - (c13 * c15))).bind fun c16 =>
          (f_L_md ((c12 * c15) + (c13 * c14))).bind fun c17 =>
          f_law_144 n x2 c16 c17 (0 : Int32) c11
set_option maxRecDepth 65536 in
set_option maxHeartbeats 4000000 in
theorem okLAW (l : Launch) (Z : State) (a0 : Array Value) (hw : HW a0 Z) (n : Nat) (p0 : Int32) (p1 : Int32) (p2 : Int32) (p3 : Int32) (p4 : Int32) (r : Int32) (h : f_law n p0 p1 p2 p3 p4 = some r) : CS l Z CN lay x code maxLocals ret room_1 0 [.int p0, .int p1, .int p2, .int p3, .int p4] ([] : List OwnC) (PLAW r) := by
  refine CS.of_wp pn_law (leb rfl) fun n0 => ?_
  show WLAW l Z n0 (PLAW r) 0 0 0 [.val (.int p0), .val (.int p1), .val (.int p2), .val (.int p3), .val (.int p4), .unset, .unset, .unset, .unset, .unset, .unset, .unset, .unset, .unset, .unset, .unset] [] ([] : List OwnC)
  unfold f_law at h
  refine WP.new (vs := vs0) at_0 (hw _ m_0) (hw _ m_1) (hw _ m_2) (leb rfl) (leb rfl) (vs0_ok hw) ?_
  show WLAW l Z n0 (PLAW r) 1 16 3 [.val (.int p0), .val (.int p1), .val (.int p2), .val (.int p3), .val (.int p4), .unset, .unset, .unset, .unset, .unset, .unset, .unset, .unset, .unset, .unset, .unset] [.ref 0] ([cO vs0])
  refine WP.dup at_3 rfl ?_
  refine WP.iload at_4 rfl ?_
  refine WP.iload at_6 rfl ?_
  refine WP.iload at_8 rfl ?_
  obtain ⟨c1, hc1, h⟩ := Option.bind_eq_some_iff.mp h
  refine WP.callI (i := 0) (y := y0) (as := [.int p4, .int p4, .int p4]) (S := [.ref 0]) at_10 rfl (hw _ m_3) (hw _ m_4) (hw _ m_5) (hw _ m_2) hy0 (ok0 l Z a0 hw n p4 p4 p4 _ hc1) rfl (lenOf pd0 rfl) (leb rfl) (leb rfl) (leb rfl) (leb rfl) ?_
  rintro _ _ ⟨rfl, rfl⟩
  show WLAW l Z n0 (PLAW r) 4 336 13 [.val (.int p0), .val (.int p1), .val (.int p2), .val (.int p3), .val (.int p4), .unset, .unset, .unset, .unset, .unset, .unset, .unset, .unset, .unset, .unset, .unset] [.ref 0] (Hb 0 c1)
  refine WP.astore (L' := [.val (.int p0), .val (.int p1), .val (.int p2), .val (.int p3), .val (.int p4), .val (.ref 0), .unset, .unset, .unset, .unset, .unset, .unset, .unset, .unset, .unset, .unset]) at_13 (leb rfl) rfl ?_
  refine WP.iload at_15 rfl ?_
  refine WP.bipush (7 : Int32) at_17 rfl ?_
  refine WP.iand at_19 ?_
  obtain ⟨x2, ex2, h⟩ := lt_e h
  refine WP.istore (L' := [.val (.int p0), .val (.int p1), .val (.int p2), .val (.int p3), .val (.int p4), .val (.ref 0), .val (.int x2), .unset, .unset, .unset, .unset, .unset, .unset, .unset, .unset, .unset]) at_20 (leb rfl) (by subst ex2; rfl) ?_
  refine WP.aload at_22 rfl ?_
  refine WP.iconst (0 : Int32) at_24 rfl ?_
  refine WP.iconst (0 : Int32) at_25 rfl ?_
  refine WP.iloadN at_26 rfl ?_
  obtain ⟨c3, hc3, h⟩ := Option.bind_eq_some_iff.mp h
  refine WP.callV (i := 0) (y := y3) (as := [.int (0 : Int32), .int (0 : Int32), .int p0]) (S := []) at_27 (hw _ m_50) (hw _ m_51) (hw _ m_53) (hw _ m_52) (hw _ m_54) (hw _ m_2) hy3 rfl (ok3 l Z a0 hw (0 : Int32) (0 : Int32) p0 c1 _ hc3) rfl (lenOf pd3 rfl) (leb rfl) (leb rfl) (leb rfl) (leb rfl) ?_
  rintro _ _ ⟨rfl, rfl⟩
  show WLAW l Z n0 (PLAW r) 4 336 30 [.val (.int p0), .val (.int p1), .val (.int p2), .val (.int p3), .val (.int p4), .val (.ref 0), .val (.int x2), .unset, .unset, .unset, .unset, .unset, .unset, .unset, .unset, .unset] [.int c3.1] (Hb 0 c3.2)
  rcases ite_e h with ⟨hc4, h⟩ | ⟨hc4, h⟩
  ·
    refine WP.ifN at_30 (XT.i0_ne_f hc4) ?_
    refine WP.iconst (0 : Int32) at_33 rfl ?_
    cases h
    exact WP.zreturn at_34 rfl (leb rfl) (leb rfl) rfl
  ·
    refine WP.ifY (pc' := 35) at_30 (XT.i0_ne_t hc4) (by decide) rfl ?_
    refine WP.aload at_35 rfl ?_
    refine WP.iconst (0 : Int32) at_37 rfl ?_
    refine WP.bipush (8 : Int32) at_38 rfl ?_
    refine WP.iloadN at_40 rfl ?_
    obtain ⟨c5, hc5, h⟩ := Option.bind_eq_some_iff.mp h
    refine WP.callV (i := 0) (y := y3) (as := [.int (0 : Int32), .int (8 : Int32), .int p1]) (S := []) at_41 (hw _ m_50) (hw _ m_51) (hw _ m_53) (hw _ m_52) (hw _ m_54) (hw _ m_2) hy3 rfl (ok3 l Z a0 hw (0 : Int32) (8 : Int32) p1 c3.2 _ hc5) rfl (lenOf pd3 rfl) (leb rfl) (leb rfl) (leb rfl) (leb rfl) ?_
    rintro _ _ ⟨rfl, rfl⟩
    show WLAW l Z n0 (PLAW r) 4 336 44 [.val (.int p0), .val (.int p1), .val (.int p2), .val (.int p3), .val (.int p4), .val (.ref 0), .val (.int x2), .unset, .unset, .unset, .unset, .unset, .unset, .unset, .unset, .unset] [.int c5.1] (Hb 0 c5.2)
    rcases ite_e h with ⟨hc6, h⟩ | ⟨hc6, h⟩
    ·
      refine WP.ifN at_44 (XT.i0_ne_f hc6) ?_
      refine WP.iconst (0 : Int32) at_47 rfl ?_
      cases h
      exact WP.zreturn at_48 rfl (leb rfl) (leb rfl) rfl
    ·
      refine WP.ifY (pc' := 49) at_44 (XT.i0_ne_t hc6) (by decide) rfl ?_
      refine WP.aload at_49 rfl ?_
      refine WP.iconst (1 : Int32) at_51 rfl ?_
      refine WP.iload at_52 rfl ?_
      refine WP.iloadN at_54 rfl ?_
      obtain ⟨c7, hc7, h⟩ := Option.bind_eq_some_iff.mp h
      refine WP.callV (i := 0) (y := y3) (as := [.int (1 : Int32), .int x2, .int p2]) (S := []) at_55 (hw _ m_50) (hw _ m_51) (hw _ m_53) (hw _ m_52) (hw _ m_54) (hw _ m_2) hy3 rfl (ok3 l Z a0 hw (1 : Int32) x2 p2 c5.2 _ hc7) rfl (lenOf pd3 rfl) (leb rfl) (leb rfl) (leb rfl) (leb rfl) ?_
      rintro _ _ ⟨rfl, rfl⟩
      show WLAW l Z n0 (PLAW r) 4 336 58 [.val (.int p0), .val (.int p1), .val (.int p2), .val (.int p3), .val (.int p4), .val (.ref 0), .val (.int x2), .unset, .unset, .unset, .unset, .unset, .unset, .unset, .unset, .unset] [.int c7.1] (Hb 0 c7.2)
      rcases ite_e h with ⟨hc8, h⟩ | ⟨hc8, h⟩
      ·
        refine WP.ifN at_58 (XT.i0_ne_f hc8) ?_
        refine WP.iconst (0 : Int32) at_61 rfl ?_
        cases h
        exact WP.zreturn at_62 rfl (leb rfl) (leb rfl) rfl
      ·
        refine WP.ifY (pc' := 63) at_58 (XT.i0_ne_t hc8) (by decide) rfl ?_
        refine WP.aload at_63 rfl ?_
        refine WP.iconst (1 : Int32) at_65 rfl ?_
        refine WP.iload at_66 rfl ?_
        refine WP.bipush (8 : Int32) at_68 rfl ?_
        refine WP.iadd at_70 ?_
        refine WP.iloadN at_71 rfl ?_
        obtain ⟨c9, hc9, h⟩ := Option.bind_eq_some_iff.mp h
        refine WP.callV (i := 0) (y := y3) (as := [.int (1 : Int32), .int (x2 + (8 : Int32)), .int p3]) (S := []) at_72 (hw _ m_50) (hw _ m_51) (hw _ m_53) (hw _ m_52) (hw _ m_54) (hw _ m_2) hy3 rfl (ok3 l Z a0 hw (1 : Int32) (x2 + (8 : Int32)) p3 c7.2 _ hc9) rfl (lenOf pd3 rfl) (leb rfl) (leb rfl) (leb rfl) (leb rfl) ?_
        rintro _ _ ⟨rfl, rfl⟩
        show WLAW l Z n0 (PLAW r) 4 336 75 [.val (.int p0), .val (.int p1), .val (.int p2), .val (.int p3), .val (.int p4), .val (.ref 0), .val (.int x2), .unset, .unset, .unset, .unset, .unset, .unset, .unset, .unset, .unset] [.int c9.1] (Hb 0 c9.2)
        rcases ite_e h with ⟨hc10, h⟩ | ⟨hc10, h⟩
        ·
          refine WP.ifN at_75 (XT.i0_ne_f hc10) ?_
          refine WP.iconst (0 : Int32) at_78 rfl ?_
          cases h
          exact WP.zreturn at_79 rfl (leb rfl) (leb rfl) rfl
        ·
          refine WP.ifY (pc' := 80) at_75 (XT.i0_ne_t hc10) (by decide) rfl ?_
          refine WP.aload at_80 rfl ?_
          obtain ⟨c11, hc11, h⟩ := Option.bind_eq_some_iff.mp h
          refine WP.callV (i := 0) (y := y5) (as := []) (S := []) at_82 (hw _ m_59) (hw _ m_60) (hw _ m_62) (hw _ m_61) (hw _ m_63) (hw _ m_2) hy5 rfl (ok5 l Z a0 hw n c9.2 _ hc11) rfl (lenOf pd5 rfl) (leb rfl) (leb rfl) (leb rfl) (leb rfl) ?_
          rintro _ _ ⟨rfl, rfl⟩
          show WLAW l Z n0 (PLAW r) 4 336 85 [.val (.int p0), .val (.int p1), .val (.int p2), .val (.int p3), .val (.int p4), .val (.ref 0), .val (.int x2), .unset, .unset, .unset, .unset, .unset, .unset, .unset, .unset, .unset] [] (Hb 0 c11)
          refine WP.iloadN at_85 rfl ?_
          obtain ⟨c12, hc12, h⟩ := Option.bind_eq_some_iff.mp h
          refine WP.callS (y := y12) (as := [.int p0]) (S := []) at_86 (hw _ m_88) (hw _ m_89) (hw _ m_90) (hw _ m_91) hy12 (CS.frame (ro := 0) (H := (Hb 0 c11)) (as := [.int p0]) fr0_f (ok12 l Z a0 hw p0 _ hc12) rfl (by decide) (fr0_l c11) (fr0_c c11) (by decide) rfl) rfl (lenOf pd12 rfl) (leb rfl) (leb rfl) (leb rfl) (leb rfl) ?_
          rintro _ _ ⟨_, _, ⟨rfl, rfl⟩, rfl, rfl⟩
          rw [fr0_p c11]
          show WLAW l Z n0 (PLAW r) 4 336 89 [.val (.int p0), .val (.int p1), .val (.int p2), .val (.int p3), .val (.int p4), .val (.ref 0), .val (.int x2), .unset, .unset, .unset, .unset, .unset, .unset, .unset, .unset, .unset] [.int c12] (Hb 0 c11)
          refine WP.istore (L' := [.val (.int p0), .val (.int p1), .val (.int p2), .val (.int p3), .val (.int p4), .val (.ref 0), .val (.int x2), .val (.int c12), .unset, .unset, .unset, .unset, .unset, .unset, .unset, .unset]) at_89 (leb rfl) rfl ?_
          refine WP.iloadN at_91 rfl ?_
          obtain ⟨c13, hc13, h⟩ := Option.bind_eq_some_iff.mp h
          refine WP.callS (y := y12) (as := [.int p1]) (S := []) at_92 (hw _ m_88) (hw _ m_89) (hw _ m_90) (hw _ m_91) hy12 (CS.frame (ro := 0) (H := (Hb 0 c11)) (as := [.int p1]) fr0_f (ok12 l Z a0 hw p1 _ hc13) rfl (by decide) (fr0_l c11) (fr0_c c11) (by decide) rfl) rfl (lenOf pd12 rfl) (leb rfl) (leb rfl) (leb rfl) (leb rfl) ?_
          rintro _ _ ⟨_, _, ⟨rfl, rfl⟩, rfl, rfl⟩
          rw [fr0_p c11]
          show WLAW l Z n0 (PLAW r) 4 336 95 [.val (.int p0), .val (.int p1), .val (.int p2), .val (.int p3), .val (.int p4), .val (.ref 0), .val (.int x2), .val (.int c12), .unset, .unset, .unset, .unset, .unset, .unset, .unset, .unset] [.int c13] (Hb 0 c11)
          refine WP.istore (L' := [.val (.int p0), .val (.int p1), .val (.int p2), .val (.int p3), .val (.int p4), .val (.ref 0), .val (.int x2), .val (.int c12), .val (.int c13), .unset, .unset, .unset, .unset, .unset, .unset, .unset]) at_95 (leb rfl) rfl ?_
          refine WP.iloadN at_97 rfl ?_
          obtain ⟨c14, hc14, h⟩ := Option.bind_eq_some_iff.mp h
          refine WP.callS (y := y12) (as := [.int p2]) (S := []) at_98 (hw _ m_88) (hw _ m_89) (hw _ m_90) (hw _ m_91) hy12 (CS.frame (ro := 0) (H := (Hb 0 c11)) (as := [.int p2]) fr0_f (ok12 l Z a0 hw p2 _ hc14) rfl (by decide) (fr0_l c11) (fr0_c c11) (by decide) rfl) rfl (lenOf pd12 rfl) (leb rfl) (leb rfl) (leb rfl) (leb rfl) ?_
          rintro _ _ ⟨_, _, ⟨rfl, rfl⟩, rfl, rfl⟩
          rw [fr0_p c11]
          show WLAW l Z n0 (PLAW r) 4 336 101 [.val (.int p0), .val (.int p1), .val (.int p2), .val (.int p3), .val (.int p4), .val (.ref 0), .val (.int x2), .val (.int c12), .val (.int c13), .unset, .unset, .unset, .unset, .unset, .unset, .unset] [.int c14] (Hb 0 c11)
          refine WP.istore (L' := [.val (.int p0), .val (.int p1), .val (.int p2), .val (.int p3), .val (.int p4), .val (.ref 0), .val (.int x2), .val (.int c12), .val (.int c13), .val (.int c14), .unset, .unset, .unset, .unset, .unset, .unset]) at_101 (leb rfl) rfl ?_
          refine WP.iloadN at_103 rfl ?_
          obtain ⟨c15, hc15, h⟩ := Option.bind_eq_some_iff.mp h
          refine WP.callS (y := y12) (as := [.int p3]) (S := []) at_104 (hw _ m_88) (hw _ m_89) (hw _ m_90) (hw _ m_91) hy12 (CS.frame (ro := 0) (H := (Hb 0 c11)) (as := [.int p3]) fr0_f (ok12 l Z a0 hw p3 _ hc15) rfl (by decide) (fr0_l c11) (fr0_c c11) (by decide) rfl) rfl (lenOf pd12 rfl) (leb rfl) (leb rfl) (leb rfl) (leb rfl) ?_
          rintro _ _ ⟨_, _, ⟨rfl, rfl⟩, rfl, rfl⟩
          rw [fr0_p c11]
          show WLAW l Z n0 (PLAW r) 4 336 107 [.val (.int p0), .val (.int p1), .val (.int p2), .val (.int p3), .val (.int p4), .val (.ref 0), .val (.int x2), .val (.int c12), .val (.int c13), .val (.int c14), .unset, .unset, .unset, .unset, .unset, .unset] [.int c15] (Hb 0 c11)
          refine WP.istore (L' := [.val (.int p0), .val (.int p1), .val (.int p2), .val (.int p3), .val (.int p4), .val (.ref 0), .val (.int x2), .val (.int c12), .val (.int c13), .val (.int c14), .val (.int c15), .unset, .unset, .unset, .unset, .unset]) at_107 (leb rfl) rfl ?_
          refine WP.iload at_109 rfl ?_
          refine WP.iload at_111 rfl ?_
          refine WP.imul at_113 ?_
          refine WP.iload at_114 rfl ?_
          refine WP.iload at_116 rfl ?_
          refine WP.imul at_118 ?_
          refine WP.isub at_119 ?_
          obtain ⟨c16, hc16, h⟩ := Option.bind_eq_some_iff.mp h
          refine WP.callS (y := y12) (as := [.int ((c12 * c14) - (c13 * c15))]) (S := []) at_120 (hw _ m_88) (hw _ m_89) (hw _ m_90) (hw _ m_91) hy12 (CS.frame (ro := 0) (H := (Hb 0 c11)) (as := [.int ((c12 * c14) - (c13 * c15))]) fr0_f (ok12 l Z a0 hw ((c12 * c14) - (c13 * c15)) _ hc16) rfl (by decide) (fr0_l c11) (fr0_c c11) (by decide) rfl) rfl (lenOf pd12 rfl) (leb rfl) (leb rfl) (leb rfl) (leb rfl) ?_
          rintro _ _ ⟨_, _, ⟨rfl, rfl⟩, rfl, rfl⟩
          rw [fr0_p c11]
          show WLAW l Z n0 (PLAW r) 4 336 123 [.val (.int p0), .val (.int p1), .val (.int p2), .val (.int p3), .val (.int p4), .val (.ref 0), .val (.int x2), .val (.int c12), .val (.int c13), .val (.int c14), .val (.int c15), .unset, .unset, .unset, .unset, .unset] [.int c16] (Hb 0 c11)
          refine WP.istore (L' := [.val (.int p0), .val (.int p1), .val (.int p2), .val (.int p3), .val (.int p4), .val (.ref 0), .val (.int x2), .val (.int c12), .val (.int c13), .val (.int c14), .val (.int c15), .val (.int c16), .unset, .unset, .unset, .unset]) at_123 (leb rfl) rfl ?_
          refine WP.iload at_125 rfl ?_
          refine WP.iload at_127 rfl ?_
          refine WP.imul at_129 ?_
          refine WP.iload at_130 rfl ?_
          refine WP.iload at_132 rfl ?_
          refine WP.imul at_134 ?_
          refine WP.iadd at_135 ?_
          obtain ⟨c17, hc17, h⟩ := Option.bind_eq_some_iff.mp h
          refine WP.callS (y := y12) (as := [.int ((c12 * c15) + (c13 * c14))]) (S := []) at_136 (hw _ m_88) (hw _ m_89) (hw _ m_90) (hw _ m_91) hy12 (CS.frame (ro := 0) (H := (Hb 0 c11)) (as := [.int ((c12 * c15) + (c13 * c14))]) fr0_f (ok12 l Z a0 hw ((c12 * c15) + (c13 * c14)) _ hc17) rfl (by decide) (fr0_l c11) (fr0_c c11) (by decide) rfl) rfl (lenOf pd12 rfl) (leb rfl) (leb rfl) (leb rfl) (leb rfl) ?_
          rintro _ _ ⟨_, _, ⟨rfl, rfl⟩, rfl, rfl⟩
          rw [fr0_p c11]
          show WLAW l Z n0 (PLAW r) 4 336 139 [.val (.int p0), .val (.int p1), .val (.int p2), .val (.int p3), .val (.int p4), .val (.ref 0), .val (.int x2), .val (.int c12), .val (.int c13), .val (.int c14), .val (.int c15), .val (.int c16), .unset, .unset, .unset, .unset] [.int c17] (Hb 0 c11)
          refine WP.istore (L' := [.val (.int p0), .val (.int p1), .val (.int p2), .val (.int p3), .val (.int p4), .val (.ref 0), .val (.int x2), .val (.int c12), .val (.int c13), .val (.int c14), .val (.int c15), .val (.int c16), .val (.int c17), .unset, .unset, .unset]) at_139 (leb rfl) rfl ?_
          refine WP.iconst (0 : Int32) at_141 rfl ?_
          refine WP.istore (L' := [.val (.int p0), .val (.int p1), .val (.int p2), .val (.int p3), .val (.int p4), .val (.ref 0), .val (.int x2), .val (.int c12), .val (.int c13), .val (.int c14), .val (.int c15), .val (.int c16), .val (.int c17), .val (.int (0 : Int32)), .unset, .unset]) at_142 (leb rfl) rfl ?_
          exact WP.weak (L' := [.unset, .unset, .unset, .unset, .unset, .val (.ref 0), .val (.int x2), .unset, .unset, .unset, .unset, .val (.int c16), .val (.int c17), .val (.int (0 : Int32)), .unset, .unset]) ⟨rfl, rfl, rfl, rfl, rfl, trivial⟩ (okLAW_144 l Z a0 hw n0 n x2 c16 c17 (0 : Int32) c11 _ h)
def own_T : List Int32 := [1, 136, 249, 197, 64, 223, 2, 15, 241, 137, 128, 189, 4, 30, 225, 17, 256, 121, 8, 60, 193, 34, 255, 242, 16, 120, 129, 68, 253, 227, 32, 240]
def own_Rv : List Int32 := [0, 8, 4, 12, 2, 10, 6, 14, 1, 9, 5, 13, 3, 11, 7, 15]
def own_Tn (k : Nat) : Int := (own_T.getD k 0).toInt
def own_rv (k : Nat) : Nat := (own_Rv.getD k 0).toInt.toNat
/-- the cells of the data hold V; all else is s -/
def own_D (s t : St) (V : Nat → Int) : Prop := t = sA s 0 (gA t 0) ∧ (gA t 0).length = 272 ∧ (∀ k, k < 272 → ((gA t 0).getD k 0).toInt = V k) ∧ ∀ k, k < 272 → 0 ≤ V k ∧ V k < 257
theorem own_Drd {s t : St} {V : Nat → Int} (h : own_D s t V) {i : Int32} {k : Nat} (hi : i.toInt = k) (hk : k < 272) : ∃ x : Int32, rd (gA t 0) i = some x ∧ x.toInt = V k := by
  have hx : (gA t 0)[k]? = some ((gA t 0)[k]'(by rw [h.2.1]; exact hk)) := List.getElem?_eq_getElem _
  refine ⟨_, rd_of hi hx, ?_⟩
  rw [← h.2.2.1 k hk, List.getD_eq_getElem?_getD, hx]; rfl
theorem own_Dwr {s t : St} {V : Nat → Int} (h : own_D s t V) {i : Int32} {k : Nat} (hi : i.toInt = k) (hk : k < 272) {x : Int32} {y : Int} (hx : x.toInt = y) (hy : 0 ≤ y ∧ y < 257) : ∃ t', wrA t 0 i x = some t' ∧ own_D s t' (Jvm.Own.upd V k y) := by
  refine ⟨_, wrA_of x hi (by rw [h.2.1]; exact hk), ?_, ?_, fun j hj => ?_, fun j hj => ?_⟩
  · show sA t 0 ((gA t 0).set k x) = sA s 0 ((gA t 0).set k x)
    conv => lhs; rw [h.1]
    rw [sA_sA]; rfl
  · show ((gA t 0).set k x).length = 272; rw [set_len]; exact h.2.1
  · show (((gA t 0).set k x).getD j 0).toInt = _
    unfold Jvm.Own.upd
    by_cases c : j = k
    · subst c
      rw [if_pos rfl, List.getD_eq_getElem?_getD, get_set_self x (by rw [h.2.1]; exact hj)]; exact hx
    · rw [if_neg c, List.getD_eq_getElem?_getD, get_set_ne x (Ne.symm c), ← List.getD_eq_getElem?_getD]; exact h.2.2.1 j hj
  · unfold Jvm.Own.upd
    by_cases c : j = k
    · rw [if_pos c]; exact hy
    · rw [if_neg c]; exact h.2.2.2 j hj
theorem own_DT {s t : St} {V : Nat → Int} (h : own_D s t V) (j : Nat) (hj : j ≠ 0) : gA t j = gA s j := by
  conv => lhs; rw [h.1]
  rw [gA_sA, if_neg hj]
theorem own_emod {x : Int} (h : 0 ≤ x) : x.tmod 257 = x % 257 := Int.tmod_eq_emod_of_nonneg h
theorem own_c257 : (257 : Int32).toInt = 257 := rfl
theorem own_mm {x y : Int32} {a b : Int} (hx : x.toInt = a) (hy : y.toInt = b) (ha : 0 ≤ a ∧ a < 257) (hb : 0 ≤ b ∧ b < 257) : ((x * y) % 257).toInt = (a * b) % 257 := by
  have h0 : 0 ≤ a * b := Int.mul_nonneg ha.1 hb.1
  have h1 : a * b ≤ 256 * 256 := Int.mul_le_mul (by omega) (by omega) hb.1 (by decide)
  rw [Int32.toInt_mod, x32_mul (by rw [hx, hy]; omega) (by rw [hx, hy]; omega), hx, hy, own_c257, own_emod h0]
theorem own_am {x y : Int32} {a b : Int} (hx : x.toInt = a) (hy : y.toInt = b) (ha : 0 ≤ a ∧ a < 257) (hb : 0 ≤ b ∧ b < 257) : ((x + y) % 257).toInt = (a + b) % 257 := by
  rw [Int32.toInt_mod, x32_add (by rw [hx, hy]; omega) (by rw [hx, hy]; omega), hx, hy, own_c257, own_emod (by omega)]
theorem own_sm {x y : Int32} {a b : Int} (hx : x.toInt = a) (hy : y.toInt = b) (ha : 0 ≤ a ∧ a < 257) (hb : 0 ≤ b ∧ b < 257) : (((x - y) + 257) % 257).toInt = (a - b + 257) % 257 := by
  have e : (x - y).toInt = a - b := by rw [x32_sub (by rw [hx, hy]; omega) (by rw [hx, hy]; omega), hx, hy]
  rw [Int32.toInt_mod, x32_add (by rw [e, own_c257]; omega) (by rw [e, own_c257]; omega), e, own_c257, own_emod (by omega)]
theorem own_rg (x : Int) : 0 ≤ x % 257 ∧ x % 257 < 257 := ⟨Int.emod_nonneg _ (by decide), Int.emod_lt_of_pos _ (by decide)⟩
def own_it (f : Nat → (Nat → Int) → Nat → Int) : Nat → (Nat → Int) → Nat → Int
  | 0, V => V
  | n + 1, V => f n (own_it f n V)
def own_cp (a b i : Nat) (V : Nat → Int) : Nat → Int := Jvm.Own.upd V (b + i) (V (a + i))
def own_sc (b i : Nat) (V : Nat → Int) : Nat → Int := Jvm.Own.upd V (b + i) ((V (b + i) * own_Tn i) % 257)
def own_iv (b i : Nat) (V : Nat → Int) : Nat → Int := Jvm.Own.upd V (b + i) ((((V (b + i) * own_Tn ((32 - i) % 32)) % 257) * 241) % 257)
def own_br (b i : Nat) (V : Nat → Int) : Nat → Int := if i < own_rv i then Jvm.Own.upd (Jvm.Own.upd V (b + i) (V (b + own_rv i))) (b + own_rv i) (V (b + i)) else V
def own_ml (a b i : Nat) (V : Nat → Int) : Nat → Int := Jvm.Own.upd V (a + i) ((V (a + i) * V (b + i)) % 257)
def own_a (l i : Nat) : Nat := i / (l / 2) * l + i % (l / 2)
def own_w (inv l i : Nat) : Nat := if inv = 0 then (i % (l / 2)) * (32 / l) else (32 - (i % (l / 2)) * (32 / l)) % 32
def own_bt (inv b l i : Nat) (V : Nat → Int) : Nat → Int :=
  Jvm.Own.upd (Jvm.Own.upd V (b + own_a l i) ((V (b + own_a l i) + (V (b + own_a l i + l / 2) * own_Tn (own_w inv l i)) % 257) % 257)) (b + own_a l i + l / 2) ((V (b + own_a l i) - (V (b + own_a l i + l / 2) * own_Tn (own_w inv l i)) % 257 + 257) % 257)
theorem own_Tb : ∀ k : Fin 32, 0 ≤ own_Tn k.val ∧ own_Tn k.val < 257 := by decide +kernel
theorem own_Trd {s : St} (h : gA s 1 = own_T) {i : Int32} {k : Nat} (hi : i.toInt = k) (hk : k < 32) : ∃ x : Int32, rd (gA s 1) i = some x ∧ x.toInt = own_Tn k := by
  have hx : own_T[k]? = some (own_T[k]'(by show k < 32; exact hk)) := List.getElem?_eq_getElem _
  refine ⟨_, rd_of hi (by rw [h]; exact hx), ?_⟩
  unfold own_Tn
  rw [List.getD_eq_getElem?_getD, hx]; rfl
theorem own_ofa (a i : Nat) (h : a + i < 2147483648) : (Int32.ofNat a + Int32.ofNat i).toInt = ((a + i : Nat) : Int) := by
  rw [← Int32.ofNat_add]; exact ofN_int h
/-- copy of a block -/
theorem own_copy {s t : St} {V : Nat → Int} (h : own_D s t V) (p q : Nat) (vp vq : Int32) (hp : p ≤ 256) (hq : q ≤ 256) (ep : vp * 16 = Int32.ofNat p) (eq : vq * 16 = Int32.ofNat q) : ∃ t', own_D s t' (own_it (own_cp p q) 16 V) ∧ Ev (fun n => f_copy n vp vq t) t' := by
  obtain ⟨t', h1, h2⟩ := loop_up (F := fun n v t => f_copy_14 n (Int32.ofNat p) (Int32.ofNat q) v t) (E := fun _ t => some t) (N := 16) (fun i t => own_D s t (own_it (own_cp p q) i V)) (fun i t hi h => by
    obtain ⟨x, r1, r2⟩ := own_Drd h (own_ofa p i (by omega)) (by omega)
    obtain ⟨t', w1, w2⟩ := own_Dwr h (own_ofa q i (by omega)) (by omega) r2 (h.2.2.2 _ (by omega))
    refine ⟨t', w2, fun n => ?_⟩
    show g_copy_14 (f_copy_14 n) n _ _ _ _ = _
    unfold g_copy_14 lt
    rw [if_pos ((ofN_ltL (by omega) (by decide)).mpr hi), r1, Option.bind_some, w1, Option.bind_some, ofN_succ]) (fun t h n => by
    show g_copy_14 (f_copy_14 n) n _ _ _ _ = _
    unfold g_copy_14
    rw [if_neg (by decide)]) 16 0 t rfl h
  refine ⟨t', h1, Ev.congr (fun n => ?_) (h2 t' (Ev.const rfl))⟩
  unfold f_copy lt
  rw [ep, eq]; rfl
theorem own_rv16 : ∀ k : Fin 16, own_rv k.val < 16 ∧ (own_Rv.getD k.val 0).toInt = (own_rv k.val : Int) := by decide +kernel
theorem own_brev {s t : St} {V : Nat → Int} (hR : gA s 2 = own_Rv) (h : own_D s t V) (b : Nat) (vp : Int32) (hb : b ≤ 256) (ep : vp * 16 = Int32.ofNat b) : ∃ t', own_D s t' (own_it (own_br b) 16 V) ∧ Ev (fun n => f_bitReverse n vp t) t' := by
  obtain ⟨t', h1, h2⟩ := loop_up (F := fun n v t => f_bitReverse_7 n (Int32.ofNat b) v t) (E := fun _ t => some t) (N := 16) (fun i t => own_D s t (own_it (own_br b) i V)) (fun i t hi h => by
    obtain ⟨q1, q2⟩ := own_rv16 ⟨i, hi⟩
    have q1 : own_rv i < 16 := q1
    have q2 : (own_Rv.getD i 0).toInt = (own_rv i : Int) := q2
    have er : own_Rv.getD i 0 = Int32.ofNat (own_rv i) := ofN_of q2
    have hx : own_Rv[i]? = some (own_Rv.getD i 0) := by
      have : own_Rv[i]? = some (own_Rv[i]'(by show i < 16; exact hi)) := List.getElem?_eq_getElem _
      rw [List.getD_eq_getElem?_getD, this]; rfl
    have r0 : rd (gA t 2) (Int32.ofNat i) = some (Int32.ofNat (own_rv i)) := by
      rw [own_DT h 2 (by decide), hR, ← er]; exact rd_at (by omega) hx
    by_cases c : i < own_rv i
    · obtain ⟨x, a1, a2⟩ := own_Drd h (own_ofa b i (by omega)) (by omega)
      obtain ⟨y, b1, b2⟩ := own_Drd h (own_ofa b (own_rv i) (by omega)) (by omega)
      obtain ⟨t1, w1, w2⟩ := own_Dwr h (own_ofa b i (by omega)) (by omega) b2 (h.2.2.2 _ (by omega))
      obtain ⟨t2, w3, w4⟩ := own_Dwr w2 (own_ofa b (own_rv i) (by omega)) (by omega) a2 (h.2.2.2 _ (by omega))
      refine ⟨t2, ?_, fun n => ?_⟩
      · show own_D s t2 (own_br b i (own_it (own_br b) i V))
        unfold own_br; rw [if_pos c]; exact w4
      · show g_bitReverse_7 (f_bitReverse_7 n) n _ _ _ = _
        unfold g_bitReverse_7 f_bitReverse_65 lt
        rw [if_pos ((ofN_ltL (by omega) (by decide)).mpr hi), r0, Option.bind_some, if_pos ((ofN_lt (by omega) (by omega)).mpr c), a1, Option.bind_some, b1, Option.bind_some, w1, Option.bind_some, w3, Option.bind_some, ofN_succ]
    · refine ⟨t, ?_, fun n => ?_⟩
      · show own_D s t (own_br b i (own_it (own_br b) i V))
        unfold own_br; rw [if_neg c]; exact h
      · show g_bitReverse_7 (f_bitReverse_7 n) n _ _ _ = _
        unfold g_bitReverse_7 f_bitReverse_65 lt
        rw [if_pos ((ofN_ltL (by omega) (by decide)).mpr hi), r0, Option.bind_some, if_neg (fun q => c ((ofN_lt (by omega) (by omega)).mp q)), ofN_succ]) (fun t h n => by
    show g_bitReverse_7 (f_bitReverse_7 n) n _ _ _ = _
    unfold g_bitReverse_7
    rw [if_neg (by decide)]) 16 0 t rfl h
  refine ⟨t', h1, Ev.congr (fun n => ?_) (h2 t' (Ev.const rfl))⟩
  unfold f_bitReverse lt
  rw [ep]; rfl
/-- the indices of a butterfly, by trying all -/
theorem own_ix : ∀ i : Fin 8, ∀ l ∈ [(2 : Nat), 4, 8, 16], ∀ b ∈ [(240 : Nat), 256],
    ((Int32.ofNat b + (Int32.ofNat i.val / Int32.ofNat (l / 2)) * Int32.ofNat l) + (Int32.ofNat i.val - (Int32.ofNat i.val / Int32.ofNat (l / 2)) * Int32.ofNat (l / 2))).toInt = ((b + own_a l i.val : Nat) : Int)
    ∧ (((Int32.ofNat b + (Int32.ofNat i.val / Int32.ofNat (l / 2)) * Int32.ofNat l) + (Int32.ofNat i.val - (Int32.ofNat i.val / Int32.ofNat (l / 2)) * Int32.ofNat (l / 2))) + Int32.ofNat (l / 2)).toInt = ((b + own_a l i.val + l / 2 : Nat) : Int)
    ∧ ((Int32.ofNat i.val - (Int32.ofNat i.val / Int32.ofNat (l / 2)) * Int32.ofNat (l / 2)) * Int32.ofNat (32 / l)).toInt = (own_w 0 l i.val : Int)
    ∧ (((32 : Int32) - (Int32.ofNat i.val - (Int32.ofNat i.val / Int32.ofNat (l / 2)) * Int32.ofNat (l / 2)) * Int32.ofNat (32 / l)) &&& 31).toInt = (own_w 1 l i.val : Int)
    ∧ b + own_a l i.val + l / 2 < 272 ∧ own_w 0 l i.val < 32 ∧ own_w 1 l i.val < 32 := by decide +kernel
theorem own_bfly {s t : St} {V : Nat → Int} (hT : gA s 1 = own_T) (h : own_D s t V) {a c w : Nat} {x5 x6 x7 : Int32} (h5 : x5.toInt = a) (h6 : x6.toInt = c) (h7 : x7.toInt = w) (ha : a < 272) (hc : c < 272) (hw : w < 32) (hac : a ≠ c) :
    ∃ t', own_D s t' (Jvm.Own.upd (Jvm.Own.upd V a ((V a + (V c * own_Tn w) % 257) % 257)) c ((V a - (V c * own_Tn w) % 257 + 257) % 257)) ∧ ∀ k8 k31 n v2 v3 v4 v5 v6 v7, f_butterflies_95 k8 k31 n v2 v3 v4 v5 v6 v7 x5 x6 x7 t = k31 v2 v3 v4 v5 v6 (v7 + 1) t' := by
  obtain ⟨x, a1, a2⟩ := own_Drd h h6 hc
  obtain ⟨y, b1, b2⟩ := own_Trd hT h7 hw
  obtain ⟨z, c1, c2⟩ := own_Drd h h5 ha
  have m := own_mm a2 b2 (h.2.2.2 _ hc) (own_Tb ⟨w, hw⟩)
  obtain ⟨t1, w1, w2⟩ := own_Dwr h h5 ha (own_am c2 m (h.2.2.2 _ ha) (own_rg _)) (own_rg _)
  obtain ⟨t2, w3, w4⟩ := own_Dwr w2 h6 hc (own_sm c2 m (h.2.2.2 _ ha) (own_rg _)) (own_rg _)
  refine ⟨t2, w4, fun k8 k31 n v2 v3 v4 v5 v6 v7 => ?_⟩
  unfold f_butterflies_95 lt
  rw [a1, Option.bind_some, own_DT h 1 (by decide), b1, Option.bind_some]
  dsimp only
  rw [c1, Option.bind_some, w1, Option.bind_some, w3, Option.bind_some]
theorem own_stage {s : St} (hT : gA s 1 = own_T) (inv l b : Nat) (hinv : inv = 0 ∨ inv = 1) (hl : l ∈ [(2 : Nat), 4, 8, 16]) (hb : b ∈ [(240 : Nat), 256]) : ∀ (j i : Nat) (t : St) (V : Nat → Int), i + j = 8 → own_D s t (own_it (own_bt inv b l) i V) →
    ∃ t', own_D s t' (own_it (own_bt inv b l) 8 V) ∧ ∀ k8 n, f_butterflies_31 k8 (n + j + 1) (Int32.ofNat inv) (Int32.ofNat b) (Int32.ofNat l) (Int32.ofNat (l / 2)) (Int32.ofNat (32 / l)) (Int32.ofNat i) t = k8 (Int32.ofNat inv) (Int32.ofNat b) (Int32.ofNat l <<< ((1 : Int32) &&& 31)) t'
  | 0, i, t, V, hi, h => by
    have : i = 8 := by omega
    subst this
    refine ⟨t, h, fun k8 n => ?_⟩
    show g_butterflies_31 k8 (f_butterflies_31 k8 n) n _ _ _ _ _ _ _ = _
    unfold g_butterflies_31
    rw [if_neg (by decide)]; rfl
  | j + 1, i, t, V, hi, h => by
    have hi8 : i < 8 := by omega
    obtain ⟨e5, e6, e7, e8, f1, f2, f3⟩ := own_ix ⟨i, hi8⟩ l hl b hb
    have hl2 : 0 < l / 2 := by
      simp only [List.mem_cons, List.not_mem_nil, or_false] at hl
      omega
    have h5 : ¬ Int32.ofNat (l / 2) = 0 := by
      simp only [List.mem_cons, List.not_mem_nil, or_false] at hl
      rcases hl with rfl | rfl | rfl | rfl <;> decide
    have turn : ∃ t', own_D s t' (own_it (own_bt inv b l) (i + 1) V) ∧ ∀ k8 n, f_butterflies_31 k8 (n + 1) (Int32.ofNat inv) (Int32.ofNat b) (Int32.ofNat l) (Int32.ofNat (l / 2)) (Int32.ofNat (32 / l)) (Int32.ofNat i) t = f_butterflies_31 k8 n (Int32.ofNat inv) (Int32.ofNat b) (Int32.ofNat l) (Int32.ofNat (l / 2)) (Int32.ofNat (32 / l)) (Int32.ofNat (i + 1)) t' := by
      rcases hinv with rfl | rfl
      · obtain ⟨t', g1, g2⟩ := own_bfly hT h e5 e6 e7 (by omega) f1 f2 (by omega)
        refine ⟨t', g1, fun k8 n => ?_⟩
        show g_butterflies_31 k8 (f_butterflies_31 k8 n) n _ _ _ _ _ _ _ = _
        unfold g_butterflies_31 lt
        rw [if_pos ((ofN_ltL (by omega) (by decide)).mpr hi8), if_neg h5]
        dsimp only
        rw [if_pos (by decide)]
        refine (g2 k8 (f_butterflies_31 k8 n) n _ _ _ _ _ _).trans ?_
        rw [ofN_succ]
      · obtain ⟨t', g1, g2⟩ := own_bfly hT h e5 e6 e8 (by omega) f1 f3 (by omega)
        refine ⟨t', g1, fun k8 n => ?_⟩
        show g_butterflies_31 k8 (f_butterflies_31 k8 n) n _ _ _ _ _ _ _ = _
        unfold g_butterflies_31 lt
        rw [if_pos ((ofN_ltL (by omega) (by decide)).mpr hi8), if_neg h5]
        dsimp only
        rw [if_neg (by decide)]
        refine (g2 k8 (f_butterflies_31 k8 n) n _ _ _ _ _ _).trans ?_
        rw [ofN_succ]
    obtain ⟨t1, g1, g2⟩ := turn
    obtain ⟨t2, g3, g4⟩ := own_stage hT inv l b hinv hl hb j (i + 1) t1 V (by omega) g1
    refine ⟨t2, g3, fun k8 n => ?_⟩
    rw [show n + (j + 1) + 1 = (n + j + 1) + 1 from by omega, g2, g4]
theorem own_stage0 {s t : St} {V : Nat → Int} (hT : gA s 1 = own_T) (h : own_D s t V) (inv l b : Nat) (hinv : inv = 0 ∨ inv = 1) (hl : l ∈ [(2 : Nat), 4, 8, 16]) (hb : b ∈ [(240 : Nat), 256]) :
    ∃ t', own_D s t' (own_it (own_bt inv b l) 8 V) ∧ ∀ k8 n, f_butterflies_31 k8 (n + 8 + 1) (Int32.ofNat inv) (Int32.ofNat b) (Int32.ofNat l) (Int32.ofNat (l / 2)) (Int32.ofNat (32 / l)) 0 t = k8 (Int32.ofNat inv) (Int32.ofNat b) (Int32.ofNat l <<< ((1 : Int32) &&& 31)) t' := own_stage hT inv l b hinv hl hb 8 0 t V rfl h
theorem own_sh : ∀ l ∈ [(2 : Nat), 4, 8, 16], ¬ (16 : Int32) < Int32.ofNat l ∧ ¬ Int32.ofNat l = 0 ∧ Int32.ofNat l >>> ((1 : Int32) &&& 31) = Int32.ofNat (l / 2) ∧ (32 : Int32) / Int32.ofNat l = Int32.ofNat (32 / l) ∧ Int32.ofNat l <<< ((1 : Int32) &&& 31) = Int32.ofNat (2 * l) := by decide +kernel
theorem own_step (vi vb : Int32) (k l : Nat) (t t' : St) (hl : l ∈ [(2 : Nat), 4, 8, 16]) (hk : 9 ≤ k) (hs : ∀ k8 n, f_butterflies_31 k8 (n + 8 + 1) vi vb (Int32.ofNat l) (Int32.ofNat (l / 2)) (Int32.ofNat (32 / l)) 0 t = k8 vi vb (Int32.ofNat l <<< ((1 : Int32) &&& 31)) t') : f_butterflies_8 (k + 1) vi vb (Int32.ofNat l) t = f_butterflies_8 k vi vb (Int32.ofNat (2 * l)) t' := by
  obtain ⟨q1, q2, q3, q4, q5⟩ := own_sh l hl
  obtain ⟨q, rfl⟩ : ∃ q, k = q + 8 + 1 := ⟨k - 9, by omega⟩
  have e := hs (f_butterflies_8 (q + 8 + 1)) q
  rw [q5] at e
  show g_butterflies_8 (f_butterflies_8 (q + 8 + 1)) (q + 8 + 1) _ _ _ _ = _
  unfold g_butterflies_8 lt
  rw [if_neg q1]
  dsimp only
  rw [if_neg q2, q3, q4]
  exact e
theorem own_step2 (vi vb v v2 : Int32) (k k' l : Nat) (t t' : St) (ek : k' = k + 1) (ev : v = Int32.ofNat l) (ev2 : v2 = Int32.ofNat (2 * l)) (hl : l ∈ [(2 : Nat), 4, 8, 16]) (hk : 9 ≤ k) (hs : ∀ k8 n, f_butterflies_31 k8 (n + 8 + 1) vi vb (Int32.ofNat l) (Int32.ofNat (l / 2)) (Int32.ofNat (32 / l)) 0 t = k8 vi vb (Int32.ofNat l <<< ((1 : Int32) &&& 31)) t') : f_butterflies_8 k' vi vb v t = f_butterflies_8 k vi vb v2 t' := by
  subst ek ev ev2; exact own_step vi vb k l t t' hl hk hs
theorem own_last (vi vb : Int32) (k : Nat) (t : St) : f_butterflies_8 (k + 1) vi vb 32 t = some t := by
  show g_butterflies_8 (f_butterflies_8 k) k _ _ _ _ = _
  unfold g_butterflies_8
  rw [if_pos (by decide)]
theorem own_four (vi vb : Int32) (m : Nat) (t t1 t2 t3 t4 : St) (b1 : ∀ k8 n, f_butterflies_31 k8 (n + 8 + 1) vi vb (Int32.ofNat 2) (Int32.ofNat (2 / 2)) (Int32.ofNat (32 / 2)) 0 t = k8 vi vb (Int32.ofNat 2 <<< ((1 : Int32) &&& 31)) t1) (b2 : ∀ k8 n, f_butterflies_31 k8 (n + 8 + 1) vi vb (Int32.ofNat 4) (Int32.ofNat (4 / 2)) (Int32.ofNat (32 / 4)) 0 t1 = k8 vi vb (Int32.ofNat 4 <<< ((1 : Int32) &&& 31)) t2) (b3 : ∀ k8 n, f_butterflies_31 k8 (n + 8 + 1) vi vb (Int32.ofNat 8) (Int32.ofNat (8 / 2)) (Int32.ofNat (32 / 8)) 0 t2 = k8 vi vb (Int32.ofNat 8 <<< ((1 : Int32) &&& 31)) t3) (b4 : ∀ k8 n, f_butterflies_31 k8 (n + 8 + 1) vi vb (Int32.ofNat 16) (Int32.ofNat (16 / 2)) (Int32.ofNat (32 / 16)) 0 t3 = k8 vi vb (Int32.ofNat 16 <<< ((1 : Int32) &&& 31)) t4) : f_butterflies_8 (m + 14) vi vb 2 t = some t4 := by
  have c1 := own_step2 vi vb 2 4 (m + 13) (m + 14) 2 t t1 (by omega) (by decide) (by decide) (by decide) (by omega) b1
  have c2 := own_step2 vi vb 4 8 (m + 12) (m + 13) 4 t1 t2 (by omega) (by decide) (by decide) (by decide) (by omega) b2
  have c3 := own_step2 vi vb 8 16 (m + 11) (m + 12) 8 t2 t3 (by omega) (by decide) (by decide) (by decide) (by omega) b3
  have c4 := own_step2 vi vb 16 32 (m + 10) (m + 11) 16 t3 t4 (by omega) (by decide) (by decide) (by decide) (by omega) b4
  rw [c1, c2, c3, c4]
  exact own_last vi vb (m + 9) t4
theorem own_fourE (vi vb vp : Int32) (t t1 t2 t3 t4 : St) (ep : vp * 16 = vb) (b1 : ∀ k8 n, f_butterflies_31 k8 (n + 8 + 1) vi vb (Int32.ofNat 2) (Int32.ofNat (2 / 2)) (Int32.ofNat (32 / 2)) 0 t = k8 vi vb (Int32.ofNat 2 <<< ((1 : Int32) &&& 31)) t1) (b2 : ∀ k8 n, f_butterflies_31 k8 (n + 8 + 1) vi vb (Int32.ofNat 4) (Int32.ofNat (4 / 2)) (Int32.ofNat (32 / 4)) 0 t1 = k8 vi vb (Int32.ofNat 4 <<< ((1 : Int32) &&& 31)) t2) (b3 : ∀ k8 n, f_butterflies_31 k8 (n + 8 + 1) vi vb (Int32.ofNat 8) (Int32.ofNat (8 / 2)) (Int32.ofNat (32 / 8)) 0 t2 = k8 vi vb (Int32.ofNat 8 <<< ((1 : Int32) &&& 31)) t3) (b4 : ∀ k8 n, f_butterflies_31 k8 (n + 8 + 1) vi vb (Int32.ofNat 16) (Int32.ofNat (16 / 2)) (Int32.ofNat (32 / 16)) 0 t3 = k8 vi vb (Int32.ofNat 16 <<< ((1 : Int32) &&& 31)) t4) : Ev (fun n => f_butterflies n vp vi t) t4 := by
  have key : ∀ n, 14 ≤ n → f_butterflies_8 n vi vb 2 t = some t4 := fun n hn => by
    obtain ⟨m, e⟩ : ∃ m, n = m + 14 := ⟨n - 14, by omega⟩
    have := own_four vi vb m t t1 t2 t3 t4 b1 b2 b3 b4
    rw [← e] at this; exact this
  have un : ∀ n, f_butterflies n vp vi t = f_butterflies_8 n vi (vp * 16) 2 t := fun n => rfl
  exact ⟨14, fun n hn => by
    show f_butterflies n vp vi t = some t4
    rw [un, ep]; exact key n hn⟩
def own_bfs (inv b : Nat) (V : Nat → Int) : Nat → Int := own_it (own_bt inv b 16) 8 (own_it (own_bt inv b 8) 8 (own_it (own_bt inv b 4) 8 (own_it (own_bt inv b 2) 8 V)))
theorem own_bflies {s t : St} {V : Nat → Int} (hT : gA s 1 = own_T) (h : own_D s t V) (inv b : Nat) (vp : Int32) (hinv : inv = 0 ∨ inv = 1) (hb : b ∈ [(240 : Nat), 256]) (ep : vp * 16 = Int32.ofNat b) : ∃ t', own_D s t' (own_bfs inv b V) ∧ Ev (fun n => f_butterflies n vp (Int32.ofNat inv) t) t' := by
  obtain ⟨t1, a1, b1⟩ := own_stage0 hT h inv 2 b hinv (by decide) hb
  obtain ⟨t2, a2, b2⟩ := own_stage0 hT a1 inv 4 b hinv (by decide) hb
  obtain ⟨t3, a3, b3⟩ := own_stage0 hT a2 inv 8 b hinv (by decide) hb
  obtain ⟨t4, a4, b4⟩ := own_stage0 hT a3 inv 16 b hinv (by decide) hb
  unfold own_bfs
  exact ⟨t4, a4, own_fourE (Int32.ofNat inv) (Int32.ofNat b) vp t t1 t2 t3 t4 ep b1 b2 b3 b4⟩
def own_fw (b : Nat) (V : Nat → Int) : Nat → Int := own_bfs 0 b (own_it (own_br b) 16 (own_it (own_sc b) 16 V))
theorem own_fwd {s t : St} {V : Nat → Int} (hT : gA s 1 = own_T) (hR : gA s 2 = own_Rv) (h : own_D s t V) (b : Nat) (vp : Int32) (hb : b ∈ [(240 : Nat), 256]) (ep : vp * 16 = Int32.ofNat b) : ∃ t', own_D s t' (own_fw b V) ∧ Ev (fun n => f_forward n vp t) t' := by
  have hb' : b ≤ 256 := by simp only [List.mem_cons, List.not_mem_nil, or_false] at hb; omega
  obtain ⟨t1, h1, h2⟩ := loop_up (F := fun n v t => f_forward_7 n vp (Int32.ofNat b) v t) (E := fun n t => (f_bitReverse n vp t).bind fun c6 => (f_butterflies n vp 0 c6).bind fun c7 => some c7) (N := 16) (fun i t => own_D s t (own_it (own_sc b) i V)) (fun i t hi h => by
    obtain ⟨x, r1, r2⟩ := own_Drd h (own_ofa b i (by omega)) (by omega)
    obtain ⟨y, b1, b2⟩ := own_Trd hT (ofN_int (k := i) (by omega)) (by omega)
    obtain ⟨t', w1, w2⟩ := own_Dwr h (own_ofa b i (by omega)) (by omega) (own_mm r2 b2 (h.2.2.2 _ (by omega)) (own_Tb ⟨i, by omega⟩)) (own_rg _)
    refine ⟨t', w2, fun n => ?_⟩
    show g_forward_7 (f_forward_7 n) n _ _ _ _ = _
    unfold g_forward_7 lt
    rw [if_pos ((ofN_ltL (by omega) (by decide)).mpr hi), r1, Option.bind_some, own_DT h 1 (by decide), b1, Option.bind_some, w1, Option.bind_some, ofN_succ]) (fun t h n => by
    show g_forward_7 (f_forward_7 n) n _ _ _ _ = _
    unfold g_forward_7
    rw [if_neg (by decide)]) 16 0 t rfl h
  obtain ⟨t2, h3, h4⟩ := own_brev hR h1 b vp hb' ep
  obtain ⟨t3, h5, h6⟩ := own_bflies hT h3 0 b vp (Or.inl rfl) hb ep
  refine ⟨t3, h5, Ev.congr (fun n => ?_) (h2 t3 (Ev.bind h4 (Ev.bind h6 (Ev.const rfl))))⟩
  unfold f_forward lt
  rw [ep]; rfl
def own_in (b : Nat) (V : Nat → Int) : Nat → Int := own_it (own_iv b) 16 (own_bfs 1 b (own_it (own_br b) 16 V))
theorem own_t32 : ∀ i : Fin 16, (((32 : Int32) - Int32.ofNat i.val) &&& 31).toInt = (((32 - i.val) % 32 : Nat) : Int) ∧ (32 - i.val) % 32 < 32 := by decide +kernel
theorem own_ivl {s t : St} {V : Nat → Int} (hT : gA s 1 = own_T) (h : own_D s t V) : ∃ t', own_D s t' (own_it (own_iv 240) 16 V) ∧ Ev (fun n => f_inverse_18 n (Int32.ofNat 240) 0 t) t' := by
  obtain ⟨t3, h5, h6⟩ := loop_up (F := fun n v t => f_inverse_18 n (Int32.ofNat 240) v t) (E := fun _ t => some t) (N := 16) (fun i t => own_D s t (own_it (own_iv 240) i V)) (fun i t hi h => by
    obtain ⟨x, r1, r2⟩ := own_Drd h (own_ofa 240 i (by omega)) (by omega)
    obtain ⟨e1, e2⟩ := own_t32 ⟨i, hi⟩
    obtain ⟨y, b1, b2⟩ := own_Trd hT e1 e2
    have m := own_mm r2 b2 (h.2.2.2 _ (by omega)) (own_Tb ⟨_, e2⟩)
    obtain ⟨t', w1, w2⟩ := own_Dwr h (own_ofa 240 i (by omega)) (by omega) (own_mm (y := 241) m rfl (own_rg _) (by decide)) (own_rg _)
    refine ⟨t', w2, fun n => ?_⟩
    show g_inverse_18 (f_inverse_18 n) n _ _ _ = _
    unfold g_inverse_18 lt
    rw [if_pos ((ofN_ltL (by omega) (by decide)).mpr hi), r1, Option.bind_some, own_DT h 1 (by decide), b1, Option.bind_some]
    dsimp only
    rw [w1, Option.bind_some, ofN_succ]) (fun t h n => by
    show g_inverse_18 (f_inverse_18 n) n _ _ _ = _
    unfold g_inverse_18
    rw [if_neg (by decide)]) 16 0 t rfl h
  exact ⟨t3, h5, h6 t3 (Ev.const rfl)⟩
theorem own_inv {s t : St} {V : Nat → Int} (hT : gA s 1 = own_T) (hR : gA s 2 = own_Rv) (h : own_D s t V) : ∃ t', own_D s t' (own_in 240 V) ∧ Ev (fun n => f_inverse n 15 t) t' := by
  obtain ⟨t1, h1, h2⟩ := own_brev hR h 240 15 (by decide) (by decide)
  obtain ⟨t2, h3, h4⟩ := own_bflies hT h1 1 240 15 (Or.inr rfl) (by decide) (by decide)
  obtain ⟨t3, h5, e6⟩ := own_ivl hT h3
  refine ⟨t3, h5, ?_⟩
  unfold f_inverse lt
  rw [show (15 : Int32) * 16 = Int32.ofNat 240 from by decide]
  exact Ev.bind h2 (Ev.bind h4 e6)
def own_mul (V : Nat → Int) : Nat → Int := own_it (own_cp 240 32) 16 (own_in 240 (own_it (own_ml 240 256) 16 (own_fw 256 (own_fw 240 (own_it (own_cp 16 256) 16 (own_it (own_cp 0 240) 16 V))))))
theorem own_mll {s t : St} {V : Nat → Int} (h : own_D s t V) : ∃ t', own_D s t' (own_it (own_ml 240 256) 16 V) ∧ ∀ r, Ev (fun n => (f_inverse n 15 t').bind fun c6 => (f_copy n 15 2 c6).bind fun c7 => some c7) r → Ev (fun n => f_mul_39 n 2 240 256 0 t) r := by
  obtain ⟨t5, a5, b5⟩ := loop_up (F := fun n v t => f_mul_39 n 2 (Int32.ofNat 240) (Int32.ofNat 256) v t) (E := fun n t => (f_inverse n 15 t).bind fun c6 => (f_copy n 15 2 c6).bind fun c7 => some c7) (N := 16) (fun i t => own_D s t (own_it (own_ml 240 256) i V)) (fun i t hi h => by
    obtain ⟨x, r1, r2⟩ := own_Drd h (own_ofa 240 i (by omega)) (by omega)
    obtain ⟨y, b1, b2⟩ := own_Drd h (own_ofa 256 i (by omega)) (by omega)
    obtain ⟨t', w1, w2⟩ := own_Dwr h (own_ofa 240 i (by omega)) (by omega) (own_mm r2 b2 (h.2.2.2 _ (by omega)) (h.2.2.2 _ (by omega))) (own_rg _)
    refine ⟨t', w2, fun n => ?_⟩
    show g_mul_39 (f_mul_39 n) n _ _ _ _ _ = _
    unfold g_mul_39 lt
    rw [if_pos ((ofN_ltL (by omega) (by decide)).mpr hi), r1, Option.bind_some, b1, Option.bind_some, w1, Option.bind_some, ofN_succ]) (fun t h n => by
    show g_mul_39 (f_mul_39 n) n _ _ _ _ _ = _
    unfold g_mul_39
    rw [if_neg (by decide)]) 16 0 t rfl h
  exact ⟨t5, a5, b5⟩
/-- what multiply computes, cell by cell -/
theorem own_multiply {s t : St} {V : Nat → Int} (hT : gA s 1 = own_T) (hR : gA s 2 = own_Rv) (h : own_D s t V) : ∃ t', own_D s t' (own_mul V) ∧ Ev (fun n => f_multiply n t) t' := by
  obtain ⟨t1, a1, b1⟩ := own_copy h 0 240 0 15 (by decide) (by decide) (by decide) (by decide)
  obtain ⟨t2, a2, b2⟩ := own_copy a1 16 256 1 16 (by decide) (by decide) (by decide) (by decide)
  obtain ⟨t3, a3, b3⟩ := own_fwd hT hR a2 240 15 (by decide) (by decide)
  obtain ⟨t4, a4, b4⟩ := own_fwd hT hR a3 256 16 (by decide) (by decide)
  obtain ⟨t5, a5, b5⟩ := own_mll a4
  obtain ⟨t6, a6, b6⟩ := own_inv hT hR a5
  obtain ⟨t7, a7, b7⟩ := own_copy a6 240 32 15 2 (by decide) (by decide) (by decide) (by decide)
  refine ⟨t7, a7, ?_⟩
  unfold f_multiply f_mul
  exact Ev.bind (Ev.bind b1 (Ev.bind b2 (Ev.bind b3 (Ev.bind b4 (b5 t7 (Ev.bind b6 (Ev.bind b7 (Ev.const rfl)))))))) (Ev.const rfl)

def own_sum : Nat → (Nat → Int) → Int
  | 0, _ => 0
  | n + 1, f => own_sum n f + f n
theorem own_sum_add (n : Nat) (f g : Nat → Int) : own_sum n (fun i => f i + g i) = own_sum n f + own_sum n g := by
  induction n with
  | zero => rfl
  | succ n ih => show own_sum n (fun i => f i + g i) + (f n + g n) = (own_sum n f + f n) + (own_sum n g + g n); rw [ih]; omega
theorem own_sum_mul (n : Nat) (f : Nat → Int) (c : Int) : own_sum n (fun i => f i * c) = own_sum n f * c := by
  induction n with
  | zero => show (0 : Int) = 0 * c; rw [Int.zero_mul]
  | succ n ih => show own_sum n _ + _ = (own_sum n f + f n) * c; rw [ih, Int.add_mul]
theorem own_sum_congr {n : Nat} {f g : Nat → Int} (h : ∀ i, i < n → f i = g i) : own_sum n f = own_sum n g := by
  induction n with
  | zero => rfl
  | succ n ih => show own_sum n f + f n = own_sum n g + g n; rw [ih (fun i hi => h i (by omega)), h n (by omega)]
/-- the form r at the point x -/
def own_S (x r : Nat → Int) : Int := own_sum 16 (fun i => r i * x i)
theorem own_S_mul (x r : Nat → Int) (c : Int) : own_S x (fun j => r j * c) = own_S x r * c := by
  unfold own_S
  rw [← own_sum_mul]
  exact own_sum_congr fun i _ => by rw [Int.mul_assoc, Int.mul_comm c, Int.mul_assoc]
theorem own_S_add (x r q : Nat → Int) (c : Int) : own_S x (fun j => r j + q j * c) = own_S x r + own_S x q * c := by
  rw [← own_S_mul]
  unfold own_S
  rw [← own_sum_add]
  exact own_sum_congr fun i _ => by rw [Int.add_mul]
theorem own_S_sub (x r q : Nat → Int) (c : Int) : own_S x (fun j => r j - q j * c) = own_S x r - own_S x q * c := by
  have h := own_S_add x r q (-c)
  rw [show (fun j => r j - q j * c) = (fun j => r j + q j * -c) from funext fun j => by rw [Int.mul_neg]; omega, h, Int.mul_neg]; omega
theorem own_mm2 (p c : Int) : (p % 257 * c) % 257 = (p * c) % 257 := by
  rw [Int.mul_emod, Int.emod_emod_of_dvd _ (Int.dvd_refl 257), ← Int.mul_emod]
def own_Lin (x : Nat → Int) (b : Nat) (V : Nat → Int) (M : Nat → Nat → Int) : Prop := ∀ k, k < 16 → V (b + k) = own_S x (M k) % 257
def own_Fr (b : Nat) (V V' : Nat → Int) : Prop := ∀ k, (k < b ∨ b + 16 ≤ k) → V' k = V k
def own_itM (f : Nat → (Nat → Nat → Int) → Nat → Nat → Int) : Nat → (Nat → Nat → Int) → Nat → Nat → Int
  | 0, M => M
  | n + 1, M => f n (own_itM f n M)
def own_scM (i : Nat) (M : Nat → Nat → Int) : Nat → Nat → Int := Jvm.Own.upd M i (fun j => M i j * own_Tn i)
def own_ivM (i : Nat) (M : Nat → Nat → Int) : Nat → Nat → Int := Jvm.Own.upd M i (fun j => M i j * own_Tn ((32 - i) % 32) * 241)
def own_brM (i : Nat) (M : Nat → Nat → Int) : Nat → Nat → Int := if i < own_rv i then Jvm.Own.upd (Jvm.Own.upd M i (M (own_rv i))) (own_rv i) (M i) else M
def own_btM (inv l i : Nat) (M : Nat → Nat → Int) : Nat → Nat → Int :=
  Jvm.Own.upd (Jvm.Own.upd M (own_a l i) (fun j => M (own_a l i) j + M (own_a l i + l / 2) j * own_Tn (own_w inv l i))) (own_a l i + l / 2) (fun j => M (own_a l i) j - M (own_a l i + l / 2) j * own_Tn (own_w inv l i))
theorem own_itLin {x : Nat → Int} {b N : Nat} {f : Nat → (Nat → Int) → Nat → Int} {g : Nat → (Nat → Nat → Int) → Nat → Nat → Int} (h : ∀ i V M, i < N → own_Lin x b V M → own_Lin x b (f i V) (g i M)) {V : Nat → Int} {M : Nat → Nat → Int} (h0 : own_Lin x b V M) : ∀ n, n ≤ N → own_Lin x b (own_it f n V) (own_itM g n M)
  | 0, _ => h0
  | n + 1, hn => h n _ _ (by omega) (own_itLin h h0 n (by omega))
theorem own_itFr {b N : Nat} {f : Nat → (Nat → Int) → Nat → Int} (h : ∀ i V, i < N → own_Fr b V (f i V)) (V : Nat → Int) : ∀ n, n ≤ N → own_Fr b V (own_it f n V)
  | 0, _ => fun _ _ => rfl
  | n + 1, hn => fun k hk => (h n _ (by omega) k hk).trans (own_itFr h V n (by omega) k hk)
theorem own_scL {x : Nat → Int} {b : Nat} (i : Nat) (V : Nat → Int) (M : Nat → Nat → Int) (hi : i < 16) (h : own_Lin x b V M) : own_Lin x b (own_sc b i V) (own_scM i M) := fun k hk => by
  unfold own_sc own_scM Jvm.Own.upd
  by_cases c : k = i
  · subst c
    rw [if_pos rfl, if_pos rfl, h k hk, own_S_mul, own_mm2]
  · rw [if_neg (by omega), if_neg c]; exact h k hk
theorem own_scF (b i : Nat) (V : Nat → Int) (hi : i < 16) : own_Fr b V (own_sc b i V) := fun k hk => by
  unfold own_sc Jvm.Own.upd; rw [if_neg (by omega)]
theorem own_ivL {x : Nat → Int} {b : Nat} (i : Nat) (V : Nat → Int) (M : Nat → Nat → Int) (hi : i < 16) (h : own_Lin x b V M) : own_Lin x b (own_iv b i V) (own_ivM i M) := fun k hk => by
  unfold own_iv own_ivM Jvm.Own.upd
  by_cases c : k = i
  · subst c
    rw [if_pos rfl, if_pos rfl, h k hk, own_S_mul x (fun j => M k j * own_Tn ((32 - k) % 32)), own_S_mul, own_mm2, Int.mul_assoc, own_mm2, ← Int.mul_assoc]
  · rw [if_neg (by omega), if_neg c]; exact h k hk
theorem own_brL {x : Nat → Int} {b : Nat} (i : Nat) (V : Nat → Int) (M : Nat → Nat → Int) (hi : i < 16) (h : own_Lin x b V M) : own_Lin x b (own_br b i V) (own_brM i M) := fun k hk => by
  have hr : own_rv i < 16 := (own_rv16 ⟨i, hi⟩).1
  unfold own_br own_brM
  by_cases c : i < own_rv i
  · rw [if_pos c, if_pos c]
    unfold Jvm.Own.upd
    by_cases c1 : k = own_rv i
    · rw [if_pos (by omega), if_pos c1]; exact h i hi
    · rw [if_neg (by omega), if_neg c1]
      by_cases c2 : k = i
      · rw [if_pos (by omega), if_pos c2]; exact h _ hr
      · rw [if_neg (by omega), if_neg c2]; exact h k hk
  · rw [if_neg c, if_neg c]; exact h k hk
theorem own_brF (b i : Nat) (V : Nat → Int) (hi : i < 16) : own_Fr b V (own_br b i V) := fun k hk => by
  have hr : own_rv i < 16 := (own_rv16 ⟨i, hi⟩).1
  unfold own_br
  by_cases c : i < own_rv i
  · rw [if_pos c]; unfold Jvm.Own.upd; rw [if_neg (by omega), if_neg (by omega)]
  · rw [if_neg c]
theorem own_a16 : ∀ i : Fin 8, ∀ l ∈ [(2 : Nat), 4, 8, 16], own_a l i.val + l / 2 < 16 ∧ 0 < l / 2 := by decide +kernel
theorem own_btL {x : Nat → Int} {b l inv : Nat} (hl : l ∈ [(2 : Nat), 4, 8, 16]) (i : Nat) (V : Nat → Int) (M : Nat → Nat → Int) (hi : i < 8) (h : own_Lin x b V M) : own_Lin x b (own_bt inv b l i V) (own_btM inv l i M) := fun k hk => by
  obtain ⟨h1, h2⟩ := own_a16 ⟨i, hi⟩ l hl
  have h1 : own_a l i + l / 2 < 16 := h1
  have e1 := h (own_a l i) (by omega)
  have e2 := h (own_a l i + l / 2) h1
  unfold own_bt own_btM Jvm.Own.upd
  by_cases c1 : k = own_a l i + l / 2
  · rw [if_pos (by omega), if_pos c1, own_S_sub, e1, show b + own_a l i + l / 2 = b + (own_a l i + l / 2) from by omega, e2, own_mm2]
    omega
  · rw [if_neg (by omega), if_neg c1]
    by_cases c2 : k = own_a l i
    · rw [if_pos (by omega), if_pos c2, own_S_add, e1, show b + own_a l i + l / 2 = b + (own_a l i + l / 2) from by omega, e2, own_mm2]
      omega
    · rw [if_neg (by omega), if_neg c2]; exact h k hk
theorem own_btF {b l inv : Nat} (hl : l ∈ [(2 : Nat), 4, 8, 16]) (i : Nat) (V : Nat → Int) (hi : i < 8) : own_Fr b V (own_bt inv b l i V) := fun k hk => by
  obtain ⟨h1, h2⟩ := own_a16 ⟨i, hi⟩ l hl
  have h1 : own_a l i + l / 2 < 16 := h1
  unfold own_bt Jvm.Own.upd; rw [if_neg (by omega), if_neg (by omega)]
theorem own_bfsL {x : Nat → Int} {b inv : Nat} {V : Nat → Int} {M : Nat → Nat → Int} (h : own_Lin x b V M) : own_Lin x b (own_bfs inv b V) (own_itM (own_btM inv 16) 8 (own_itM (own_btM inv 8) 8 (own_itM (own_btM inv 4) 8 (own_itM (own_btM inv 2) 8 M)))) := by
  have h1 := own_itLin (N := 8) (own_btL (inv := inv) (l := 2) (by decide)) h 8 (Nat.le_refl _)
  have h2 := own_itLin (N := 8) (own_btL (inv := inv) (l := 4) (by decide)) h1 8 (Nat.le_refl _)
  have h3 := own_itLin (N := 8) (own_btL (inv := inv) (l := 8) (by decide)) h2 8 (Nat.le_refl _)
  exact own_itLin (N := 8) (own_btL (inv := inv) (l := 16) (by decide)) h3 8 (Nat.le_refl _)
theorem own_bfsF {b inv : Nat} (V : Nat → Int) : own_Fr b V (own_bfs inv b V) := fun k hk => by
  have h1 := own_itFr (b := b) (N := 8) (own_btF (inv := inv) (l := 2) (by decide)) V 8 (Nat.le_refl _) k hk
  have h2 := own_itFr (b := b) (N := 8) (own_btF (inv := inv) (l := 4) (by decide)) (own_it (own_bt inv b 2) 8 V) 8 (Nat.le_refl _) k hk
  have h3 := own_itFr (b := b) (N := 8) (own_btF (inv := inv) (l := 8) (by decide)) (own_it (own_bt inv b 4) 8 (own_it (own_bt inv b 2) 8 V)) 8 (Nat.le_refl _) k hk
  have h4 := own_itFr (b := b) (N := 8) (own_btF (inv := inv) (l := 16) (by decide)) (own_it (own_bt inv b 8) 8 (own_it (own_bt inv b 4) 8 (own_it (own_bt inv b 2) 8 V))) 8 (Nat.le_refl _) k hk
  exact h4.trans (h3.trans (h2.trans h1))
def own_E (k j : Nat) : Int := if k = j then 1 else 0
def own_FM : Nat → Nat → Int := own_itM (own_btM 0 16) 8 (own_itM (own_btM 0 8) 8 (own_itM (own_btM 0 4) 8 (own_itM (own_btM 0 2) 8 (own_itM own_brM 16 (own_itM own_scM 16 own_E)))))
def own_IM : Nat → Nat → Int := own_itM own_ivM 16 (own_itM (own_btM 1 16) 8 (own_itM (own_btM 1 8) 8 (own_itM (own_btM 1 4) 8 (own_itM (own_btM 1 2) 8 (own_itM own_brM 16 own_E)))))
theorem own_fwL {x : Nat → Int} {b : Nat} {V : Nat → Int} (h : own_Lin x b V own_E) : own_Lin x b (own_fw b V) own_FM :=
  own_bfsL (own_itLin (N := 16) own_brL (own_itLin (N := 16) own_scL h 16 (Nat.le_refl _)) 16 (Nat.le_refl _))
theorem own_inL {x : Nat → Int} {b : Nat} {V : Nat → Int} (h : own_Lin x b V own_E) : own_Lin x b (own_in b V) own_IM :=
  own_itLin (N := 16) own_ivL (own_bfsL (own_itLin (N := 16) own_brL h 16 (Nat.le_refl _))) 16 (Nat.le_refl _)
theorem own_fwF (b : Nat) (V : Nat → Int) : own_Fr b V (own_fw b V) := fun k hk => by
  have h1 := own_itFr (b := b) (N := 16) (own_scF b) V 16 (Nat.le_refl _) k hk
  have h2 := own_itFr (b := b) (N := 16) (own_brF b) (own_it (own_sc b) 16 V) 16 (Nat.le_refl _) k hk
  exact (own_bfsF _ k hk).trans (h2.trans h1)
theorem own_sumE (n : Nat) (x : Nat → Int) (k : Nat) : own_sum n (fun i => own_E k i * x i) = if k < n then x k else 0 := by
  induction n with
  | zero => rfl
  | succ n ih =>
    show own_sum n (fun i => own_E k i * x i) + own_E k n * x n = _
    rw [ih]
    unfold own_E
    by_cases c : k = n
    · subst c; rw [if_neg (by omega), if_pos rfl, if_pos (by omega)]; omega
    · rw [if_neg c]
      by_cases d : k < n
      · rw [if_pos d, if_pos (by omega)]; omega
      · rw [if_neg d, if_neg (by omega)]; omega
theorem own_LinE {x : Nat → Int} {b : Nat} {V : Nat → Int} (h : ∀ k, k < 16 → V (b + k) = x k) (hx : ∀ k, k < 16 → 0 ≤ x k ∧ x k < 257) : own_Lin x b V own_E := fun k hk => by
  unfold own_S
  rw [own_sumE, if_pos hk, h k hk]
  exact (Int.emod_eq_of_lt (hx k hk).1 (hx k hk).2).symm
theorem own_cpV (a b : Nat) (hab : a + 16 ≤ b ∨ b + 16 ≤ a) (V : Nat → Int) : ∀ n, n ≤ 16 → (∀ k, k < n → own_it (own_cp a b) n V (b + k) = V (a + k)) ∧ (∀ k, (k < b ∨ b + n ≤ k) → own_it (own_cp a b) n V k = V k)
  | 0, _ => ⟨fun k hk => absurd hk (Nat.not_lt_zero _), fun _ _ => rfl⟩
  | n + 1, hn => by
    obtain ⟨h1, h2⟩ := own_cpV a b hab V n (by omega)
    constructor
    · intro k hk
      show Jvm.Own.upd (own_it (own_cp a b) n V) (b + n) (own_it (own_cp a b) n V (a + n)) (b + k) = _
      unfold Jvm.Own.upd
      by_cases c : k = n
      · subst c; rw [if_pos rfl]; exact h2 _ (by omega)
      · rw [if_neg (by omega)]; exact h1 k (by omega)
    · intro k hk
      show Jvm.Own.upd (own_it (own_cp a b) n V) (b + n) (own_it (own_cp a b) n V (a + n)) k = _
      unfold Jvm.Own.upd
      rw [if_neg (by omega)]; exact h2 k (by omega)
theorem own_mlV (a b : Nat) (hab : a + 16 ≤ b ∨ b + 16 ≤ a) (V : Nat → Int) : ∀ n, n ≤ 16 → (∀ k, k < n → own_it (own_ml a b) n V (a + k) = (V (a + k) * V (b + k)) % 257) ∧ (∀ k, (k < a ∨ a + n ≤ k) → own_it (own_ml a b) n V k = V k)
  | 0, _ => ⟨fun k hk => absurd hk (Nat.not_lt_zero _), fun _ _ => rfl⟩
  | n + 1, hn => by
    obtain ⟨h1, h2⟩ := own_mlV a b hab V n (by omega)
    constructor
    · intro k hk
      show Jvm.Own.upd (own_it (own_ml a b) n V) (a + n) ((own_it (own_ml a b) n V (a + n) * own_it (own_ml a b) n V (b + n)) % 257) (a + k) = _
      unfold Jvm.Own.upd
      by_cases c : k = n
      · subst c; rw [if_pos rfl, h2 (a + k) (by omega), h2 (b + k) (by omega)]
      · rw [if_neg (by omega)]; exact h1 k (by omega)
    · intro k hk
      show Jvm.Own.upd (own_it (own_ml a b) n V) (a + n) ((own_it (own_ml a b) n V (a + n) * own_it (own_ml a b) n V (b + n)) % 257) k = _
      unfold Jvm.Own.upd
      rw [if_neg (by omega)]; exact h2 k (by omega)
/-- the product's cells as forms -/
theorem own_prod (V : Nat → Int) (hV : ∀ k, k < 272 → 0 ≤ V k ∧ V k < 257) (t : Nat) (ht : t < 16) :
    own_mul V (32 + t) = own_S (fun k => (own_S (fun i => V i) (own_FM k) * own_S (fun i => V (16 + i)) (own_FM k)) % 257) (own_IM t) % 257 := by
  obtain ⟨p1, p2⟩ := own_cpV 0 240 (by omega) V 16 (Nat.le_refl _)
  obtain ⟨q1, q2⟩ := own_cpV 16 256 (by omega) (own_it (own_cp 0 240) 16 V) 16 (Nat.le_refl _)
  have x1 : own_Lin (fun i => V i) 240 (own_it (own_cp 16 256) 16 (own_it (own_cp 0 240) 16 V)) own_E := own_LinE (fun k hk => by rw [q2 _ (by omega), p1 k hk, Nat.zero_add]) (fun k hk => hV k (by omega))
  have x2 := own_fwL x1
  have f1 := own_fwF 240 (own_it (own_cp 16 256) 16 (own_it (own_cp 0 240) 16 V))
  have y1 : own_Lin (fun i => V (16 + i)) 256 (own_fw 240 (own_it (own_cp 16 256) 16 (own_it (own_cp 0 240) 16 V))) own_E := own_LinE (fun k hk => by rw [f1 _ (by omega), q1 k hk, p2 _ (by omega)]) (fun k hk => hV _ (by omega))
  have y2 := own_fwL y1
  have f2 := own_fwF 256 (own_fw 240 (own_it (own_cp 16 256) 16 (own_it (own_cp 0 240) 16 V)))
  obtain ⟨m1, m2⟩ := own_mlV 240 256 (by omega) (own_fw 256 (own_fw 240 (own_it (own_cp 16 256) 16 (own_it (own_cp 0 240) 16 V)))) 16 (Nat.le_refl _)
  have z1 : own_Lin (fun k => (own_S (fun i => V i) (own_FM k) * own_S (fun i => V (16 + i)) (own_FM k)) % 257) 240 (own_it (own_ml 240 256) 16 (own_fw 256 (own_fw 240 (own_it (own_cp 16 256) 16 (own_it (own_cp 0 240) 16 V))))) own_E :=
    own_LinE (fun k hk => by rw [m1 k hk, f2 _ (by omega), x2 k hk, y2 k hk, ← Int.mul_emod]) (fun k hk => own_rg _)
  have z2 := own_inL z1 t ht
  obtain ⟨r1, -⟩ := own_cpV 240 32 (by omega) (own_in 240 (own_it (own_ml 240 256) 16 (own_fw 256 (own_fw 240 (own_it (own_cp 16 256) 16 (own_it (own_cp 0 240) 16 V)))))) 16 (Nat.le_refl _)
  exact (r1 t ht).trans z2

def own_Fl : List (List Int) := [[1, 136, 249, 197, 64, 223, 2, 15, 241, 137, 128, 189, 4, 30, 225, 17], [1, 197, 2, 137, 4, 17, 8, 34, 16, 68, 32, 136, 64, 15, 128, 30], [1, 223, 128, 17, 193, 120, 32, 197, 241, 30, 8, 242, 253, 136, 2, 189], [1, 15, 225, 34, 253, 197, 128, 121, 16, 240, 2, 30, 193, 68, 249, 137], [1, 137, 8, 68, 64, 30, 255, 240, 241, 121, 129, 197, 4, 34, 32, 15], [1, 189, 255, 136, 4, 242, 249, 30, 16, 197, 225, 120, 64, 17, 129, 223], [1, 30, 129, 15, 193, 136, 225, 68, 241, 34, 249, 17, 253, 137, 255, 197], [1, 17, 32, 30, 253, 189, 129, 137, 16, 15, 255, 223, 193, 197, 8, 136], [1, 121, 249, 60, 64, 34, 2, 242, 241, 120, 128, 68, 4, 227, 225, 240], [1, 60, 2, 120, 4, 240, 8, 223, 16, 189, 32, 121, 64, 242, 128, 227], [1, 34, 128, 240, 193, 137, 32, 60, 241, 227, 8, 15, 253, 121, 2, 68], [1, 242, 225, 223, 253, 60, 128, 136, 16, 17, 2, 227, 193, 189, 249, 120], [1, 120, 8, 189, 64, 227, 255, 17, 241, 136, 129, 60, 4, 223, 32, 242], [1, 68, 255, 121, 4, 15, 249, 227, 16, 60, 225, 137, 64, 240, 129, 34], [1, 227, 129, 242, 193, 121, 225, 189, 241, 223, 249, 240, 253, 120, 255, 60], [1, 240, 32, 227, 253, 68, 129, 120, 16, 242, 255, 34, 193, 60, 8, 121]]
def own_Il : List (List Int) := [[241, 241, 241, 241, 241, 241, 241, 241, 241, 241, 241, 241, 241, 241, 241, 241], [15, 223, 197, 136, 240, 227, 68, 120, 242, 34, 60, 121, 17, 30, 189, 137], [2, 249, 32, 129, 255, 8, 225, 128, 2, 249, 32, 129, 255, 8, 225, 128], [223, 240, 120, 60, 30, 15, 136, 68, 34, 17, 137, 197, 227, 242, 121, 189], [64, 253, 193, 4, 64, 253, 193, 4, 64, 253, 193, 4, 64, 253, 193, 4], [197, 120, 17, 223, 68, 121, 15, 227, 60, 137, 240, 34, 189, 136, 242, 30], [249, 255, 128, 32, 8, 2, 129, 225, 249, 255, 128, 32, 8, 2, 129, 225], [136, 60, 223, 242, 137, 68, 30, 240, 121, 197, 34, 15, 120, 189, 227, 17], [1, 256, 1, 256, 1, 256, 1, 256, 1, 256, 1, 256, 1, 256, 1, 256], [240, 30, 68, 137, 242, 223, 60, 136, 17, 227, 189, 120, 15, 34, 197, 121], [32, 128, 255, 249, 225, 129, 2, 8, 32, 128, 255, 249, 225, 129, 2, 8], [227, 15, 121, 68, 223, 17, 120, 197, 30, 242, 136, 189, 34, 240, 137, 60], [253, 64, 4, 193, 253, 64, 4, 193, 253, 64, 4, 193, 253, 64, 4, 193], [68, 136, 15, 30, 60, 120, 240, 223, 189, 121, 242, 227, 197, 137, 17, 34], [129, 32, 249, 2, 128, 225, 8, 255, 129, 32, 249, 2, 128, 225, 8, 255], [120, 68, 227, 240, 136, 197, 223, 15, 137, 189, 30, 17, 121, 60, 34, 242]]
def own_F (k i : Nat) : Int := (own_Fl.getD k []).getD i 0
def own_J (k i : Nat) : Int := (own_Il.getD k []).getD i 0
theorem own_FMl : ∀ k i : Fin 16, own_FM k.val i.val % 257 = own_F k.val i.val := by decide +kernel
theorem own_IMl : ∀ k i : Fin 16, own_IM k.val i.val % 257 = own_J k.val i.val := by decide +kernel
def own_dl (t i j : Nat) : Int := if i + j = t then 1 else if i + j = t + 16 then 256 else 0
theorem own_id : ∀ t i j : Fin 16, own_sum 16 (fun k => own_J t.val k * (own_F k i.val * own_F k j.val)) % 257 = own_dl t.val i.val j.val := by decide +kernel
theorem own_sum_mod {n : Nat} {f g : Nat → Int} (h : ∀ i, i < n → f i % 257 = g i % 257) : own_sum n f % 257 = own_sum n g % 257 := by
  induction n with
  | zero => rfl
  | succ n ih =>
    show (own_sum n f + f n) % 257 = (own_sum n g + g n) % 257
    rw [Int.add_emod, ih (fun i hi => h i (by omega)), h n (by omega), ← Int.add_emod]
theorem own_SF (x : Nat → Int) (k : Nat) (hk : k < 16) : own_S x (own_FM k) % 257 = own_S x (own_F k) % 257 := own_sum_mod fun i hi => by
  rw [← own_FMl ⟨k, hk⟩ ⟨i, hi⟩, own_mm2]
theorem own_ar {a b c a' b' c' : Int} (ha : a % 257 = a' % 257) (hb : b % 257 = b' % 257) (hc : c % 257 = c') : (c * ((a * b) % 257)) % 257 = (c' * (a' * b')) % 257 := by
  subst hc
  have e1 : (c * ((a * b) % 257)) % 257 = (c * (a * b)) % 257 := by rw [Int.mul_comm, own_mm2, Int.mul_comm]
  have e2 : (a * b) % 257 = (a' * b') % 257 := by rw [Int.mul_emod a b, ha, hb, ← Int.mul_emod]
  rw [e1, own_mm2, Int.mul_emod c (a * b), e2, ← Int.mul_emod]
/-- the product with literal matrices, no inner mod -/
theorem own_prod2 (V : Nat → Int) (hV : ∀ k, k < 272 → 0 ≤ V k ∧ V k < 257) (t : Nat) (ht : t < 16) :
    own_mul V (32 + t) = own_sum 16 (fun k => own_J t k * (own_S (fun i => V i) (own_F k) * own_S (fun i => V (16 + i)) (own_F k))) % 257 := by
  rw [own_prod V hV t ht]
  refine own_sum_mod fun k hk => ?_
  have a := own_SF (fun i => V i) k hk
  have b := own_SF (fun i => V (16 + i)) k hk
  have c := own_IMl ⟨t, ht⟩ ⟨k, hk⟩
  have c : own_IM t k % 257 = own_J t k := c
  exact own_ar a b c
theorem own_Spt (r : Nat → Int) (p q : Nat) (hp : p < 16) (hq : q < 16) (a b : Int) : own_S (fun i => own_E p i * a + own_E q i * b) r = r p * a + r q * b := by
  unfold own_S
  have e1 := own_sumE 16 r p
  have e2 := own_sumE 16 r q
  rw [if_pos hp] at e1
  rw [if_pos hq] at e2
  rw [← e1, ← e2, ← own_sum_mul, ← own_sum_mul, ← own_sum_add]
  refine own_sum_congr fun i _ => ?_
  rw [Int.mul_add]
  congr 1
  · rw [← Int.mul_assoc, Int.mul_comm (r i)]
  · rw [← Int.mul_assoc, Int.mul_comm (r i)]
/-- the product of two points by two points -/
theorem own_prod4 (V : Nat → Int) (hV : ∀ k, k < 272 → 0 ≤ V k ∧ V k < 257) (t p q u v : Nat) (ht : t < 16) (hp : p < 16) (hq : q < 16) (hu : u < 16) (hv : v < 16) (a b c d : Int)
    (hX : ∀ i, i < 16 → V i = own_E p i * a + own_E q i * b) (hY : ∀ i, i < 16 → V (16 + i) = own_E u i * c + own_E v i * d) :
    own_mul V (32 + t) = (own_dl t p u * (a * c) + own_dl t p v * (a * d) + own_dl t q u * (b * c) + own_dl t q v * (b * d)) % 257 := by
  have eX : ∀ r, own_S (fun i => V i) r = r p * a + r q * b := fun r => by
    rw [← own_Spt r p q hp hq a b]; exact own_sum_congr fun i hi => by dsimp only; rw [hX i hi]
  have eY : ∀ r, own_S (fun i => V (16 + i)) r = r u * c + r v * d := fun r => by
    rw [← own_Spt r u v hu hv c d]; exact own_sum_congr fun i hi => by dsimp only; rw [hY i hi]
  have key : own_sum 16 (fun k => own_J t k * (own_S (fun i => V i) (own_F k) * own_S (fun i => V (16 + i)) (own_F k))) =
      own_sum 16 (fun k => own_J t k * (own_F k p * own_F k u)) * (a * c) + own_sum 16 (fun k => own_J t k * (own_F k p * own_F k v)) * (a * d) + own_sum 16 (fun k => own_J t k * (own_F k q * own_F k u)) * (b * c) + own_sum 16 (fun k => own_J t k * (own_F k q * own_F k v)) * (b * d) := by
    rw [← own_sum_mul, ← own_sum_mul, ← own_sum_mul, ← own_sum_mul, ← own_sum_add, ← own_sum_add, ← own_sum_add]
    refine own_sum_congr fun k _ => ?_
    rw [eX, eY]
    generalize own_J t k = z
    generalize own_F k p = f1
    generalize own_F k q = f2
    generalize own_F k u = g1
    generalize own_F k v = g2
    simp only [Int.mul_add, Int.add_mul, Int.mul_assoc, Int.mul_comm, Int.mul_left_comm, Int.add_assoc]
    simp only [Int.add_left_comm, Int.add_comm]
  rw [own_prod2 V hV t ht, key]
  have m : ∀ x y z : Int, x % 257 = y → (x * z) % 257 = (y * z) % 257 := fun x y z h => by rw [← h, own_mm2]
  have k1 := m _ _ (a * c) (own_id ⟨t, ht⟩ ⟨p, hp⟩ ⟨u, hu⟩)
  have k2 := m _ _ (a * d) (own_id ⟨t, ht⟩ ⟨p, hp⟩ ⟨v, hv⟩)
  have k3 := m _ _ (b * c) (own_id ⟨t, ht⟩ ⟨q, hq⟩ ⟨u, hu⟩)
  have k4 := m _ _ (b * d) (own_id ⟨t, ht⟩ ⟨q, hq⟩ ⟨v, hv⟩)
  dsimp only at k1 k2 k3 k4
  omega

def own_cl (a b c : Int32) : Int32 := if a < b then b else if c < a then c else a
theorem own_clamp (a b c : Int32) (s : St) : f_clamp a b c s = some (own_cl a b c) := by
  unfold f_clamp own_cl; split; rfl; split <;> rfl
theorem own_rvv : ∀ i : Fin 16, (((((Int32.ofNat i.val &&& (1 : Int32)) <<< ((3 : Int32) &&& 31)) ||| ((Int32.ofNat i.val &&& (2 : Int32)) <<< ((1 : Int32) &&& 31))) ||| ((Int32.ofNat i.val &&& (4 : Int32)) >>> ((1 : Int32) &&& 31))) ||| ((Int32.ofNat i.val &&& (8 : Int32)) >>> ((3 : Int32) &&& 31))) = own_Rv.getD i.val 0 := by decide +kernel
theorem own_tvv : ∀ i : Fin 31, ((own_T.getD i.val 0) * (136 : Int32)) % (257 : Int32) = own_T.getD (i.val + 1) 0 := by decide +kernel
def own_pre (T xs : List Int32) (n i : Nat) : Prop := xs.length = n ∧ ∀ k, k < i → xs[k]? = some (T.getD k 0)
theorem own_preS {T xs : List Int32} {n i : Nat} (h : own_pre T xs n i) (hi : i < n) : own_pre T (xs.set i (T.getD i 0)) n (i + 1) := by
  refine ⟨by rw [set_len]; exact h.1, fun k hk => ?_⟩
  by_cases c : k = i
  · subst c; exact get_set_self _ (by rw [h.1]; exact hi)
  · rw [get_set_ne _ (Ne.symm c)]; exact h.2 k (by omega)
theorem own_preE {T xs : List Int32} {n : Nat} (h : own_pre T xs n n) (hT : T.length = n) : xs = T := by
  refine List.ext_getElem? fun k => ?_
  by_cases c : k < n
  · rw [h.2 k c, List.getD_eq_getElem?_getD, List.getElem?_eq_getElem (by rw [hT]; exact c)]; rfl
  · rw [List.getElem?_eq_none (by rw [h.1]; omega), List.getElem?_eq_none (by rw [hT]; omega)]
theorem own_tab2 (s0 s : St) (h1 : gA s 1 = own_T) (h0 : gA s 0 = gA s0 0) (h2 : (gA s 2).length = 16) : ∃ s', (gA s' 0 = gA s0 0 ∧ gA s' 1 = own_T ∧ gA s' 2 = own_Rv) ∧ Ev (fun n => f_initTables_45 n 0 s) s' := by
  obtain ⟨s', g1, g2⟩ := loop_up (F := f_initTables_45) (E := fun _ s => some s) (N := 16) (fun i t => gA t 0 = gA s0 0 ∧ gA t 1 = own_T ∧ own_pre own_Rv (gA t 2) 16 i) (fun i s hi h => by
    refine ⟨sA s 2 ((gA s 2).set i (own_Rv.getD i 0)), ⟨h.1, h.2.1, own_preS h.2.2 hi⟩, fun n => ?_⟩
    show g_initTables_45 (f_initTables_45 n) n _ _ = _
    unfold g_initTables_45 lt
    rw [if_pos ((ofN_ltL (by omega) (by decide)).mpr hi), own_rvv ⟨i, hi⟩, wrA_of (k := i) _ (ofN_int (by omega)) (by rw [h.2.2.1]; exact hi), Option.bind_some, ofN_succ]) (fun s h n => by
    show g_initTables_45 (f_initTables_45 n) n _ _ = _
    unfold g_initTables_45
    rw [if_neg (by decide)]) 16 0 s rfl ⟨h0, h1, h2, fun k hk => absurd hk (Nat.not_lt_zero _)⟩
  exact ⟨s', ⟨g1.1, g1.2.1, own_preE g1.2.2 rfl⟩, g2 s' (Ev.const rfl)⟩
theorem own_tab1 (s0 s : St) (h0 : gA s 0 = gA s0 0) (h1 : own_pre own_T (gA s 1) 32 1) (h2 : (gA s 2).length = 16) : ∃ s', (gA s' 0 = gA s0 0 ∧ gA s' 1 = own_T ∧ gA s' 2 = own_Rv) ∧ Ev (fun n => f_initTables_9 n 1 s) s' := by
  obtain ⟨s', g1, g2⟩ := loop_up (F := f_initTables_9) (E := fun n s => f_initTables_45 n 0 s) (N := 32) (fun i t => 1 ≤ i ∧ gA t 0 = gA s0 0 ∧ own_pre own_T (gA t 1) 32 i ∧ (gA t 2).length = 16) (fun i s hi h => by
    obtain ⟨k1, k2, k3, k4⟩ := h
    refine ⟨sA s 1 ((gA s 1).set i (own_T.getD i 0)), ⟨by omega, k2, own_preS k3 hi, k4⟩, fun n => ?_⟩
    show g_initTables_9 (f_initTables_9 n) n _ _ = _
    unfold g_initTables_9 lt
    have e : (Int32.ofNat i - 1).toInt = (i - 1 : Nat) := by
      rw [x32_sub (by rw [ofN_int (by omega)]; show _ ≤ _ - (1 : Int); omega) (by rw [ofN_int (by omega)]; show _ - (1 : Int) < _; omega), ofN_int (by omega)]
      show (i : Int) - 1 = _; omega
    have tv := own_tvv ⟨i - 1, by omega⟩
    dsimp only at tv
    rw [show i - 1 + 1 = i from by omega] at tv
    rw [if_pos ((ofN_ltL (by omega) (by decide)).mpr hi), rd_of e (k3.2 (i - 1) (by omega)), Option.bind_some, tv, wrA_of (k := i) _ (ofN_int (by omega)) (by rw [k3.1]; exact hi), Option.bind_some, ofN_succ]) (fun s h n => by
    show g_initTables_9 (f_initTables_9 n) n _ _ = _
    unfold g_initTables_9
    rw [if_neg (by decide)]) 31 1 s rfl ⟨Nat.le_refl _, h0, h1, h2⟩
  obtain ⟨s2, h3, h4⟩ := own_tab2 s0 s' (own_preE g1.2.2.1 rfl) g1.2.1 g1.2.2.2
  exact ⟨s2, h3, g2 s2 h4⟩
theorem own_init (p0 p1 p2 : Int32) : ∃ s, Ev (fun n => f_init n p0 p1 p2) s ∧ gA s 0 = List.replicate 272 0 ∧ gA s 1 = own_T ∧ gA s 2 = own_Rv := by
  unfold f_init
  simp only [lt, own_clamp, Option.bind_some]
  generalize hs : sI (sI (sI (sI (sI _ _ _) _ _) _ _) _ _) 12 0 = s0
  have w : wrA s0 1 0 1 = some (sA s0 1 ((gA s0 1).set 0 1)) := wrA_of 1 rfl (by subst hs; show 0 < (List.replicate 32 (0 : Int32)).length; decide)
  obtain ⟨s, h1, h2⟩ := own_tab1 s0 (sA s0 1 ((gA s0 1).set 0 1)) rfl ⟨by subst hs; rfl, fun k hk => by
    have : k = 0 := by omega
    subst this; subst hs; rfl⟩ (by subst hs; rfl)
  refine ⟨s, Ev.bind (c := s) ?_ (Ev.const rfl), ?_, h1.2.1, h1.2.2⟩
  · refine Ev.congr (fun n => ?_) h2
    unfold f_initTables; rw [w]; rfl
  · rw [h1.1]; subst hs; rfl
theorem own_tm (v : Int) : v.tmod 257 = v % 257 ∨ v.tmod 257 = v % 257 - 257 := by
  have t := @Int.tmod_eq_emod v 257
  split at t
  · left; rw [t]; exact Int.sub_zero _
  · right; exact t
/-- a cell set -/
theorem own_md0 (v : Int32) : ((((v % 257) + 257) % 257).toInt = v.toInt % 257) := by
  have e : (v % 257).toInt = v.toInt.tmod 257 := Int32.toInt_mod v 257
  have b1 : -257 < v.toInt.tmod 257 ∧ v.toInt.tmod 257 < 257 := ⟨by have := Int.lt_tmod_of_pos v.toInt (b := 257) (by decide); omega, Int.tmod_lt_of_pos _ (by decide)⟩
  have e2 : ((v % 257) + 257).toInt = v.toInt.tmod 257 + 257 := by rw [x32_add (by rw [e, own_c257]; omega) (by rw [e, own_c257]; omega), e, own_c257]
  rw [Int32.toInt_mod, e2, own_c257, own_emod (by omega)]
  rcases own_tm v.toInt with c | c <;> rw [c] <;> omega
theorem own_modv (v : Int32) (s : St) : ∃ x, f_mod v s = some x ∧ x.toInt = v.toInt % 257 := by
  have e : (v % 257).toInt = v.toInt.tmod 257 := Int32.toInt_mod v 257
  have b1 : -257 < v.toInt.tmod 257 ∧ v.toInt.tmod 257 < 257 := ⟨by have := Int.lt_tmod_of_pos v.toInt (b := 257) (by decide); omega, Int.tmod_lt_of_pos _ (by decide)⟩
  have t := own_tm v.toInt
  have o0 : (0 : Int32).toInt = 0 := rfl
  unfold f_mod f_mod_16 lt
  dsimp only
  by_cases c : v % 257 < 0
  · rw [if_pos c]
    refine ⟨_, rfl, ?_⟩
    rw [x32_lt, e, o0] at c
    rw [x32_add (by rw [e, own_c257]; omega) (by rw [e, own_c257]; omega), e, own_c257]
    omega
  · rw [if_neg c]
    refine ⟨_, rfl, ?_⟩
    rw [x32_lt, e, o0] at c
    rw [e]
    omega
theorem own_setop {s t : St} {V : Nat → Int} (h : own_D s t V) (w j : Nat) (vw vj v : Int32) (hw : vw = Int32.ofNat w) (hw1 : w = 0 ∨ w = 1) (hj : vj = Int32.ofNat j) (hj1 : j ≤ 15) : ∃ t', f_setOperand vw vj v t = some (1, t') ∧ own_D s t' (Jvm.Own.upd V (w * 16 + j) (v.toInt % 257)) := by
  subst hw hj
  obtain ⟨x, e1, e2⟩ := own_modv v t
  have ix : (Int32.ofNat w * 16 + Int32.ofNat j).toInt = ((w * 16 + j : Nat) : Int) := by
    rw [show (Int32.ofNat w * 16 : Int32) = Int32.ofNat (w * 16) from (Int32.ofNat_mul w 16).symm]; exact own_ofa _ _ (by omega)
  obtain ⟨t', g1, g2⟩ := own_Dwr h ix (by omega) e2 (own_rg _)
  refine ⟨t', ?_, g2⟩
  have k : f_setOperand_11 (Int32.ofNat w) (Int32.ofNat j) v t = some (1, t') := by
    unfold f_setOperand_11
    rw [if_neg (ofN_nn (by omega)), if_neg (fun q => by have := (ofN_gtL (m := 15) (by omega) (by decide)).mp q; omega), e1, Option.bind_some, g1, Option.bind_some]
  unfold f_setOperand
  rcases hw1 with rfl | rfl
  · rw [if_pos (by decide)]; exact k
  · rw [if_neg (by decide), if_pos (by decide)]; exact k

theorem own_idx {a b : Nat} (ha : a ≤ 16) (hb : b ≤ 15) : Int32.ofNat a * 16 + Int32.ofNat b = Int32.ofNat (a * 16 + b) := by
  refine ofN_of ?_
  have e0 : (Int32.ofNat a).toInt = a := ofN_int (by omega)
  have e1 : (Int32.ofNat b).toInt = b := ofN_int (by omega)
  have e2 : (Int32.ofNat a * 16).toInt = (a : Int) * 16 := by
    rw [x32_mul (by rw [e0]; show _ ≤ _ * (16 : Int); omega) (by rw [e0]; show _ * (16 : Int) < _; omega), e0]; rfl
  rw [x32_add (by omega) (by omega), e2, e1]; omega
theorem own_getv {s : St} {a b : Nat} (ha : a ≤ 8) (hb : b ≤ 15) {x : Int32} (h : (gA s 0)[a * 16 + b]? = some x) : f_get (Int32.ofNat a) (Int32.ofNat b) s = some x := by
  unfold f_get
  rw [if_neg (ofN_nn (by omega)), if_neg (fun q => by have := (ofN_gtL (by omega) (by decide)).mp q; exact absurd ha (Nat.not_le.mpr this)), if_neg (ofN_nn (by omega)), if_neg (fun q => by have := (ofN_gtL (by omega) (by decide)).mp q; exact absurd hb (Nat.not_le.mpr this)), own_idx (by omega) hb, rd_at (by omega) h]; rfl
theorem own_getbad {s : St} {w i : Int32} (h : w < 0 ∨ 8 < w ∨ i < 0 ∨ 15 < i) : f_get w i s = some (-1) := by
  unfold f_get f_get_10 f_get_22
  split
  · rfl
  · split
    · rfl
    · split
      · rfl
      · split
        · rfl
        · rename_i h1 h2 h3 h4
          rcases h with h | h | h | h
          · exact absurd h h1
          · exact absurd h h2
          · exact absurd h h3
          · exact absurd h h4
/-- every pair of arguments is one of these -/
theorem own_args (w i : Int32) : (w < 0 ∨ 8 < w ∨ i < 0 ∨ 15 < i) ∨ (¬ w < 0 ∧ ¬ 8 < w ∧ ¬ i < 0 ∧ ¬ 15 < i ∧ ∃ a b : Nat, a ≤ 8 ∧ b ≤ 15 ∧ w = Int32.ofNat a ∧ i = Int32.ofNat b) := by
  by_cases h1 : w < 0
  · exact Or.inl (Or.inl h1)
  · by_cases h2 : 8 < w
    · exact Or.inl (Or.inr (Or.inl h2))
    · by_cases h3 : i < 0
      · exact Or.inl (Or.inr (Or.inr (Or.inl h3)))
      · by_cases h4 : 15 < i
        · exact Or.inl (Or.inr (Or.inr (Or.inr h4)))
        · obtain ⟨a, ha, rfl⟩ := nat_le h1 h2 (by decide)
          obtain ⟨b, hb, rfl⟩ := nat_le h3 h4 (by decide)
          exact Or.inr ⟨h1, h2, h3, h4, a, b, ha, hb, rfl, rfl⟩
def own_md (v : Int32) : Int32 := ((v % 257) + 257) % 257
theorem own_md_int (v : Int32) : (own_md v).toInt = v.toInt % 257 := by
  have e1 : (v % 257).toInt = v.toInt.tmod 257 := Int32.toInt_mod v 257
  have b1 := Int.tmod_lt_of_pos v.toInt (show (0 : Int) < 257 by decide)
  have b2 : -257 < v.toInt.tmod 257 := Int.lt_tmod_of_pos v.toInt (by decide)
  have e2 : (v % 257 + 257).toInt = v.toInt.tmod 257 + 257 := by
    rw [x32_add (by rw [e1]; show _ ≤ _ + (257 : Int); omega) (by rw [e1]; show _ + (257 : Int) < _; omega), e1]; rfl
  unfold own_md
  rw [Int32.toInt_mod, e2]
  show (v.toInt.tmod 257 + 257).tmod 257 = _
  rw [Int.tmod_eq_emod_of_nonneg (by omega), Int.add_emod_right]
  have := Int.tmod_def v.toInt 257
  omega
theorem own_mod (v : Int32) (s : St) : f_mod v s = some (own_md v) := by
  have e1 : (v % 257).toInt = v.toInt.tmod 257 := Int32.toInt_mod v 257
  have b1 := Int.tmod_lt_of_pos v.toInt (show (0 : Int) < 257 by decide)
  have b2 : -257 < v.toInt.tmod 257 := Int.lt_tmod_of_pos v.toInt (by decide)
  have d := Int.tmod_def v.toInt 257
  unfold f_mod f_mod_16 lt
  dsimp only
  split
  · rename_i h
    rw [x32_lt, e1] at h
    refine congrArg some (x32_eq.mpr ?_)
    rw [own_md_int, x32_add (by rw [e1]; show _ ≤ _ + (257 : Int); omega) (by rw [e1]; show _ + (257 : Int) < _; omega), e1]
    show _ + (257 : Int) = _
    have h : v.toInt.tmod 257 < 0 := h
    omega
  · rename_i h
    rw [x32_lt, e1] at h
    have h : ¬ v.toInt.tmod 257 < 0 := h
    refine congrArg some (x32_eq.mpr ?_)
    rw [own_md_int, e1]; omega
theorem own_set {s : St} (hl : (gA s 0).length = 272) {a b : Nat} (ha : a ≤ 1) (hb : b ≤ 15) (v : Int32) : f_setOperand (Int32.ofNat a) (Int32.ofNat b) v s = some (1, sA s 0 ((gA s 0).set (a * 16 + b) (own_md v))) := by
  have k : f_setOperand_11 (Int32.ofNat a) (Int32.ofNat b) v s = some (1, sA s 0 ((gA s 0).set (a * 16 + b) (own_md v))) := by
    unfold f_setOperand_11
    rw [if_neg (ofN_nn (by omega)), if_neg (fun q => by have := (ofN_gtL (by omega) (by decide)).mp q; exact absurd hb (Nat.not_le.mpr this)), own_mod, Option.bind_some, own_idx (by omega) hb, wrA_of (k := a * 16 + b) _ (ofN_int (by omega)) (by omega)]; rfl
  unfold f_setOperand
  rcases (by omega : a = 0 ∨ a = 1) with rfl | rfl
  · rw [if_pos (by decide)]; exact k
  · rw [if_neg (by decide), if_pos (by decide)]; exact k

theorem own_get2 {s t : St} {V : Nat → Int} (h : own_D s t V) (j : Nat) (hj : j ≤ 15) : ∃ x, f_get 2 (Int32.ofNat j) t = some x ∧ x.toInt = V (32 + j) := by
  obtain ⟨x, hx, ex⟩ : ∃ x, (gA t 0)[32 + j]? = some x ∧ x.toInt = V (32 + j) := by
    have hx : (gA t 0)[32 + j]? = some ((gA t 0)[32 + j]'(by rw [h.2.1]; omega)) := List.getElem?_eq_getElem _
    refine ⟨_, hx, ?_⟩
    rw [← h.2.2.1 (32 + j) (by omega), List.getD_eq_getElem?_getD, hx]; rfl
  exact ⟨x, own_getv (a := 2) (by decide) hj hx, ex⟩
theorem own_lmd (v : Int32) : ∃ x, f_L_md v = some x ∧ x.toInt = v.toInt % 257 := ⟨_, rfl, own_md0 v⟩
theorem own_V4 (a b c d : Int) (u : Nat) (hu : u ≤ 7) : (∀ i, i < 16 → Jvm.Own.upd (Jvm.Own.upd (Jvm.Own.upd (Jvm.Own.upd (fun _ => (0 : Int)) 0 a) 8 b) (16 + u) c) (16 + (u + 8)) d i = own_E 0 i * a + own_E 8 i * b) ∧ (∀ i, i < 16 → Jvm.Own.upd (Jvm.Own.upd (Jvm.Own.upd (Jvm.Own.upd (fun _ => (0 : Int)) 0 a) 8 b) (16 + u) c) (16 + (u + 8)) d (16 + i) = own_E u i * c + own_E (u + 8) i * d) := by
  constructor
  · intro i hi
    unfold Jvm.Own.upd own_E
    rw [if_neg (by omega), if_neg (by omega)]
    by_cases c1 : i = 8
    · rw [if_pos c1, if_neg (by omega), if_pos c1.symm]; omega
    · rw [if_neg c1, if_neg (Ne.symm c1)]
      by_cases c2 : i = 0
      · rw [if_pos c2, if_pos c2.symm]; omega
      · rw [if_neg c2, if_neg (Ne.symm c2)]; dsimp only; omega
  · intro i hi
    unfold Jvm.Own.upd own_E
    by_cases c1 : i = u + 8
    · rw [if_pos (by omega), if_neg (by omega), if_pos c1.symm]; omega
    · rw [if_neg (by omega), if_neg (Ne.symm c1)]
      by_cases c2 : i = u
      · rw [if_pos (by omega), if_pos c2.symm]; omega
      · rw [if_neg (by omega), if_neg (by omega), if_neg (by omega), if_neg (Ne.symm c2)]; dsimp only; omega
theorem owed (p0 p1 p2 p3 p4 : Int32) : ∃ fu, f_law fu p0 p1 p2 p3 p4 = some 1 := by
  obtain ⟨s, h0, hA, hT, hR⟩ := own_init p4 p4 p4
  obtain ⟨u, hu, eu⟩ := and_natL p4 7 (by decide)
  have hu : u ≤ 7 := hu
  have D0 : own_D s s (fun _ => 0) := ⟨(sA_self rfl).symm, by rw [hA]; exact List.length_replicate, fun k hk => by rw [hA, List.getD_eq_getElem?_getD, rep_get 0 hk]; rfl, fun _ _ => by show (0 : Int) ≤ 0 ∧ (0 : Int) < 257; decide⟩
  obtain ⟨t1, a1, D1⟩ := own_setop D0 0 0 0 0 p0 rfl (Or.inl rfl) rfl (by decide)
  obtain ⟨t2, a2, D2⟩ := own_setop D1 0 8 0 8 p1 rfl (Or.inl rfl) rfl (by decide)
  obtain ⟨t3, a3, D3⟩ := own_setop D2 1 u 1 (p4 &&& 7) p2 rfl (Or.inr rfl) eu (by omega)
  obtain ⟨t4, a4, D4⟩ := own_setop D3 1 (u + 8) 1 ((p4 &&& 7) + 8) p3 rfl (Or.inr rfl) (by rw [eu]; exact (Int32.ofNat_add u 8).symm) (by omega)
  obtain ⟨t5, D5, hm⟩ := own_multiply hT hR D4
  have bd : ∀ v : Int, 0 ≤ v % 257 ∧ v % 257 < 257 := own_rg
  obtain ⟨v1, v2⟩ := own_V4 (p0.toInt % 257) (p1.toInt % 257) (p2.toInt % 257) (p3.toInt % 257) u hu
  obtain ⟨x1, b1, d1⟩ := own_lmd p0
  obtain ⟨x2, b2, d2⟩ := own_lmd p1
  obtain ⟨x3, b3, d3⟩ := own_lmd p2
  obtain ⟨x4, b4, d4⟩ := own_lmd p3
  have W : ∀ t, t < 16 → own_mul (Jvm.Own.upd (Jvm.Own.upd (Jvm.Own.upd (Jvm.Own.upd (fun _ => (0 : Int)) 0 (p0.toInt % 257)) 8 (p1.toInt % 257)) (16 + u) (p2.toInt % 257)) (16 + (u + 8)) (p3.toInt % 257)) (32 + t) = _ := fun t ht =>
    own_prod4 _ D4.2.2.2 t 0 8 u (u + 8) ht (by decide) (by decide) (by omega) (by omega) _ _ _ _ v1 v2
  have r1 := own_rg p0.toInt
  have r2 := own_rg p1.toInt
  have r3 := own_rg p2.toInt
  have r4 := own_rg p3.toInt
  have D5 : own_D s t5 (own_mul (Jvm.Own.upd (Jvm.Own.upd (Jvm.Own.upd (Jvm.Own.upd (fun _ => (0 : Int)) 0 (p0.toInt % 257)) 8 (p1.toInt % 257)) (16 + u) (p2.toInt % 257)) (16 + (u + 8)) (p3.toInt % 257))) := D5
  generalize p0.toInt % 257 = ra at *
  generalize p1.toInt % 257 = rb at *
  generalize p2.toInt % 257 = rc at *
  generalize p3.toInt % 257 = rd' at *
  have q : ∀ x y : Int, 0 ≤ x ∧ x < 257 → 0 ≤ y ∧ y < 257 → 0 ≤ x * y ∧ x * y ≤ 65536 := fun x y hx hy => ⟨Int.mul_nonneg hx.1 hy.1, Int.le_trans (Int.mul_le_mul (show x ≤ 256 by omega) (show y ≤ 256 by omega) hy.1 (by decide)) (by decide)⟩
  have m13 : (x1 * x3).toInt = ra * rc := by have := q ra rc r1 r3; rw [x32_mul (by rw [d1, d3]; omega) (by rw [d1, d3]; omega), d1, d3]
  have m24 : (x2 * x4).toInt = rb * rd' := by have := q rb rd' r2 r4; rw [x32_mul (by rw [d2, d4]; omega) (by rw [d2, d4]; omega), d2, d4]
  have m14 : (x1 * x4).toInt = ra * rd' := by have := q ra rd' r1 r4; rw [x32_mul (by rw [d1, d4]; omega) (by rw [d1, d4]; omega), d1, d4]
  have m23 : (x2 * x3).toInt = rb * rc := by have := q rb rc r2 r3; rw [x32_mul (by rw [d2, d3]; omega) (by rw [d2, d3]; omega), d2, d3]
  obtain ⟨lo, b5, d5⟩ := own_lmd (x1 * x3 - x2 * x4)
  obtain ⟨hi, b6, d6⟩ := own_lmd (x1 * x4 + x2 * x3)
  rw [x32_sub (by have := q ra rc r1 r3; have := q rb rd' r2 r4; rw [m13, m24]; omega) (by have := q ra rc r1 r3; have := q rb rd' r2 r4; rw [m13, m24]; omega), m13, m24] at d5
  rw [x32_add (by have := q ra rd' r1 r4; have := q rb rc r2 r3; rw [m14, m23]; omega) (by have := q ra rd' r1 r4; have := q rb rc r2 r3; rw [m14, m23]; omega), m14, m23] at d6
  have loop : Ev (fun n => f_law_144 n (Int32.ofNat u) lo hi 0 t5) 1 := by
    obtain ⟨t', g1, g2⟩ := loop_up (F := fun n v t => f_law_144 n (Int32.ofNat u) lo hi v t) (E := fun _ _ => some (1 : Int32)) (N := 8) (fun _ t => t = t5) (fun i t hi8 h => by
      subst h
      refine ⟨t, rfl, fun n => ?_⟩
      obtain ⟨y1, e1, e2⟩ := own_get2 D5 i (by omega)
      obtain ⟨y2, e3, e4⟩ := own_get2 D5 (i + 8) (by omega)
      rw [W i (by omega)] at e2
      rw [W (i + 8) (by omega)] at e4
      unfold own_dl at e2 e4
      have ei8 : Int32.ofNat i + 8 = Int32.ofNat (i + 8) := (Int32.ofNat_add i 8).symm
      show g_law_144 (f_law_144 n) n _ _ _ _ _ = _
      unfold g_law_144 f_law_176 f_law_209 lt
      rw [if_pos ((ofN_ltL (by omega) (by decide)).mpr hi8), e1, Option.bind_some, ei8, e3, Option.bind_some, ofN_succ]
      by_cases c : i = u
      · have z1 : y1 = lo := x32_eq.mpr (by
          rw [e2, d5, if_pos (by omega), if_neg (by omega), if_neg (by omega), if_neg (by omega), if_neg (by omega), if_neg (by omega), if_pos (by omega)]; omega)
        have z2 : y2 = hi := x32_eq.mpr (by
          rw [e4, d6, if_neg (by omega), if_neg (by omega), if_pos (by omega), if_pos (by omega), if_neg (by omega), if_neg (by omega)]; omega)
        have cu : Int32.ofNat i = Int32.ofNat u := by rw [c]
        rw [if_pos cu, if_pos z1, if_pos cu, if_pos z2]
      · have z1 : y1 = 0 := x32_eq.mpr (by
          rw [e2, if_neg (by omega), if_neg (by omega), if_neg (by omega), if_neg (by omega), if_neg (by omega), if_neg (by omega), if_neg (by omega), if_neg (by omega)]
          show _ = (0 : Int); omega)
        have z2 : y2 = 0 := x32_eq.mpr (by
          rw [e4, if_neg (by omega), if_neg (by omega), if_neg (by omega), if_neg (by omega), if_neg (by omega), if_neg (by omega), if_neg (by omega), if_neg (by omega)]
          show _ = (0 : Int); omega)
        have cu : ¬ Int32.ofNat i = Int32.ofNat u := fun q => c ((ofN_eq (by omega) (by omega)).mp q)
        rw [if_neg cu, if_pos z1, if_neg cu, if_pos z2]) (fun t h n => by
      show g_law_144 (f_law_144 n) n _ _ _ _ _ = _
      unfold g_law_144
      rw [if_neg (by decide)]) 8 0 t5 rfl rfl
    exact g2 1 (Ev.const rfl)
  refine Ev.get (Ev.bind h0 ?_)
  unfold lt
  refine Ev.congr (fun n => ?_) (Ev.bind (g := fun n c11 => (f_law_144 n (Int32.ofNat u) lo hi 0 c11)) hm loop)
  dsimp only
  rw [a1, Option.bind_some]
  dsimp only
  rw [if_neg (by decide), a2, Option.bind_some]
  dsimp only
  rw [if_neg (by decide), a3, Option.bind_some]
  dsimp only
  rw [if_neg (by decide), a4, Option.bind_some]
  dsimp only
  rw [if_neg (by decide), b1, b2, b3, b4]
  simp only [Option.bind_some, b5, b6]
  rw [show p4 &&& 7 = Int32.ofNat u from eu]

set_option maxRecDepth 65536 in
set_option maxHeartbeats 40000000 in
theorem comes_1 {Post : Tables → Env → Array Value → State → Outcome → State → Prop} (hpost : ∀ tb e args s v u, (limb_1_1.after args s (.returned v) u = true ∧ limb_1_2.after args s (.returned v) u = true ∧ True) → FrameEnd s (.returned v) u (Jvm.fieldLocs frame_1_writes args s ++ Jvm.arrayLocs frame_1_arrays args s ++ Jvm.staticLocs frame_1_statics s) 16 768 → Post tb e args s (.returned v) u) :
    ArmFor flags0 classFile x code maxLocals ret World_1 tables_1 room_1 Calls_1 rest_1 Pre_1 Post := by
  intro l hfl _ _ p e ha hc hk s m args below hf hA hF happ hP
  obtain ⟨hcalls, hrest, hpre⟩ := hP
  obtain ⟨-, -, -, hnamed, -, -, -, hat⟩ := (Spec.applies_iff hf).mp happ
  obtain ⟨hg, hn⟩ := and_e (Cond.before_iff.mp (show (Jvm.Cond.and given_1 narrow_1).before args s = true from hpre))
  obtain ⟨g0, q0⟩ := and_e hg
  obtain ⟨w0, w1, w2, w3, w4, rfl⟩ : ∃ w0 w1 w2 w3 w4 : Value, args = #[w0, w1, w2, w3, w4] := by
    have hs : args.size = 5 := by simpa [Cond.value, given_1] using g0
    obtain ⟨L⟩ := args
    match L, hs with
    | [w0, w1, w2, w3, w4], _ => exact ⟨w0, w1, w2, w3, w4, rfl⟩
  have hw := fun d (hd : d ∈ tables_1) => atoms_spec (ws := Jvm.Cond.code x code maxLocals ret :: tables_1) hat d (List.mem_cons_of_mem _ hd)
  obtain ⟨h0, q1⟩ := and_e q0
  obtain ⟨i0, e0⟩ := is_v h0
  obtain rfl : w0 = (.int i0) := Option.some.inj e0
  obtain ⟨h1, q2⟩ := and_e q1
  obtain ⟨i1, e1⟩ := is_v h1
  obtain rfl : w1 = (.int i1) := Option.some.inj e1
  obtain ⟨h2, q3⟩ := and_e q2
  obtain ⟨i2, e2⟩ := is_v h2
  obtain rfl : w2 = (.int i2) := Option.some.inj e2
  obtain ⟨h3, q4⟩ := and_e q3
  obtain ⟨i3, e3⟩ := is_v h3
  obtain rfl : w3 = (.int i3) := Option.some.inj e3
  obtain ⟨i4, e4⟩ := is_v q4
  obtain rfl : w4 = (.int i4) := Option.some.inj e4
  obtain ⟨fu, hfu⟩ := owed i0 i1 i2 i3 i4
  obtain ⟨n, o, h1, h2, h3, _, L, rfl, ⟨w, H', rfl, hv, -, -, N⟩, hq⟩ := okLAW l s _ hw fu i0 i1 i2 i3 i4 1 hfu tables_1 s.heap.size _ s.heap (HR.start0 s CN lay) p e ha hc hk s m _ below hf ((Spec.applies_iff_loose hf).mp happ).1 ⟨rfl, State.Warmed39.refl s, rfl⟩ trivial
  obtain rfl : w = some (.int 1) := hv
  refine ⟨n, _, h1, h2, h3, hpost _ _ _ _ _ _ ⟨Cond.after_iff.mpr rfl, Cond.after_iff.mpr (eq_i res_at (Term.int_eval (1)) rfl), trivial⟩ ⟨hq.1, hq.2.1, (hq.2.2.sift fun y hy => Or.inr (N y hy)).mono (by decide) (by decide)⟩⟩
theorem main_1_1 : Claimed_1_1 := comes_1 fun _ _ _ _ _ _ h hF => ⟨h.1, hF⟩
theorem main_1_2 : Claimed_1_2 := comes_1 fun _ _ _ _ _ _ h hF => ⟨h.2.1, hF⟩

end Jvm.Pilot.@@N@@
namespace Jvm.Pilot.@@N@@
open Jvm Jvm.ClassFile Sem Op Lib Jvm.Free Jvm.Stand Jvm.Pilot.@@N@@.Jvm.D
/-! MADE BY PROGRAM (witnessworld.py) out of the Statement's table words and the real class files: 9 classes; the members and pool entries that the words name. The judged class is class 1, her method 2. -/
namespace start1
open Jvm.ClassFile
def u (s : String) : CpInfo := .utf8 (stringToUtf16 s)
/-- a pool by its gaps: so many unusable entries, then the entry; so many at the end -/
def gap : Nat → List CpInfo → List CpInfo
  | 0, r => r
  | n + 1, r => .unusable :: gap n r
def poolList (es : List (Nat × CpInfo)) (last : Nat) : List CpInfo := es.foldr (fun e r => gap e.1 (e.2 :: r)) (gap last [])
def pool (es : List (Nat × CpInfo)) (last : Nat) : Array CpInfo := ⟨poolList es last⟩
def fileOf (pool : Array CpInfo) (this : Nat) (attrs : Array Attribute := #[]) (ms : Array MethodInfo := #[]) (fl : Nat := 33) (sup : Nat := 0) (ifs : Array Nat := #[]) (fds : Array FieldInfo := #[]) : ClassFile where
  minorVersion := 0
  majorVersion := 65
  constantPool := pool
  accessFlags := fl
  thisClass := this
  superClass := sup
  interfaces := ifs
  fields := fds
  methods := ms
  attributes := attrs
def plain (name : String) (sup : Option ClassId) : Class where
  name := name
  kind := .ordinary
  loader := none
  accessFlags := 33
  super := sup
  interfaces := #[]
  cf := none
  fields := #[]
  methods := #[]
  instanceTypes := #[]
  staticTypes := #[]
  resolved := #[]
  callSites := []
  init := .initialized
  statics := none
  mirror := none

def pool0 : Array CpInfo := pool [(5, u "<init>"), (0, u "()V"), (1, .class_ 10), (1, u "java/lang/Object")] 113

def k0c0 : Code := { maxStack := 0, maxLocals := 1, code := object_method_1_code, exceptionTable := #[], attributes := #[] }
def k0m0 : Method := { name := "<init>", desc := "()V", sig := { parameters := [], returnType := none }, accessFlags := 1, code := some k0c0 }
/-- java/lang/Object -/
def k0 : Class := { plain "java/lang/Object" none with
  accessFlags := 33
  interfaces := #[]
  cf := some (fileOf pool0 8 #[] #[{ accessFlags := 1, nameIndex := 5, descriptorIndex := 6, attributes := #[] }] 33 0 #[] #[])
  fields := #[]
  methods := #[k0m0]
  instanceTypes := #[]
  staticTypes := #[]
  resolved := Array.replicate 124 none
  statics := none }

def pool1 : Array CpInfo := pool [(2, .class_ 4), (1, u "java/lang/Object"), (0, u "<init>"), (0, u "()V"), (0, .class_ 8), (0, u "RingLweKem"), (0, .methodref 7 10), (0, .nameAndType 5 11), (0, u "(III)V"), (0, .methodref 7 13), (0, .nameAndType 14 15), (0, u "setOperand"), (0, u "(III)Z"), (0, .methodref 7 17), (0, .nameAndType 18 6), (0, u "multiply"), (0, .methodref 20 21), (0, .class_ 22), (0, .nameAndType 23 24), (0, u "RingLweKemL3"), (0, u "md"), (0, u "(I)I"), (0, .methodref 7 26), (0, .nameAndType 27 28), (0, u "get"), (0, u "(II)I"), (2, u "law"), (0, u "(IIIII)Z")] 3

def k1m0 : Method := { name := "<init>", desc := "()V", sig := { parameters := [], returnType := none }, accessFlags := 1, code := none }
def k1c1 : Code := { maxStack := 2, maxLocals := 1, code := method_2_code, exceptionTable := #[], attributes := #[] }
def k1m1 : Method := { name := "md", desc := "(I)I", sig := { parameters := [.int], returnType := some .int }, accessFlags := 10, code := some k1c1 }
def k1c2 : Code := { maxStack := 5, maxLocals := 16, code := code, exceptionTable := #[], attributes := #[] }
def k1m2 : Method := { name := "law", desc := "(IIIII)Z", sig := { parameters := [.int, .int, .int, .int, .int], returnType := some .boolean }, accessFlags := 9, code := some k1c2 }
/-- RingLweKemL3 -/
def k1 : Class := { plain "RingLweKemL3" (some 0) with
  accessFlags := 33
  interfaces := #[]
  cf := some (fileOf pool1 20 #[] #[{ accessFlags := 1, nameIndex := 5, descriptorIndex := 6, attributes := #[] }, { accessFlags := 10, nameIndex := 23, descriptorIndex := 24, attributes := #[] }, { accessFlags := 9, nameIndex := 31, descriptorIndex := 32, attributes := #[] }] 33 2 #[] #[])
  fields := #[]
  methods := #[k1m0, k1m1, k1m2]
  instanceTypes := #[]
  staticTypes := #[]
  resolved := Array.replicate 36 none
  statics := none }

def pool2 : Array CpInfo := pool [(1, .methodref 2 3), (0, .class_ 4), (0, .nameAndType 5 6), (0, u "java/lang/Object"), (0, u "<init>"), (0, u "()V"), (0, .fieldref 8 9), (0, .class_ 10), (0, .nameAndType 11 12), (0, u "RingLweKem"), (0, u "poly"), (0, u "[I"), (0, .fieldref 8 14), (0, .nameAndType 15 12), (0, u "pw"), (0, .fieldref 8 17), (0, .nameAndType 18 12), (0, u "rev"), (0, .fieldref 8 20), (0, .nameAndType 21 22), (0, u "idR"), (0, u "I"), (0, .fieldref 8 24), (0, .nameAndType 25 22), (0, u "idE"), (0, .fieldref 8 27), (0, .nameAndType 28 22), (0, u "idE1"), (0, .fieldref 8 30), (0, .nameAndType 31 22), (0, u "idE2"), (0, .fieldref 8 33), (0, .nameAndType 34 22), (0, u "idUF"), (0, .fieldref 8 36), (0, .nameAndType 37 22), (0, u "idVF"), (0, .fieldref 8 39), (0, .nameAndType 40 22), (0, u "idWA"), (0, .fieldref 8 42), (0, .nameAndType 43 22), (0, u "idWB"), (0, .methodref 8 45), (0, .nameAndType 46 47), (0, u "clamp"), (0, u "(III)I"), (0, .fieldref 8 49), (0, .nameAndType 50 22), (0, u "eta"), (0, .fieldref 8 52), (0, .nameAndType 53 22), (0, u "du"), (0, .fieldref 8 55), (0, .nameAndType 56 22), (0, u "dv"), (0, .fieldref 8 58), (0, .nameAndType 59 22), (0, u "g"), (0, .fieldref 8 61), (0, .nameAndType 62 22), (0, u "state"), (0, .methodref 8 64), (0, .nameAndType 65 6), (0, u "initTables"), (7, .methodref 8 74), (0, .nameAndType 75 76), (0, u "mod"), (0, u "(I)I"), (0, .methodref 8 78), (0, .nameAndType 79 80), (0, u "mul"), (0, u "(III)V"), (3, u "(I)V"), (6, u "(II)V"), (15, u "(II)I"), (5, .methodref 8 114), (0, .nameAndType 115 91), (0, u "copy"), (0, .methodref 8 117), (0, .nameAndType 118 84), (0, u "forward"), (0, .methodref 8 120), (0, .nameAndType 121 84), (0, u "inverse"), (0, .methodref 8 123), (0, .nameAndType 124 84), (0, u "bitReverse"), (0, .methodref 8 126), (0, .nameAndType 127 128), (0, u "butterflies"), (0, u "(IZ)V"), (0, u "N"), (2, u "Q"), (1, u "HALF"), (1, u "NONE"), (1, u "KEY"), (1, u "CIPHER"), (1, u "OP_X"), (0, u "OP_Y"), (0, u "PROD"), (0, u "PUB_A"), (1, u "PUB_T"), (1, u "SECRET_S"), (1, u "CT_U"), (1, u "CT_V"), (1, u "DEC_W"), (1, u "P_ETA"), (0, u "P_DU"), (0, u "P_DV"), (12, u "setOperand"), (0, u "(III)Z"), (1, u "multiply"), (0, u "get")] 10

def k2c0 : Code := { maxStack := 5, maxLocals := 4, code := prog_1_method_1_code, exceptionTable := #[], attributes := #[] }
def k2m0 : Method := { name := "<init>", desc := "(III)V", sig := { parameters := [.int, .int, .int], returnType := none }, accessFlags := 1, code := some k2c0 }
def k2c1 : Code := { maxStack := 4, maxLocals := 4, code := prog_1_method_5_code, exceptionTable := #[], attributes := #[] }
def k2m1 : Method := { name := "setOperand", desc := "(III)Z", sig := { parameters := [.int, .int, .int], returnType := some .boolean }, accessFlags := 1, code := some k2c1 }
def k2c2 : Code := { maxStack := 4, maxLocals := 1, code := prog_1_method_6_code, exceptionTable := #[], attributes := #[] }
def k2m2 : Method := { name := "multiply", desc := "()V", sig := { parameters := [], returnType := none }, accessFlags := 1, code := some k2c2 }
def k2c3 : Code := { maxStack := 3, maxLocals := 3, code := prog_1_method_7_code, exceptionTable := #[], attributes := #[] }
def k2m3 : Method := { name := "get", desc := "(II)I", sig := { parameters := [.int, .int], returnType := some .int }, accessFlags := 1, code := some k2c3 }
def k2c4 : Code := { maxStack := 2, maxLocals := 4, code := prog_1_method_16_code, exceptionTable := #[], attributes := #[] }
def k2m4 : Method := { name := "clamp", desc := "(III)I", sig := { parameters := [.int, .int, .int], returnType := some .int }, accessFlags := 2, code := some k2c4 }
def k2c5 : Code := { maxStack := 5, maxLocals := 2, code := prog_1_method_17_code, exceptionTable := #[], attributes := #[] }
def k2m5 : Method := { name := "initTables", desc := "()V", sig := { parameters := [], returnType := none }, accessFlags := 2, code := some k2c5 }
def k2c6 : Code := { maxStack := 2, maxLocals := 3, code := prog_1_method_18_code, exceptionTable := #[], attributes := #[] }
def k2m6 : Method := { name := "mod", desc := "(I)I", sig := { parameters := [.int], returnType := some .int }, accessFlags := 2, code := some k2c6 }
def k2c7 : Code := { maxStack := 5, maxLocals := 6, code := prog_1_method_28_code, exceptionTable := #[], attributes := #[] }
def k2m7 : Method := { name := "copy", desc := "(II)V", sig := { parameters := [.int, .int], returnType := none }, accessFlags := 2, code := some k2c7 }
def k2c8 : Code := { maxStack := 6, maxLocals := 7, code := prog_1_method_31_code, exceptionTable := #[], attributes := #[] }
def k2m8 : Method := { name := "mul", desc := "(III)V", sig := { parameters := [.int, .int, .int], returnType := none }, accessFlags := 2, code := some k2c8 }
def k2c9 : Code := { maxStack := 5, maxLocals := 4, code := prog_1_method_32_code, exceptionTable := #[], attributes := #[] }
def k2m9 : Method := { name := "forward", desc := "(I)V", sig := { parameters := [.int], returnType := none }, accessFlags := 2, code := some k2c9 }
def k2c10 : Code := { maxStack := 4, maxLocals := 5, code := prog_1_method_33_code, exceptionTable := #[], attributes := #[] }
def k2m10 : Method := { name := "inverse", desc := "(I)V", sig := { parameters := [.int], returnType := none }, accessFlags := 2, code := some k2c10 }
def k2c11 : Code := { maxStack := 5, maxLocals := 6, code := prog_1_method_34_code, exceptionTable := #[], attributes := #[] }
def k2m11 : Method := { name := "bitReverse", desc := "(I)V", sig := { parameters := [.int], returnType := none }, accessFlags := 2, code := some k2c11 }
def k2c12 : Code := { maxStack := 4, maxLocals := 15, code := prog_1_method_35_code, exceptionTable := #[], attributes := #[] }
def k2m12 : Method := { name := "butterflies", desc := "(IZ)V", sig := { parameters := [.int, .boolean], returnType := none }, accessFlags := 2, code := some k2c12 }
/-- RingLweKem -/
def k2 : Class := { plain "RingLweKem" (some 0) with
  accessFlags := 49
  interfaces := #[]
  cf := some (fileOf pool2 8 #[] #[{ accessFlags := 1, nameIndex := 5, descriptorIndex := 80, attributes := #[] }, { accessFlags := 1, nameIndex := 172, descriptorIndex := 173, attributes := #[] }, { accessFlags := 1, nameIndex := 175, descriptorIndex := 6, attributes := #[] }, { accessFlags := 1, nameIndex := 176, descriptorIndex := 107, attributes := #[] }, { accessFlags := 2, nameIndex := 46, descriptorIndex := 47, attributes := #[] }, { accessFlags := 2, nameIndex := 65, descriptorIndex := 6, attributes := #[] }, { accessFlags := 2, nameIndex := 75, descriptorIndex := 76, attributes := #[] }, { accessFlags := 2, nameIndex := 115, descriptorIndex := 91, attributes := #[] }, { accessFlags := 2, nameIndex := 79, descriptorIndex := 80, attributes := #[] }, { accessFlags := 2, nameIndex := 118, descriptorIndex := 84, attributes := #[] }, { accessFlags := 2, nameIndex := 121, descriptorIndex := 84, attributes := #[] }, { accessFlags := 2, nameIndex := 124, descriptorIndex := 84, attributes := #[] }, { accessFlags := 2, nameIndex := 127, descriptorIndex := 128, attributes := #[] }] 49 2 #[] #[{ accessFlags := 25, nameIndex := 129, descriptorIndex := 22, attributes := #[] }, { accessFlags := 25, nameIndex := 132, descriptorIndex := 22, attributes := #[] }, { accessFlags := 25, nameIndex := 134, descriptorIndex := 22, attributes := #[] }, { accessFlags := 25, nameIndex := 136, descriptorIndex := 22, attributes := #[] }, { accessFlags := 25, nameIndex := 138, descriptorIndex := 22, attributes := #[] }, { accessFlags := 25, nameIndex := 140, descriptorIndex := 22, attributes := #[] }, { accessFlags := 25, nameIndex := 142, descriptorIndex := 22, attributes := #[] }, { accessFlags := 25, nameIndex := 143, descriptorIndex := 22, attributes := #[] }, { accessFlags := 25, nameIndex := 144, descriptorIndex := 22, attributes := #[] }, { accessFlags := 25, nameIndex := 145, descriptorIndex := 22, attributes := #[] }, { accessFlags := 25, nameIndex := 147, descriptorIndex := 22, attributes := #[] }, { accessFlags := 25, nameIndex := 149, descriptorIndex := 22, attributes := #[] }, { accessFlags := 25, nameIndex := 151, descriptorIndex := 22, attributes := #[] }, { accessFlags := 25, nameIndex := 153, descriptorIndex := 22, attributes := #[] }, { accessFlags := 25, nameIndex := 155, descriptorIndex := 22, attributes := #[] }, { accessFlags := 25, nameIndex := 157, descriptorIndex := 22, attributes := #[] }, { accessFlags := 25, nameIndex := 158, descriptorIndex := 22, attributes := #[] }, { accessFlags := 25, nameIndex := 159, descriptorIndex := 22, attributes := #[] }, { accessFlags := 18, nameIndex := 11, descriptorIndex := 12, attributes := #[] }, { accessFlags := 18, nameIndex := 15, descriptorIndex := 12, attributes := #[] }, { accessFlags := 18, nameIndex := 18, descriptorIndex := 12, attributes := #[] }, { accessFlags := 18, nameIndex := 21, descriptorIndex := 22, attributes := #[] }, { accessFlags := 18, nameIndex := 25, descriptorIndex := 22, attributes := #[] }, { accessFlags := 18, nameIndex := 28, descriptorIndex := 22, attributes := #[] }, { accessFlags := 18, nameIndex := 31, descriptorIndex := 22, attributes := #[] }, { accessFlags := 18, nameIndex := 34, descriptorIndex := 22, attributes := #[] }, { accessFlags := 18, nameIndex := 37, descriptorIndex := 22, attributes := #[] }, { accessFlags := 18, nameIndex := 40, descriptorIndex := 22, attributes := #[] }, { accessFlags := 18, nameIndex := 43, descriptorIndex := 22, attributes := #[] }, { accessFlags := 2, nameIndex := 50, descriptorIndex := 22, attributes := #[] }, { accessFlags := 2, nameIndex := 53, descriptorIndex := 22, attributes := #[] }, { accessFlags := 2, nameIndex := 56, descriptorIndex := 22, attributes := #[] }, { accessFlags := 2, nameIndex := 59, descriptorIndex := 22, attributes := #[] }, { accessFlags := 2, nameIndex := 62, descriptorIndex := 22, attributes := #[] }])
  fields := #[{ name := "N", type := .int, accessFlags := 25, slot := 0, constantValue := 0 }, { name := "Q", type := .int, accessFlags := 25, slot := 1, constantValue := 0 }, { name := "HALF", type := .int, accessFlags := 25, slot := 2, constantValue := 0 }, { name := "NONE", type := .int, accessFlags := 25, slot := 3, constantValue := 0 }, { name := "KEY", type := .int, accessFlags := 25, slot := 4, constantValue := 0 }, { name := "CIPHER", type := .int, accessFlags := 25, slot := 5, constantValue := 0 }, { name := "OP_X", type := .int, accessFlags := 25, slot := 6, constantValue := 0 }, { name := "OP_Y", type := .int, accessFlags := 25, slot := 7, constantValue := 0 }, { name := "PROD", type := .int, accessFlags := 25, slot := 8, constantValue := 0 }, { name := "PUB_A", type := .int, accessFlags := 25, slot := 9, constantValue := 0 }, { name := "PUB_T", type := .int, accessFlags := 25, slot := 10, constantValue := 0 }, { name := "SECRET_S", type := .int, accessFlags := 25, slot := 11, constantValue := 0 }, { name := "CT_U", type := .int, accessFlags := 25, slot := 12, constantValue := 0 }, { name := "CT_V", type := .int, accessFlags := 25, slot := 13, constantValue := 0 }, { name := "DEC_W", type := .int, accessFlags := 25, slot := 14, constantValue := 0 }, { name := "P_ETA", type := .int, accessFlags := 25, slot := 15, constantValue := 0 }, { name := "P_DU", type := .int, accessFlags := 25, slot := 16, constantValue := 0 }, { name := "P_DV", type := .int, accessFlags := 25, slot := 17, constantValue := 0 }, { name := "poly", type := (.array .int), accessFlags := 18, slot := 0, constantValue := 0 }, { name := "pw", type := (.array .int), accessFlags := 18, slot := 1, constantValue := 0 }, { name := "rev", type := (.array .int), accessFlags := 18, slot := 2, constantValue := 0 }, { name := "idR", type := .int, accessFlags := 18, slot := 3, constantValue := 0 }, { name := "idE", type := .int, accessFlags := 18, slot := 4, constantValue := 0 }, { name := "idE1", type := .int, accessFlags := 18, slot := 5, constantValue := 0 }, { name := "idE2", type := .int, accessFlags := 18, slot := 6, constantValue := 0 }, { name := "idUF", type := .int, accessFlags := 18, slot := 7, constantValue := 0 }, { name := "idVF", type := .int, accessFlags := 18, slot := 8, constantValue := 0 }, { name := "idWA", type := .int, accessFlags := 18, slot := 9, constantValue := 0 }, { name := "idWB", type := .int, accessFlags := 18, slot := 10, constantValue := 0 }, { name := "eta", type := .int, accessFlags := 2, slot := 11, constantValue := 0 }, { name := "du", type := .int, accessFlags := 2, slot := 12, constantValue := 0 }, { name := "dv", type := .int, accessFlags := 2, slot := 13, constantValue := 0 }, { name := "g", type := .int, accessFlags := 2, slot := 14, constantValue := 0 }, { name := "state", type := .int, accessFlags := 2, slot := 15, constantValue := 0 }]
  methods := #[k2m0, k2m1, k2m2, k2m3, k2m4, k2m5, k2m6, k2m7, k2m8, k2m9, k2m10, k2m11, k2m12]
  instanceTypes := #[(.array .int), (.array .int), (.array .int), .int, .int, .int, .int, .int, .int, .int, .int, .int, .int, .int, .int, .int]
  staticTypes := #[.int, .int, .int, .int, .int, .int, .int, .int, .int, .int, .int, .int, .int, .int, .int, .int, .int, .int]
  resolved := Array.replicate 187 none
  statics := none }

def pool3 : Array CpInfo := pool [(1, u "java/lang/Cloneable"), (0, .class_ 1), (0, u "java/lang/Object"), (0, .class_ 3)] 3

/-- java/lang/Cloneable -/
def k3 : Class := { plain "java/lang/Cloneable" (some 0) with
  accessFlags := 1537
  interfaces := #[]
  cf := some (fileOf pool3 2 #[] #[] 1537 4 #[] #[])
  fields := #[]
  methods := #[]
  instanceTypes := #[]
  staticTypes := #[]
  resolved := Array.replicate 8 none
  statics := none }

def pool4 : Array CpInfo := pool [(1, u "java/io/Serializable"), (0, .class_ 1), (0, u "java/lang/Object"), (0, .class_ 3)] 3

/-- java/io/Serializable -/
def k4 : Class := { plain "java/io/Serializable" (some 0) with
  accessFlags := 1537
  interfaces := #[]
  cf := some (fileOf pool4 2 #[] #[] 1537 4 #[] #[])
  fields := #[]
  methods := #[]
  instanceTypes := #[]
  staticTypes := #[]
  resolved := Array.replicate 8 none
  statics := none }

/-- the primitive byte -/
def k5 : Class := { plain "byte" none with kind := .primitive 'B', accessFlags := 0x411 }
/-- [B -/
def k6 : Class := { plain "[B" (some 0) with kind := .array 5 .byte, interfaces := #[3, 4], accessFlags := 1041 }

/-- the primitive int -/
def k7 : Class := { plain "int" none with kind := .primitive 'I', accessFlags := 0x411 }
/-- [I -/
def k8 : Class := { plain "[I" (some 0) with kind := .array 7 .int, interfaces := #[3, 4], accessFlags := 1041 }

def heap : Heap := #[]
def classes : Array Class := #[k0, k1, k2, k3, k4, k5, k6, k7, k8]
def interned : List (Array UInt16 × Addr) := []
def slotsUsed : Nat := 0
def theMethod : MethodId := ⟨1, 2⟩
def args0 : Array Value := #[.int 1, .int 1, .int 1, .int 1, .int 1]
def aboutOver (below : List Frame) : State where
  vm := { classes := classes, interned := interned.toArray }
  heap := heap
  slotsUsed := slotsUsed
  threads := #[{ frames := .invoking theMethod args0 :: below }]
def below0 : List Frame := [.native { method := ⟨0, 0⟩, args := #[] }]
def about1 : State := aboutOver below0
def p0 : Program := .bare "" "" ""
def e0 : Env := launch0.env 0 0 0
theorem w_frames : about1.frames = Frame.invoking theMethod args0 :: below0 := rfl
set_option maxRecDepth 65536 in
theorem w_args : argsFit about1.vm theMethod args0 = true := by decide +kernel
set_option maxRecDepth 65536 in
theorem w_heap : heapFits about1 = true := by decide +kernel
set_option maxRecDepth 65536 in
theorem w_runnable : about1.curStatus? = some .runnable := by decide +kernel
set_option maxRecDepth 65536 in
theorem w_alone : about1.alone = true := by decide +kernel
set_option maxRecDepth 65536 in
theorem w_named : about1.methodNamed? x = some theMethod := by decide +kernel
set_option maxRecDepth 65536 in
theorem w_hears : about1.hears theMethod below0 = true := by decide +kernel
set_option maxRecDepth 65536 in
theorem w_ripe : about1.ripe theMethod args0 below0 = true := by decide +kernel
theorem w_running : about1.status = .running := rfl
set_option maxRecDepth 65536 in
theorem w_room : about1.hasRoom e0.platform room_1 = true :=
  launch0.hasRoom_least _ room_1 (by decide +kernel) (by decide +kernel) (by decide +kernel) (by decide +kernel) (by decide +kernel) (by decide +kernel)
theorem allAtoms_all (ts : List Jvm.Cond) (a : Array Jvm.Value) (st : Jvm.State) : (allAtoms ts).before a st = ts.all (fun c => c.before a st) := by
  induction ts with
  | nil => rfl
  | cons c t ih =>
    show (Jvm.Cond.and c (allAtoms t)).before a st = _
    rw [Jvm.Cond.before_and, ih, List.all_cons]
def words1 : List Jvm.Cond := Jvm.Cond.code x code maxLocals ret :: tables_1
/-- a 'code' word, met by the world's own term for the bytes: nothing is compared byte by byte -/
theorem code_word {y : MethodName} {bytes : ByteArray} {mx : Nat} {rt : Option FieldType} {a : Array Value} {s : State} {m : MethodId} {meth : Method} {c : Code} (h1 : s.methodNamed? y = some m) (h2 : s.vm.method? m = some meth) (h3 : meth.code = some c) (h4 : c.code = bytes)
    (h5 : (c.maxLocals == mx && c.exceptionTable.isEmpty && decide (c.maxStack ≤ mostOperands) && decide (meth.sig.returnType = rt) && !meth.locks && decide (parseMethodDescriptor y.desc = some meth.sig)) = true) : (Jvm.Cond.code y bytes mx rt).before a s = true := by
  simp only [Bool.and_eq_true, beq_iff_eq, Bool.not_eq_true', decide_eq_true_eq] at h5
  obtain ⟨⟨⟨⟨⟨g1, g2⟩, g3⟩, g4⟩, g5⟩, g6⟩ := h5
  simp [Cond.before, Cond.holds, Cond.value, h1, h2, h3, h4, g1, g2, g3, g4, g5, g6]
def isCode : Jvm.Cond → Bool
  | .code _ _ _ _ => true
  | _ => false
theorem all_split {L : List Jvm.Cond} {P : Jvm.Cond → Bool} (h1 : L.all (fun c => isCode c || P c) = true) (h2 : ∀ c ∈ L.filter isCode, P c = true) : L.all P = true := by
  refine List.all_eq_true.mpr fun c hc => ?_
  have h := List.all_eq_true.mp h1 c hc
  rcases Bool.eq_false_or_eq_true (isCode c) with hi | hi
  · exact h2 c (List.mem_filter.mpr ⟨hc, hi⟩)
  · simpa [hi] using h
set_option maxRecDepth 65536 in
theorem w_c0 : (Jvm.Cond.code x code maxLocals ret).before args0 about1 = true := code_word (m := ⟨1, 2⟩) (meth := k1m2) (c := k1c2) (by decide +kernel) rfl rfl rfl (by decide +kernel)
set_option maxRecDepth 65536 in
theorem w_c1 : (Jvm.Cond.code ({ cls := "RingLweKem", name := "<init>", desc := "(III)V" } : Jvm.MethodName) prog_1_method_1_code (4 : Nat) (Option.none : Option Jvm.ClassFile.FieldType)).before args0 about1 = true := code_word (m := ⟨2, 0⟩) (meth := k2m0) (c := k2c0) (by decide +kernel) rfl rfl rfl (by decide +kernel)
set_option maxRecDepth 65536 in
theorem w_c2 : (Jvm.Cond.code ({ cls := "java/lang/Object", name := "<init>", desc := "()V" } : Jvm.MethodName) object_method_1_code (1 : Nat) (Option.none : Option Jvm.ClassFile.FieldType)).before args0 about1 = true := code_word (m := ⟨0, 0⟩) (meth := k0m0) (c := k0c0) (by decide +kernel) rfl rfl rfl (by decide +kernel)
set_option maxRecDepth 65536 in
theorem w_c3 : (Jvm.Cond.code ({ cls := "RingLweKem", name := "clamp", desc := "(III)I" } : Jvm.MethodName) prog_1_method_16_code (4 : Nat) (Option.some Jvm.ClassFile.FieldType.int)).before args0 about1 = true := code_word (m := ⟨2, 4⟩) (meth := k2m4) (c := k2c4) (by decide +kernel) rfl rfl rfl (by decide +kernel)
set_option maxRecDepth 65536 in
theorem w_c4 : (Jvm.Cond.code ({ cls := "RingLweKem", name := "initTables", desc := "()V" } : Jvm.MethodName) prog_1_method_17_code (2 : Nat) (Option.none : Option Jvm.ClassFile.FieldType)).before args0 about1 = true := code_word (m := ⟨2, 5⟩) (meth := k2m5) (c := k2c5) (by decide +kernel) rfl rfl rfl (by decide +kernel)
set_option maxRecDepth 65536 in
theorem w_c5 : (Jvm.Cond.code ({ cls := "RingLweKem", name := "setOperand", desc := "(III)Z" } : Jvm.MethodName) prog_1_method_5_code (4 : Nat) (Option.some Jvm.ClassFile.FieldType.boolean)).before args0 about1 = true := code_word (m := ⟨2, 1⟩) (meth := k2m1) (c := k2c1) (by decide +kernel) rfl rfl rfl (by decide +kernel)
set_option maxRecDepth 65536 in
theorem w_c6 : (Jvm.Cond.code ({ cls := "RingLweKem", name := "mod", desc := "(I)I" } : Jvm.MethodName) prog_1_method_18_code (3 : Nat) (Option.some Jvm.ClassFile.FieldType.int)).before args0 about1 = true := code_word (m := ⟨2, 6⟩) (meth := k2m6) (c := k2c6) (by decide +kernel) rfl rfl rfl (by decide +kernel)
set_option maxRecDepth 65536 in
theorem w_c7 : (Jvm.Cond.code ({ cls := "RingLweKem", name := "multiply", desc := "()V" } : Jvm.MethodName) prog_1_method_6_code (1 : Nat) (Option.none : Option Jvm.ClassFile.FieldType)).before args0 about1 = true := code_word (m := ⟨2, 2⟩) (meth := k2m2) (c := k2c2) (by decide +kernel) rfl rfl rfl (by decide +kernel)
set_option maxRecDepth 65536 in
theorem w_c8 : (Jvm.Cond.code ({ cls := "RingLweKem", name := "mul", desc := "(III)V" } : Jvm.MethodName) prog_1_method_31_code (7 : Nat) (Option.none : Option Jvm.ClassFile.FieldType)).before args0 about1 = true := code_word (m := ⟨2, 8⟩) (meth := k2m8) (c := k2c8) (by decide +kernel) rfl rfl rfl (by decide +kernel)
set_option maxRecDepth 65536 in
theorem w_c9 : (Jvm.Cond.code ({ cls := "RingLweKem", name := "copy", desc := "(II)V" } : Jvm.MethodName) prog_1_method_28_code (6 : Nat) (Option.none : Option Jvm.ClassFile.FieldType)).before args0 about1 = true := code_word (m := ⟨2, 7⟩) (meth := k2m7) (c := k2c7) (by decide +kernel) rfl rfl rfl (by decide +kernel)
set_option maxRecDepth 65536 in
theorem w_c10 : (Jvm.Cond.code ({ cls := "RingLweKem", name := "forward", desc := "(I)V" } : Jvm.MethodName) prog_1_method_32_code (4 : Nat) (Option.none : Option Jvm.ClassFile.FieldType)).before args0 about1 = true := code_word (m := ⟨2, 9⟩) (meth := k2m9) (c := k2c9) (by decide +kernel) rfl rfl rfl (by decide +kernel)
set_option maxRecDepth 65536 in
theorem w_c11 : (Jvm.Cond.code ({ cls := "RingLweKem", name := "bitReverse", desc := "(I)V" } : Jvm.MethodName) prog_1_method_34_code (6 : Nat) (Option.none : Option Jvm.ClassFile.FieldType)).before args0 about1 = true := code_word (m := ⟨2, 11⟩) (meth := k2m11) (c := k2c11) (by decide +kernel) rfl rfl rfl (by decide +kernel)
set_option maxRecDepth 65536 in
theorem w_c12 : (Jvm.Cond.code ({ cls := "RingLweKem", name := "butterflies", desc := "(IZ)V" } : Jvm.MethodName) prog_1_method_35_code (15 : Nat) (Option.none : Option Jvm.ClassFile.FieldType)).before args0 about1 = true := code_word (m := ⟨2, 12⟩) (meth := k2m12) (c := k2c12) (by decide +kernel) rfl rfl rfl (by decide +kernel)
set_option maxRecDepth 65536 in
theorem w_c13 : (Jvm.Cond.code ({ cls := "RingLweKem", name := "inverse", desc := "(I)V" } : Jvm.MethodName) prog_1_method_33_code (5 : Nat) (Option.none : Option Jvm.ClassFile.FieldType)).before args0 about1 = true := code_word (m := ⟨2, 10⟩) (meth := k2m10) (c := k2c10) (by decide +kernel) rfl rfl rfl (by decide +kernel)
set_option maxRecDepth 65536 in
theorem w_c14 : (Jvm.Cond.code ({ cls := "RingLweKemL3", name := "md", desc := "(I)I" } : Jvm.MethodName) method_2_code (1 : Nat) (Option.some Jvm.ClassFile.FieldType.int)).before args0 about1 = true := code_word (m := ⟨1, 1⟩) (meth := k1m1) (c := k1c1) (by decide +kernel) rfl rfl rfl (by decide +kernel)
set_option maxRecDepth 65536 in
theorem w_c15 : (Jvm.Cond.code ({ cls := "RingLweKem", name := "get", desc := "(II)I" } : Jvm.MethodName) prog_1_method_7_code (3 : Nat) (Option.some Jvm.ClassFile.FieldType.int)).before args0 about1 = true := code_word (m := ⟨2, 3⟩) (meth := k2m3) (c := k2c3) (by decide +kernel) rfl rfl rfl (by decide +kernel)
def codes1 : List Jvm.Cond := [Jvm.Cond.code x code maxLocals ret, Jvm.Cond.code ({ cls := "RingLweKem", name := "<init>", desc := "(III)V" } : Jvm.MethodName) prog_1_method_1_code (4 : Nat) (Option.none : Option Jvm.ClassFile.FieldType), Jvm.Cond.code ({ cls := "java/lang/Object", name := "<init>", desc := "()V" } : Jvm.MethodName) object_method_1_code (1 : Nat) (Option.none : Option Jvm.ClassFile.FieldType), Jvm.Cond.code ({ cls := "RingLweKem", name := "clamp", desc := "(III)I" } : Jvm.MethodName) prog_1_method_16_code (4 : Nat) (Option.some Jvm.ClassFile.FieldType.int), Jvm.Cond.code ({ cls := "RingLweKem", name := "initTables", desc := "()V" } : Jvm.MethodName) prog_1_method_17_code (2 : Nat) (Option.none : Option Jvm.ClassFile.FieldType), Jvm.Cond.code ({ cls := "RingLweKem", name := "setOperand", desc := "(III)Z" } : Jvm.MethodName) prog_1_method_5_code (4 : Nat) (Option.some Jvm.ClassFile.FieldType.boolean), Jvm.Cond.code ({ cls := "RingLweKem", name := "mod", desc := "(I)I" } : Jvm.MethodName) prog_1_method_18_code (3 : Nat) (Option.some Jvm.ClassFile.FieldType.int), Jvm.Cond.code ({ cls := "RingLweKem", name := "multiply", desc := "()V" } : Jvm.MethodName) prog_1_method_6_code (1 : Nat) (Option.none : Option Jvm.ClassFile.FieldType), Jvm.Cond.code ({ cls := "RingLweKem", name := "mul", desc := "(III)V" } : Jvm.MethodName) prog_1_method_31_code (7 : Nat) (Option.none : Option Jvm.ClassFile.FieldType), Jvm.Cond.code ({ cls := "RingLweKem", name := "copy", desc := "(II)V" } : Jvm.MethodName) prog_1_method_28_code (6 : Nat) (Option.none : Option Jvm.ClassFile.FieldType), Jvm.Cond.code ({ cls := "RingLweKem", name := "forward", desc := "(I)V" } : Jvm.MethodName) prog_1_method_32_code (4 : Nat) (Option.none : Option Jvm.ClassFile.FieldType), Jvm.Cond.code ({ cls := "RingLweKem", name := "bitReverse", desc := "(I)V" } : Jvm.MethodName) prog_1_method_34_code (6 : Nat) (Option.none : Option Jvm.ClassFile.FieldType), Jvm.Cond.code ({ cls := "RingLweKem", name := "butterflies", desc := "(IZ)V" } : Jvm.MethodName) prog_1_method_35_code (15 : Nat) (Option.none : Option Jvm.ClassFile.FieldType), Jvm.Cond.code ({ cls := "RingLweKem", name := "inverse", desc := "(I)V" } : Jvm.MethodName) prog_1_method_33_code (5 : Nat) (Option.none : Option Jvm.ClassFile.FieldType), Jvm.Cond.code ({ cls := "RingLweKemL3", name := "md", desc := "(I)I" } : Jvm.MethodName) method_2_code (1 : Nat) (Option.some Jvm.ClassFile.FieldType.int), Jvm.Cond.code ({ cls := "RingLweKem", name := "get", desc := "(II)I" } : Jvm.MethodName) prog_1_method_7_code (3 : Nat) (Option.some Jvm.ClassFile.FieldType.int)]
set_option maxRecDepth 65536 in
theorem codes_eq : words1.filter isCode = codes1 := rfl
theorem w_codes : ∀ c ∈ words1.filter isCode, c.before args0 about1 = true := by
  rw [codes_eq]
  intro c hc
  simp only [codes1, List.mem_cons, List.not_mem_nil, or_false] at hc
  rcases hc with rfl | rfl | rfl | rfl | rfl | rfl | rfl | rfl | rfl | rfl | rfl | rfl | rfl | rfl | rfl | rfl
  · exact w_c0
  · exact w_c1
  · exact w_c2
  · exact w_c3
  · exact w_c4
  · exact w_c5
  · exact w_c6
  · exact w_c7
  · exact w_c8
  · exact w_c9
  · exact w_c10
  · exact w_c11
  · exact w_c12
  · exact w_c13
  · exact w_c14
  · exact w_c15
set_option maxRecDepth 65536 in
theorem w_t1 : (words1.take 24).all (fun c => isCode c || c.before args0 about1) = true := by decide +kernel
set_option maxRecDepth 65536 in
theorem w_t2 : ((words1.drop 24).take 24).all (fun c => isCode c || c.before args0 about1) = true := by decide +kernel
set_option maxRecDepth 65536 in
theorem w_t3 : (((words1.drop 24).drop 24).take 24).all (fun c => isCode c || c.before args0 about1) = true := by decide +kernel
set_option maxRecDepth 65536 in
theorem w_t4 : ((((words1.drop 24).drop 24).drop 24).take 24).all (fun c => isCode c || c.before args0 about1) = true := by decide +kernel
set_option maxRecDepth 65536 in
theorem w_t5 : ((((words1.drop 24).drop 24).drop 24).drop 24).all (fun c => isCode c || c.before args0 about1) = true := by decide +kernel
theorem w_tables : (allAtoms (Jvm.Cond.code x code maxLocals ret :: tables_1)).before args0 about1 = true := by
  rw [allAtoms_all]
  show words1.all (fun c => c.before args0 about1) = true
  refine all_split ?_ w_codes
  rw [← List.take_append_drop 24 words1, List.all_append, w_t1, ← List.take_append_drop 24 (words1.drop 24), List.all_append, w_t2, ← List.take_append_drop 24 ((words1.drop 24).drop 24), List.all_append, w_t3, ← List.take_append_drop 24 (((words1.drop 24).drop 24).drop 24), List.all_append, w_t4, w_t5]
  rfl
set_option maxRecDepth 65536 in
theorem w_case : (Jvm.Cond.and given_1 narrow_1).before args0 about1 = true := by decide +kernel
theorem w_applies : (headSpec (Jvm.Cond.code x code maxLocals ret :: tables_1) room_1).applies x e0.platform about1 = true :=
  (Spec.applies_iff w_frames).mpr ⟨w_running, w_runnable, w_alone, w_named, w_hears, w_ripe, w_room, w_tables⟩
theorem atStart : AtStart classFile x code maxLocals ret World_1 tables_1 room_1 Calls_1 rest_1 Pre_1 launch0 p0 e0 about1 theMethod args0 below0 :=
  ⟨lists_1, trivial, launch0.admits_env _ _ _, launch0.least_env, fairChoices_fair.cas, fairChoices_fair.clock, w_frames, w_args, w_heap, w_applies, trivial, trivial, w_case⟩
end start1
theorem witness_1 : WitnessClaimed_1 := ⟨start1.p0, start1.e0, start1.about1, start1.theMethod, start1.args0, start1.below0, start1.atStart⟩
end Jvm.Pilot.@@N@@
