import JvmDerived
import JvmDerived.Pilot.@@N@@Statement
import JvmDerived.Pilot.@@N@@Code
set_option linter.unusedVariables false
set_option linter.unusedSimpArgs false
namespace Jvm.Own
open Jvm Jvm.ClassFile Sem Op Lib Jvm.Free Jvm.Stand Jvm.LawKit Jvm.RoadKit Bundle
/-! ## values, cells, heaps of the small view -/
theorem leb {a b : Nat} (h : Nat.ble a b = true) : a ≤ b := Nat.le_of_ble_eq_true h
abbrev dc (b : ByteArray) (pc : Nat) (i : Instr) (n : Nat) : Prop := decode b pc = .ok (i, n)
abbrev OwnC : Type := Sum (List Value) (Sum (List Int32) (Sum (List Int64) (List Int32)))
abbrev cO (vs : List Value) : OwnC := .inl vs
abbrev cI (xs : List Int32) : OwnC := .inr (.inl xs)
abbrev cJ (xs : List Int64) : OwnC := .inr (.inr (.inl xs))
abbrev cZ (xs : List Int32) : OwnC := .inr (.inr (.inr xs))
def rf (ad : Nat → Addr) : Value → Value
  | .ref i => .ref (ad i)
  | .int x => .int x
  | .long x => .long x
  | .float x => .float x
  | .double x => .double x
  | .null => .null
  | .retAddr x => .retAddr x
theorem rf_cat (ad : Nat → Addr) (v : Value) : (rf ad v).category = v.category := by cases v <;> rfl
theorem rf_isRef (ad : Nat → Addr) (v : Value) : (rf ad v).isRef = v.isRef := by cases v <;> rfl
theorem rf_cats (ad : Nat → Addr) (S : List Value) : ((S.map (rf ad)).map fun v => v.category) = S.map fun v => v.category := by
  simp [List.map_map, Function.comp_def, rf_cat]
def CelOk (Z : State) (C : String) (lay : List (String × String)) (ad : Nat → Addr) (h : Heap) (a : Addr) : OwnC → Prop
  | .inl vs => Exa Z h a C ∧ ∀ (i : Nat) (f : String × String) (v : Value), lay[i]? = some f → vs[i]? = some v → Fld Z h a C f.1 f.2 (rf ad v)
  | .inr (.inl xs) => ∃ cl : Cell, Arr Z h a cl .int ∧ cl.slots.toList = xs.map Value.int
  | .inr (.inr (.inl xs)) => ∃ cl : Cell, Arr Z h a cl .long ∧ cl.slots.toList = xs.map Value.long
  | .inr (.inr (.inr xs)) => ∃ cl : Cell, Arr Z h a cl .boolean ∧ cl.slots.toList = xs.map Value.int
def HR (Z : State) (C : String) (lay : List (String × String)) (n0 ro : Nat) (ad : Nat → Addr) (H : List OwnC) (h : Heap) : Prop :=
  (∀ i c, H[i]? = some c → CelOk Z C lay ad h (ad i) c) ∧ (∀ i j, i < H.length → j < H.length → ad i = ad j → i = j) ∧ (∀ t, ad (H.length + t) = h.size + t) ∧ (∀ i, i < H.length → ro ≤ i → n0 ≤ ad i) ∧ n0 ≤ h.size
def Kp (ad : Nat → Addr) (N : Nat) (h h' : Heap) : Prop := h.size ≤ h'.size ∧ ∀ (a : Addr) (c : Cell), h[a]? = some c → (∀ i, i < N → ad i ≠ a) → h'[a]? = some c
theorem CelOk.keep {Z : State} {C : String} {lay : List (String × String)} {ad : Nat → Addr} {h h' : Heap} {a : Addr} {c : OwnC} (q : ∀ cz : Cell, h[a]? = some cz → h'[a]? = some cz) (F : CelOk Z C lay ad h a c) : CelOk Z C lay ad h' a c := by
  rcases c with vs | xs | xs | xs
  · obtain ⟨⟨cell, k, h1, r⟩, F2⟩ := F
    refine ⟨⟨cell, k, q _ h1, r⟩, fun i f v hf hv => ?_⟩
    obtain ⟨cell, cf, k, i, f, h1, r⟩ := F2 i f v hf hv
    exact ⟨cell, cf, k, i, f, q _ h1, r⟩
  all_goals
    obtain ⟨cl, ⟨h1, r⟩, h2⟩ := F
    exact ⟨cl, ⟨q _ h1, r⟩, h2⟩
theorem CelOk.lt {Z : State} {C : String} {lay : List (String × String)} {ad : Nat → Addr} {h : Heap} {a : Addr} {c : OwnC} (F : CelOk Z C lay ad h a c) : a < h.size := by
  rcases c with vs | xs | xs | xs
  · exact F.1.lt
  all_goals
    obtain ⟨cl, A, h2⟩ := F
    exact A.lt
theorem Kp.refl (ad : Nat → Addr) (N : Nat) (h : Heap) : Kp ad N h h := ⟨Nat.le_refl _, fun _ _ q _ => q⟩
theorem get_lt {α : Type} {L : List α} {i : Nat} {c : α} (h : L[i]? = some c) : i < L.length := (List.getElem?_eq_some_iff.mp h).1
section HRs
variable {Z : State} {C : String} {lay : List (String × String)} {n0 ro : Nat} {ad : Nat → Addr} {H H' : List OwnC} {h h' h'' : Heap}
/-- the addresses at or above H.length lie at or above the heap's size -/
theorem HR.new (R : HR Z C lay n0 ro ad H h) {i : Nat} (hi : H.length ≤ i) : h.size ≤ ad i := by
  obtain ⟨t, rfl⟩ := Nat.exists_eq_add_of_le hi
  rw [R.2.2.1 t]; exact Nat.le_add_right _ _
theorem Kp.trans (R : HR Z C lay n0 ro ad H h) (K : Kp ad H.length h h') {N : Nat} (K' : Kp ad N h' h'') : Kp ad H.length h h'' := by
  refine ⟨Nat.le_trans K.1 K'.1, fun a c hc hn => K'.2 a c (K.2 a c hc hn) fun i hi q => ?_⟩
  by_cases hl : i < H.length
  · exact hn i hl q
  · have h1 := R.new (Nat.le_of_not_lt hl)
    rw [q] at h1
    exact absurd (Array.getElem?_eq_some_iff.mp hc).1 (Nat.not_lt.mpr h1)
/-- one cell of the small heap is written anew, at its own address -/
theorem HR.put (R : HR Z C lay n0 ro ad H h) {i : Nat} {c : OwnC} (hi : i < H.length) (hs : h'.size = h.size) (ho : ∀ a cz, a ≠ ad i → h[a]? = some cz → h'[a]? = some cz) (hc : CelOk Z C lay ad h' (ad i) c) :
    HR Z C lay n0 ro ad (H.set i c) h' ∧ Kp ad H.length h h' := by
  refine ⟨⟨fun j c' hj => ?_, fun i' j' hi' hj' => ?_, fun t => ?_, fun i' hi' => ?_, by rw [hs]; exact R.2.2.2.2⟩, by rw [hs]; exact Nat.le_refl _, fun a cz hz hn => ho a cz (fun q => hn i hi q.symm) hz⟩
  · rw [List.getElem?_set] at hj
    by_cases e : i = j
    · subst e
      simp [hi] at hj
      subst hj; exact hc
    · rw [if_neg e] at hj
      exact (R.1 j c' hj).keep fun cz q => ho _ cz (fun q' => e (R.2.1 _ _ hi (get_lt hj) q'.symm)) q
  · simp only [List.length_set] at hi' hj'; exact R.2.1 _ _ hi' hj'
  · rw [List.length_set, hs]; exact R.2.2.1 t
  · simp only [List.length_set] at hi'; exact R.2.2.2.1 _ hi'
/-- a new cell behind all others -/
theorem HR.push (R : HR Z C lay n0 ro ad H h) {c : OwnC} (hs : h'.size = h.size + 1) (hE : Ext h h') (hc : CelOk Z C lay ad h' h.size c) :
    HR Z C lay n0 ro ad (H ++ [c]) h' ∧ Kp ad H.length h h' ∧ ad H.length = h.size := by
  have e0 : ad H.length = h.size := R.2.2.1 0
  refine ⟨⟨fun j c' hj => ?_, fun i j hi hj q => ?_, fun t => ?_, fun i hi hr => ?_, by rw [hs]; exact Nat.le_succ_of_le R.2.2.2.2⟩, ⟨hE.1, fun a cz hz _ => hE.2 _ _ hz⟩, e0⟩
  · by_cases hl : j < H.length
    · rw [List.getElem?_append_left hl] at hj
      exact (R.1 j c' hj).keep fun cz q => hE.2 _ _ q
    · have hl' := get_lt hj
      simp only [List.length_append, List.length_singleton] at hl'
      obtain rfl : j = H.length := by omega
      simp at hj
      subst hj; rw [e0]; exact hc
  · simp only [List.length_append, List.length_singleton] at hi hj
    by_cases h1 : i < H.length
    · by_cases h2 : j < H.length
      · exact R.2.1 _ _ h1 h2 q
      · have a1 := (R.1 i _ (List.getElem?_eq_getElem h1)).lt
        have a2 := R.new (Nat.le_of_not_lt h2)
        rw [q] at a1
        exact absurd a1 (Nat.not_lt.mpr a2)
    · by_cases h2 : j < H.length
      · have a1 := (R.1 j _ (List.getElem?_eq_getElem h2)).lt
        have a2 := R.new (Nat.le_of_not_lt h1)
        rw [q] at a2
        exact absurd a1 (Nat.not_lt.mpr a2)
      · omega
  · rw [hs]
    have := R.2.2.1 (1 + t)
    simp only [List.length_append, List.length_singleton]
    rw [Nat.add_assoc, this]; exact (Nat.add_assoc _ _ _).symm
  · simp only [List.length_append, List.length_singleton] at hi
    by_cases h1 : i < H.length
    · exact R.2.2.2.1 _ h1 hr
    · exact Nat.le_trans R.2.2.2.2 (R.new (Nat.le_of_not_lt h1))
end HRs
/-! ## local variables: 'unset' in the small view says nothing -/
def WFs (f : Nat → Option Slot) : Prop := (∀ i, f i = some .second → ∃ j v, i = j + 1 ∧ f j = some (.val v) ∧ v.category = 2) ∧ ∀ i v, f i = some (.val v) → v.category = 2 → f (i + 1) = some .second
def LR (ad : Nat → Addr) (L : List Slot) (Ls : Array Slot) : Prop :=
  L.length = Ls.size ∧ (∀ (i : Nat) (v : Value), L[i]? = some (.val v) → Ls[i]? = some (.val (rf ad v))) ∧ (∀ i : Nat, L[i]? = some .second → Ls[i]? = some .second) ∧ WFs fun i => Ls[i]?
def kill2 : Slot → Slot
  | .val (.long _) => .unset
  | .val (.double _) => .unset
  | s => s
def killS : Slot → Slot
  | .second => .unset
  | s => s
def hd1 (f : Slot → Slot) : List Slot → List Slot
  | [] => []
  | y :: t => f y :: t
def st1 : List Slot → Nat → Value → List Slot
  | [], _, _ => []
  | _ :: t, 0, v => .val v :: hd1 killS t
  | y :: t, n + 1, v => match n with
    | 0 => kill2 y :: st1 t 0 v
    | k + 1 => y :: st1 t (k + 1) v
def st2 : List Slot → Nat → Value → List Slot
  | [], _, _ => []
  | _ :: t, 0, v => .val v :: (match t with | [] => [] | _ :: t' => .second :: hd1 killS t')
  | y :: t, n + 1, v => match n with
    | 0 => kill2 y :: st2 t 0 v
    | k + 1 => y :: st2 t (k + 1) v
theorem st1_len (v : Value) : ∀ (L : List Slot) (i : Nat), (st1 L i v).length = L.length
  | [], _ => rfl
  | y :: [], 0 => rfl
  | y :: z :: t, 0 => rfl
  | y :: t, 1 => congrArg Nat.succ (st1_len v t 0)
  | y :: t, k + 2 => congrArg Nat.succ (st1_len v t (k + 1))
theorem st2_len (v : Value) : ∀ (L : List Slot) (i : Nat), (st2 L i v).length = L.length
  | [], _ => rfl
  | y :: [], 0 => rfl
  | y :: z :: [], 0 => rfl
  | y :: z :: w :: t, 0 => rfl
  | y :: t, 1 => congrArg Nat.succ (st2_len v t 0)
  | y :: t, k + 2 => congrArg Nat.succ (st2_len v t (k + 1))
theorem kill2_e {y s : Slot} (h : kill2 y = s) (hs : s ≠ .unset) : y = s ∧ ∀ w, s = .val w → w.category = 1 := by
  subst h
  rcases y with _ | _ | w
  · exact absurd rfl hs
  · exact ⟨rfl, fun w h => by cases h⟩
  · cases w <;> first | exact absurd rfl hs | exact ⟨rfl, fun w h => by cases h; rfl⟩
theorem killS_e {y s : Slot} (h : killS y = s) (hs : s ≠ .unset) : y = s ∧ s ≠ .second := by
  subst h
  rcases y with _ | _ | w
  · exact absurd rfl hs
  · exact absurd rfl hs
  · exact ⟨rfl, fun h => by cases h⟩
theorem hd1_e {t : List Slot} {j : Nat} {s : Slot} (h : (hd1 killS t)[j]? = some s) (hs : s ≠ .unset) : t[j]? = some s ∧ (j = 0 → s ≠ .second) := by
  cases t with
  | nil => simp [hd1] at h
  | cons y t =>
    cases j with
    | zero =>
      have h' : killS y = s := by simpa [hd1] using h
      obtain ⟨e1, e2⟩ := killS_e h' hs
      exact ⟨by simp [e1], fun _ => e2⟩
    | succ j => exact ⟨by simpa [hd1] using h, fun q => by cases q⟩
theorem st1_at (v : Value) : ∀ (L : List Slot) (i : Nat), i < L.length → (st1 L i v)[i]? = some (.val v)
  | [], _, h => absurd h (by simp)
  | y :: t, 0, _ => rfl
  | y :: t, 1, h => by simpa [st1] using st1_at v t 0 (by simp at h; omega)
  | y :: t, k + 2, h => by simpa [st1] using st1_at v t (k + 1) (by simp at h; omega)
theorem st1_else (v : Value) : ∀ (L : List Slot) (i j : Nat) (s : Slot), j ≠ i → (st1 L i v)[j]? = some s → s ≠ .unset → L[j]? = some s ∧ (j + 1 = i → ∀ w, s = .val w → w.category = 1) ∧ (j = i + 1 → s ≠ .second)
  | [], _, j, s, _, h, _ => by simp [st1] at h
  | y :: t, 0, 0, s, hj, _, _ => absurd rfl hj
  | y :: t, 0, j + 1, s, hj, h, hs => by
    obtain ⟨e1, e2⟩ := hd1_e (t := t) (j := j) (by simpa [st1] using h) hs
    exact ⟨by simpa using e1, fun q => by omega, fun q => e2 (by omega)⟩
  | y :: t, 1, 0, s, hj, h, hs => by
    obtain ⟨e1, e2⟩ := kill2_e (y := y) (by simpa [st1] using h) hs
    exact ⟨by simp [e1], fun _ => e2, fun q => by omega⟩
  | y :: t, 1, j + 1, s, hj, h, hs => by
    obtain ⟨e1, e2, e3⟩ := st1_else v t 0 j s (by omega) (by simpa [st1] using h) hs
    exact ⟨by simpa using e1, fun q => by omega, fun q => e3 (by omega)⟩
  | y :: t, k + 2, 0, s, hj, h, hs => ⟨by simpa [st1] using h, fun q => by omega, fun q => by omega⟩
  | y :: t, k + 2, j + 1, s, hj, h, hs => by
    obtain ⟨e1, e2, e3⟩ := st1_else v t (k + 1) j s (by omega) (by simpa [st1] using h) hs
    exact ⟨by simpa using e1, fun q => e2 (by omega), fun q => e3 (by omega)⟩
theorem st2_at (v : Value) : ∀ (L : List Slot) (i : Nat), i + 1 < L.length → (st2 L i v)[i]? = some (.val v) ∧ (st2 L i v)[i + 1]? = some .second
  | [], _, h => absurd h (by simp)
  | y :: [], 0, h => absurd h (by simp)
  | y :: z :: t, 0, _ => ⟨rfl, rfl⟩
  | y :: t, 1, h => by simpa [st2] using st2_at v t 0 (by simp at h; omega)
  | y :: t, k + 2, h => by simpa [st2] using st2_at v t (k + 1) (by simp at h; omega)
theorem st2_else (v : Value) : ∀ (L : List Slot) (i j : Nat) (s : Slot), j ≠ i → j ≠ i + 1 → (st2 L i v)[j]? = some s → s ≠ .unset → L[j]? = some s ∧ (j + 1 = i → ∀ w, s = .val w → w.category = 1) ∧ (j = i + 2 → s ≠ .second)
  | [], _, j, s, _, _, h, _ => by simp [st2] at h
  | y :: t, 0, 0, s, hj, _, _, _ => absurd rfl hj
  | y :: t, 0, 1, s, _, hj, _, _ => absurd rfl hj
  | y :: [], 0, j + 2, s, _, _, h, _ => by simp [st2] at h
  | y :: z :: t, 0, j + 2, s, hj, _, h, hs => by
    obtain ⟨e1, e2⟩ := hd1_e (t := t) (j := j) (by simpa [st2] using h) hs
    exact ⟨by simpa using e1, fun q => by omega, fun q => e2 (by omega)⟩
  | y :: t, 1, 0, s, hj, _, h, hs => by
    obtain ⟨e1, e2⟩ := kill2_e (y := y) (by simpa [st2] using h) hs
    exact ⟨by simp [e1], fun _ => e2, fun q => by omega⟩
  | y :: t, 1, j + 1, s, hj, hj', h, hs => by
    obtain ⟨e1, e2, e3⟩ := st2_else v t 0 j s (by omega) (by omega) (by simpa [st2] using h) hs
    exact ⟨by simpa using e1, fun q => by omega, fun q => e3 (by omega)⟩
  | y :: t, k + 2, 0, s, hj, _, h, hs => ⟨by simpa [st2] using h, fun q => by omega, fun q => by omega⟩
  | y :: t, k + 2, j + 1, s, hj, hj', h, hs => by
    obtain ⟨e1, e2, e3⟩ := st2_else v t (k + 1) j s (by omega) (by omega) (by simpa [st2] using h) hs
    exact ⟨by simpa using e1, fun q => e2 (by omega), fun q => e3 (by omega)⟩
theorem setAt_ok {l : Array Slot} {i : Nat} (h : i < l.size) (x : Slot) : setAt l i x = some (l.setIfInBounds i x) := if_pos h
/-- which neighbours a store at i wipes -/
def Bad (Ls : Array Slot) (i j : Nat) : Prop := (j + 1 = i ∧ Ls[i]? = some .second) ∨ (j = i + 1 ∧ ∃ o, Ls[i]? = some (.val o) ∧ o.category = 2)
def Pre1 (Ls Ls1 : Array Slot) (i : Nat) : Prop := Ls1.size = Ls.size ∧ ∀ j, j ≠ i → (¬ Bad Ls i j ∧ Ls1[j]? = Ls[j]?) ∨ (Bad Ls i j ∧ Ls1[j]? = some .unset)
theorem storeLocals_pre {Ls : Array Slot} (wf : WFs fun i => Ls[i]?) {i : Nat} (hi : i < Ls.size) (w : Value) : ∃ Ls1, Pre1 Ls Ls1 i ∧ storeLocals Ls i w = storeSelf Ls1 i w := by
  have hg : Ls[i]? = some Ls[i] := Array.getElem?_eq_getElem hi
  rcases hs : Ls[i] with _ | _ | old
  · rw [hs] at hg
    refine ⟨Ls, ⟨rfl, fun j hj => Or.inl ⟨?_, rfl⟩⟩, ?_⟩
    · rintro (⟨-, q⟩ | ⟨-, o, q, -⟩) <;> (rw [hg] at q; cases q)
    · show (Ls[i]?).bind _ = _; rw [hg]; rfl
  · rw [hs] at hg
    obtain ⟨j0, v, rfl, hv, hc⟩ := wf.1 i hg
    have h0 : j0 < Ls.size := by omega
    refine ⟨Ls.setIfInBounds j0 .unset, ⟨by simp, fun j hj => ?_⟩, ?_⟩
    · by_cases e : j = j0
      · subst e; right; exact ⟨Or.inl ⟨rfl, hg⟩, by simp [h0]⟩
      · left
        refine ⟨?_, by rw [Array.getElem?_setIfInBounds_ne (Ne.symm e)]⟩
        rintro (⟨q', q⟩ | ⟨-, o, q, -⟩)
        · exact e (by omega)
        · rw [hg] at q; cases q
    · show (Ls[j0 + 1]?).bind _ = _; rw [hg]
      show (setAt Ls (j0 + 1 - 1) .unset).bind _ = _
      rw [Nat.add_sub_cancel, setAt_ok h0]; rfl
  · rw [hs] at hg
    by_cases hc : old.category = 2
    · have h1 := wf.2 i old hg hc
      have h1' : i + 1 < Ls.size := (Array.getElem?_eq_some_iff.mp h1).1
      refine ⟨Ls.setIfInBounds (i + 1) .unset, ⟨by simp, fun j hj => ?_⟩, ?_⟩
      · by_cases e : j = i + 1
        · subst e; right; exact ⟨Or.inr ⟨rfl, old, hg, hc⟩, by simp [h1']⟩
        · left
          refine ⟨?_, by rw [Array.getElem?_setIfInBounds_ne (Ne.symm e)]⟩
          rintro (⟨-, q⟩ | ⟨q, -⟩)
          · rw [hg] at q; cases q
          · exact e q
      · show (Ls[i]?).bind _ = _; rw [hg]
        show (if old.category = 2 then _ else _) = _
        rw [if_pos hc]
        show (setAt Ls (i + 1) .unset).bind _ = _
        rw [setAt_ok h1']; rfl
    · refine ⟨Ls, ⟨rfl, fun j hj => Or.inl ⟨?_, rfl⟩⟩, ?_⟩
      · rintro (⟨-, q⟩ | ⟨-, o, q, q'⟩) <;> (rw [hg] at q; cases q)
        exact hc q'
      · show (Ls[i]?).bind _ = _; rw [hg]
        show (if old.category = 2 then _ else _) = _
        rw [if_neg hc]
section St
variable {Ls : Array Slot} {i j : Nat}
/-- a value of one word is not wiped -/
theorem not_bad_val (wf : WFs fun i => Ls[i]?) {w : Value} (hj : Ls[j]? = some (.val w)) (hw : j + 1 = i → w.category = 1) : ¬ Bad Ls i j := by
  rintro (⟨rfl, q⟩ | ⟨rfl, o, q, q'⟩)
  · obtain ⟨j0, v, e, h1, h2⟩ := wf.1 _ q
    obtain rfl : j0 = j := by omega
    cases h1.symm.trans hj
    rw [hw rfl] at h2; cases h2
  · have := wf.2 _ _ q q'
    cases this.symm.trans hj
theorem not_bad_second (wf : WFs fun i => Ls[i]?) (hj : Ls[j]? = some .second) (hne : j ≠ i + 1) : ¬ Bad Ls i j := by
  rintro (⟨rfl, q⟩ | ⟨q, -⟩)
  · obtain ⟨j0, v, e, h1, h2⟩ := wf.1 _ q
    obtain rfl : j0 = j := by omega
    cases h1.symm.trans hj
  · exact hne q
end St
theorem LR.store1 {ad : Nat → Addr} {L : List Slot} {Ls : Array Slot} (hL : LR ad L Ls) {i : Nat} (hi : i < L.length) {v : Value} (hv : v.category = 1) : ∃ Ls', storeLocals Ls i (rf ad v) = some Ls' ∧ LR ad (st1 L i v) Ls' ∧ Ls'.size = Ls.size := by
  obtain ⟨l1, l2, l3, wf⟩ := hL
  have hi' : i < Ls.size := l1 ▸ hi
  have hv' : (rf ad v).category = 1 := by rw [rf_cat]; exact hv
  obtain ⟨Ls1, ⟨p1, p2⟩, e⟩ := storeLocals_pre wf hi' (rf ad v)
  have hi1 : i < Ls1.size := by rw [p1]; exact hi'
  have e2 : storeSelf Ls1 i (rf ad v) = some (Ls1.setIfInBounds i (.val (rf ad v))) := by
    show (setAt Ls1 i _).bind _ = _
    rw [setAt_ok hi1]
    show (if (rf ad v).category = 2 then _ else _) = _
    rw [if_neg (by rw [hv']; decide)]
  have at_i : (Ls1.setIfInBounds i (.val (rf ad v)))[i]? = some (.val (rf ad v)) := by simp [hi1]
  have at_j : ∀ j, j ≠ i → (Ls1.setIfInBounds i (.val (rf ad v)))[j]? = Ls1[j]? := fun j hj => Array.getElem?_setIfInBounds_ne (Ne.symm hj)
  have good : ∀ j, j ≠ i → ¬ Bad Ls i j → (Ls1.setIfInBounds i (.val (rf ad v)))[j]? = Ls[j]? := fun j hj hb => by
    rw [at_j j hj]
    rcases p2 j hj with ⟨-, q⟩ | ⟨q, -⟩
    · exact q
    · exact absurd q hb
  have back : ∀ j s, j ≠ i → s ≠ .unset → (Ls1.setIfInBounds i (.val (rf ad v)))[j]? = some s → ¬ Bad Ls i j ∧ Ls[j]? = some s := fun j s hj hs h => by
    rw [at_j j hj] at h
    rcases p2 j hj with ⟨q, q'⟩ | ⟨-, q⟩
    · exact ⟨q, by rw [← q']; exact h⟩
    · rw [q] at h; cases h; exact absurd rfl hs
  refine ⟨_, e.trans e2, ⟨by rw [st1_len, l1]; simp [p1], fun j w hj => ?_, fun j hj => ?_, fun j hj => ?_, fun j w hj hc => ?_⟩, by simp [p1]⟩
  · by_cases q : j = i
    · subst q
      rw [st1_at v L j hi] at hj
      cases hj; exact at_i
    · obtain ⟨a1, a2, -⟩ := st1_else v L i j _ q hj (by simp)
      have b1 := l2 j w a1
      rw [good j q (not_bad_val wf b1 fun z => by rw [rf_cat]; exact a2 z w rfl)]; exact b1
  · by_cases q : j = i
    · subst q
      rw [st1_at v L j hi] at hj
      cases hj
    · obtain ⟨a1, -, a3⟩ := st1_else v L i j _ q hj (by simp)
      have b1 := l3 j a1
      rw [good j q (not_bad_second wf b1 fun z => a3 z rfl)]; exact b1
  · dsimp only at hj ⊢
    have q : j ≠ i := fun q => by subst q; rw [at_i] at hj; cases hj
    obtain ⟨b1, b2⟩ := back j _ q (by simp) hj
    obtain ⟨j0, v', rfl, h1, h2⟩ := wf.1 j b2
    refine ⟨j0, v', rfl, ?_, h2⟩
    have q0 : j0 ≠ i := fun z => b1 (Or.inr ⟨by omega, v', z ▸ h1, h2⟩)
    rw [good j0 q0 ?_]; exact h1
    rintro (⟨z, -⟩ | ⟨z, o, z1, z2⟩)
    · exact q z
    · have := wf.2 _ _ z1 z2
      rw [← z] at this
      cases this.symm.trans h1
  · dsimp only at hj ⊢
    have q : j ≠ i := fun q => by subst q; rw [at_i] at hj; cases hj; rw [hv'] at hc; cases hc
    obtain ⟨b1, b2⟩ := back j _ q (by simp) hj
    have h1 := wf.2 j w b2 hc
    dsimp only at h1
    have q0 : j + 1 ≠ i := fun z => b1 (Or.inl ⟨z, z ▸ h1⟩)
    rw [good (j + 1) q0 ?_]; exact h1
    rintro (⟨z, z1⟩ | ⟨z, -⟩)
    · obtain ⟨j1, v1, e1, e2, -⟩ := wf.1 _ z1
      obtain rfl : j1 = j + 1 := by omega
      cases h1.symm.trans e2
    · omega
theorem LR.store2 {ad : Nat → Addr} {L : List Slot} {Ls : Array Slot} (hL : LR ad L Ls) {i : Nat} (hi : i + 1 < L.length) {v : Value} (hv : v.category = 2) : ∃ Ls', storeLocals Ls i (rf ad v) = some Ls' ∧ LR ad (st2 L i v) Ls' ∧ Ls'.size = Ls.size := by
  obtain ⟨l1, l2, l3, wf⟩ := hL
  have hi' : i + 1 < Ls.size := l1 ▸ hi
  have hv' : (rf ad v).category = 2 := by rw [rf_cat]; exact hv
  obtain ⟨Ls1, ⟨p1, p2⟩, e⟩ := storeLocals_pre wf (by omega : i < Ls.size) (rf ad v)
  have hi1 : i < Ls1.size := by rw [p1]; omega
  have hi2 : i + 1 < Ls1.size := by rw [p1]; omega
  -- what the second half leaves: two slots, and the one behind wiped where a long began at i + 1
  have key : ∃ Ls', storeSelf Ls1 i (rf ad v) = some Ls' ∧ Ls'.size = Ls1.size ∧ Ls'[i]? = some (.val (rf ad v)) ∧ Ls'[i + 1]? = some .second ∧ ∀ j, j ≠ i → j ≠ i + 1 → (Ls'[j]? = Ls1[j]? ∧ ¬ (j = i + 2 ∧ ∃ o, Ls1[i + 1]? = some (.val o) ∧ o.category = 2)) ∨ (Ls'[j]? = some .unset ∧ j = i + 2 ∧ ∃ o, Ls1[i + 1]? = some (.val o) ∧ o.category = 2) := by
    have n1 : (Ls1.setIfInBounds i (.val (rf ad v)))[i + 1]? = Ls1[i + 1]? := Array.getElem?_setIfInBounds_ne (by omega)
    have g1 : Ls1[i + 1]? = some Ls1[i + 1] := Array.getElem?_eq_getElem hi2
    have open1 : storeSelf Ls1 i (rf ad v) = ((Ls1.setIfInBounds i (.val (rf ad v)))[i + 1]?).bind fun x => match x with
      | .val old => if old.category = 2 then (setAt (Ls1.setIfInBounds i (.val (rf ad v))) (i + 2) .unset).bind fun z => setAt z (i + 1) .second else setAt (Ls1.setIfInBounds i (.val (rf ad v))) (i + 1) .second
      | _ => setAt (Ls1.setIfInBounds i (.val (rf ad v))) (i + 1) .second := by
      show (setAt Ls1 i _).bind _ = _
      rw [setAt_ok hi1]
      show (if (rf ad v).category = 2 then _ else _) = _
      rw [if_pos hv']; rfl
    have plain : (∀ o, Ls1[i + 1]? = some (.val o) → o.category ≠ 2) → storeSelf Ls1 i (rf ad v) = setAt (Ls1.setIfInBounds i (.val (rf ad v))) (i + 1) .second := fun hno => by
      rw [open1, n1, g1]
      rcases hs : Ls1[i + 1] with _ | _ | old
      · rfl
      · rfl
      · show (if old.category = 2 then _ else _) = _
        rw [if_neg (hno old (by rw [g1, hs]))]
    have szz : i + 1 < (Ls1.setIfInBounds i (.val (rf ad v))).size := by simpa using hi2
    by_cases hb : ∃ o, Ls1[i + 1]? = some (.val o) ∧ o.category = 2
    · obtain ⟨o, ho, ho2⟩ := hb
      have b1 : Ls[i + 1]? = some (.val o) := by
        rcases p2 (i + 1) (by omega) with ⟨-, q⟩ | ⟨-, q⟩
        · rw [← q]; exact ho
        · rw [q] at ho; cases ho
      have h3 : i + 2 < Ls1.size := by rw [p1]; exact (Array.getElem?_eq_some_iff.mp (wf.2 _ _ b1 ho2)).1
      refine ⟨((Ls1.setIfInBounds i (.val (rf ad v))).setIfInBounds (i + 2) .unset).setIfInBounds (i + 1) .second, ?_, by simp, ?_, ?_, fun j hj hj' => ?_⟩
      · rw [open1, n1, ho]
        show (if o.category = 2 then _ else _) = _
        rw [if_pos ho2, setAt_ok (by simpa using h3)]
        show setAt _ (i + 1) .second = _
        rw [setAt_ok (by simpa using hi2)]
      · rw [Array.getElem?_setIfInBounds_ne (by omega), Array.getElem?_setIfInBounds_ne (by omega)]; simp [hi1]
      · simp [hi2]
      · rw [Array.getElem?_setIfInBounds_ne (by omega)]
        by_cases z : j = i + 2
        · subst z; right; exact ⟨by simp [h3], rfl, o, ho, ho2⟩
        · left; exact ⟨by rw [Array.getElem?_setIfInBounds_ne (by omega), Array.getElem?_setIfInBounds_ne (by omega)], fun q => z q.1⟩
    · refine ⟨(Ls1.setIfInBounds i (.val (rf ad v))).setIfInBounds (i + 1) .second, ?_, by simp, ?_, ?_, fun j hj hj' => Or.inl ⟨?_, fun q => hb q.2⟩⟩
      · rw [plain fun o ho q => hb ⟨o, ho, q⟩, setAt_ok szz]
      · rw [Array.getElem?_setIfInBounds_ne (by omega)]; simp [hi1]
      · simp [hi2]
      · rw [Array.getElem?_setIfInBounds_ne (by omega), Array.getElem?_setIfInBounds_ne (by omega)]
  obtain ⟨Ls', e2, sz, at_i, at_i1, at_j⟩ := key
  -- i + 1 seen from Ls
  have up : ∀ o, Ls1[i + 1]? = some (.val o) → Ls[i + 1]? = some (.val o) := fun o ho => by
    rcases p2 (i + 1) (by omega) with ⟨-, q⟩ | ⟨-, q⟩
    · rw [← q]; exact ho
    · rw [q] at ho; cases ho
  have good : ∀ j, j ≠ i → j ≠ i + 1 → ¬ Bad Ls i j → ¬ (j = i + 2 ∧ ∃ o, Ls[i + 1]? = some (.val o) ∧ o.category = 2) → Ls'[j]? = Ls[j]? := fun j hj hj' hb hb' => by
    rcases at_j j hj hj' with ⟨q, -⟩ | ⟨-, q1, o, q2, q3⟩
    · rw [q]
      rcases p2 j hj with ⟨-, q⟩ | ⟨q, -⟩
      · exact q
      · exact absurd q hb
    · exact absurd ⟨q1, o, up o q2, q3⟩ hb'
  have back : ∀ j s, j ≠ i → j ≠ i + 1 → s ≠ .unset → Ls'[j]? = some s → ¬ Bad Ls i j ∧ Ls[j]? = some s ∧ ¬ (j = i + 2 ∧ ∃ o, Ls1[i + 1]? = some (.val o) ∧ o.category = 2) := fun j s hj hj' hs h => by
    rcases at_j j hj hj' with ⟨q, q0⟩ | ⟨q, -⟩
    · rw [q] at h
      rcases p2 j hj with ⟨q1, q'⟩ | ⟨-, q'⟩
      · exact ⟨q1, by rw [← q']; exact h, q0⟩
      · rw [q'] at h; cases h; exact absurd rfl hs
    · rw [q] at h; cases h; exact absurd rfl hs
  have s2 := st2_at v L i hi
  refine ⟨_, e.trans e2, ⟨by rw [st2_len, l1, sz, p1], fun j w hj => ?_, fun j hj => ?_, fun j hj => ?_, fun j w hj hc => ?_⟩, by rw [sz, p1]⟩
  · by_cases q : j = i
    · subst q
      rw [s2.1] at hj
      cases hj; exact at_i
    · by_cases q1 : j = i + 1
      · subst q1; rw [s2.2] at hj; cases hj
      · obtain ⟨a1, a2, -⟩ := st2_else v L i j _ q q1 hj (by simp)
        have b1 := l2 j w a1
        rw [good j q q1 (not_bad_val wf b1 fun z => by rw [rf_cat]; exact a2 z w rfl) ?_]; exact b1
        rintro ⟨rfl, o, z1, z2⟩
        have := wf.2 _ _ z1 z2
        cases this.symm.trans b1
  · by_cases q : j = i
    · subst q
      rw [s2.1] at hj
      cases hj
    · by_cases q1 : j = i + 1
      · subst q1; exact at_i1
      · obtain ⟨a1, -, a3⟩ := st2_else v L i j _ q q1 hj (by simp)
        have b1 := l3 j a1
        rw [good j q q1 (not_bad_second wf b1 q1) fun z => a3 z.1 rfl]; exact b1
  · dsimp only at hj ⊢
    by_cases q1 : j = i + 1
    · subst q1; exact ⟨i, _, rfl, at_i, hv'⟩
    have q : j ≠ i := fun q => by subst q; rw [at_i] at hj; cases hj
    obtain ⟨b1, b2, b3⟩ := back j _ q q1 (by simp) hj
    obtain ⟨j0, v', rfl, h1, h2⟩ := wf.1 j b2
    dsimp only at h1
    have q0 : j0 ≠ i := fun z => b1 (Or.inr ⟨by omega, v', z ▸ h1, h2⟩)
    -- j0 = i + 1: then j = i + 2 was wiped
    have q0' : j0 ≠ i + 1 := fun z => by
      subst z
      rcases p2 (i + 1) (by omega) with ⟨-, w1⟩ | ⟨w1, -⟩
      · exact b3 ⟨rfl, v', by rw [w1]; exact h1, h2⟩
      · rcases w1 with ⟨w1, -⟩ | ⟨-, o, w1, w2⟩
        · omega
        · have := wf.2 _ _ w1 w2
          cases this.symm.trans h1
    refine ⟨j0, v', rfl, ?_, h2⟩
    rw [good j0 q0 q0' ?_ ?_]; exact h1
    · rintro (⟨z, -⟩ | ⟨z, -⟩)
      · exact q z
      · exact q0' z
    · rintro ⟨rfl, o, z1, z2⟩
      have := wf.2 _ _ z1 z2
      cases this.symm.trans h1
  · dsimp only at hj ⊢
    by_cases q1 : j = i
    · subst q1; exact at_i1
    have q : j ≠ i + 1 := fun q => by subst q; rw [at_i1] at hj; cases hj
    obtain ⟨b1, b2, -⟩ := back j _ q1 q (by simp) hj
    have h1 := wf.2 j w b2 hc
    dsimp only at h1
    have q0 : j + 1 ≠ i := fun z => b1 (Or.inl ⟨z, z ▸ h1⟩)
    rw [good (j + 1) q0 (by omega) ?_ ?_]; exact h1
    · rintro (⟨z, z1⟩ | ⟨z, -⟩)
      · obtain ⟨j1, v1, e1, e2, -⟩ := wf.1 _ z1
        obtain rfl : j1 = j + 1 := by omega
        cases h1.symm.trans e2
      · omega
    · rintro ⟨z, -⟩; omega
/-! what is known less of -/
def leL : List Slot → List Slot → Prop
  | [], [] => True
  | .unset :: a, _ :: b => leL a b
  | x :: a, y :: b => x = y ∧ leL a b
  | _, _ => False
theorem leL_len : ∀ {A B : List Slot}, leL A B → A.length = B.length
  | [], [], _ => rfl
  | .unset :: a, _ :: b, h => congrArg Nat.succ (leL_len (A := a) (B := b) h)
  | .second :: a, _ :: b, h => congrArg Nat.succ (leL_len (A := a) (B := b) h.2)
  | .val _ :: a, _ :: b, h => congrArg Nat.succ (leL_len (A := a) (B := b) h.2)
theorem leL_get : ∀ {A B : List Slot}, leL A B → ∀ {i : Nat} {s : Slot}, A[i]? = some s → s ≠ .unset → B[i]? = some s
  | [], [], _, i, s, h, _ => by simp at h
  | .unset :: a, _ :: b, _, 0, s, h, hs => by simp at h; exact absurd h.symm hs
  | .unset :: a, _ :: b, hl, i + 1, s, h, hs => by simpa using leL_get (A := a) (B := b) hl (by simpa using h) hs
  | .second :: a, _ :: b, hl, 0, s, h, hs => by simp at h; subst h; simp [← hl.1]
  | .second :: a, _ :: b, hl, i + 1, s, h, hs => by simpa using leL_get (A := a) (B := b) hl.2 (by simpa using h) hs
  | .val _ :: a, _ :: b, hl, 0, s, h, hs => by simp at h; subst h; simp [← hl.1]
  | .val _ :: a, _ :: b, hl, i + 1, s, h, hs => by simpa using leL_get (A := a) (B := b) hl.2 (by simpa using h) hs
theorem LR.weak {ad : Nat → Addr} {A B : List Slot} {Ls : Array Slot} (h : leL A B) (hL : LR ad B Ls) : LR ad A Ls :=
  ⟨(leL_len h).trans hL.1, fun i v q => hL.2.1 i v (leL_get h q (by simp)), fun i q => hL.2.2.1 i (leL_get h q (by simp)), hL.2.2.2⟩
theorem wf_cons {x : Slot} {M : List Slot} (hx : x = .unset ∨ ∃ v, x = .val v ∧ v.category = 1) (h : WFs fun i => M[i]?) : WFs fun i => (x :: M)[i]? := by
  refine ⟨fun i hi => ?_, fun i v hi hc => ?_⟩
  · cases i with
    | zero => rcases hx with rfl | ⟨v, rfl, -⟩ <;> (simp at hi)
    | succ i =>
      obtain ⟨j, v, rfl, h1, h2⟩ := h.1 i (by simpa using hi)
      exact ⟨j + 1, v, rfl, by simpa using h1, h2⟩
  · cases i with
    | zero =>
      rcases hx with rfl | ⟨w, rfl, hw⟩
      · simp at hi
      · simp at hi; subst hi; rw [hw] at hc; cases hc
    | succ i => simpa using h.2 i v (by simpa using hi) hc
theorem wf_cons2 {w : Value} {M : List Slot} (hw : w.category = 2) (h : WFs fun i => M[i]?) : WFs fun i => (.val w :: .second :: M)[i]? := by
  refine ⟨fun i hi => ?_, fun i v hi hc => ?_⟩
  · match i, hi with
    | 0, hi => simp at hi
    | 1, _ => exact ⟨0, w, rfl, rfl, hw⟩
    | i + 2, hi =>
      obtain ⟨j, v, rfl, h1, h2⟩ := h.1 i (by simpa using hi)
      exact ⟨j + 2, v, rfl, by simpa using h1, h2⟩
  · match i, hi with
    | 0, _ => rfl
    | 1, hi => simp at hi
    | i + 2, hi => simpa using h.2 i v (by simpa using hi) hc
/-- the local variables at the entry -/
def laid : List Value → List Slot
  | [] => []
  | v :: vs => if v.category = 2 then .val v :: .second :: laid vs else .val v :: laid vs
def entL (as : List Value) (n : Nat) : List Slot := laid as ++ List.replicate (n - (laid as).length) Slot.unset
theorem laid_rel (ad : Nat → Addr) (k : Nat) : ∀ as : List Value, (laid as ++ List.replicate k Slot.unset).length = (laid (as.map (rf ad)) ++ List.replicate k Slot.unset).length ∧ (∀ (i : Nat) (v : Value), (laid as ++ List.replicate k Slot.unset)[i]? = some (.val v) → (laid (as.map (rf ad)) ++ List.replicate k Slot.unset)[i]? = some (.val (rf ad v))) ∧
    (∀ i : Nat, (laid as ++ List.replicate k Slot.unset)[i]? = some .second → (laid (as.map (rf ad)) ++ List.replicate k Slot.unset)[i]? = some .second) ∧ WFs fun i => (laid (as.map (rf ad)) ++ List.replicate k Slot.unset)[i]?
  | [] => by
    refine ⟨rfl, fun i v h => ?_, fun i h => h, fun i h => ?_, fun i v h => ?_⟩
    · simp [laid, List.getElem?_replicate] at h
    · simp [laid, List.getElem?_replicate] at h
    · simp [laid, List.getElem?_replicate] at h
  | v :: vs => by
    obtain ⟨a1, a2, a3, a4⟩ := laid_rel ad k vs
    have hc : (rf ad v).category = v.category := rf_cat ad v
    by_cases h : v.category = 2
    · have e1 : laid (v :: vs) = .val v :: .second :: laid vs := if_pos h
      have e2 : laid ((v :: vs).map (rf ad)) = .val (rf ad v) :: .second :: laid (vs.map (rf ad)) := if_pos (hc.trans h)
      rw [e1, e2]
      refine ⟨by simpa using a1, fun i w hi => ?_, fun i hi => ?_, wf_cons2 (hc.trans h) a4⟩
      · match i, hi with
        | 0, hi => simp at hi; subst hi; rfl
        | 1, hi => simp at hi
        | i + 2, hi => simpa using a2 i w (by simpa using hi)
      · match i, hi with
        | 0, hi => simp at hi
        | 1, hi => rfl
        | i + 2, hi => simpa using a3 i (by simpa using hi)
    · have e1 : laid (v :: vs) = .val v :: laid vs := if_neg h
      have e2 : laid ((v :: vs).map (rf ad)) = .val (rf ad v) :: laid (vs.map (rf ad)) := if_neg (by rw [hc]; exact h)
      have h1 : (rf ad v).category = 1 := by
        rw [hc]; cases v <;> first | rfl | exact absurd rfl h
      rw [e1, e2]
      refine ⟨by simpa using a1, fun i w hi => ?_, fun i hi => ?_, wf_cons (Or.inr ⟨_, rfl, h1⟩) a4⟩
      · match i, hi with
        | 0, hi => simp at hi; subst hi; rfl
        | i + 1, hi => simpa using a2 i w (by simpa using hi)
      · match i, hi with
        | 0, hi => simp at hi
        | i + 1, hi => simpa using a3 i (by simpa using hi)
theorem laid_foldl : ∀ (as : List Value) (acc : Array Slot), (as.foldl (fun acc v => if v.category = 2 then (acc.push (.val v)).push .second else acc.push (.val v)) acc).toList = acc.toList ++ laid as
  | [], acc => by simp [laid]
  | v :: vs, acc => by
    show (List.foldl _ (if v.category = 2 then (acc.push (.val v)).push .second else acc.push (.val v)) vs : Array Slot).toList = _
    rw [laid_foldl vs]
    by_cases h : v.category = 2
    · rw [if_pos h, show laid (v :: vs) = .val v :: .second :: laid vs from if_pos h]; simp
    · rw [if_neg h, show laid (v :: vs) = .val v :: laid vs from if_neg h]; simp
theorem laid_map_len (ad : Nat → Addr) (as : List Value) : (laid (as.map (rf ad))).length = (laid as).length := by
  have := (laid_rel ad 0 as).1
  simpa using this.symm
theorem entry_LR (ad : Nat → Addr) (as : List Value) (n : Nat) (hn : (laid as).length ≤ n) : LR ad (entL as n) (argsToLocals (as.map (rf ad)).toArray n) ∧ (argsToLocals (as.map (rf ad)).toArray n).size = n := by
  have e : (argsToLocals (as.map (rf ad)).toArray n).toList = laid (as.map (rf ad)) ++ List.replicate (n - (laid as).length) Slot.unset := by
    have e1 := laid_foldl (as.map (rf ad)) #[]
    have e2 : ((as.map (rf ad)).toArray.foldl (fun acc v => if v.category = 2 then (acc.push (.val v)).push .second else acc.push (.val v)) #[] : Array Slot).toList = laid (as.map (rf ad)) := by
      rw [List.foldl_toArray']
      · rw [e1]; rfl
      · rfl
    have e3 : ((as.map (rf ad)).toArray.foldl (fun acc v => if v.category = 2 then (acc.push (.val v)).push .second else acc.push (.val v)) #[] : Array Slot).size = (laid as).length := by
      rw [← Array.length_toList, e2, laid_map_len]
    show (_ ++ Array.replicate (n - _) Slot.unset).toList = _
    rw [Array.toList_append, e2, Array.toList_replicate, e3]
  obtain ⟨a1, a2, a3, a4⟩ := laid_rel ad (n - (laid as).length) as
  have g : ∀ i : Nat, (argsToLocals (as.map (rf ad)).toArray n)[i]? = (laid (as.map (rf ad)) ++ List.replicate (n - (laid as).length) Slot.unset)[i]? := fun i => by rw [← e, Array.getElem?_toList]
  have sz : (argsToLocals (as.map (rf ad)).toArray n).size = (laid (as.map (rf ad)) ++ List.replicate (n - (laid as).length) Slot.unset).length := by rw [← e, Array.length_toList]
  refine ⟨⟨by rw [sz]; exact a1, fun i v h => by rw [g]; exact a2 i v h, fun i h => by rw [g]; exact a3 i h, ?_⟩, by rw [sz, ← a1]; simp; omega⟩
  have : (fun i => (argsToLocals (as.map (rf ad)).toArray n)[i]?) = fun i => (laid (as.map (rf ad)) ++ List.replicate (n - (laid as).length) Slot.unset)[i]? := funext g
  rw [this]; exact a4
/-! ## reading and writing a list as Java does an array -/
def rd {α : Type} (xs : List α) (i : Int32) : Option α := if i < 0 then none else xs[i.toNatClampNeg]?
def wr {α : Type} (xs : List α) (i : Int32) (x : α) : Option (List α) := if i < 0 then none else if i.toNatClampNeg < xs.length then some (xs.set i.toNatClampNeg x) else none
theorem rd_slots {α : Type} {f : α → Value} {sl : Array Value} {xs : List α} (h : sl.toList = xs.map f) {j : Int32} {x : α} (hx : rd xs j = some x) : ¬ (j < 0 ∨ sl.size ≤ j.toNatClampNeg) ∧ sl[j.toNatClampNeg]? = some (f x) := by
  unfold rd at hx
  by_cases hj : j < 0
  · rw [if_pos hj] at hx; cases hx
  · rw [if_neg hj] at hx
    have h1 : sl[j.toNatClampNeg]? = some (f x) := by rw [← Array.getElem?_toList, h, List.getElem?_map, hx]; rfl
    exact ⟨fun q => q.elim hj fun q => absurd (Array.getElem?_eq_some_iff.mp h1).1 (Nat.not_lt.mpr q), h1⟩
theorem wr_slots {α : Type} {f : α → Value} {cl : Cell} {xs xs' : List α} (h : cl.slots.toList = xs.map f) {j : Int32} {x : α} (hx : wr xs j x = some xs') : ¬ (j < 0 ∨ cl.slots.size ≤ j.toNatClampNeg) ∧ (cl.setSlot j.toNatClampNeg (f x)).slots.toList = xs'.map f := by
  unfold wr at hx
  by_cases hj : j < 0
  · rw [if_pos hj] at hx; cases hx
  · rw [if_neg hj] at hx
    by_cases hl : j.toNatClampNeg < xs.length
    · rw [if_pos hl] at hx; cases hx
      have sz : cl.slots.size = xs.length := by rw [← Array.length_toList, h, List.length_map]
      refine ⟨fun q => q.elim hj fun q => by omega, ?_⟩
      show (cl.slots.setIfInBounds _ _).toList = _
      rw [Array.toList_setIfInBounds, h, List.map_set]
    · rw [if_neg hl] at hx; cases hx
/-! ## the walk's promise, said of the small view -/
def Am (Z : State) (own mn : String) (bytes : ByteArray) (maxL : Nat) (ret : Option FieldType) (p : Program) (s : State) (m : MethodId) (meth : Method) (c : Code) : Prop :=
  p.tables.exec = Jvm.exec ∧ Z.Warmed39 s.vm ∧ c.code = bytes ∧ c.maxLocals = maxL ∧ meth.sig.returnType = ret ∧ meth.locks = false ∧ s.vm.findClass own = some m.cls ∧ meth.name = mn
def WP (l : Launch) (Z : State) (C : String) (lay : List (String × String)) (own mn : String) (bytes : ByteArray) (maxL : Nat) (ret : Option FieldType) (R : Room) (n0 ro : Nat) (Q : Option Value → List OwnC → Prop) (k n pc : Nat) (L : List Slot) (S : List Value) (H : List OwnC) : Prop :=
  ∀ (p : Program) (e : Env) (s : State) (m : MethodId) (args : Array Value) (below : List Frame) (meth : Method) (c : Code) (T : State) (locs : List Loc) (ad : Nat → Addr) (Ls : Array Slot),
    Stand p l e R s m args below meth c T locs k n → Am Z own mn bytes maxL ret p s m meth c → HR Z C lay n0 ro ad H T.heap → Fr n0 locs → LR ad L Ls → Ls.size = maxL →
    ∃ (s₂ : State) (v : Option Value) (H' : List OwnC) (locs' : List Loc),
      Steps p.tables e below (T.setTop (mkF m pc Ls (S.map (rf ad)))) s₂ ∧ s₂.status = .running ∧ Ended s₂ below (.returned (v.map (rf ad))) ∧ Q v H' ∧ HR Z C lay n0 ro ad H' s₂.heap ∧ Kp ad H.length T.heap s₂.heap ∧ Fr n0 locs' ∧ FrameEnd s (.returned (v.map (rf ad))) s₂ locs' R.cells R.slots
section Rules
variable {l : Launch} {Z : State} {a0 : Array Value} {C : String} {lay : List (String × String)} {own mn : String} {bytes : ByteArray} {maxL : Nat} {ret : Option FieldType} {R : Room} {n0 ro : Nat} {Q : Option Value → List OwnC → Prop} {k n pc pc' : Nat} {L L' : List Slot} {S S' : List Value} {H H' : List OwnC}
theorem WP.weak (h : leL L' L) (nx : WP l Z C lay own mn bytes maxL ret R n0 ro Q k n pc L' S H) : WP l Z C lay own mn bytes maxL ret R n0 ro Q k n pc L S H :=
  fun p e s m args below meth c T locs ad Ls X A hr N hL hz => nx p e s m args below meth c T locs ad Ls X A hr N (LR.weak h hL) hz
theorem WP.of (hs : ∀ (p : Program) (e : Env) (s : State) (m : MethodId) (args : Array Value) (below : List Frame) (meth : Method) (c : Code) (T : State) (locs : List Loc) (ad : Nat → Addr) (Ls : Array Slot), Stand p l e R s m args below meth c T locs k n → Am Z own mn bytes maxL ret p s m meth c → LR ad L Ls → Ls.size = maxL →
      ∃ Ls', LR ad L' Ls' ∧ Ls'.size = maxL ∧ ∀ t, Steps p.tables e below (T.setTop (mkF m pc' Ls' (S'.map (rf ad)))) t → Steps p.tables e below (T.setTop (mkF m pc Ls (S.map (rf ad)))) t)
    (nx : WP l Z C lay own mn bytes maxL ret R n0 ro Q k n pc' L' S' H) : WP l Z C lay own mn bytes maxL ret R n0 ro Q k n pc L S H := by
  intro p e s m args below meth c T locs ad Ls X A hr N hL hz
  obtain ⟨Ls', hL', hz', st⟩ := hs p e s m args below meth c T locs ad Ls X A hL hz
  obtain ⟨s₂, v, H', locs', h1, h2⟩ := nx p e s m args below meth c T locs ad Ls' X A hr N hL' hz'
  exact ⟨s₂, v, H', locs', st _ h1, h2⟩
theorem WP.iload {j : Nat} {x : Int32} (hd : decode bytes pc = .ok (.iload j, 2)) (hl : L[j]? = some (.val (.int x))) (nx : WP l Z C lay own mn bytes maxL ret R n0 ro Q k n (pc + 2) L (.int x :: S) H) : WP l Z C lay own mn bytes maxL ret R n0 ro Q k n pc L (S) H :=
  WP.of (fun p e s m args below meth c T locs ad Ls X A hL hz => ⟨Ls, hL, hz, fun t ht => XS.iload X.here A.1 rfl (hb A.2.2.1 hd) (hL.2.1 _ _ hl) ht⟩) nx
theorem WP.iloadN {j : Fin 4} {x : Int32} (hd : decode bytes pc = .ok (.iload_n j, 1)) (hl : L[j.val]? = some (.val (.int x))) (nx : WP l Z C lay own mn bytes maxL ret R n0 ro Q k n (pc + 1) L (.int x :: S) H) : WP l Z C lay own mn bytes maxL ret R n0 ro Q k n pc L (S) H :=
  WP.of (fun p e s m args below meth c T locs ad Ls X A hL hz => ⟨Ls, hL, hz, fun t ht => XS.iloadN X.here A.1 rfl (hb A.2.2.1 hd) (hL.2.1 _ _ hl) ht⟩) nx
theorem WP.lload {j : Nat} {x : Int64} (hd : decode bytes pc = .ok (.lload j, 2)) (hl : L[j]? = some (.val (.long x))) (nx : WP l Z C lay own mn bytes maxL ret R n0 ro Q k n (pc + 2) L (.long x :: S) H) : WP l Z C lay own mn bytes maxL ret R n0 ro Q k n pc L (S) H :=
  WP.of (fun p e s m args below meth c T locs ad Ls X A hL hz => ⟨Ls, hL, hz, fun t ht => XT.lload X.here A.1 rfl (hb A.2.2.1 hd) (hL.2.1 _ _ hl) ht⟩) nx
theorem WP.lloadN {j : Fin 4} {x : Int64} (hd : decode bytes pc = .ok (.lload_n j, 1)) (hl : L[j.val]? = some (.val (.long x))) (nx : WP l Z C lay own mn bytes maxL ret R n0 ro Q k n (pc + 1) L (.long x :: S) H) : WP l Z C lay own mn bytes maxL ret R n0 ro Q k n pc L (S) H :=
  WP.of (fun p e s m args below meth c T locs ad Ls X A hL hz => ⟨Ls, hL, hz, fun t ht => XT.lloadN X.here A.1 rfl (hb A.2.2.1 hd) (hL.2.1 _ _ hl) ht⟩) nx
theorem WP.aload {j : Nat} {i : Nat} (hd : decode bytes pc = .ok (.aload j, 2)) (hl : L[j]? = some (.val (.ref i))) (nx : WP l Z C lay own mn bytes maxL ret R n0 ro Q k n (pc + 2) L (.ref i :: S) H) : WP l Z C lay own mn bytes maxL ret R n0 ro Q k n pc L (S) H :=
  WP.of (fun p e s m args below meth c T locs ad Ls X A hL hz => ⟨Ls, hL, hz, fun t ht => XS.aload X.here A.1 rfl (hb A.2.2.1 hd) (hL.2.1 _ _ hl) rfl ht⟩) nx
theorem WP.aloadN {j : Fin 4} {i : Nat} (hd : decode bytes pc = .ok (.aload_n j, 1)) (hl : L[j.val]? = some (.val (.ref i))) (nx : WP l Z C lay own mn bytes maxL ret R n0 ro Q k n (pc + 1) L (.ref i :: S) H) : WP l Z C lay own mn bytes maxL ret R n0 ro Q k n pc L (S) H :=
  WP.of (fun p e s m args below meth c T locs ad Ls X A hL hz => ⟨Ls, hL, hz, fun t ht => XS.aloadN X.here A.1 rfl (hb A.2.2.1 hd) (hL.2.1 _ _ hl) rfl ht⟩) nx
theorem WP.iconst {i : Int} (v : Int32) (hd : decode bytes pc = .ok (.iconst i, 1)) (hv : Int32.ofInt i = v) (nx : WP l Z C lay own mn bytes maxL ret R n0 ro Q k n (pc + 1) L (.int v :: S) H) : WP l Z C lay own mn bytes maxL ret R n0 ro Q k n pc L (S) H :=
  WP.of (fun p e s m args below meth c T locs ad Ls X A hL hz => ⟨Ls, hL, hz, fun t ht => XS.iconst X.here A.1 rfl (hb A.2.2.1 hd) (by rw [hv]; exact ht)⟩) nx
theorem WP.bipush {i : Int} (v : Int32) (hd : decode bytes pc = .ok (.bipush i, 2)) (hv : (Int8.ofInt i).toInt32 = v) (nx : WP l Z C lay own mn bytes maxL ret R n0 ro Q k n (pc + 2) L (.int v :: S) H) : WP l Z C lay own mn bytes maxL ret R n0 ro Q k n pc L (S) H :=
  WP.of (fun p e s m args below meth c T locs ad Ls X A hL hz => ⟨Ls, hL, hz, fun t ht => XS.bipush X.here A.1 rfl (hb A.2.2.1 hd) (by rw [hv]; exact ht)⟩) nx
theorem WP.sipush {i : Int} (v : Int32) (hd : decode bytes pc = .ok (.sipush i, 3)) (hv : (Int16.ofInt i).toInt32 = v) (nx : WP l Z C lay own mn bytes maxL ret R n0 ro Q k n (pc + 3) L (.int v :: S) H) : WP l Z C lay own mn bytes maxL ret R n0 ro Q k n pc L (S) H :=
  WP.of (fun p e s m args below meth c T locs ad Ls X A hL hz => ⟨Ls, hL, hz, fun t ht => XS.sipush X.here A.1 rfl (hb A.2.2.1 hd) (by rw [hv]; exact ht)⟩) nx
theorem WP.lconst {j : Fin 2} (v : Int64) (hd : decode bytes pc = .ok (.lconst j, 1)) (hv : Int64.ofNat j = v) (nx : WP l Z C lay own mn bytes maxL ret R n0 ro Q k n (pc + 1) L (.long v :: S) H) : WP l Z C lay own mn bytes maxL ret R n0 ro Q k n pc L (S) H :=
  WP.of (fun p e s m args below meth c T locs ad Ls X A hL hz => ⟨Ls, hL, hz, fun t ht => XT.lconst X.here A.1 rfl (hb A.2.2.1 hd) (by rw [hv]; exact ht)⟩) nx
theorem WP.ldc {idx : Nat} {v : Int32} (hd : decode bytes pc = .ok (.ldc idx, 2)) (hw : (Cond.constant own idx v).before a0 Z = true) (nx : WP l Z C lay own mn bytes maxL ret R n0 ro Q k n (pc + 2) L (.int v :: S) H) : WP l Z C lay own mn bytes maxL ret R n0 ro Q k n pc L (S) H :=
  WP.of (fun p e s m args below meth c T locs ad Ls X A hL hz => ⟨Ls, hL, hz, fun t ht => X.ldcInt A.1 A.2.2.2.2.2.2.1 (mvT A.2.1 hw) (g := mkF m pc Ls (S.map (rf ad))) rfl (hb A.2.2.1 hd) t ht⟩) nx
theorem WP.ldcw {idx : Nat} {v : Int32} (hd : decode bytes pc = .ok (.ldc_w idx, 3)) (hw : (Cond.constant own idx v).before a0 Z = true) (nx : WP l Z C lay own mn bytes maxL ret R n0 ro Q k n (pc + 3) L (.int v :: S) H) : WP l Z C lay own mn bytes maxL ret R n0 ro Q k n pc L (S) H :=
  WP.of (fun p e s m args below meth c T locs ad Ls X A hL hz => ⟨Ls, hL, hz, fun t ht => X.ldcwInt A.1 A.2.2.2.2.2.2.1 (mvT A.2.1 hw) (g := mkF m pc Ls (S.map (rf ad))) rfl (hb A.2.2.1 hd) t ht⟩) nx
theorem WP.ldc2 {idx : Nat} {v : Int64} (hd : decode bytes pc = .ok (.ldc2_w idx, 3)) (hw : (Cond.constantLong own idx v).before a0 Z = true) (nx : WP l Z C lay own mn bytes maxL ret R n0 ro Q k n (pc + 3) L (.long v :: S) H) : WP l Z C lay own mn bytes maxL ret R n0 ro Q k n pc L (S) H :=
  WP.of (fun p e s m args below meth c T locs ad Ls X A hL hz => ⟨Ls, hL, hz, fun t ht => X.ldc2Long A.1 A.2.2.2.2.2.2.1 (mvT A.2.1 hw) (g := mkF m pc Ls (S.map (rf ad))) rfl (hb A.2.2.1 hd) t ht⟩) nx
theorem WP.iadd {x y : Int32} (hd : decode bytes pc = .ok (.iadd, 1)) (nx : WP l Z C lay own mn bytes maxL ret R n0 ro Q k n (pc + 1) L (.int (x + y) :: S) H) : WP l Z C lay own mn bytes maxL ret R n0 ro Q k n pc L (.int y :: .int x :: S) H :=
  WP.of (fun p e s m args below meth c T locs ad Ls X A hL hz => ⟨Ls, hL, hz, fun t ht => XS.iadd X.here A.1 rfl (hb A.2.2.1 hd) rfl ht⟩) nx
theorem WP.ladd {x y : Int64} (hd : decode bytes pc = .ok (.ladd, 1)) (nx : WP l Z C lay own mn bytes maxL ret R n0 ro Q k n (pc + 1) L (.long (x + y) :: S) H) : WP l Z C lay own mn bytes maxL ret R n0 ro Q k n pc L (.long y :: .long x :: S) H :=
  WP.of (fun p e s m args below meth c T locs ad Ls X A hL hz => ⟨Ls, hL, hz, fun t ht => XT.ladd X.here A.1 rfl (hb A.2.2.1 hd) rfl ht⟩) nx
theorem WP.isub {x y : Int32} (hd : decode bytes pc = .ok (.isub, 1)) (nx : WP l Z C lay own mn bytes maxL ret R n0 ro Q k n (pc + 1) L (.int (x - y) :: S) H) : WP l Z C lay own mn bytes maxL ret R n0 ro Q k n pc L (.int y :: .int x :: S) H :=
  WP.of (fun p e s m args below meth c T locs ad Ls X A hL hz => ⟨Ls, hL, hz, fun t ht => XS.isub X.here A.1 rfl (hb A.2.2.1 hd) rfl ht⟩) nx
theorem WP.lsub {x y : Int64} (hd : decode bytes pc = .ok (.lsub, 1)) (nx : WP l Z C lay own mn bytes maxL ret R n0 ro Q k n (pc + 1) L (.long (x - y) :: S) H) : WP l Z C lay own mn bytes maxL ret R n0 ro Q k n pc L (.long y :: .long x :: S) H :=
  WP.of (fun p e s m args below meth c T locs ad Ls X A hL hz => ⟨Ls, hL, hz, fun t ht => XT.lsub X.here A.1 rfl (hb A.2.2.1 hd) rfl ht⟩) nx
theorem WP.imul {x y : Int32} (hd : decode bytes pc = .ok (.imul, 1)) (nx : WP l Z C lay own mn bytes maxL ret R n0 ro Q k n (pc + 1) L (.int (x * y) :: S) H) : WP l Z C lay own mn bytes maxL ret R n0 ro Q k n pc L (.int y :: .int x :: S) H :=
  WP.of (fun p e s m args below meth c T locs ad Ls X A hL hz => ⟨Ls, hL, hz, fun t ht => XS.imul X.here A.1 rfl (hb A.2.2.1 hd) rfl ht⟩) nx
theorem WP.lmul {x y : Int64} (hd : decode bytes pc = .ok (.lmul, 1)) (nx : WP l Z C lay own mn bytes maxL ret R n0 ro Q k n (pc + 1) L (.long (x * y) :: S) H) : WP l Z C lay own mn bytes maxL ret R n0 ro Q k n pc L (.long y :: .long x :: S) H :=
  WP.of (fun p e s m args below meth c T locs ad Ls X A hL hz => ⟨Ls, hL, hz, fun t ht => XT.lmul X.here A.1 rfl (hb A.2.2.1 hd) rfl ht⟩) nx
theorem WP.iand {x y : Int32} (hd : decode bytes pc = .ok (.iand, 1)) (nx : WP l Z C lay own mn bytes maxL ret R n0 ro Q k n (pc + 1) L (.int (x &&& y) :: S) H) : WP l Z C lay own mn bytes maxL ret R n0 ro Q k n pc L (.int y :: .int x :: S) H :=
  WP.of (fun p e s m args below meth c T locs ad Ls X A hL hz => ⟨Ls, hL, hz, fun t ht => XS.iand X.here A.1 rfl (hb A.2.2.1 hd) rfl ht⟩) nx
theorem WP.land {x y : Int64} (hd : decode bytes pc = .ok (.land, 1)) (nx : WP l Z C lay own mn bytes maxL ret R n0 ro Q k n (pc + 1) L (.long (x &&& y) :: S) H) : WP l Z C lay own mn bytes maxL ret R n0 ro Q k n pc L (.long y :: .long x :: S) H :=
  WP.of (fun p e s m args below meth c T locs ad Ls X A hL hz => ⟨Ls, hL, hz, fun t ht => XT.land X.here A.1 rfl (hb A.2.2.1 hd) rfl ht⟩) nx
theorem WP.ior {x y : Int32} (hd : decode bytes pc = .ok (.ior, 1)) (nx : WP l Z C lay own mn bytes maxL ret R n0 ro Q k n (pc + 1) L (.int (x ||| y) :: S) H) : WP l Z C lay own mn bytes maxL ret R n0 ro Q k n pc L (.int y :: .int x :: S) H :=
  WP.of (fun p e s m args below meth c T locs ad Ls X A hL hz => ⟨Ls, hL, hz, fun t ht => XT.ior X.here A.1 rfl (hb A.2.2.1 hd) rfl ht⟩) nx
theorem WP.lor {x y : Int64} (hd : decode bytes pc = .ok (.lor, 1)) (nx : WP l Z C lay own mn bytes maxL ret R n0 ro Q k n (pc + 1) L (.long (x ||| y) :: S) H) : WP l Z C lay own mn bytes maxL ret R n0 ro Q k n pc L (.long y :: .long x :: S) H :=
  WP.of (fun p e s m args below meth c T locs ad Ls X A hL hz => ⟨Ls, hL, hz, fun t ht => XT.lor X.here A.1 rfl (hb A.2.2.1 hd) rfl ht⟩) nx
theorem WP.ixor {x y : Int32} (hd : decode bytes pc = .ok (.ixor, 1)) (nx : WP l Z C lay own mn bytes maxL ret R n0 ro Q k n (pc + 1) L (.int (x ^^^ y) :: S) H) : WP l Z C lay own mn bytes maxL ret R n0 ro Q k n pc L (.int y :: .int x :: S) H :=
  WP.of (fun p e s m args below meth c T locs ad Ls X A hL hz => ⟨Ls, hL, hz, fun t ht => XT.ixor X.here A.1 rfl (hb A.2.2.1 hd) rfl ht⟩) nx
theorem WP.lxor {x y : Int64} (hd : decode bytes pc = .ok (.lxor, 1)) (nx : WP l Z C lay own mn bytes maxL ret R n0 ro Q k n (pc + 1) L (.long (x ^^^ y) :: S) H) : WP l Z C lay own mn bytes maxL ret R n0 ro Q k n pc L (.long y :: .long x :: S) H :=
  WP.of (fun p e s m args below meth c T locs ad Ls X A hL hz => ⟨Ls, hL, hz, fun t ht => XT.lxor X.here A.1 rfl (hb A.2.2.1 hd) rfl ht⟩) nx
theorem WP.idiv {x y : Int32} (hd : decode bytes pc = .ok (.idiv, 1)) (hy : ¬ y = 0) (nx : WP l Z C lay own mn bytes maxL ret R n0 ro Q k n (pc + 1) L (.int (x / y) :: S) H) : WP l Z C lay own mn bytes maxL ret R n0 ro Q k n pc L (.int y :: .int x :: S) H :=
  WP.of (fun p e s m args below meth c T locs ad Ls X A hL hz => ⟨Ls, hL, hz, fun t ht => XS.idiv X.here A.1 rfl (hb A.2.2.1 hd) rfl hy ht⟩) nx
theorem WP.irem {x y : Int32} (hd : decode bytes pc = .ok (.irem, 1)) (hy : ¬ y = 0) (nx : WP l Z C lay own mn bytes maxL ret R n0 ro Q k n (pc + 1) L (.int (x % y) :: S) H) : WP l Z C lay own mn bytes maxL ret R n0 ro Q k n pc L (.int y :: .int x :: S) H :=
  WP.of (fun p e s m args below meth c T locs ad Ls X A hL hz => ⟨Ls, hL, hz, fun t ht => iremM X A.1 rfl (hb A.2.2.1 hd) rfl hy ht⟩) nx
theorem WP.ldiv {x y : Int64} (hd : decode bytes pc = .ok (.ldiv, 1)) (hy : ¬ y = 0) (nx : WP l Z C lay own mn bytes maxL ret R n0 ro Q k n (pc + 1) L (.long (x / y) :: S) H) : WP l Z C lay own mn bytes maxL ret R n0 ro Q k n pc L (.long y :: .long x :: S) H :=
  WP.of (fun p e s m args below meth c T locs ad Ls X A hL hz => ⟨Ls, hL, hz, fun t ht => XT.ldiv X.here A.1 rfl (hb A.2.2.1 hd) rfl hy ht⟩) nx
theorem lrem_mod (x y : Int64) : x - (x / y) * y = x % y := by
  apply Int64.toInt_inj.mp
  have h1 := Int64.le_toInt (x % y)
  have h2 := Int64.toInt_lt (x % y)
  rw [Int64.toInt_sub, Int64.toInt_mul, Int64.toInt_div, Int.bmod_mul_bmod, Int.sub_bmod_bmod, Int.mul_comm (x.toInt.tdiv y.toInt), ← Int.tmod_def, ← Int64.toInt_mod]
  exact Int.bmod_eq_of_le_mul_two (by omega) (by omega)
theorem WP.lrem {x y : Int64} (hd : decode bytes pc = .ok (.lrem, 1)) (hy : ¬ y = 0) (nx : WP l Z C lay own mn bytes maxL ret R n0 ro Q k n (pc + 1) L (.long (x % y) :: S) H) : WP l Z C lay own mn bytes maxL ret R n0 ro Q k n pc L (.long y :: .long x :: S) H :=
  WP.of (fun p e s m args below meth c T locs ad Ls X A hL hz => ⟨Ls, hL, hz, fun t ht => XT.lrem X.here A.1 rfl (hb A.2.2.1 hd) rfl hy (by rw [lrem_mod]; exact ht)⟩) nx
theorem WP.ishl {x y : Int32} (hd : decode bytes pc = .ok (.ishl, 1)) (nx : WP l Z C lay own mn bytes maxL ret R n0 ro Q k n (pc + 1) L (.int (x <<< (y &&& 31)) :: S) H) : WP l Z C lay own mn bytes maxL ret R n0 ro Q k n pc L (.int y :: .int x :: S) H :=
  WP.of (fun p e s m args below meth c T locs ad Ls X A hL hz => ⟨Ls, hL, hz, fun t ht => XT.ishl X.here A.1 rfl (hb A.2.2.1 hd) rfl ht⟩) nx
theorem WP.ishr {x y : Int32} (hd : decode bytes pc = .ok (.ishr, 1)) (nx : WP l Z C lay own mn bytes maxL ret R n0 ro Q k n (pc + 1) L (.int (x >>> (y &&& 31)) :: S) H) : WP l Z C lay own mn bytes maxL ret R n0 ro Q k n pc L (.int y :: .int x :: S) H :=
  WP.of (fun p e s m args below meth c T locs ad Ls X A hL hz => ⟨Ls, hL, hz, fun t ht => XT.ishr X.here A.1 rfl (hb A.2.2.1 hd) rfl ht⟩) nx
theorem WP.iushr {x y : Int32} (hd : decode bytes pc = .ok (.iushr, 1)) (nx : WP l Z C lay own mn bytes maxL ret R n0 ro Q k n (pc + 1) L (.int (XT.ushr x y) :: S) H) : WP l Z C lay own mn bytes maxL ret R n0 ro Q k n pc L (.int y :: .int x :: S) H :=
  WP.of (fun p e s m args below meth c T locs ad Ls X A hL hz => ⟨Ls, hL, hz, fun t ht => XT.iushr X.here A.1 rfl (hb A.2.2.1 hd) rfl ht⟩) nx
theorem WP.lshl {x : Int64} {y : Int32} (hd : decode bytes pc = .ok (.lshl, 1)) (nx : WP l Z C lay own mn bytes maxL ret R n0 ro Q k n (pc + 1) L (.long (x <<< (y.toInt64 &&& 63)) :: S) H) : WP l Z C lay own mn bytes maxL ret R n0 ro Q k n pc L (.int y :: .long x :: S) H :=
  WP.of (fun p e s m args below meth c T locs ad Ls X A hL hz => ⟨Ls, hL, hz, fun t ht => XT.lshl X.here A.1 rfl (hb A.2.2.1 hd) rfl ht⟩) nx
theorem WP.lshr {x : Int64} {y : Int32} (hd : decode bytes pc = .ok (.lshr, 1)) (nx : WP l Z C lay own mn bytes maxL ret R n0 ro Q k n (pc + 1) L (.long (x >>> (y.toInt64 &&& 63)) :: S) H) : WP l Z C lay own mn bytes maxL ret R n0 ro Q k n pc L (.int y :: .long x :: S) H :=
  WP.of (fun p e s m args below meth c T locs ad Ls X A hL hz => ⟨Ls, hL, hz, fun t ht => XT.lshr X.here A.1 rfl (hb A.2.2.1 hd) rfl ht⟩) nx
theorem WP.lushr {x : Int64} {y : Int32} (hd : decode bytes pc = .ok (.lushr, 1)) (nx : WP l Z C lay own mn bytes maxL ret R n0 ro Q k n (pc + 1) L (.long (XT.ushrL x y) :: S) H) : WP l Z C lay own mn bytes maxL ret R n0 ro Q k n pc L (.int y :: .long x :: S) H :=
  WP.of (fun p e s m args below meth c T locs ad Ls X A hL hz => ⟨Ls, hL, hz, fun t ht => XT.lushr X.here A.1 rfl (hb A.2.2.1 hd) rfl ht⟩) nx
theorem WP.ineg {x : Int32} (hd : decode bytes pc = .ok (.ineg, 1)) (nx : WP l Z C lay own mn bytes maxL ret R n0 ro Q k n (pc + 1) L (.int (-x) :: S) H) : WP l Z C lay own mn bytes maxL ret R n0 ro Q k n pc L (.int x :: S) H :=
  WP.of (fun p e s m args below meth c T locs ad Ls X A hL hz => ⟨Ls, hL, hz, fun t ht => XS.ineg X.here A.1 rfl (hb A.2.2.1 hd) rfl ht⟩) nx
theorem WP.lneg {x : Int64} (hd : decode bytes pc = .ok (.lneg, 1)) (nx : WP l Z C lay own mn bytes maxL ret R n0 ro Q k n (pc + 1) L (.long (-x) :: S) H) : WP l Z C lay own mn bytes maxL ret R n0 ro Q k n pc L (.long x :: S) H :=
  WP.of (fun p e s m args below meth c T locs ad Ls X A hL hz => ⟨Ls, hL, hz, fun t ht => XT.lneg X.here A.1 rfl (hb A.2.2.1 hd) rfl ht⟩) nx
theorem WP.i2l {x : Int32} (hd : decode bytes pc = .ok (.i2l, 1)) (nx : WP l Z C lay own mn bytes maxL ret R n0 ro Q k n (pc + 1) L (.long x.toInt64 :: S) H) : WP l Z C lay own mn bytes maxL ret R n0 ro Q k n pc L (.int x :: S) H :=
  WP.of (fun p e s m args below meth c T locs ad Ls X A hL hz => ⟨Ls, hL, hz, fun t ht => XT.i2l X.here A.1 rfl (hb A.2.2.1 hd) rfl ht⟩) nx
theorem WP.l2i {x : Int64} (hd : decode bytes pc = .ok (.l2i, 1)) (nx : WP l Z C lay own mn bytes maxL ret R n0 ro Q k n (pc + 1) L (.int x.toInt32 :: S) H) : WP l Z C lay own mn bytes maxL ret R n0 ro Q k n pc L (.long x :: S) H :=
  WP.of (fun p e s m args below meth c T locs ad Ls X A hL hz => ⟨Ls, hL, hz, fun t ht => XT.l2i X.here A.1 rfl (hb A.2.2.1 hd) rfl ht⟩) nx
theorem WP.lcmp {x y : Int64} (hd : decode bytes pc = .ok (.lcmp, 1)) (nx : WP l Z C lay own mn bytes maxL ret R n0 ro Q k n (pc + 1) L (.int (XT.cmpL x y) :: S) H) : WP l Z C lay own mn bytes maxL ret R n0 ro Q k n pc L (.long y :: .long x :: S) H :=
  WP.of (fun p e s m args below meth c T locs ad Ls X A hL hz => ⟨Ls, hL, hz, fun t ht => XT.lcmp X.here A.1 rfl (hb A.2.2.1 hd) rfl ht⟩) nx
theorem WP.dup {v : Value} (hd : decode bytes pc = .ok (.dup, 1)) (hc : v.category = 1) (nx : WP l Z C lay own mn bytes maxL ret R n0 ro Q k n (pc + 1) L (v :: v :: S) H) : WP l Z C lay own mn bytes maxL ret R n0 ro Q k n pc L (v :: S) H :=
  WP.of (fun p e s m args below meth c T locs ad Ls X A hL hz => ⟨Ls, hL, hz, fun t ht => XS.dup X.here A.1 rfl (hb A.2.2.1 hd) rfl (by rw [rf_cat]; exact hc) ht⟩) nx
theorem WP.dup2 {v w : Value} (hd : decode bytes pc = .ok (.dup2, 1)) (hc : v.category = 1) (hc' : w.category = 1) (nx : WP l Z C lay own mn bytes maxL ret R n0 ro Q k n (pc + 1) L (v :: w :: v :: w :: S) H) : WP l Z C lay own mn bytes maxL ret R n0 ro Q k n pc L (v :: w :: S) H :=
  WP.of (fun p e s m args below meth c T locs ad Ls X A hL hz => ⟨Ls, hL, hz, fun t ht => XT.dup2 X.here A.1 rfl (hb A.2.2.1 hd) rfl (by rw [rf_cat]; exact hc) (by rw [rf_cat]; exact hc') ht⟩) nx
theorem WP.dup2L {x : Int64} (hd : decode bytes pc = .ok (.dup2, 1)) (nx : WP l Z C lay own mn bytes maxL ret R n0 ro Q k n (pc + 1) L (.long x :: .long x :: S) H) : WP l Z C lay own mn bytes maxL ret R n0 ro Q k n pc L (.long x :: S) H :=
  WP.of (fun p e s m args below meth c T locs ad Ls X A hL hz => ⟨Ls, hL, hz, fun t ht => XT.dup2L X.here A.1 rfl (hb A.2.2.1 hd) rfl ht⟩) nx
theorem WP.pop {v : Value} (hd : decode bytes pc = .ok (.pop, 1)) (hc : v.category = 1) (nx : WP l Z C lay own mn bytes maxL ret R n0 ro Q k n (pc + 1) L (S) H) : WP l Z C lay own mn bytes maxL ret R n0 ro Q k n pc L (v :: S) H :=
  WP.of (fun p e s m args below meth c T locs ad Ls X A hL hz => ⟨Ls, hL, hz, fun t ht => XT.pop X.here A.1 rfl (hb A.2.2.1 hd) rfl (by rw [rf_cat]; exact hc) ht⟩) nx
theorem WP.istore {j : Nat} {x : Int32} (hd : decode bytes pc = .ok (.istore j, 2)) (hi : j < L.length) (hL' : st1 L j (.int x) = L') (nx : WP l Z C lay own mn bytes maxL ret R n0 ro Q k n (pc + 2) L' S H) : WP l Z C lay own mn bytes maxL ret R n0 ro Q k n pc L (.int x :: S) H :=
  WP.of (fun p e s m args below meth c T locs ad Ls X A hL hz => by
    obtain ⟨Ls', e1, e2, e3⟩ := hL.store1 hi (v := .int x) rfl
    exact ⟨Ls', hL' ▸ e2, e3.trans hz, fun t ht => XS.istore X.here A.1 rfl (hb A.2.2.1 hd) rfl e1 ht⟩) nx
theorem WP.istoreN {j : Fin 4} {x : Int32} (hd : decode bytes pc = .ok (.istore_n j, 1)) (hi : j.val < L.length) (hL' : st1 L j.val (.int x) = L') (nx : WP l Z C lay own mn bytes maxL ret R n0 ro Q k n (pc + 1) L' S H) : WP l Z C lay own mn bytes maxL ret R n0 ro Q k n pc L (.int x :: S) H :=
  WP.of (fun p e s m args below meth c T locs ad Ls X A hL hz => by
    obtain ⟨Ls', e1, e2, e3⟩ := hL.store1 hi (v := .int x) rfl
    exact ⟨Ls', hL' ▸ e2, e3.trans hz, fun t ht => XS.istoreN X.here A.1 rfl (hb A.2.2.1 hd) rfl e1 ht⟩) nx
theorem WP.astore {j : Nat} {i : Nat} (hd : decode bytes pc = .ok (.astore j, 2)) (hi : j < L.length) (hL' : st1 L j (.ref i) = L') (nx : WP l Z C lay own mn bytes maxL ret R n0 ro Q k n (pc + 2) L' S H) : WP l Z C lay own mn bytes maxL ret R n0 ro Q k n pc L (.ref i :: S) H :=
  WP.of (fun p e s m args below meth c T locs ad Ls X A hL hz => by
    obtain ⟨Ls', e1, e2, e3⟩ := hL.store1 hi (v := .ref i) rfl
    exact ⟨Ls', hL' ▸ e2, e3.trans hz, fun t ht => XS.astore X.here A.1 rfl (hb A.2.2.1 hd) rfl rfl e1 ht⟩) nx
theorem WP.astoreN {j : Fin 4} {i : Nat} (hd : decode bytes pc = .ok (.astore_n j, 1)) (hi : j.val < L.length) (hL' : st1 L j.val (.ref i) = L') (nx : WP l Z C lay own mn bytes maxL ret R n0 ro Q k n (pc + 1) L' S H) : WP l Z C lay own mn bytes maxL ret R n0 ro Q k n pc L (.ref i :: S) H :=
  WP.of (fun p e s m args below meth c T locs ad Ls X A hL hz => by
    obtain ⟨Ls', e1, e2, e3⟩ := hL.store1 hi (v := .ref i) rfl
    exact ⟨Ls', hL' ▸ e2, e3.trans hz, fun t ht => XS.astoreN X.here A.1 rfl (hb A.2.2.1 hd) rfl rfl e1 ht⟩) nx
theorem WP.lstore {j : Nat} {x : Int64} (hd : decode bytes pc = .ok (.lstore j, 2)) (hi : j + 1 < L.length) (hL' : st2 L j (.long x) = L') (nx : WP l Z C lay own mn bytes maxL ret R n0 ro Q k n (pc + 2) L' S H) : WP l Z C lay own mn bytes maxL ret R n0 ro Q k n pc L (.long x :: S) H :=
  WP.of (fun p e s m args below meth c T locs ad Ls X A hL hz => by
    obtain ⟨Ls', e1, e2, e3⟩ := hL.store2 hi (v := .long x) rfl
    exact ⟨Ls', hL' ▸ e2, e3.trans hz, fun t ht => XT.lstore X.here A.1 rfl (hb A.2.2.1 hd) rfl e1 ht⟩) nx
theorem WP.lstoreN {j : Fin 4} {x : Int64} (hd : decode bytes pc = .ok (.lstore_n j, 1)) (hi : j.val + 1 < L.length) (hL' : st2 L j.val (.long x) = L') (nx : WP l Z C lay own mn bytes maxL ret R n0 ro Q k n (pc + 1) L' S H) : WP l Z C lay own mn bytes maxL ret R n0 ro Q k n pc L (.long x :: S) H :=
  WP.of (fun p e s m args below meth c T locs ad Ls X A hL hz => by
    obtain ⟨Ls', e1, e2, e3⟩ := hL.store2 hi (v := .long x) rfl
    exact ⟨Ls', hL' ▸ e2, e3.trans hz, fun t ht => XT.lstoreN X.here A.1 rfl (hb A.2.2.1 hd) rfl e1 ht⟩) nx
theorem WP.iinc {j : Nat} {cst : Int} {x : Int32} (v : Int32) (hd : decode bytes pc = .ok (.iinc j cst, 3)) (hv : Int32.ofInt cst = v) (hl : L[j]? = some (.val (.int x))) (hL' : st1 L j (.int (x + v)) = L') (nx : WP l Z C lay own mn bytes maxL ret R n0 ro Q k n (pc + 3) L' S H) : WP l Z C lay own mn bytes maxL ret R n0 ro Q k n pc L S H :=
  WP.of (fun p e s m args below meth c T locs ad Ls X A hL hz => by
    subst hv
    obtain ⟨Ls', e1, e2, e3⟩ := hL.store1 (get_lt hl) (v := .int (x + Int32.ofInt cst)) rfl
    exact ⟨Ls', hL' ▸ e2, e3.trans hz, fun t ht => XS.iinc X.here A.1 rfl (hb A.2.2.1 hd) (hL.2.1 _ _ hl) e1 ht⟩) nx
theorem iincW {tb : Tables} [Ours tb] {e : Env} {below : List Frame} {T target : State} {m : MethodId} {c : Code} {g : JFrame} (h : At T m c below) (hx : tb.exec = Jvm.exec) (hg : g.method = m) {k : Nat} {cst : Int} {x : Int32} {l' : Array Slot} (hd : decode c.code g.pc = .ok (.iinc k cst, 6)) (hl : g.locals[k]? = some (.val (.int x))) (hl' : storeLocals g.locals k (.int (x + Int32.ofInt cst)) = some l')
    (hr : Steps tb e below (T.setTop { g with pc := g.pc + 6, locals := l' }) target) : Steps tb e below (T.setTop g) target := by
  subst hg
  jvm_step h [h.top, hx, hd, hl, hl']
  exact hr
theorem WP.iincW {j : Nat} {cst : Int} {x : Int32} (v : Int32) (hd : decode bytes pc = .ok (.iinc j cst, 6)) (hv : Int32.ofInt cst = v) (hl : L[j]? = some (.val (.int x))) (hL' : st1 L j (.int (x + v)) = L') (nx : WP l Z C lay own mn bytes maxL ret R n0 ro Q k n (pc + 6) L' S H) : WP l Z C lay own mn bytes maxL ret R n0 ro Q k n pc L S H :=
  WP.of (fun p e s m args below meth c T locs ad Ls X A hL hz => by
    subst hv
    obtain ⟨Ls', e1, e2, e3⟩ := hL.store1 (get_lt hl) (v := .int (x + Int32.ofInt cst)) rfl
    exact ⟨Ls', hL' ▸ e2, e3.trans hz, fun t ht => Own.iincW X.here A.1 rfl (hb A.2.2.1 hd) (hL.2.1 _ _ hl) e1 ht⟩) nx
theorem WP.goto {o : Int} (hd : decode bytes pc = .ok (.goto o, 3)) (ho : 0 ≤ (pc : Int) + o) (hp : ((pc : Int) + o).toNat = pc') (nx : WP l Z C lay own mn bytes maxL ret R n0 ro Q k n pc' L S H) : WP l Z C lay own mn bytes maxL ret R n0 ro Q k n pc L S H :=
  WP.of (fun p e s m args below meth c T locs ad Ls X A hL hz => ⟨Ls, hL, hz, fun t ht => XS.goto X.here A.1 rfl rfl (hb A.2.2.1 hd) ho hp ht⟩) nx
theorem WP.ifY {cd : ClassFile.Cond} {x : Int32} {o : Int} (hd : decode bytes pc = .ok (.ifCond cd o, 3)) (hc : ifCond.holds cd x = true) (ho : 0 ≤ (pc : Int) + o) (hp : ((pc : Int) + o).toNat = pc') (nx : WP l Z C lay own mn bytes maxL ret R n0 ro Q k n pc' L S H) : WP l Z C lay own mn bytes maxL ret R n0 ro Q k n pc L (.int x :: S) H :=
  WP.of (fun p e s m args below meth c T locs ad Ls X A hL hz => ⟨Ls, hL, hz, fun t ht => XS.ifYes X.here A.1 rfl rfl (hb A.2.2.1 hd) rfl hc ho hp ht⟩) nx
theorem WP.ifN {cd : ClassFile.Cond} {x : Int32} {o : Int} (hd : decode bytes pc = .ok (.ifCond cd o, 3)) (hc : ifCond.holds cd x = false) (nx : WP l Z C lay own mn bytes maxL ret R n0 ro Q k n (pc + 3) L S H) : WP l Z C lay own mn bytes maxL ret R n0 ro Q k n pc L (.int x :: S) H :=
  WP.of (fun p e s m args below meth c T locs ad Ls X A hL hz => ⟨Ls, hL, hz, fun t ht => XS.ifNo X.here A.1 rfl (hb A.2.2.1 hd) rfl hc ht⟩) nx
theorem WP.icmpY {cd : ClassFile.Cond} {x y : Int32} {o : Int} (hd : decode bytes pc = .ok (.if_icmp cd o, 3)) (hc : if_icmp.holds cd x y = true) (ho : 0 ≤ (pc : Int) + o) (hp : ((pc : Int) + o).toNat = pc') (nx : WP l Z C lay own mn bytes maxL ret R n0 ro Q k n pc' L S H) : WP l Z C lay own mn bytes maxL ret R n0 ro Q k n pc L (.int y :: .int x :: S) H :=
  WP.of (fun p e s m args below meth c T locs ad Ls X A hL hz => ⟨Ls, hL, hz, fun t ht => XS.icmpYes X.here A.1 rfl rfl (hb A.2.2.1 hd) rfl hc ho hp ht⟩) nx
theorem WP.icmpN {cd : ClassFile.Cond} {x y : Int32} {o : Int} (hd : decode bytes pc = .ok (.if_icmp cd o, 3)) (hc : if_icmp.holds cd x y = false) (nx : WP l Z C lay own mn bytes maxL ret R n0 ro Q k n (pc + 3) L S H) : WP l Z C lay own mn bytes maxL ret R n0 ro Q k n pc L (.int y :: .int x :: S) H :=
  WP.of (fun p e s m args below meth c T locs ad Ls X A hL hz => ⟨Ls, hL, hz, fun t ht => XS.icmpNo X.here A.1 rfl (hb A.2.2.1 hd) rfl hc ht⟩) nx
theorem WP.nonnull {i : Nat} {o : Int} (hd : decode bytes pc = .ok (.ifnonnull o, 3)) (ho : 0 ≤ (pc : Int) + o) (hp : ((pc : Int) + o).toNat = pc') (nx : WP l Z C lay own mn bytes maxL ret R n0 ro Q k n pc' L S H) : WP l Z C lay own mn bytes maxL ret R n0 ro Q k n pc L (.ref i :: S) H :=
  WP.of (fun p e s m args below meth c T locs ad Ls X A hL hz => ⟨Ls, hL, hz, fun t ht => XT.ifnonnullYes X.here A.1 rfl rfl (hb A.2.2.1 hd) rfl ho hp ht⟩) nx
theorem WP.tswIn {dflt low high o : Int} {offs : Array Int} {len : Nat} {i : Int32} (hd : decode bytes pc = .ok (.tableswitch dflt low high offs, len)) (hin : ¬ (i.toInt < low ∨ i.toInt > high)) (hoff : offs[(i.toInt - low).toNat]? = some o) (ho : 0 ≤ (pc : Int) + o) (hp : ((pc : Int) + o).toNat = pc') (nx : WP l Z C lay own mn bytes maxL ret R n0 ro Q k n pc' L S H) : WP l Z C lay own mn bytes maxL ret R n0 ro Q k n pc L (.int i :: S) H :=
  WP.of (fun p e s m args below meth c T locs ad Ls X A hL hz => ⟨Ls, hL, hz, fun t ht => XS.tswIn X.here A.1 rfl rfl (hb A.2.2.1 hd) rfl hin hoff ho hp ht⟩) nx
theorem WP.tswOut {dflt low high : Int} {offs : Array Int} {len : Nat} {i : Int32} (hd : decode bytes pc = .ok (.tableswitch dflt low high offs, len)) (hout : i.toInt < low ∨ i.toInt > high) (ho : 0 ≤ (pc : Int) + dflt) (hp : ((pc : Int) + dflt).toNat = pc') (nx : WP l Z C lay own mn bytes maxL ret R n0 ro Q k n pc' L S H) : WP l Z C lay own mn bytes maxL ret R n0 ro Q k n pc L (.int i :: S) H :=
  WP.of (fun p e s m args below meth c T locs ad Ls X A hL hz => ⟨Ls, hL, hz, fun t ht => XS.tswOut X.here A.1 rfl rfl (hb A.2.2.1 hd) rfl hout ho hp ht⟩) nx
theorem tsw_miss {i : Int32} {low high : Int} (h : ∀ z : Int, low ≤ z → z ≤ high → ¬ i = Int32.ofInt z) : i.toInt < low ∨ i.toInt > high := by
  by_cases a : i.toInt < low
  · exact Or.inl a
  · by_cases b : i.toInt > high
    · exact Or.inr b
    · exact absurd (by rw [Int32.ofInt_toInt]) (h i.toInt (by omega) (by omega))
theorem WP.moved (hs : ∀ (p : Program) (e : Env) (s : State) (m : MethodId) (args : Array Value) (below : List Frame) (meth : Method) (c : Code) (T : State) (locs : List Loc) (ad : Nat → Addr) (Ls : Array Slot), Stand p l e R s m args below meth c T locs k n → Am Z own mn bytes maxL ret p s m meth c → HR Z C lay n0 ro ad H T.heap → Fr n0 locs → LR ad L Ls → Ls.size = maxL →
      ∃ T' locs', Stand p l e R s m args below meth c T' locs' k' n' ∧ HR Z C lay n0 ro ad H' T'.heap ∧ Kp ad H.length T.heap T'.heap ∧ Fr n0 locs' ∧ ∀ t, Steps p.tables e below (T'.setTop (mkF m pc' Ls (S'.map (rf ad)))) t → Steps p.tables e below (T.setTop (mkF m pc Ls (S.map (rf ad)))) t)
    (nx : WP l Z C lay own mn bytes maxL ret R n0 ro Q k' n' pc' L S' H') : WP l Z C lay own mn bytes maxL ret R n0 ro Q k n pc L S H := by
  intro p e s m args below meth c T locs ad Ls X A hr N hL hz
  obtain ⟨T', locs', X', hr', K, N', st⟩ := hs p e s m args below meth c T locs ad Ls X A hr N hL hz
  obtain ⟨s₂, v, H2, locs2, h1, h2, h3, h4, h5, h6, h7⟩ := nx p e s m args below meth c T' locs' ad Ls X' A hr' N' hL hz
  exact ⟨s₂, v, H2, locs2, st _ h1, h2, h3, h4, h5, Kp.trans hr K h6, h7⟩
theorem WP.getfield {idx i j : Nat} {f d : String} {vs : List Value} {v : Value} (hd : decode bytes pc = .ok (.getfield idx, 3)) (hw : (Cond.fieldLink own idx C f d).before a0 Z = true) (hj : lay[j]? = some (f, d)) (hH : H[i]? = some (.inl vs)) (hv : vs[j]? = some v) (nx : WP l Z C lay own mn bytes maxL ret R n0 ro Q k n (pc + 3) L (v :: S) H) : WP l Z C lay own mn bytes maxL ret R n0 ro Q k n pc L (.ref i :: S) H :=
  WP.moved (fun p e s m args below meth c T locs ad Ls X A hr N hL hz => by
    have F := (hr.1 i _ hH).2 j _ v hj hv
    obtain ⟨T', X', e', st⟩ := getF X A.1 A.2.1 A.2.2.2.2.2.2.1 (host := "") (Or.inl hw) Via.refl rfl F (g := mkF m pc Ls (.ref (ad i) :: S.map (rf ad))) rfl rfl (hb A.2.2.1 hd)
    exact ⟨T', locs, X', by rw [e']; exact hr, by rw [e']; exact Kp.refl _ _ _, N, fun t ht => st t ht⟩) nx
theorem WP.iaload {i : Nat} {xs : List Int32} {j x : Int32} (hd : decode bytes pc = .ok (.iaload, 1)) (hH : H[i]? = some (cI xs)) (hx : rd xs j = some x) (nx : WP l Z C lay own mn bytes maxL ret R n0 ro Q k n (pc + 1) L (.int x :: S) H) : WP l Z C lay own mn bytes maxL ret R n0 ro Q k n pc L (.int j :: .ref i :: S) H :=
  WP.moved (fun p e s m args below meth c T locs ad Ls X A hr N hL hz => by
    obtain ⟨cl, Ar, hsl⟩ := hr.1 i _ hH
    obtain ⟨q1, q2⟩ := rd_slots hsl hx
    exact ⟨T, locs, X, hr, Kp.refl _ _ _, N, fun t ht => X.iaload A.1 (j := j) Ar.1 (State.isArrayOf_alike A.2.1.alike Ar.2.1) Ar.2.2 q1 q2 (g := mkF m pc Ls (.int j :: .ref (ad i) :: S.map (rf ad))) rfl rfl (hb A.2.2.1 hd) _ ht⟩) nx
theorem WP.laload {i : Nat} {xs : List Int64} {j : Int32} {x : Int64} (hd : decode bytes pc = .ok (.laload, 1)) (hH : H[i]? = some (cJ xs)) (hx : rd xs j = some x) (nx : WP l Z C lay own mn bytes maxL ret R n0 ro Q k n (pc + 1) L (.long x :: S) H) : WP l Z C lay own mn bytes maxL ret R n0 ro Q k n pc L (.int j :: .ref i :: S) H :=
  WP.moved (fun p e s m args below meth c T locs ad Ls X A hr N hL hz => by
    obtain ⟨cl, Ar, hsl⟩ := hr.1 i _ hH
    obtain ⟨q1, q2⟩ := rd_slots hsl hx
    exact ⟨T, locs, X, hr, Kp.refl _ _ _, N, fun t ht => X.laload A.1 (j := j) Ar.1 (State.isArrayOf_alike A.2.1.alike Ar.2.1) Ar.2.2 q1 q2 (g := mkF m pc Ls (.int j :: .ref (ad i) :: S.map (rf ad))) rfl rfl (hb A.2.2.1 hd) _ ht⟩) nx
theorem baloadZ {p : Program} {e : Env} {s : State} {m : MethodId} {args : Array Value} {below : List Frame} {meth : Method} {c : Code} {T : State} {locs : List Loc} {cells slots : Nat} (X : Stand p l e R s m args below meth c T locs cells slots) (hexec : p.tables.exec = Jvm.exec) {a : Addr} {cell : Cell} {j : Int32} {v : Value} (hcell : T.heap[a]? = some cell) (harr : s.isArrayOf cell .boolean) (hknown : cell.vm ≠ .unknown)
    (hin : ¬ (j < 0 ∨ cell.slots.size ≤ j.toNatClampNeg)) (hv : cell.slots[j.toNatClampNeg]? = some v) {g : JFrame} (hg : g.method = m) {rest : List Value} (hstack : g.stack = .int j :: .ref a :: rest) (hdg : decode c.code g.pc = .ok (.baload, 1)) (target : State)
    (hrest : Steps p.tables e below (T.setTop { g with pc := g.pc + 1, stack := v :: rest }) target) : Steps p.tables e below (T.setTop g) target := by
  have hT := State.isArrayOf_alike X.warmed.alike harr
  subst hg
  jvm_step X.here [hexec, hdg, baload.wp_booleans (e := e) (s := T) (f := g) X.here.top hstack hcell hT hin hknown hv]
  exact hrest
theorem WP.baload {i : Nat} {xs : List Int32} {j x : Int32} (hd : decode bytes pc = .ok (.baload, 1)) (hH : H[i]? = some (cZ xs)) (hx : rd xs j = some x) (nx : WP l Z C lay own mn bytes maxL ret R n0 ro Q k n (pc + 1) L (.int x :: S) H) : WP l Z C lay own mn bytes maxL ret R n0 ro Q k n pc L (.int j :: .ref i :: S) H :=
  WP.moved (fun p e s m args below meth c T locs ad Ls X A hr N hL hz => by
    obtain ⟨cl, Ar, hsl⟩ := hr.1 i _ hH
    obtain ⟨q1, q2⟩ := rd_slots hsl hx
    exact ⟨T, locs, X, hr, Kp.refl _ _ _, N, fun t ht => baloadZ X A.1 (j := j) Ar.1 (State.isArrayOf_alike A.2.1.alike Ar.2.1) Ar.2.2 q1 q2 (g := mkF m pc Ls (.int j :: .ref (ad i) :: S.map (rf ad))) rfl rfl (hb A.2.2.1 hd) _ ht⟩) nx
theorem WP.arraylength {i : Nat} {xs : List Int32} (hd : decode bytes pc = .ok (.arraylength, 1)) (hH : H[i]? = some (cI xs)) (nx : WP l Z C lay own mn bytes maxL ret R n0 ro Q k n (pc + 1) L (.int xs.length.toInt32 :: S) H) : WP l Z C lay own mn bytes maxL ret R n0 ro Q k n pc L (.ref i :: S) H :=
  WP.moved (fun p e s m args below meth c T locs ad Ls X A hr N hL hz => by
    obtain ⟨cl, Ar, hsl⟩ := hr.1 i _ hH
    have e1 : cl.slots.size = xs.length := by rw [← Array.length_toList, hsl, List.length_map]
    refine ⟨T, locs, X, hr, Kp.refl _ _ _, N, fun t ht => X.arraylength A.1 Ar.1 (State.isArrayOf_alike A.2.1.alike Ar.2.1) (g := mkF m pc Ls (.ref (ad i) :: S.map (rf ad))) rfl rfl (hb A.2.2.1 hd) _ ?_⟩
    rw [e1]; exact ht) nx
theorem WP.iastore {i : Nat} {xs xs' : List Int32} {j : Int32} {x : Int32} (hd : decode bytes pc = .ok (.iastore, 1)) (hH : H[i]? = some (cI xs)) (hi : ro ≤ i) (hx : wr xs j x = some xs') (hH' : H.set i (cI xs') = H') (nx : WP l Z C lay own mn bytes maxL ret R n0 ro Q k n (pc + 1) L S H') : WP l Z C lay own mn bytes maxL ret R n0 ro Q k n pc L (.int x :: .int j :: .ref i :: S) H :=
  WP.moved (fun p e s m args below meth c T locs ad Ls X A hr N hL hz => by
    obtain ⟨cl, Ar, hsl⟩ := hr.1 i _ hH
    obtain ⟨q1, q2⟩ := wr_slots hsl hx
    obtain ⟨T', h', X', e', w, st⟩ := stI X A.1 A.2.1 rfl Ar (j := j) (x := x) q1 (g := mkF m pc Ls (.int x :: .int j :: .ref (ad i) :: S.map (rf ad))) rfl rfl (hb A.2.2.1 hd)
    subst e'
    have hi' := get_lt hH
    have P := hr.put (h' := T'.heap) (c := cI xs') hi' w.size (fun a cz hne q => by
      obtain ⟨c', g1, -, -, -, g5, -⟩ := wr_at w q
      rw [g5 hne] at g1; exact g1) ⟨_, Ar.same w, q2⟩
    exact ⟨T', _, X', hH' ▸ P.1, P.2, Fr.snoc X' N (hr.2.2.2.1 i hi' hi), fun t ht => st t ht⟩) nx
theorem WP.lastore {i : Nat} {xs xs' : List Int64} {j : Int32} {x : Int64} (hd : decode bytes pc = .ok (.lastore, 1)) (hH : H[i]? = some (cJ xs)) (hi : ro ≤ i) (hx : wr xs j x = some xs') (hH' : H.set i (cJ xs') = H') (nx : WP l Z C lay own mn bytes maxL ret R n0 ro Q k n (pc + 1) L S H') : WP l Z C lay own mn bytes maxL ret R n0 ro Q k n pc L (.long x :: .int j :: .ref i :: S) H :=
  WP.moved (fun p e s m args below meth c T locs ad Ls X A hr N hL hz => by
    obtain ⟨cl, Ar, hsl⟩ := hr.1 i _ hH
    obtain ⟨q1, q2⟩ := wr_slots hsl hx
    obtain ⟨T', h', X', e', w, st⟩ := stJ X A.1 A.2.1 rfl Ar (j := j) (x := x) q1 (g := mkF m pc Ls (.long x :: .int j :: .ref (ad i) :: S.map (rf ad))) rfl rfl (hb A.2.2.1 hd)
    subst e'
    have hi' := get_lt hH
    have P := hr.put (h' := T'.heap) (c := cJ xs') hi' w.size (fun a cz hne q => by
      obtain ⟨c', g1, -, -, -, g5, -⟩ := wr_at w q
      rw [g5 hne] at g1; exact g1) ⟨_, Ar.same w, q2⟩
    exact ⟨T', _, X', hH' ▸ P.1, P.2, Fr.snoc X' N (hr.2.2.2.1 i hi' hi), fun t ht => st t ht⟩) nx
theorem WP.bastore {i : Nat} {xs xs' : List Int32} {j : Int32} {x : Int32} (hd : decode bytes pc = .ok (.bastore, 1)) (hH : H[i]? = some (cZ xs)) (hi : ro ≤ i) (hx : wr xs j (x &&& 1) = some xs') (hH' : H.set i (cZ xs') = H') (nx : WP l Z C lay own mn bytes maxL ret R n0 ro Q k n (pc + 1) L S H') : WP l Z C lay own mn bytes maxL ret R n0 ro Q k n pc L (.int x :: .int j :: .ref i :: S) H :=
  WP.moved (fun p e s m args below meth c T locs ad Ls X A hr N hL hz => by
    obtain ⟨cl, Ar, hsl⟩ := hr.1 i _ hH
    obtain ⟨q1, q2⟩ := wr_slots hsl hx
    obtain ⟨T', h', X', e', w, st⟩ := stZ X A.1 A.2.1 rfl Ar (j := j) (x := x) q1 (g := mkF m pc Ls (.int x :: .int j :: .ref (ad i) :: S.map (rf ad))) rfl rfl (hb A.2.2.1 hd)
    subst e'
    have hi' := get_lt hH
    have P := hr.put (h' := T'.heap) (c := cZ xs') hi' w.size (fun a cz hne q => by
      obtain ⟨c', g1, -, -, -, g5, -⟩ := wr_at w q
      rw [g5 hne] at g1; exact g1) ⟨_, Ar.same w, q2⟩
    exact ⟨T', _, X', hH' ▸ P.1, P.2, Fr.snoc X' N (hr.2.2.2.1 i hi' hi), fun t ht => st t ht⟩) nx
/-- a field of the one class is written -/
theorem WP.put {idx i j kk : Nat} {f d : String} {vs : List Value} {v v' old : Value} {ty : FieldType} (hd : decode bytes pc = .ok (.putfield idx, 3)) (hw : (Cond.fieldLink own idx C f d).before a0 Z = true) (hl : (Cond.lays C C f d).before a0 Z = true ∨ ((Cond.laysFinal C C f d).before a0 Z = true ∧ own = C ∧ mn = "<init>")) (wi : (Cond.instantiable C kk).before a0 Z = true)
    (hlay : ∀ (a b : Nat) (f g : String × String), lay[a]? = some f → lay[b]? = some g → a ≠ b → RoadKit.slotOf Z C f.1 f.2 ≠ RoadKit.slotOf Z C g.1 g.2) (hty : parseFieldDescriptor d = some ty) (hn : ∀ ad, narrow ty (rf ad v) = rf ad v') (hf : ∀ ad, fits ty (rf ad v') = true)
    (hj : lay[j]? = some (f, d)) (hH : H[i]? = some (.inl vs)) (hv : vs[j]? = some old) (hi : ro ≤ i) (hH' : H.set i (.inl (vs.set j v')) = H') (nx : WP l Z C lay own mn bytes maxL ret R n0 ro Q k n (pc + 3) L S H') : WP l Z C lay own mn bytes maxL ret R n0 ro Q k n pc L (v :: .ref i :: S) H :=
  WP.moved (fun p e s m args below meth c T locs ad Ls X A hr N hL hz => by
    obtain ⟨E, F⟩ := hr.1 i _ hH
    obtain ⟨T', h', X', e', w, st⟩ := putFN X A.1 A.2.1 A.2.2.2.2.2.2.1 hw Via.refl rfl (F j _ old hj hv) E (hl.imp id fun q => ⟨q.1, q.2.1, A.2.2.2.2.2.2.2.trans q.2.2⟩) wi hty (hn ad) (hf ad) (g := mkF m pc Ls (rf ad v :: .ref (ad i) :: S.map (rf ad))) rfl rfl (hb A.2.2.1 hd)
    subst e'
    have hi' := get_lt hH
    have P := hr.put (h' := T'.heap) (c := .inl (vs.set j v')) hi' w.size (fun a cz hne q => by
      obtain ⟨c', g1, -, -, -, g5, -⟩ := wr_at w q
      rw [g5 hne] at g1; exact g1) ⟨E.wr w, fun a g u hg hu => by
        rw [List.getElem?_set] at hu
        by_cases e : j = a
        · subst e
          cases hj.symm.trans hg
          rw [if_pos rfl, if_pos (get_lt hv)] at hu
          cases hu
          exact (F j _ old hj hv).same w
        · rw [if_neg e] at hu
          exact (F a g u hg hu).other w (Or.inr (hlay a j g (f, d) hg hj (Ne.symm e)))⟩
    exact ⟨T', _, X', hH' ▸ P.1, P.2, Fr.snoc X' N (hr.2.2.2.1 i hi' hi), fun t ht => st t ht⟩) nx
/-- newarray -/
theorem WP.newarray {aty : ArrayType} {c0 : OwnC} {cnt : Int32} (hd : decode bytes pc = .ok (.newarray aty, 2)) (hw : (Cond.arrayClass (newarray.typeOf aty)).before a0 Z = true) (hn : ¬ cnt < 0) (hb8 : cnt.toNatClampNeg * 8 ≤ 536870912) (hc : k + 1 ≤ R.cells) (hl : n + cnt.toNatClampNeg ≤ R.slots)
    (h0 : (aty = .int ∧ c0 = cI (List.replicate cnt.toNatClampNeg 0)) ∨ (aty = .long ∧ c0 = cJ (List.replicate cnt.toNatClampNeg 0)) ∨ (aty = .boolean ∧ c0 = cZ (List.replicate cnt.toNatClampNeg 0)))
    (nx : WP l Z C lay own mn bytes maxL ret R n0 ro Q (k + 1) (n + cnt.toNatClampNeg) (pc + 2) L (.ref H.length :: S) (H ++ [c0])) : WP l Z C lay own mn bytes maxL ret R n0 ro Q k n pc L (.int cnt :: S) H :=
  WP.moved (fun p e s m args below meth c T locs ad Ls X A hr N hL hz => by
    have hcb : componentBytes (newarray.typeOf aty) ≤ 8 := by cases aty <;> decide
    obtain ⟨cA, kA, comp, h1, h2, h3, X', st⟩ := X.newarrayPrim A.1 (mvA A.2.1 hw) (g := mkF m pc Ls (.int cnt :: S.map (rf ad))) rfl (hb A.2.2.1 hd) rfl hn (Nat.le_trans (Nat.mul_le_mul (Nat.le_refl _) hcb) hb8) hc hl
    rw [A.2.1.alike.findClass] at h1
    obtain ⟨kZ, z1, -⟩ := Vm.findClass_spec h1
    obtain ⟨k', z2, z3⟩ := A.2.1.alike.2.2 _ _ z1
    cases h2.symm.trans z2
    have hE : Ext T.heap (T.heap.push { cls := cA, slots := Array.replicate cnt.toNatClampNeg (defaultValue (newarray.typeOf aty)), vm := .none }) := ⟨by simp, fun a c h => by
      rw [Array.getElem?_push_lt (Array.getElem?_eq_some_iff.mp h).1]; exact (Array.getElem?_eq_getElem _).symm.trans h⟩
    have Ar : Arr Z (T.heap.push { cls := cA, slots := Array.replicate cnt.toNatClampNeg (defaultValue (newarray.typeOf aty)), vm := .none }) T.heap.size { cls := cA, slots := Array.replicate cnt.toNatClampNeg (defaultValue (newarray.typeOf aty)), vm := .none } (newarray.typeOf aty) :=
      ⟨by simp, ⟨by simp, kZ, z1, comp, by rw [← h3, z3]⟩, by simp⟩
    have hc0 : CelOk Z C lay ad (T.heap.push { cls := cA, slots := Array.replicate cnt.toNatClampNeg (defaultValue (newarray.typeOf aty)), vm := .none }) T.heap.size c0 := by
      rcases h0 with ⟨rfl, rfl⟩ | ⟨rfl, rfl⟩ | ⟨rfl, rfl⟩
      all_goals exact ⟨_, Ar, by simp [defaultValue, newarray.typeOf]⟩
    have P := hr.push (h' := T.heap.push _) (by simp) hE hc0
    refine ⟨_, locs, X', P.1, P.2.1, N, fun t ht => st t ?_⟩
    have e0 : (List.map (rf ad) (.ref H.length :: S)) = .ref T.heap.size :: S.map (rf ad) := by show (Value.ref (ad H.length) :: _) = _; rw [P.2.2]
    rw [e0] at ht; exact ht) nx
theorem rf_default (ad : Nat → Addr) (ty : FieldType) : rf ad (defaultValue ty) = defaultValue ty := by cases ty <;> rfl
/-- new -/
theorem WP.new {idx kk : Nat} {vs : List Value} (hd : decode bytes pc = .ok (.new idx, 3)) (hw : (Cond.classLink own idx C).before a0 Z = true) (wi : (Cond.instantiable C kk).before a0 Z = true) (wz : (Cond.initialized C).before a0 Z = true) (hc : k + 1 ≤ R.cells) (hl : n + kk ≤ R.slots)
    (h0 : ∀ (i : Nat) (f : String × String) (v : Value), lay[i]? = some f → vs[i]? = some v → Laid Z a0 C C f.1 f.2 ∧ ∃ ty, parseFieldDescriptor f.2 = some ty ∧ v = defaultValue ty)
    (nx : WP l Z C lay own mn bytes maxL ret R n0 ro Q (k + 1) (n + kk) (pc + 3) L (.ref H.length :: S) (H ++ [.inl vs])) : WP l Z C lay own mn bytes maxL ret R n0 ro Q k n pc L S H :=
  WP.moved (fun p e s m args below meth c T locs ad Ls X A hr N hL hz => by
    obtain ⟨vm', cC, kC, h1, h2, h3, h4, X', st⟩ := X.newCold A.1 A.2.2.2.2.2.2.1 (mv A.2.1 hw) (mv A.2.1 wi) (mv A.2.1 wz) (g := mkF m pc Ls (S.map (rf ad))) rfl (hb A.2.2.1 hd) hc hl
    rw [A.2.1.alike.findClass] at h1
    obtain ⟨kZ, z1, -⟩ := Vm.findClass_spec h1
    obtain ⟨k', z2, z3⟩ := A.2.1.alike.2.2 _ _ z1
    cases h2.symm.trans z2
    have ei : kC.instanceTypes = kZ.instanceTypes := by rw [z3]
    have hN : (T.heap.push { cls := cC, slots := kC.instanceTypes.map defaultValue, vm := .none })[T.heap.size]? = some { cls := cC, slots := kC.instanceTypes.map defaultValue, vm := .none } := by simp
    have hE : Ext T.heap (T.heap.push { cls := cC, slots := kC.instanceTypes.map defaultValue, vm := .none }) := ⟨by simp, fun a c h => by
      rw [Array.getElem?_push_lt (Array.getElem?_eq_some_iff.mp h).1]; exact (Array.getElem?_eq_getElem _).symm.trans h⟩
    have hc0 : CelOk Z C lay ad (T.heap.push { cls := cC, slots := kC.instanceTypes.map defaultValue, vm := .none }) T.heap.size (.inl vs) := by
      refine ⟨⟨_, kZ, hN, h1, z1, rfl, fun _ => by simp [ei]⟩, fun i f v hf hv => ?_⟩
      obtain ⟨La, ty, ht, rfl⟩ := h0 i f v hf hv
      obtain ⟨c1, k1, cf, kf, i1, f1, a1, a2, a3, a4, a5, a6, -⟩ := La.spec
      cases h1.symm.trans a1
      cases z1.symm.trans a2
      rw [rf_default]
      exact ⟨_, cf, kf, i1, f1, hN, a3, a4, by simp, rfl, a5, by simp [ei, a6, (State.fieldFound?_type a3 ht).2]⟩
    have P := hr.push (h' := T.heap.push _) (by simp) hE hc0
    refine ⟨_, locs, X', P.1, P.2.1, N, fun t ht => st t ?_⟩
    have e0 : (List.map (rf ad) (.ref H.length :: S)) = .ref T.heap.size :: S.map (rf ad) := by show (Value.ref (ad H.length) :: _) = _; rw [P.2.2]
    rw [e0] at ht; exact ht) nx
/-- Object.<init> -/
theorem WP.initO {idx i : Nat} (hd : decode bytes pc = .ok (.invokespecial idx, 3)) (w1 : (Cond.methodLink own idx Lib.objectInit).before a0 Z = true) (w2 : (Cond.instanceMethod Lib.objectInit).before a0 Z = true) (w3 : (Cond.code Lib.objectInit ⟨#[0xb1]⟩ 1 none).before a0 Z = true) (hf : 1 ≤ R.frames) (hl : (S.map fun v => v.category).sum + 12 ≤ R.locals)
    (nx : WP l Z C lay own mn bytes maxL ret R n0 ro Q k n (pc + 3) L S H) : WP l Z C lay own mn bytes maxL ret R n0 ro Q k n pc L (.ref i :: S) H :=
  WP.moved (fun p e s m args below meth c T locs ad Ls X A hr N hL hz => by
    obtain ⟨T', X', e', st⟩ := RoadKit.initO X A.1 A.2.1 A.2.2.2.2.2.2.1 w1 w2 w3 rfl (g := mkF m pc Ls (.ref (ad i) :: S.map (rf ad))) rfl (hz.trans A.2.2.2.1.symm) rfl (hb A.2.2.1 hd) hf (W := (S.map fun v => v.category).sum) (by show 2 * 0 + _ ≤ _; rw [rf_cats]; omega) hl
    exact ⟨T', locs, X', by rw [e']; exact hr, by rw [e']; exact Kp.refl _ _ _, N, fun t ht => st t ht⟩) nx
theorem WP.leave {v : Option Value} (hk : k ≤ R.cells) (hn : n ≤ R.slots) (hv : ret = none → v = none) (hq : Q v H)
    (hs : ∀ (p : Program) (e : Env) (s : State) (m : MethodId) (args : Array Value) (below : List Frame) (meth : Method) (c : Code) (T : State) (locs : List Loc) (ad : Nat → Addr) (Ls : Array Slot) (fs : List Frame), Stand p l e R s m args below meth c T locs k n → Am Z own mn bytes maxL ret p s m meth c →
      (∀ (f : JFrame) (acts : List Action), f.method = m → f.locked = none → f.entered = [] → (doReturn e (T.setTop f) acts (v.map (rf ad))).1 = T.setFrames fs) → Steps p.tables e below (T.setTop (mkF m pc Ls (S.map (rf ad)))) (T.setFrames fs)) : WP l Z C lay own mn bytes maxL ret R n0 ro Q k n pc L S H := by
  intro p e s m args below meth c T locs ad Ls X A hr N hL hz
  obtain ⟨fs, hr', hrun, hended, hW, hsame⟩ := X.leave (v := v.map (rf ad)) (fun q => by rw [hv (A.2.2.2.2.1.symm.trans q)]; rfl) A.2.2.2.2.2.1
  exact ⟨_, v, H, locs, hs p e s m args below meth c T locs ad Ls fs X A hr', hrun, hended, hq, hr, Kp.refl _ _ _, N, ⟨_, rfl⟩, hW, hsame.mono hk hn⟩
theorem retI' {p : Program} {e : Env} {s : State} {m : MethodId} {args : Array Value} {below : List Frame} {meth : Method} {c : Code} {T : State} {locs : List Loc} {cells slots : Nat} (X : Stand p l e R s m args below meth c T locs cells slots) (hx : p.tables.exec = Jvm.exec) {pc : Nat} {Ls : Array Slot} {z : Int32} {rest : List Value} (hret : meth.sig.returnType = some .int) (hd : decode c.code pc = .ok (.ireturn, 1)) {fs : List Frame}
    (hl : ∀ (f : JFrame) (acts : List Action), f.method = m → f.locked = none → f.entered = [] → (doReturn e (T.setTop f) acts (some (.int z))).1 = T.setFrames fs) : Steps p.tables e below (T.setTop (mkF m pc Ls (.int z :: rest))) (T.setFrames fs) := by
  have hm' : T.vm.method? m = some meth := X.method'
  have hn : narrow .int (.int z) = .int z := rfl
  show Steps p.tables e below (T.setTop { method := m, pc := pc, locals := Ls, stack := _ :: rest, locked := none }) _
  jvm_step X.here [X.here.top, hx, hd, hm', hret, hn]
  first | (intro acts; rw [hl _ acts rfl rfl rfl]) | rw [hl _ _ rfl rfl rfl]
  exact Steps.refl _
theorem WP.ireturn {x : Int32} (hd : decode bytes pc = .ok (.ireturn, 1)) (hret : ret = some .int) (hk : k ≤ R.cells) (hn : n ≤ R.slots) (hq : Q (some (.int x)) H) : WP l Z C lay own mn bytes maxL ret R n0 ro Q k n pc L (.int x :: S) H :=
  WP.leave (v := some (.int x)) hk hn (fun q => by rw [hret] at q; cases q) hq fun p e s m args below meth c T locs ad Ls fs X A hr' => retI' X A.1 (A.2.2.2.2.1.trans hret) (hb A.2.2.1 hd) hr'
theorem WP.zreturn {x : Int32} (hd : decode bytes pc = .ok (.ireturn, 1)) (hret : ret = some .boolean) (hk : k ≤ R.cells) (hn : n ≤ R.slots) (hq : Q (some (.int (x &&& 1))) H) : WP l Z C lay own mn bytes maxL ret R n0 ro Q k n pc L (.int x :: S) H :=
  WP.leave (v := some (.int (x &&& 1))) hk hn (fun q => by rw [hret] at q; cases q) hq fun p e s m args below meth c T locs ad Ls fs X A hr' => retN X A.1 (t := .boolean) (A.2.2.2.2.1.trans hret) (Or.inl rfl) (hb A.2.2.1 hd) hr'
theorem WP.lreturn {x : Int64} (hd : decode bytes pc = .ok (.lreturn, 1)) (hret : ret = some .long) (hk : k ≤ R.cells) (hn : n ≤ R.slots) (hq : Q (some (.long x)) H) : WP l Z C lay own mn bytes maxL ret R n0 ro Q k n pc L [.long x] H :=
  WP.leave (v := some (.long x)) hk hn (fun q => by rw [hret] at q; cases q) hq fun p e s m args below meth c T locs ad Ls fs X A hr' => X.lreturnOut A.1 (A.2.2.2.2.1.trans hret) (hb A.2.2.1 hd) hr'
theorem WP.vreturn (hd : decode bytes pc = .ok (.return_, 1)) (hret : ret = none) (hk : k ≤ R.cells) (hn : n ≤ R.slots) (hq : Q none H) : WP l Z C lay own mn bytes maxL ret R n0 ro Q k n pc L [] H :=
  WP.leave (v := none) hk hn (fun _ => rfl) hq fun p e s m args below meth c T locs ad Ls fs X A hr' => X.returnOut A.1 (A.2.2.2.2.1.trans hret) (hb A.2.2.1 hd) hr'
end Rules
/-! ## a callee's promise, said of the small view -/
def QQ (Z : State) (C : String) (lay : List (String × String)) (n0 ro : Nat) (ad : Nat → Addr) (N : Nat) (h : Heap) (Q : Option Value → List OwnC → Prop) (v : Option Value) (h' : Heap) (L : List Loc) : Prop :=
  ∃ w H', v = w.map (rf ad) ∧ Q w H' ∧ HR Z C lay n0 ro ad H' h' ∧ Kp ad N h h' ∧ Fr n0 L
def CS (l : Launch) (Z : State) (C : String) (lay : List (String × String)) (y : MethodName) (bytes : ByteArray) (maxL : Nat) (ret : Option FieldType) (R : Room) (ro : Nat) (as : List Value) (H : List OwnC) (Q : Option Value → List OwnC → Prop) : Prop :=
  ∀ (ws : List Cond) (n0 : Nat) (ad : Nat → Addr) (h : Heap), HR Z C lay n0 ro ad H h →
    MetFree l y (head1 (Cond.code y bytes maxL ret :: ws) R) (fun a U => a = (as.map (rf ad)).toArray ∧ Z.Warmed39 U.vm ∧ U.heap = h) (fun _ _ _ _ _ => True)
      (fun _ U o U' => ∃ v L, o = .returned v ∧ QQ Z C lay n0 ro ad H.length h Q v U'.heap L ∧ FrameEnd U o U' L R.cells R.slots)
section Calls
variable {l : Launch} {Z : State} {a0 : Array Value} {C : String} {lay : List (String × String)} {own mn : String} {bytes cb : ByteArray} {maxL cm : Nat} {ret cr : Option FieldType} {R Rc : Room} {n0 ro : Nat} {Q Qc : Option Value → List OwnC → Prop} {k n pc pc' : Nat} {L L' : List Slot} {S S0 as : List Value} {H H' : List OwnC} {y : MethodName}
theorem CS.of_wp (hx : plainName y.cls = true) (hn : (laid as).length ≤ maxL) (w : ∀ n0, WP l Z C lay y.cls y.name bytes maxL ret R n0 ro Q 0 0 0 (entL as maxL) [] H) : CS l Z C lay y bytes maxL ret R ro as H Q := by
  intro ws n0 ad h hr
  refine MetFree.of_bodySF (plainFor_of_name hx) hisR ?_
  intro p e s m args below meth c s₁ Bd hml0 hP hK
  obtain ⟨rfl, hZ, hh⟩ := hP
  have e0 : s₁.heap = h := by rw [← hh, Bd.state]; rfl
  obtain ⟨E1, E2⟩ := entry_LR ad as maxL hn
  obtain ⟨s₂, v, H', locs', h1, h2, h3, h4, h5, h6, h7, h8⟩ := w n0 p e s m _ below meth c s₁ [] ad _ (Stand.of_body Bd) ⟨Bd.exec, hZ, Bd.bytes, hml0, Bd.returns, Bd.notSynchronized, findClass_of_methodNamed Bd.named, (name_of_methodNamed Bd.named Bd.method).1⟩ (by rw [e0]; exact hr) (Fr.nil n0) E1 E2
  rw [e0] at h6
  exact ⟨s₂, _, h1, h2, h3, _, locs', rfl, ⟨v, H', rfl, h4, h5, h6, h7⟩, h8⟩
theorem CS.mono (cs : CS l Z C lay y bytes maxL ret R ro as H Q) (h : ∀ v H', Q v H' → Qc v H') : CS l Z C lay y bytes maxL ret R ro as H Qc := by
  intro ws n0 ad hh hr p e ha hc hk s m args below hf happ hP hK
  obtain ⟨N, o, h1, h2, h3, v, L, h4, ⟨w, H', g1, g2, g3⟩, h5⟩ := cs ws n0 ad hh hr p e ha hc hk s m args below hf happ hP hK
  exact ⟨N, o, h1, h2, h3, v, L, h4, ⟨w, H', g1, h _ _ g2, g3⟩, h5⟩
/-- what every call leaves: the walk goes on behind it -/
theorem go_on {p : Program} {e : Env} {s : State} {m : MethodId} {args : Array Value} {below : List Frame} {meth : Method} {c : Code} {T : State} {locs : List Loc} {ad : Nat → Addr} {Ls : Array Slot} {B : Pt} {v : Option Value} {Lc : List Loc} {s₀ : State}
    (nx : ∀ v H', Qc v H' → WP l Z C lay own mn bytes maxL ret R n0 ro Q (k + Rc.cells) (n + Rc.slots) (pc + 3) L (v.toList ++ S) H') (X : Stand p l e R s m args below meth c B.U B.locs B.cells B.slots) (A : Am Z own mn bytes maxL ret p s m meth c) (hr : HR Z C lay n0 ro ad H T.heap) (N : Fr n0 locs) (hL : LR ad L Ls) (hz : Ls.size = maxL)
    (hQ : QQ Z C lay n0 ro ad H.length T.heap Qc v B.U.heap Lc) (e1 : B.locs = locs ++ Lc) (e2 : B.cells = k + Rc.cells) (e3 : B.slots = n + Rc.slots) (st : Steps p.tables e below s₀ (B.U.setTop (mkF m (pc + 3) Ls (v.toList ++ S.map (rf ad))))) :
    ∃ (s₂ : State) (v : Option Value) (H' : List OwnC) (locs' : List Loc), Steps p.tables e below s₀ s₂ ∧ s₂.status = .running ∧ Ended s₂ below (.returned (v.map (rf ad))) ∧ Q v H' ∧ HR Z C lay n0 ro ad H' s₂.heap ∧ Kp ad H.length T.heap s₂.heap ∧ Fr n0 locs' ∧ FrameEnd s (.returned (v.map (rf ad))) s₂ locs' R.cells R.slots := by
  obtain ⟨w, H1, rfl, g2, g3, g4, g5⟩ := hQ
  rw [e1, e2, e3] at X
  obtain ⟨s₂, v, H2, locs2, h1, h2, h3, h4, h5, h6, h7⟩ := nx w H1 g2 p e s m args below meth c B.U _ ad Ls X A g3 (N.app g5) hL hz
  refine ⟨s₂, v, H2, locs2, st.trans ?_, h2, h3, h4, h5, Kp.trans hr g4 h6, h7⟩
  have e0 : (w.toList ++ S).map (rf ad) = (w.map (rf ad)).toList ++ S.map (rf ad) := by cases w <;> rfl
  rw [← e0]; exact h1
theorem stack_of (ad : Nat → Addr) (h : S0 = as.reverse ++ S) : S0.map (rf ad) = (as.map (rf ad)).reverse ++ S.map (rf ad) := by rw [h, List.map_append, List.map_reverse]
theorem stack_of1 {i : Nat} (ad : Nat → Addr) (h : S0 = as.reverse ++ .ref i :: S) : S0.map (rf ad) = (as.map (rf ad)).reverse ++ .ref (ad i) :: S.map (rf ad) := by rw [h, List.map_append, List.map_reverse]; rfl
theorem WP.callS {idx : Nat} (hd : decode bytes pc = .ok (.invokestatic idx, 3)) (w1 : (Cond.methodLink own idx y).before a0 Z = true) (w2 : (Cond.static y).before a0 Z = true) (w3 : (Cond.initialized y.cls).before a0 Z = true) (w4 : (Cond.code y cb cm cr).before a0 Z = true) (hy : y.cls ≠ "java/lang/invoke/MethodHandle" ∧ y.cls ≠ "java/lang/invoke/VarHandle")
    (cs : CS l Z C lay y cb cm cr Rc ro as H Qc) (hS : S0 = as.reverse ++ S) (hlen : ∀ sig, parseMethodDescriptor y.desc = some sig → as.length = sig.parameters.length) (hf : Rc.frames + 1 ≤ R.frames) (hl : (S.map fun v => v.category).sum + (cm + 11) + Rc.locals ≤ R.locals) (hc : k + Rc.cells ≤ R.cells) (hs : n + Rc.slots ≤ R.slots)
    (nx : ∀ v H', Qc v H' → WP l Z C lay own mn bytes maxL ret R n0 ro Q (k + Rc.cells) (n + Rc.slots) (pc + 3) L (v.toList ++ S) H') : WP l Z C lay own mn bytes maxL ret R n0 ro Q k n pc L S0 H := by
  intro p e s m args below meth c T locs ad Ls X A hr N hL hz
  obtain ⟨v, vm₁, B, hW₁, X', ⟨Lc, hQ, e1, e2, e3⟩, st⟩ := Jvm.LawKit.callS X A.1 (y := y) A.2.2.2.2.2.2.1 (mvT A.2.1 w1) (mvT A.2.1 w2) (mvT A.2.1 w3) (mvT A.2.1 w4) hy
    (backOf (W := (S.map fun v => v.category).sum) (cs [] n0 ad T.heap hr) A.2.1 w4 w3 hf hl) (g := mkF m pc Ls (S0.map (rf ad))) rfl (hz.trans A.2.2.2.1.symm) (argsL := as.map (rf ad)) (rest := S.map (rf ad)) (fun sig q => by rw [List.length_map]; exact hlen sig q) (stack_of ad hS) (by show 2 * 0 + _ ≤ _; rw [rf_cats]; omega) (hb A.2.2.1 hd) (fun _ _ => ⟨rfl, rfl, hc, hs⟩)
  exact go_on (T := T) nx X' A hr N hL hz hQ e1 e2 e3 (st _ (Steps.refl _))
theorem WP.callV {idx i : Nat} {vs : List Value} (hd : decode bytes pc = .ok (.invokevirtual idx, 3)) (w1 : (Cond.methodLink own idx y).before a0 Z = true) (w2 : (Cond.declares y).before a0 Z = true) (w3 : (Cond.selects C y y).before a0 Z = true) (w4 : (Cond.instanceMethod y).before a0 Z = true) (w5 : (Cond.code y cb cm cr).before a0 Z = true) (w6 : (Cond.initialized y.cls).before a0 Z = true) (hy : y.cls ≠ "java/lang/invoke/MethodHandle" ∧ y.cls ≠ "java/lang/invoke/VarHandle")
    (hH : H[i]? = some (.inl vs)) (cs : CS l Z C lay y cb cm cr Rc ro (.ref i :: as) H Qc) (hS : S0 = as.reverse ++ .ref i :: S) (hlen : ∀ sig, parseMethodDescriptor y.desc = some sig → as.length = sig.parameters.length) (hf : Rc.frames + 1 ≤ R.frames) (hl : (S.map fun v => v.category).sum + (cm + 11) + Rc.locals ≤ R.locals) (hc : k + Rc.cells ≤ R.cells) (hs : n + Rc.slots ≤ R.slots)
    (nx : ∀ v H', Qc v H' → WP l Z C lay own mn bytes maxL ret R n0 ro Q (k + Rc.cells) (n + Rc.slots) (pc + 3) L (v.toList ++ S) H') : WP l Z C lay own mn bytes maxL ret R n0 ro Q k n pc L S0 H := by
  intro p e s m args below meth c T locs ad Ls X A hr N hL hz
  obtain ⟨cq, kq, qa, qb, qc⟩ := isOf A.2.1 rfl (hr.1 i _ hH).1
  obtain ⟨v, vm₁, B, hW₁, X', ⟨Lc, hQ, e1, e2, e3⟩, st⟩ := X.virtualBack A.1 (y := y) (z := y) A.2.2.2.2.2.2.1 (mvT A.2.1 w1) (mvT A.2.1 w2) (notFace_of_selects (args := #[]) (mvT A.2.1 w3)) (mvT A.2.1 w3) (mvT A.2.1 w4) hy
    (backOf (W := (S.map fun v => v.category).sum) (cs [] n0 ad T.heap hr) A.2.1 w5 w6 hf hl) qa qc (g := mkF m pc Ls (S0.map (rf ad))) rfl (hz.trans A.2.2.2.1.symm) (Steps.refl _) (argsL := as.map (rf ad)) (rest := S.map (rf ad)) (fun sig q => by rw [List.length_map]; exact hlen sig q) (stack_of1 ad hS) (by show 2 * 0 + _ ≤ _; rw [rf_cats]; omega) (hb A.2.2.1 hd) (fun _ _ => ⟨rfl, rfl, hc, hs⟩)
  exact go_on (T := T) nx X' A hr N hL hz hQ e1 e2 e3 st
theorem WP.callP {idx i kk : Nat} {vs : List Value} (hd : decode bytes pc = .ok (.invokevirtual idx, 3)) (w1 : (Cond.methodLink own idx y).before a0 Z = true) (w2 : (Cond.privateMethod y).before a0 Z = true) (wi : (Cond.instantiable y.cls kk).before a0 Z = true) (w4 : (Cond.instanceMethod y).before a0 Z = true) (w5 : (Cond.code y cb cm cr).before a0 Z = true) (w6 : (Cond.initialized y.cls).before a0 Z = true) (hy : y.cls ≠ "java/lang/invoke/MethodHandle" ∧ y.cls ≠ "java/lang/invoke/VarHandle")
    (hH : H[i]? = some (.inl vs)) (cs : CS l Z C lay y cb cm cr Rc ro (.ref i :: as) H Qc) (hS : S0 = as.reverse ++ .ref i :: S) (hlen : ∀ sig, parseMethodDescriptor y.desc = some sig → as.length = sig.parameters.length) (hf : Rc.frames + 1 ≤ R.frames) (hl : (S.map fun v => v.category).sum + (cm + 11) + Rc.locals ≤ R.locals) (hc : k + Rc.cells ≤ R.cells) (hs : n + Rc.slots ≤ R.slots)
    (nx : ∀ v H', Qc v H' → WP l Z C lay own mn bytes maxL ret R n0 ro Q (k + Rc.cells) (n + Rc.slots) (pc + 3) L (v.toList ++ S) H') : WP l Z C lay own mn bytes maxL ret R n0 ro Q k n pc L S0 H := by
  intro p e s m args below meth c T locs ad Ls X A hr N hL hz
  obtain ⟨cq, q, q'⟩ := (hr.1 i _ hH).1.cell
  have hpr : s.PrivateAt y := Cond.privateMethod_at (mvP A.2.1 w2 (args := #[]))
  have hin : (Cond.instanceMethod y).before args s = true := mvT A.2.1 w4
  have hsel : (Cond.selects y.cls y y).before args s = true := by
    have wi' : (Cond.instantiable y.cls kk).before args s = true := mvT A.2.1 wi
    obtain ⟨c1, k1, g1, g2, g3, g4, -⟩ := Cond.instantiable_spec wi'
    have g5 : k1.isInterface = false := by
      cases hq : k1.isInterface
      · rfl
      · rw [hq] at g4; cases g4
    exact selects_self_of_private g1 g2 g5 hpr hin hy
  obtain ⟨v, vm₁, B, hW₁, X', ⟨Lc, hQ, e1, e2, e3⟩, st⟩ := X.privateBack A.1 (y := y) A.2.2.2.2.2.2.1 (mvT A.2.1 w1) hin hsel hpr (mvT A.2.1 w5) hy
    (backOf (W := (S.map fun v => v.category).sum) (cs [] n0 ad T.heap hr) A.2.1 w5 w6 hf hl) (g := mkF m pc Ls (S0.map (rf ad))) rfl (hz.trans A.2.2.2.1.symm) (Steps.refl _) q q' (argsL := as.map (rf ad)) (rest := S.map (rf ad)) (fun sig q => by rw [List.length_map]; exact hlen sig q) (stack_of1 ad hS) (by show 2 * 0 + _ ≤ _; rw [rf_cats]; omega) (hb A.2.2.1 hd) (fun _ _ => ⟨rfl, rfl, hc, hs⟩)
  exact go_on (T := T) nx X' A hr N hL hz hQ e1 e2 e3 st
theorem WP.callI {idx i : Nat} (hd : decode bytes pc = .ok (.invokespecial idx, 3)) (hn1 : y.name = "<init>") (w1 : (Cond.methodLink own idx y).before a0 Z = true) (w4 : (Cond.instanceMethod y).before a0 Z = true) (w5 : (Cond.code y cb cm none).before a0 Z = true) (w6 : (Cond.initialized y.cls).before a0 Z = true) (hy : y.cls ≠ "java/lang/invoke/MethodHandle" ∧ y.cls ≠ "java/lang/invoke/VarHandle")
    (cs : CS l Z C lay y cb cm none Rc ro (.ref i :: as) H Qc) (hS : S0 = as.reverse ++ .ref i :: S) (hlen : ∀ sig, parseMethodDescriptor y.desc = some sig → as.length = sig.parameters.length) (hf : Rc.frames + 1 ≤ R.frames) (hl : (S.map fun v => v.category).sum + (cm + 11) + Rc.locals ≤ R.locals) (hc : k + Rc.cells ≤ R.cells) (hs : n + Rc.slots ≤ R.slots)
    (nx : ∀ v H', Qc v H' → WP l Z C lay own mn bytes maxL ret R n0 ro Q (k + Rc.cells) (n + Rc.slots) (pc + 3) L (v.toList ++ S) H') : WP l Z C lay own mn bytes maxL ret R n0 ro Q k n pc L S0 H := by
  intro p e s m args below meth c T locs ad Ls X A hr N hL hz
  obtain ⟨v, vm₁, B, hW₁, X', ⟨Lc, hQ, e1, e2, e3⟩, st⟩ := X.specialBack A.1 (y := y) hn1 A.2.2.2.2.2.2.1 (mvT A.2.1 w1) (mvT A.2.1 w4) (mvT A.2.1 w5) hy
    (backOf (W := (S.map fun v => v.category).sum) (cs [] n0 ad T.heap hr) A.2.1 w5 w6 hf hl) (g := mkF m pc Ls (S0.map (rf ad))) rfl (hz.trans A.2.2.2.1.symm) (Steps.refl _) (a := ad i) (argsL := as.map (rf ad)) (rest := S.map (rf ad)) (fun sig q => by rw [List.length_map]; exact hlen sig q) (stack_of1 ad hS) (by show 2 * 0 + _ ≤ _; rw [rf_cats]; omega) (hb A.2.2.1 hd) (fun _ _ => ⟨rfl, rfl, hc, hs⟩)
  exact go_on (T := T) nx X' A hr N hL hz hQ e1 e2 e3 st
end Calls
/-! ## a callee that sees a part of the heap -/
def rn (ρ : Nat → Nat) : Value → Value
  | .ref i => .ref (ρ i)
  | .int x => .int x
  | .long x => .long x
  | .float x => .float x
  | .double x => .double x
  | .null => .null
  | .retAddr x => .retAddr x
theorem rf_rn (ad : Nat → Addr) (ρ : Nat → Nat) (v : Value) : rf ad (rn ρ v) = rf (fun j => ad (ρ j)) v := by cases v <;> rfl
def rnC (ρ : Nat → Nat) : OwnC → OwnC
  | .inl vs => .inl (vs.map (rn ρ))
  | .inr x => .inr x
theorem CelOk_rn {Z : State} {C : String} {lay : List (String × String)} {ad : Nat → Addr} {ρ : Nat → Nat} {h : Heap} {a : Addr} {c : OwnC} : CelOk Z C lay ad h a (rnC ρ c) ↔ CelOk Z C lay (fun j => ad (ρ j)) h a c := by
  rcases c with vs | xs | xs | xs
  · constructor
    · rintro ⟨E, F⟩
      refine ⟨E, fun i f v hf hv => ?_⟩
      have := F i f (rn ρ v) hf (by rw [List.getElem?_map, hv]; rfl)
      rwa [rf_rn] at this
    · rintro ⟨E, F⟩
      refine ⟨E, fun i f v hf hv => ?_⟩
      rw [List.getElem?_map] at hv
      obtain ⟨w, hw, rfl⟩ := Option.map_eq_some_iff.mp hv
      rw [rf_rn]; exact F i f w hf hw
  all_goals exact Iff.rfl
def patch (ρ : Nat → Nat) : List Nat → List OwnC → List OwnC → List OwnC
  | [], D, H => H ++ D.map (rnC ρ)
  | i :: is, c :: D, H => patch ρ is D (H.set i (rnC ρ c))
  | _ :: _, [], H => H
theorem patch_seg (ρ : Nat → Nat) : ∀ (D B A C : List OwnC), B.length = D.length → patch ρ (List.range' A.length D.length) D (A ++ (B ++ C)) = A ++ (D.map (rnC ρ) ++ C)
  | [], B, A, C, h => by
    obtain rfl : B = [] := List.eq_nil_of_length_eq_zero h
    simp [patch]
  | d :: D, [], A, C, h => by simp at h
  | d :: D, b :: B, A, C, h => by
    have h' : B.length = D.length := by simpa using h
    have ih := patch_seg ρ D B (A ++ [rnC ρ d]) C h'
    rw [List.length_append] at ih
    show patch ρ (List.range' (A.length + 1) D.length) D ((A ++ (b :: B ++ C)).set A.length (rnC ρ d)) = _
    rw [List.set_append_right _ _ (Nat.le_refl _), Nat.sub_self]
    simpa using ih
theorem patch_len (ρ : Nat → Nat) : ∀ (foot : List Nat) (D H : List OwnC), foot.length ≤ D.length → (patch ρ foot D H).length = H.length + (D.length - foot.length)
  | [], D, H, _ => by simp [patch]
  | i :: is, [], H, h => by simp at h
  | i :: is, c :: D, H, h => by
    show (patch ρ is D (H.set i (rnC ρ c))).length = _
    rw [patch_len ρ is D _ (by simpa using h)]; simp
theorem patch_out (ρ : Nat → Nat) : ∀ (foot : List Nat) (D H : List OwnC) (i : Nat), i < H.length → i ∉ foot → (patch ρ foot D H)[i]? = H[i]?
  | [], D, H, i, hi, _ => by simp [patch, List.getElem?_append_left hi]
  | j :: is, [], H, i, _, _ => rfl
  | j :: is, c :: D, H, i, hi, hn => by
    show (patch ρ is D (H.set j (rnC ρ c)))[i]? = _
    rw [patch_out ρ is D _ i (by simpa using hi) (fun q => hn (List.mem_cons_of_mem _ q)), List.getElem?_set_ne (fun q => hn (by rw [q]; exact List.mem_cons_self ..))]
theorem patch_new (ρ : Nat → Nat) : ∀ (foot : List Nat) (D H : List OwnC) (t : Nat), foot.length ≤ D.length → (patch ρ foot D H)[H.length + t]? = (D[foot.length + t]?).map (rnC ρ)
  | [], D, H, t, _ => by simp [patch, List.getElem?_append_right (Nat.le_add_right _ _)]
  | i :: is, [], H, _, h => by simp at h
  | i :: is, c :: D, H, t, h => by
    show (patch ρ is D (H.set i (rnC ρ c)))[H.length + t]? = _
    have := patch_new ρ is D (H.set i (rnC ρ c)) t (by simpa using h)
    rw [List.length_set] at this
    rw [this]; simp [Nat.add_right_comm _ 1 t]
theorem patch_in (ρ : Nat → Nat) : ∀ (foot : List Nat) (D H : List OwnC) (j i : Nat), foot.Nodup → (∀ x ∈ foot, x < H.length) → foot[j]? = some i → foot.length ≤ D.length → (patch ρ foot D H)[i]? = (D[j]?).map (rnC ρ)
  | [], D, H, j, i, _, _, h, _ => by simp at h
  | x :: is, [], H, j, i, _, _, _, h => by simp at h
  | x :: is, c :: D, H, 0, i, nd, hl, h, _ => by
    obtain rfl : x = i := by simpa using h
    show (patch ρ is D (H.set x (rnC ρ c)))[x]? = _
    rw [patch_out ρ is D _ x (by simpa using hl x (List.mem_cons_self ..)) (List.nodup_cons.mp nd).1]
    simp [hl x (List.mem_cons_self ..)]
  | x :: is, c :: D, H, j + 1, i, nd, hl, h, hd => by
    show (patch ρ is D (H.set x (rnC ρ c)))[i]? = _
    rw [patch_in ρ is D _ j i (List.nodup_cons.mp nd).2 (fun y hy => by simpa using hl y (List.mem_cons_of_mem _ hy)) (by simpa using h) (by simpa using hd)]
    simp
def ro1 (foot : List Nat) (N : Nat) (j : Nat) : Nat := if j < foot.length then foot.getD j 0 else N + (j - foot.length)
theorem ro1_in {foot : List Nat} {N j i : Nat} (h : foot[j]? = some i) : ro1 foot N j = i := by
  have hj := get_lt h
  unfold ro1
  rw [if_pos hj, List.getD_eq_getElem?_getD, h]; rfl
theorem ro1_new (foot : List Nat) (N t : Nat) : ro1 foot N (foot.length + t) = N + t := by
  unfold ro1
  rw [if_neg (by omega)]; omega
theorem CS.frame {l : Launch} {Z : State} {C : String} {lay : List (String × String)} {y : MethodName} {bytes : ByteArray} {maxL : Nat} {ret : Option FieldType} {R : Room} {ro roc : Nat} {as asc : List Value} {H Hc : List OwnC} {Qc : Option Value → List OwnC → Prop} (foot : List Nat)
    (cs : CS l Z C lay y bytes maxL ret R roc asc Hc Qc) (hlen : Hc.length = foot.length) (hnd : foot.Nodup) (hlt : ∀ x ∈ foot, x < H.length) (hcell : foot.map (fun i => H[i]?) = Hc.map (fun c => some (rnC (ro1 foot H.length) c))) (hro : ∀ x ∈ foot.drop roc, ro ≤ x) (has : asc.map (rn (ro1 foot H.length)) = as) :
    CS l Z C lay y bytes maxL ret R ro as H (fun v H' => ∃ vc D, Qc vc D ∧ v = vc.map (rn (ro1 foot H.length)) ∧ H' = patch (ro1 foot H.length) foot D H) := by
  intro ws n0 ad h hr
  obtain ⟨r1, r2, r3, r4, r5⟩ := hr
  have cellAt : ∀ (j i : Nat), foot[j]? = some i → ∃ c, Hc[j]? = some c ∧ H[i]? = some (rnC (ro1 foot H.length) c) := fun j i hj => by
    have h1 : (foot.map (fun i => H[i]?))[j]? = some H[i]? := by rw [List.getElem?_map, hj]; rfl
    rw [hcell, List.getElem?_map] at h1
    obtain ⟨c, e1, e2⟩ := Option.map_eq_some_iff.mp h1
    exact ⟨c, e1, e2.symm⟩
  have idx : ∀ j : Nat, j < foot.length → ∃ i, foot[j]? = some i ∧ i < H.length := fun j hj => ⟨_, List.getElem?_eq_getElem hj, hlt _ (List.getElem_mem hj)⟩
  have hrc : HR Z C lay n0 roc (fun j => ad (ro1 foot H.length j)) Hc h := by
    refine ⟨fun j c hj => ?_, fun i j hi hj q => ?_, fun t => ?_, fun j hj hr => ?_, r5⟩
    · obtain ⟨i, e1, e2⟩ := idx j (hlen ▸ get_lt hj)
      obtain ⟨c', g1, g2⟩ := cellAt j i e1
      cases g1.symm.trans hj
      show CelOk Z C lay (fun j => ad (ro1 foot H.length j)) h (ad (ro1 foot H.length j)) c
      rw [ro1_in e1]
      exact CelOk_rn.mp (r1 i _ g2)
    · rw [hlen] at hi hj
      obtain ⟨i', e1, e2⟩ := idx i hi
      obtain ⟨j', g1, g2⟩ := idx j hj
      dsimp only at q
      rw [ro1_in e1, ro1_in g1] at q
      have q' := r2 _ _ e2 g2 q
      subst q'
      exact (List.getElem?_inj hi hnd).mp (e1.trans g1.symm)
    · dsimp only
      rw [hlen, ro1_new]; exact r3 t
    · rw [hlen] at hj
      obtain ⟨i', e1, e2⟩ := idx j hj
      dsimp only
      rw [ro1_in e1]; refine r4 _ e2 (hro i' (List.mem_of_getElem? (i := j - roc) ?_)); rw [List.getElem?_drop, Nat.add_sub_cancel' hr]; exact e1
  intro p e ha hc hk s m args below hf happ hP hK
  have eas : (asc.map (rf fun j => ad (ro1 foot H.length j))) = as.map (rf ad) := by
    rw [← has, List.map_map]; congr 1; funext v; exact (rf_rn ad _ v).symm
  obtain ⟨N, o, h1, h2, h3, v, L, h4, ⟨w, D, rfl, g2, g3, g4, g5⟩, h5⟩ := cs ws n0 _ h hrc p e ha hc hk s m args below hf happ (by rw [eas]; exact hP) hK
  refine ⟨N, o, h1, h2, h3, _, L, h4, ⟨w.map (rn (ro1 foot H.length)), patch (ro1 foot H.length) foot D H, ?_, ⟨w, D, g2, rfl, rfl⟩, ?_, ?_, g5⟩, h5⟩
  · cases w with
    | none => rfl
    | some w => exact congrArg some (rf_rn ad _ w).symm
  · generalize hU : (stepsAlone p.tables e N s).heap = h' at g3 g4
    obtain ⟨d1, d2, d3, d4, d5⟩ := g3
    have hD : foot.length ≤ D.length := by
      by_cases q : foot.length ≤ D.length
      · exact q
      · exfalso
        obtain ⟨i, e1, e2⟩ := idx D.length (by omega)
        have z := d3 0
        simp only [Nat.add_zero] at z
        rw [ro1_in e1] at z
        obtain ⟨c', -, g2'⟩ := cellAt _ i e1
        have a1 := (r1 i _ g2').lt
        rw [z] at a1
        exact absurd a1 (Nat.not_lt.mpr g4.1)
    have hPl := patch_len (ro1 foot H.length) foot D H hD
    have old : ∀ i, i < H.length → ad i < h.size := fun i hi => (r1 i _ (List.getElem?_eq_getElem hi)).lt
    have new : ∀ i, H.length ≤ i → h.size ≤ ad i := fun i hi => by
      obtain ⟨t, rfl⟩ := Nat.exists_eq_add_of_le hi
      rw [r3 t]; exact Nat.le_add_right _ _
    refine ⟨fun i c hi => ?_, fun i j hi hj q => ?_, fun t => ?_, fun i hi hr => ?_, Nat.le_trans r5 g4.1⟩
    · by_cases hl : i < H.length
      · by_cases hm : i ∈ foot
        · obtain ⟨j, hj⟩ := List.getElem?_of_mem hm
          rw [patch_in _ foot D H j i hnd hlt hj hD] at hi
          obtain ⟨c', e1, rfl⟩ := Option.map_eq_some_iff.mp hi
          have := d1 j c' e1
          dsimp only at this
          rw [ro1_in hj] at this
          exact CelOk_rn.mpr this
        · rw [patch_out _ foot D H i hl hm] at hi
          refine (r1 i c hi).keep fun cz q => g4.2 _ cz q fun j hj q' => ?_
          rw [hlen] at hj
          obtain ⟨i', e1, e2⟩ := idx j hj
          dsimp only at q'
          rw [ro1_in e1] at q'
          have := r2 _ _ e2 hl q'
          subst this
          exact hm (List.mem_of_getElem? e1)
      · obtain ⟨t, rfl⟩ := Nat.exists_eq_add_of_le (Nat.le_of_not_lt hl)
        rw [patch_new _ foot D H t hD] at hi
        obtain ⟨c', e1, rfl⟩ := Option.map_eq_some_iff.mp hi
        have := d1 _ c' e1
        dsimp only at this
        rw [ro1_new] at this
        exact CelOk_rn.mpr this
    · by_cases a1 : i < H.length
      · by_cases a2 : j < H.length
        · exact r2 _ _ a1 a2 q
        · have b1 := old i a1
          rw [q] at b1
          exact absurd b1 (Nat.not_lt.mpr (new j (Nat.le_of_not_lt a2)))
      · by_cases a2 : j < H.length
        · have b1 := new i (Nat.le_of_not_lt a1)
          rw [q] at b1
          exact absurd (old j a2) (Nat.not_lt.mpr b1)
        · obtain ⟨t, rfl⟩ := Nat.exists_eq_add_of_le (Nat.le_of_not_lt a1)
          obtain ⟨t', rfl⟩ := Nat.exists_eq_add_of_le (Nat.le_of_not_lt a2)
          rw [r3, r3] at q; exact congrArg (H.length + ·) (Nat.add_left_cancel q)
    · have z := d3 t
      dsimp only at z
      have e1 : D.length + t = foot.length + (D.length - foot.length + t) := by omega
      rw [e1, ro1_new] at z
      rw [hPl, Nat.add_assoc]; exact z
    · by_cases a1 : i < H.length
      · exact r4 i a1 hr
      · exact Nat.le_trans r5 (new i (Nat.le_of_not_lt a1))
  · refine ⟨g4.1, fun a cz hz hn => g4.2 a cz hz fun j hj q => ?_⟩
    rw [hlen] at hj
    obtain ⟨i', e1, e2⟩ := idx j hj
    dsimp only at q
    rw [ro1_in e1] at q
    exact hn i' e2 q
/-! ## an object's state: ints (and booleans), longs, int[] (and boolean[]), long[], each by a number -/
abbrev St : Type := (Nat → Int32) × (Nat → Int64) × (Nat → List Int32) × (Nat → List Int64)
def upd {α : Type} (f : Nat → α) (i : Nat) (v : α) : Nat → α := fun j => if j = i then v else f j
def gI (s : St) (i : Nat) : Int32 := s.1 i
def gJ (s : St) (i : Nat) : Int64 := s.2.1 i
def gA (s : St) (i : Nat) : List Int32 := s.2.2.1 i
def gB (s : St) (i : Nat) : List Int64 := s.2.2.2 i
def sI (s : St) (i : Nat) (v : Int32) : St := (upd s.1 i v, s.2.1, s.2.2.1, s.2.2.2)
def sJ (s : St) (i : Nat) (v : Int64) : St := (s.1, upd s.2.1 i v, s.2.2.1, s.2.2.2)
def sA (s : St) (i : Nat) (v : List Int32) : St := (s.1, s.2.1, upd s.2.2.1 i v, s.2.2.2)
def sB (s : St) (i : Nat) (v : List Int64) : St := (s.1, s.2.1, s.2.2.1, upd s.2.2.2 i v)
theorem gI_sI (s : St) (i j : Nat) (v : Int32) : gI (sI s i v) j = if j = i then v else gI s j := rfl
theorem gI_sJ (s : St) (i j : Nat) (v : Int64) : gI (sJ s i v) j = gI s j := rfl
theorem gI_sA (s : St) (i j : Nat) (v : List Int32) : gI (sA s i v) j = gI s j := rfl
theorem gI_sB (s : St) (i j : Nat) (v : List Int64) : gI (sB s i v) j = gI s j := rfl
theorem gJ_sI (s : St) (i j : Nat) (v : Int32) : gJ (sI s i v) j = gJ s j := rfl
theorem gJ_sJ (s : St) (i j : Nat) (v : Int64) : gJ (sJ s i v) j = if j = i then v else gJ s j := rfl
theorem gJ_sA (s : St) (i j : Nat) (v : List Int32) : gJ (sA s i v) j = gJ s j := rfl
theorem gJ_sB (s : St) (i j : Nat) (v : List Int64) : gJ (sB s i v) j = gJ s j := rfl
theorem gA_sI (s : St) (i j : Nat) (v : Int32) : gA (sI s i v) j = gA s j := rfl
theorem gA_sJ (s : St) (i j : Nat) (v : Int64) : gA (sJ s i v) j = gA s j := rfl
theorem gA_sA (s : St) (i j : Nat) (v : List Int32) : gA (sA s i v) j = if j = i then v else gA s j := rfl
theorem gA_sB (s : St) (i j : Nat) (v : List Int64) : gA (sB s i v) j = gA s j := rfl
theorem gB_sI (s : St) (i j : Nat) (v : Int32) : gB (sI s i v) j = gB s j := rfl
theorem gB_sJ (s : St) (i j : Nat) (v : Int64) : gB (sJ s i v) j = gB s j := rfl
theorem gB_sA (s : St) (i j : Nat) (v : List Int32) : gB (sA s i v) j = gB s j := rfl
theorem gB_sB (s : St) (i j : Nat) (v : List Int64) : gB (sB s i v) j = if j = i then v else gB s j := rfl
def wrA (s : St) (i : Nat) (j x : Int32) : Option St := (wr (gA s i) j x).map (sA s i)
def wrB (s : St) (i : Nat) (j : Int32) (x : Int64) : Option St := (wr (gB s i) j x).map (sB s i)
theorem wrA_e {s s' : St} {i : Nat} {j x : Int32} (h : wrA s i j x = some s') : ∃ ys, wr (gA s i) j x = some ys ∧ s' = sA s i ys := by
  obtain ⟨ys, h1, h2⟩ := Option.map_eq_some_iff.mp h
  exact ⟨ys, h1, h2.symm⟩
theorem wrB_e {s s' : St} {i : Nat} {j : Int32} {x : Int64} (h : wrB s i j x = some s') : ∃ ys, wr (gB s i) j x = some ys ∧ s' = sB s i ys := by
  obtain ⟨ys, h1, h2⟩ := Option.map_eq_some_iff.mp h
  exact ⟨ys, h1, h2.symm⟩
def lt {α β : Type} (x : α) (f : α → β) : β := f x
theorem lt_e {α β : Type} {x : α} {f : α → β} {r : β} (h : lt x f = r) : ∃ y, y = x ∧ f y = r := ⟨x, rfl, h⟩
theorem ite_e {α : Type} {c : Prop} [Decidable c] {a b r : α} (h : (if c then a else b) = r) : (c ∧ a = r) ∨ (¬ c ∧ b = r) := by
  by_cases hc : c
  · rw [if_pos hc] at h; exact Or.inl ⟨hc, h⟩
  · rw [if_neg hc] at h; exact Or.inr ⟨hc, h⟩
theorem nz_e {α : Type} {c : Prop} [Decidable c] {b : Option α} {r : α} (h : (if c then none else b) = some r) : ¬ c ∧ b = some r := by
  by_cases hc : c
  · rw [if_pos hc] at h; cases h
  · rw [if_neg hc] at h; exact ⟨hc, h⟩
/-! the class's fields -/
def LaidAll (Z : State) (a0 : Array Value) (C : String) : List (String × String) → List Value → Prop
  | f :: fs, v :: vs => (Laid Z a0 C C f.1 f.2 ∧ ∃ ty, parseFieldDescriptor f.2 = some ty ∧ v = defaultValue ty) ∧ LaidAll Z a0 C fs vs
  | [], [] => True
  | _, _ => False
theorem LaidAll.new {Z : State} {a0 : Array Value} {C : String} : ∀ {lay : List (String × String)} {vs : List Value}, LaidAll Z a0 C lay vs → ∀ (i : Nat) (f : String × String) (v : Value), lay[i]? = some f → vs[i]? = some v → Laid Z a0 C C f.1 f.2 ∧ ∃ ty, parseFieldDescriptor f.2 = some ty ∧ v = defaultValue ty
  | [], [], _, i, f, v, h, _ => by simp at h
  | g :: fs, w :: vs, h, 0, f, v, h1, h2 => by
    obtain rfl : g = f := by simpa using h1
    obtain rfl : w = v := by simpa using h2
    exact h.1
  | g :: fs, w :: vs, h, i + 1, f, v, h1, h2 => LaidAll.new h.2 i f v (by simpa using h1) (by simpa using h2)
theorem LaidAll.len {Z : State} {a0 : Array Value} {C : String} : ∀ {lay : List (String × String)} {vs : List Value}, LaidAll Z a0 C lay vs → lay.length = vs.length
  | [], [], _ => rfl
  | g :: fs, w :: vs, h => congrArg Nat.succ (LaidAll.len h.2)
theorem LaidAll.ne {Z : State} {a0 : Array Value} {C : String} {lay : List (String × String)} {vs : List Value} (h : LaidAll Z a0 C lay vs) (nd : (lay.map Prod.fst).Nodup) : ∀ (a b : Nat) (f g : String × String), lay[a]? = some f → lay[b]? = some g → a ≠ b → RoadKit.slotOf Z C f.1 f.2 ≠ RoadKit.slotOf Z C g.1 g.2 := by
  intro a b f g ha hb' hne
  have la := get_lt ha
  have lb := get_lt hb'
  obtain ⟨L1, t1, e1, -⟩ := h.new a f _ ha (List.getElem?_eq_getElem (h.len ▸ la))
  obtain ⟨L2, t2, e2, -⟩ := h.new b g _ hb' (List.getElem?_eq_getElem (h.len ▸ lb))
  refine slot_ne L1 L2 (fun q => hne ?_) e1 e2
  have h1 : (lay.map Prod.fst)[a]? = some f.1 := by rw [List.getElem?_map, ha]; rfl
  have h2 : (lay.map Prod.fst)[b]? = some g.1 := by rw [List.getElem?_map, hb']; rfl
  exact (List.getElem?_inj (by simpa using la) nd).mp (h1.trans (by rw [q]; exact h2.symm))
section Puts
variable {l : Launch} {Z : State} {a0 : Array Value} {C : String} {lay : List (String × String)} {own mn : String} {bytes : ByteArray} {maxL : Nat} {ret : Option FieldType} {R : Room} {n0 ro : Nat} {Q : Option Value → List OwnC → Prop} {k n pc pc' : Nat} {L L' : List Slot} {S S' : List Value} {H H' : List OwnC}
theorem WP.putI {idx i j kk : Nat} {f : String} {vs : List Value} {x : Int32} {old : Value} (hd : decode bytes pc = .ok (.putfield idx, 3)) (hw : (Cond.fieldLink own idx C f "I").before a0 Z = true) (hl : (Cond.lays C C f "I").before a0 Z = true ∨ ((Cond.laysFinal C C f "I").before a0 Z = true ∧ own = C ∧ mn = "<init>")) (wi : (Cond.instantiable C kk).before a0 Z = true)
    (hlay : ∀ (a b : Nat) (f g : String × String), lay[a]? = some f → lay[b]? = some g → a ≠ b → RoadKit.slotOf Z C f.1 f.2 ≠ RoadKit.slotOf Z C g.1 g.2) (hj : lay[j]? = some (f, "I")) (hH : H[i]? = some (.inl vs)) (hv : vs[j]? = some old) (hi : ro ≤ i) (hH' : H.set i (.inl (vs.set j (.int x))) = H') (nx : WP l Z C lay own mn bytes maxL ret R n0 ro Q k n (pc + 3) L S H') : WP l Z C lay own mn bytes maxL ret R n0 ro Q k n pc L (.int x :: .ref i :: S) H :=
  WP.put hd hw hl wi hlay (ty := .int) (by decide) (fun _ => rfl) (fun _ => rfl) hj hH hv hi hH' nx
theorem WP.putJ {idx i j kk : Nat} {f : String} {vs : List Value} {x : Int64} {old : Value} (hd : decode bytes pc = .ok (.putfield idx, 3)) (hw : (Cond.fieldLink own idx C f "J").before a0 Z = true) (hl : (Cond.lays C C f "J").before a0 Z = true ∨ ((Cond.laysFinal C C f "J").before a0 Z = true ∧ own = C ∧ mn = "<init>")) (wi : (Cond.instantiable C kk).before a0 Z = true)
    (hlay : ∀ (a b : Nat) (f g : String × String), lay[a]? = some f → lay[b]? = some g → a ≠ b → RoadKit.slotOf Z C f.1 f.2 ≠ RoadKit.slotOf Z C g.1 g.2) (hj : lay[j]? = some (f, "J")) (hH : H[i]? = some (.inl vs)) (hv : vs[j]? = some old) (hi : ro ≤ i) (hH' : H.set i (.inl (vs.set j (.long x))) = H') (nx : WP l Z C lay own mn bytes maxL ret R n0 ro Q k n (pc + 3) L S H') : WP l Z C lay own mn bytes maxL ret R n0 ro Q k n pc L (.long x :: .ref i :: S) H :=
  WP.put hd hw hl wi hlay (ty := .long) (by decide) (fun _ => rfl) (fun _ => rfl) hj hH hv hi hH' nx
theorem WP.putZ {idx i j kk : Nat} {f : String} {vs : List Value} {x : Int32} {old : Value} (hd : decode bytes pc = .ok (.putfield idx, 3)) (hw : (Cond.fieldLink own idx C f "Z").before a0 Z = true) (hl : (Cond.lays C C f "Z").before a0 Z = true ∨ ((Cond.laysFinal C C f "Z").before a0 Z = true ∧ own = C ∧ mn = "<init>")) (wi : (Cond.instantiable C kk).before a0 Z = true)
    (hlay : ∀ (a b : Nat) (f g : String × String), lay[a]? = some f → lay[b]? = some g → a ≠ b → RoadKit.slotOf Z C f.1 f.2 ≠ RoadKit.slotOf Z C g.1 g.2) (hj : lay[j]? = some (f, "Z")) (hH : H[i]? = some (.inl vs)) (hv : vs[j]? = some old) (hi : ro ≤ i) (hH' : H.set i (.inl (vs.set j (.int (x &&& 1)))) = H') (nx : WP l Z C lay own mn bytes maxL ret R n0 ro Q k n (pc + 3) L S H') : WP l Z C lay own mn bytes maxL ret R n0 ro Q k n pc L (.int x :: .ref i :: S) H :=
  WP.put (v' := .int (x &&& 1)) hd hw hl wi hlay (ty := .boolean) (by decide) (fun _ => rfl) (fun _ => fits_nar_bool x) hj hH hv hi hH' nx
theorem WP.putR {idx i j kk i2 : Nat} {f d : String} {vs : List Value} {old : Value} {ty : FieldType} (hd : decode bytes pc = .ok (.putfield idx, 3)) (hw : (Cond.fieldLink own idx C f d).before a0 Z = true) (hl : (Cond.lays C C f d).before a0 Z = true ∨ ((Cond.laysFinal C C f d).before a0 Z = true ∧ own = C ∧ mn = "<init>")) (wi : (Cond.instantiable C kk).before a0 Z = true)
    (hlay : ∀ (a b : Nat) (f g : String × String), lay[a]? = some f → lay[b]? = some g → a ≠ b → RoadKit.slotOf Z C f.1 f.2 ≠ RoadKit.slotOf Z C g.1 g.2) (hty : parseFieldDescriptor d = some ty) (hn : ∀ a, narrow ty (.ref a) = .ref a) (hf : ∀ a, fits ty (.ref a) = true) (hj : lay[j]? = some (f, d)) (hH : H[i]? = some (.inl vs)) (hv : vs[j]? = some old) (hi : ro ≤ i) (hH' : H.set i (.inl (vs.set j (.ref i2))) = H') (nx : WP l Z C lay own mn bytes maxL ret R n0 ro Q k n (pc + 3) L S H') : WP l Z C lay own mn bytes maxL ret R n0 ro Q k n pc L (.ref i2 :: .ref i :: S) H :=
  WP.put (v' := .ref i2) hd hw hl wi hlay hty (fun ad => hn (ad i2)) (fun ad => hf (ad i2)) hj hH hv hi hH' nx
end Puts
/-! ## the start of a law -/
theorem HR.start0 (s : State) (C : String) (lay : List (String × String)) : HR s C lay s.heap.size 0 (fun t => s.heap.size + t) [] s.heap :=
  ⟨fun i c h => by simp at h, fun i j h => by simp at h, fun t => by simp, fun i h => by simp at h, Nat.le_refl _⟩
theorem script_ints {s : State} {a : Addr} {c : Cell} (hf : Fit s) (A : Arr s s.heap a c .int) : ∃ xs : List Int32, c.slots.toList = xs.map Value.int := by
  have h : ∀ v ∈ c.slots.toList, ∃ x : Int32, v = Value.int x := fun v hv => by
    obtain ⟨i, hi, e⟩ := List.mem_iff_getElem.mp hv
    have hi' : i < c.slots.size := by simpa using hi
    have q := hf A.1 hi'
    obtain ⟨hs, k, hk, comp, hkind⟩ := A.2.1
    have e2 : s.slotType? c.cls c.vm i = some .int := by
      cases hq : c.vm <;> first | exact absurd hq (hs _) | simp [State.slotType?, hk, hkind]
    have e3 : c.slots[i] = v := by rw [← e]; simp
    have q2 : fits .int v = true := by rw [← e3]; simpa [State.fitsSlot, e2] using q
    exact fit_I q2 (by simp)
  generalize c.slots.toList = L at h
  induction L with
  | nil => exact ⟨[], rfl⟩
  | cons v L ih =>
    obtain ⟨x, rfl⟩ := h v (List.mem_cons_self ..)
    obtain ⟨xs, rfl⟩ := ih fun w hw => h w (List.mem_cons_of_mem _ hw)
    exact ⟨x :: xs, rfl⟩
def ad1 (a N : Nat) : Nat → Addr
  | 0 => a
  | t + 1 => N + t
theorem HR.start1 {s : State} (C : String) (lay : List (String × String)) {a : Addr} {c : Cell} {xs : List Int32} (A : Arr s s.heap a c .int) (hx : c.slots.toList = xs.map Value.int) : HR s C lay s.heap.size 1 (ad1 a s.heap.size) [cI xs] s.heap := by
  refine ⟨fun i cc h => ?_, fun i j hi hj _ => ?_, fun t => ?_, fun i hi hr => ?_, Nat.le_refl _⟩
  · have hi := get_lt h
    simp at hi; subst hi
    simp at h; subst h
    exact ⟨c, A, hx⟩
  · simp at hi hj; omega
  · show ad1 a s.heap.size (1 + t) = _; rw [Nat.add_comm 1 t]; rfl
  · simp at hi; omega
theorem script_len {s : State} {a : Addr} {c : Cell} {n : Nat} {args : Array Value} {t : Term} (ev : t.eval args s none [] s = some (.ref a)) (A : Arr s s.heap a c .int) (e1 : c.slots.size = n) (h : (Cond.le (Term.length t) (Term.int (260 : Int32))).value args s none s [] = some true) : n ≤ 260 := by
  have hat := A.fin (Vm.Alike.refl _)
  have hl : (Term.length t).eval args s none [] s = if n < 2 ^ 31 then some (.int n.toInt32) else none := by
    simp only [Term.eval, ev, hat, Option.bind_eq_bind, Option.bind_some, e1]; rfl
  by_cases hn : n < 2 ^ 31
  · rw [if_pos hn] at hl
    have h1 := gotT (Cond.le_ints hl (Term.int_eval (260 : Int32))) h
    have h2 : n.toInt32.toInt = n := by
      show (Int32.ofNat n).toInt = n
      exact Int32.toInt_ofNat_of_lt hn
    have h3 := Int32.le_iff_toInt_le.mp h1
    rw [h2] at h3
    have : (260 : Int32).toInt = 260 := by decide
    omega
  · rw [if_neg hn] at hl
    simp [Cond.value, hl] at h
/-! ## plain laws -/
/-- with fuel enough it answers r -/
def Ev {α : Type} (f : Nat → Option α) (r : α) : Prop := ∃ N, ∀ n, N ≤ n → f n = some r
theorem Ev.const {α : Type} {x : Option α} {r : α} (h : x = some r) : Ev (fun _ => x) r := ⟨0, fun _ _ => h⟩
theorem Ev.get {α : Type} {f : Nat → Option α} {r : α} (h : Ev f r) : ∃ n, f n = some r := by obtain ⟨N, h⟩ := h; exact ⟨N, h N (Nat.le_refl _)⟩
theorem Ev.step {α : Type} {f g : Nat → Option α} {r : α} (e : ∀ n, f (n + 1) = g n) (h : Ev g r) : Ev f r := by
  obtain ⟨N, h⟩ := h
  refine ⟨N + 1, fun n hn => ?_⟩
  cases n with
  | zero => omega
  | succ n => rw [e n]; exact h n (by omega)
theorem Ev.congr {α : Type} {f g : Nat → Option α} {r : α} (e : ∀ n, f n = g n) (h : Ev g r) : Ev f r := by
  obtain ⟨N, h⟩ := h
  exact ⟨N, fun n hn => (e n).trans (h n hn)⟩
theorem Ev.bind {α β : Type} {f : Nat → Option β} {g : Nat → β → Option α} {c : β} {r : α} (h1 : Ev f c) (h2 : Ev (fun n => g n c) r) : Ev (fun n => (f n).bind (g n)) r := by
  obtain ⟨N, h1⟩ := h1
  obtain ⟨M, h2⟩ := h2
  refine ⟨N + M, fun n hn => ?_⟩
  show (f n).bind (g n) = some r
  rw [h1 n (by omega)]; exact h2 n (by omega)
theorem Ev.uniq {α : Type} {f : Nat → Option α} {r r' : α} (h : Ev f r) (h' : Ev f r') : r = r' := by
  obtain ⟨N, h⟩ := h
  obtain ⟨M, h'⟩ := h'
  exact Option.some.inj ((h (N + M) (by omega)).symm.trans (h' (N + M) (by omega)))
/-! Int32 as Int -/
theorem x32_lt {x y : Int32} : x < y ↔ x.toInt < y.toInt := Int32.lt_iff_toInt_lt
theorem x32_eq {x y : Int32} : x = y ↔ x.toInt = y.toInt := Int32.toInt_inj.symm
theorem x32_add {x y : Int32} (h1 : -2147483648 ≤ x.toInt + y.toInt) (h2 : x.toInt + y.toInt < 2147483648) : (x + y).toInt = x.toInt + y.toInt := by
  rw [Int32.toInt_add]; exact Int.bmod_eq_of_le (by omega) (by omega)
theorem x32_sub {x y : Int32} (h1 : -2147483648 ≤ x.toInt - y.toInt) (h2 : x.toInt - y.toInt < 2147483648) : (x - y).toInt = x.toInt - y.toInt := by
  rw [Int32.toInt_sub]; exact Int.bmod_eq_of_le (by omega) (by omega)
theorem x32_mul {x y : Int32} (h1 : -2147483648 ≤ x.toInt * y.toInt) (h2 : x.toInt * y.toInt < 2147483648) : (x * y).toInt = x.toInt * y.toInt := by
  rw [Int32.toInt_mul]; exact Int.bmod_eq_of_le (by omega) (by omega)
theorem clamp_nat (x : Int32) : x.toNatClampNeg = x.toInt.toNat := rfl
/-! reading and writing -/
theorem rd_of {α : Type} {xs : List α} {i : Int32} {k : Nat} {x : α} (hi : i.toInt = k) (h : xs[k]? = some x) : rd xs i = some x := by
  have h0 : ¬ i < 0 := by rw [x32_lt, hi]; show ¬ (k : Int) < 0; omega
  unfold rd
  rw [if_neg h0, clamp_nat, hi]; exact h
theorem wr_of {α : Type} {xs : List α} {i : Int32} {k : Nat} (x : α) (hi : i.toInt = k) (h : k < xs.length) : wr xs i x = some (xs.set k x) := by
  have h0 : ¬ i < 0 := by rw [x32_lt, hi]; show ¬ (k : Int) < 0; omega
  unfold wr
  rw [if_neg h0, clamp_nat, hi]; exact if_pos h
theorem wrA_of {s : St} {f : Nat} {i : Int32} {k : Nat} (x : Int32) (hi : i.toInt = k) (h : k < (gA s f).length) : wrA s f i x = some (sA s f ((gA s f).set k x)) := by
  unfold wrA; rw [wr_of x hi h]; rfl
theorem wrB_of {s : St} {f : Nat} {i : Int32} {k : Nat} (x : Int64) (hi : i.toInt = k) (h : k < (gB s f).length) : wrB s f i x = some (sB s f ((gB s f).set k x)) := by
  unfold wrB; rw [wr_of x hi h]; rfl
theorem nn_of {i : Int32} (h : ¬ i < 0) : ∃ k : Nat, i.toInt = k := ⟨i.toInt.toNat, by
  rw [x32_lt] at h
  have : (0 : Int32).toInt = 0 := by decide
  omega⟩
theorem Ev.all {α : Type} {f : Nat → Option α} {r : α} (h : ∀ n, f n = some r) : Ev f r := ⟨0, fun n _ => h n⟩
theorem ofN_int {k : Nat} (h : k < 2147483648) : (Int32.ofNat k).toInt = k := Int32.toInt_ofNat_of_lt (by omega)
theorem ofN_lt {i m : Nat} (hi : i < 2147483648) (hm : m < 2147483648) : Int32.ofNat i < Int32.ofNat m ↔ i < m := by
  rw [x32_lt, ofN_int hi, ofN_int hm]; omega
theorem ofN_succ (k : Nat) : Int32.ofNat k + 1 = Int32.ofNat (k + 1) := (Int32.ofNat_add k 1).symm
theorem ofN_eq {i m : Nat} (hi : i < 2147483648) (hm : m < 2147483648) : Int32.ofNat i = Int32.ofNat m ↔ i = m := by
  rw [x32_eq, ofN_int hi, ofN_int hm]; omega
theorem ofN_of {x : Int32} {k : Nat} (h : x.toInt = k) : x = Int32.ofNat k := by
  have h2 := Int32.toInt_lt x
  rw [x32_eq, ofN_int (by omega)]; exact h
/-- a loop that counts up to N -/
theorem loop_up {α σ : Type} {F : Nat → Int32 → σ → Option α} {E : Nat → σ → Option α} {N : Nat} (Inv : Nat → σ → Prop)
    (hstep : ∀ (i : Nat) (s : σ), i < N → Inv i s → ∃ s', Inv (i + 1) s' ∧ ∀ n, F (n + 1) (Int32.ofNat i) s = F n (Int32.ofNat (i + 1)) s')
    (hend : ∀ s, Inv N s → ∀ n, F (n + 1) (Int32.ofNat N) s = E n s) : ∀ (k i : Nat) (s : σ), i + k = N → Inv i s → ∃ s', Inv N s' ∧ ∀ r, Ev (fun n => E n s') r → Ev (fun n => F n (Int32.ofNat i) s) r := by
  intro k
  induction k with
  | zero =>
    intro i s hi h
    obtain rfl : i = N := by omega
    exact ⟨s, h, fun r hr => Ev.step (hend s h) hr⟩
  | succ k ih =>
    intro i s hi h
    obtain ⟨s', h1, h2⟩ := hstep i s (by omega) h
    obtain ⟨s2, h3, h4⟩ := ih (i + 1) s' (by omega) h1
    exact ⟨s2, h3, fun r hr => Ev.step h2 (h4 r hr)⟩
theorem set_len {α : Type} (xs : List α) (k : Nat) (x : α) : (xs.set k x).length = xs.length := List.length_set
theorem ofN_ltL {i m : Nat} (hi : i < 2147483648) (hm : m < 2147483648) : Int32.ofNat i < (OfNat.ofNat m : Int32) ↔ i < m := ofN_lt hi hm
theorem ofN_gtL {i m : Nat} (hi : i < 2147483648) (hm : m < 2147483648) : (OfNat.ofNat m : Int32) < Int32.ofNat i ↔ m < i := ofN_lt hm hi
theorem ofN_eqL {i m : Nat} (hi : i < 2147483648) (hm : m < 2147483648) : Int32.ofNat i = (OfNat.ofNat m : Int32) ↔ i = m := ofN_eq hi hm
theorem ofN_nn {i : Nat} (hi : i < 2147483648) : ¬ Int32.ofNat i < 0 := fun h => Nat.not_lt_zero _ ((ofN_ltL hi (by decide)).mp h)
theorem lit_int {m : Nat} (hm : m < 2147483648) : (OfNat.ofNat m : Int32).toInt = m := ofN_int hm
theorem upd_upd {α : Type} (f : Nat → α) (i : Nat) (x y : α) : upd (upd f i x) i y = upd f i y := by
  funext j; unfold upd; by_cases h : j = i <;> simp [h]
theorem upd_self {α : Type} (f : Nat → α) (i : Nat) : upd f i (f i) = f := by
  funext j; unfold upd; by_cases h : j = i <;> simp [h]
theorem sA_sA (s : St) (i : Nat) (x y : List Int32) : sA (sA s i x) i y = sA s i y := by unfold sA; dsimp only; rw [upd_upd]
theorem sB_sB (s : St) (i : Nat) (x y : List Int64) : sB (sB s i x) i y = sB s i y := by unfold sB; dsimp only; rw [upd_upd]
theorem sI_sI (s : St) (i : Nat) (x y : Int32) : sI (sI s i x) i y = sI s i y := by unfold sI; dsimp only; rw [upd_upd]
theorem sA_self {s : St} {i : Nat} {x : List Int32} (h : gA s i = x) : sA s i x = s := by
  subst h; unfold sA gA; rw [upd_self]
theorem sB_self {s : St} {i : Nat} {x : List Int64} (h : gB s i = x) : sB s i x = s := by
  subst h; unfold sB gB; rw [upd_self]
theorem sI_self {s : St} {i : Nat} {x : Int32} (h : gI s i = x) : sI s i x = s := by
  subst h; unfold sI gI; rw [upd_self]
theorem fill_set {α : Type} (a b : α) (n i : Nat) (h : i < n) : (List.replicate i a ++ List.replicate (n - i) b).set i a = List.replicate (i + 1) a ++ List.replicate (n - (i + 1)) b := by
  rw [List.set_append_right _ _ (by simp), List.length_replicate, Nat.sub_self]
  obtain ⟨m, hm⟩ : ∃ m, n - i = m + 1 := ⟨n - i - 1, by omega⟩
  have hm2 : n - (i + 1) = m := by omega
  rw [hm, hm2, List.replicate_succ, List.set_cons_zero, List.replicate_succ', List.append_assoc]; rfl
theorem and_nat (x : Int32) (m : Nat) (hm : m < 2147483648) : ∃ k, k ≤ m ∧ (x &&& Int32.ofNat m) = Int32.ofNat k := by
  refine ⟨(x.toBitVec &&& BitVec.ofNat 32 m).toNat, ?_, ?_⟩
  · rw [BitVec.toNat_and, BitVec.toNat_ofNat, Nat.mod_eq_of_lt (by omega)]
    exact Nat.and_le_right
  · apply Int32.toBitVec_inj.mp
    show x.toBitVec &&& BitVec.ofNat 32 m = BitVec.ofNat 32 _
    rw [BitVec.ofNat_toNat, BitVec.setWidth_eq]
theorem and_natL (x : Int32) (m : Nat) (hm : m < 2147483648) : ∃ k, k ≤ m ∧ (x &&& (OfNat.ofNat m : Int32)) = Int32.ofNat k := and_nat x m hm
theorem nat_lt {i : Int32} {m : Nat} (h : ¬ i < 0) (h2 : i < (OfNat.ofNat m : Int32)) (hm : m < 2147483648) : ∃ k : Nat, k < m ∧ i = Int32.ofNat k := by
  obtain ⟨k, hk⟩ := nn_of h
  rw [x32_lt, lit_int hm, hk] at h2
  exact ⟨k, by omega, ofN_of hk⟩
theorem nat_le {i : Int32} {m : Nat} (h : ¬ i < 0) (h2 : ¬ (OfNat.ofNat m : Int32) < i) (hm : m < 2147483648) : ∃ k : Nat, k ≤ m ∧ i = Int32.ofNat k := by
  obtain ⟨k, hk⟩ := nn_of h
  rw [x32_lt, lit_int hm, hk] at h2
  exact ⟨k, by omega, ofN_of hk⟩
theorem rd_at {α : Type} {xs : List α} {k : Nat} {x : α} (hk : k < 2147483648) (h : xs[k]? = some x) : rd xs (Int32.ofNat k) = some x := rd_of (ofN_int hk) h
theorem wr_at' {α : Type} {xs : List α} {k : Nat} (x : α) (hk : k < 2147483648) (h : k < xs.length) : wr xs (Int32.ofNat k) x = some (xs.set k x) := wr_of x (ofN_int hk) h
theorem rep_get {α : Type} {n k : Nat} (a : α) (h : k < n) : (List.replicate n a)[k]? = some a := by rw [List.getElem?_replicate, if_pos h]
theorem get_set_self {α : Type} {xs : List α} {k : Nat} (x : α) (h : k < xs.length) : (xs.set k x)[k]? = some x := by rw [List.getElem?_set_self h]
theorem get_set_ne {α : Type} {xs : List α} {k j : Nat} (x : α) (h : k ≠ j) : (xs.set k x)[j]? = xs[j]? := List.getElem?_set_ne h
theorem upd_comm {α : Type} (f : Nat → α) {i j : Nat} (h : i ≠ j) (x y : α) : upd (upd f i x) j y = upd (upd f j y) i x := by
  funext m; unfold upd
  by_cases h1 : m = j
  · subst h1; rw [if_pos rfl, if_neg (Ne.symm h), if_pos rfl]
  · rw [if_neg h1]; by_cases h2 : m = i
    · rw [if_pos h2, if_pos h2]
    · rw [if_neg h2, if_neg h2, if_neg h1]
theorem sA_comm {s : St} {i j : Nat} (h : i ≠ j) {x y : List Int32} : sA (sA s i x) j y = sA (sA s j y) i x := by unfold sA; dsimp only; rw [upd_comm _ h]
theorem sB_comm {s : St} {i j : Nat} (h : i ≠ j) {x y : List Int64} : sB (sB s i x) j y = sB (sB s j y) i x := by unfold sB; dsimp only; rw [upd_comm _ h]
theorem sI_comm {s : St} {i j : Nat} (h : i ≠ j) {x y : Int32} : sI (sI s i x) j y = sI (sI s j y) i x := by unfold sI; dsimp only; rw [upd_comm _ h]
theorem sJ_self {s : St} {i : Nat} {x : Int64} (h : gJ s i = x) : sJ s i x = s := by
  subst h; unfold sJ gJ; rw [upd_self]
theorem wrA_nop {s : St} {f N k : Nat} {v : Int32} (h : gA s f = List.replicate N v) (hk : k < N) (hN : N ≤ 2147483647) : wrA s f (Int32.ofNat k) v = some s := by
  rw [wrA_of (k := k) v (ofN_int (by omega)) (by rw [h, List.length_replicate]; exact hk), sA_self (by rw [h, List.set_replicate_self])]
theorem wrB_nop {s : St} {f N k : Nat} {v : Int64} (h : gB s f = List.replicate N v) (hk : k < N) (hN : N ≤ 2147483647) : wrB s f (Int32.ofNat k) v = some s := by
  rw [wrB_of (k := k) v (ofN_int (by omega)) (by rw [h, List.length_replicate]; exact hk), sB_self (by rw [h, List.set_replicate_self])]
/-- a loop that fills -/
theorem wrA_fill {s : St} {f N k : Nat} {u v : Int32} (hk : k < N) (hN : N ≤ 2147483647) : wrA (sA s f (List.replicate k v ++ List.replicate (N - k) u)) f (Int32.ofNat k) v = some (sA s f (List.replicate (k + 1) v ++ List.replicate (N - (k + 1)) u)) := by
  rw [wrA_of (k := k) v (ofN_int (by omega)) (by rw [gA_sA, if_pos rfl]; simp; omega), gA_sA, if_pos rfl, fill_set _ _ _ _ hk, sA_sA]
theorem fill_start {s : St} {f N : Nat} {u v : Int32} (h : gA s f = List.replicate N u) : s = sA s f (List.replicate 0 v ++ List.replicate (N - 0) u) := (sA_self (by rw [h]; rfl)).symm
theorem fill_end {s : St} {f N : Nat} {u v : Int32} : sA s f (List.replicate N v ++ List.replicate (N - N) u) = sA s f (List.replicate N v) := by rw [Nat.sub_self]; simp
theorem x32_neg {x : Int32} (h : -2147483648 < x.toInt) : (-x).toInt = -x.toInt := by
  have := Int32.toInt_lt x
  rw [Int32.toInt_neg]; exact Int.bmod_eq_of_le (by omega) (by omega)
theorem x64_neg {x : Int64} (h : -9223372036854775808 < x.toInt) : (-x).toInt = -x.toInt := by
  have := Int64.toInt_lt x
  rw [Int64.toInt_neg]; exact Int.bmod_eq_of_le (by omega) (by omega)
theorem x64_lt {x y : Int64} : x < y ↔ x.toInt < y.toInt := Int64.lt_iff_toInt_lt
theorem x64_eq {x y : Int64} : x = y ↔ x.toInt = y.toInt := Int64.toInt_inj.symm
theorem x64_add {x y : Int64} (h1 : -9223372036854775808 ≤ x.toInt + y.toInt) (h2 : x.toInt + y.toInt < 9223372036854775808) : (x + y).toInt = x.toInt + y.toInt := by
  rw [Int64.toInt_add]; exact Int.bmod_eq_of_le (by omega) (by omega)
theorem x64_sub {x y : Int64} (h1 : -9223372036854775808 ≤ x.toInt - y.toInt) (h2 : x.toInt - y.toInt < 9223372036854775808) : (x - y).toInt = x.toInt - y.toInt := by
  rw [Int64.toInt_sub]; exact Int.bmod_eq_of_le (by omega) (by omega)
theorem x64_mul {x y : Int64} (h1 : -9223372036854775808 ≤ x.toInt * y.toInt) (h2 : x.toInt * y.toInt < 9223372036854775808) : (x * y).toInt = x.toInt * y.toInt := by
  rw [Int64.toInt_mul]; exact Int.bmod_eq_of_le (by omega) (by omega)
end Jvm.Own
namespace Jvm.Pilot.@@N@@
open Jvm Jvm.ClassFile Sem Op Lib Jvm.Free Jvm.Stand Jvm.LawKit Jvm.RoadKit Bundle Jvm.Pilot.@@N@@.Jvm.D Jvm.Own
abbrev HW (a0 : Array Value) (Z : State) : Prop := ∀ d ∈ tables_1, d.before a0 Z = true
abbrev CN : String := "CyclicCodeLab"
def lay : List (String × String) := [("n", "I"), ("m", "I"), ("order", "I"), ("nMask", "I"), ("zeroSet", "I"), ("gen", "I"), ("degG", "I"), ("runLength", "I"), ("expTab", "[I"), ("logTab", "[I"), ("cosetTab", "[I"), ("leaderTab", "[I"), ("minPolyTab", "[I"), ("coef", "[I")]
abbrev vs0 : List Value := [.int 0, .int 0, .int 0, .int 0, .int 0, .int 0, .int 0, .int 0, .null, .null, .null, .null, .null, .null]
abbrev Hb (b : Nat) (s : St) : List OwnC := [cO [.int (gI s 0), .int (gI s 1), .int (gI s 2), .int (gI s 3), .int (gI s 4), .int (gI s 5), .int (gI s 6), .int (gI s 7), .ref (b + 1), .ref (b + 2), .ref (b + 3), .ref (b + 4), .ref (b + 5), .ref (b + 6)], cI (gA s 0), cI (gA s 1), cI (gA s 2), cI (gA s 3), cI (gA s 4), cI (gA s 5)]
def st0 : St := (fun _ => 0, fun _ => 0, fun i => ([List.replicate 256 0, List.replicate 256 0, List.replicate 32 0, List.replicate 32 0, List.replicate 32 0, List.replicate 10 0] : List (List Int32)).getD i [], fun i => ([] : List (List Int64)).getD i [])
theorem m_0 : (Jvm.Cond.classLink "CyclicCodeLabOwnLaw" (15 : Nat) "CyclicCodeLab") ∈ tables_1 := List.mem_of_getElem? (i := 0) rfl
theorem m_1 : (Jvm.Cond.instantiable "CyclicCodeLab" (14 : Nat)) ∈ tables_1 := List.mem_of_getElem? (i := 1) rfl
theorem m_2 : (Jvm.Cond.initialized "CyclicCodeLab") ∈ tables_1 := List.mem_of_getElem? (i := 2) rfl
theorem m_3 : (Jvm.Cond.methodLink "CyclicCodeLabOwnLaw" (59 : Nat) ({ cls := "CyclicCodeLab", name := "<init>", desc := "()V" } : Jvm.MethodName)) ∈ tables_1 := List.mem_of_getElem? (i := 3) rfl
theorem m_4 : (Jvm.Cond.instanceMethod ({ cls := "CyclicCodeLab", name := "<init>", desc := "()V" } : Jvm.MethodName)) ∈ tables_1 := List.mem_of_getElem? (i := 4) rfl
theorem m_5 : (Jvm.Cond.code ({ cls := "CyclicCodeLab", name := "<init>", desc := "()V" } : Jvm.MethodName) prog_1_method_1_code (1 : Nat) (Option.none : Option Jvm.ClassFile.FieldType)) ∈ tables_1 := List.mem_of_getElem? (i := 5) rfl
theorem m_6 : (Jvm.Cond.methodLink "CyclicCodeLab" (1 : Nat) ({ cls := "java/lang/Object", name := "<init>", desc := "()V" } : Jvm.MethodName)) ∈ tables_1 := List.mem_of_getElem? (i := 6) rfl
theorem m_7 : (Jvm.Cond.instanceMethod ({ cls := "java/lang/Object", name := "<init>", desc := "()V" } : Jvm.MethodName)) ∈ tables_1 := List.mem_of_getElem? (i := 7) rfl
theorem m_8 : (Jvm.Cond.code ({ cls := "java/lang/Object", name := "<init>", desc := "()V" } : Jvm.MethodName) object_method_1_code (1 : Nat) (Option.none : Option Jvm.ClassFile.FieldType)) ∈ tables_1 := List.mem_of_getElem? (i := 8) rfl
theorem m_9 : (Jvm.Cond.arrayClass Jvm.ClassFile.FieldType.int) ∈ tables_1 := List.mem_of_getElem? (i := 9) rfl
theorem m_10 : (Jvm.Cond.fieldLink "CyclicCodeLab" (7 : Nat) "CyclicCodeLab" "expTab" "[I") ∈ tables_1 := List.mem_of_getElem? (i := 10) rfl
theorem m_11 : (Jvm.Cond.lays "CyclicCodeLab" "CyclicCodeLab" "expTab" "[I") ∈ tables_1 := List.mem_of_getElem? (i := 11) rfl
theorem m_12 : (Jvm.Cond.fieldLink "CyclicCodeLab" (13 : Nat) "CyclicCodeLab" "logTab" "[I") ∈ tables_1 := List.mem_of_getElem? (i := 12) rfl
theorem m_13 : (Jvm.Cond.lays "CyclicCodeLab" "CyclicCodeLab" "logTab" "[I") ∈ tables_1 := List.mem_of_getElem? (i := 13) rfl
theorem m_14 : (Jvm.Cond.fieldLink "CyclicCodeLab" (16 : Nat) "CyclicCodeLab" "cosetTab" "[I") ∈ tables_1 := List.mem_of_getElem? (i := 14) rfl
theorem m_15 : (Jvm.Cond.lays "CyclicCodeLab" "CyclicCodeLab" "cosetTab" "[I") ∈ tables_1 := List.mem_of_getElem? (i := 15) rfl
theorem m_16 : (Jvm.Cond.fieldLink "CyclicCodeLab" (19 : Nat) "CyclicCodeLab" "leaderTab" "[I") ∈ tables_1 := List.mem_of_getElem? (i := 16) rfl
theorem m_17 : (Jvm.Cond.lays "CyclicCodeLab" "CyclicCodeLab" "leaderTab" "[I") ∈ tables_1 := List.mem_of_getElem? (i := 17) rfl
theorem m_18 : (Jvm.Cond.fieldLink "CyclicCodeLab" (22 : Nat) "CyclicCodeLab" "minPolyTab" "[I") ∈ tables_1 := List.mem_of_getElem? (i := 18) rfl
theorem m_19 : (Jvm.Cond.lays "CyclicCodeLab" "CyclicCodeLab" "minPolyTab" "[I") ∈ tables_1 := List.mem_of_getElem? (i := 19) rfl
theorem m_20 : (Jvm.Cond.fieldLink "CyclicCodeLab" (25 : Nat) "CyclicCodeLab" "coef" "[I") ∈ tables_1 := List.mem_of_getElem? (i := 20) rfl
theorem m_21 : (Jvm.Cond.lays "CyclicCodeLab" "CyclicCodeLab" "coef" "[I") ∈ tables_1 := List.mem_of_getElem? (i := 21) rfl
theorem m_22 : (Jvm.Cond.methodLink "CyclicCodeLab" (28 : Nat) ({ cls := "CyclicCodeLab", name := "configure", desc := "(I)Z" } : Jvm.MethodName)) ∈ tables_1 := List.mem_of_getElem? (i := 22) rfl
theorem m_23 : (Jvm.Cond.instanceMethod ({ cls := "CyclicCodeLab", name := "configure", desc := "(I)Z" } : Jvm.MethodName)) ∈ tables_1 := List.mem_of_getElem? (i := 23) rfl
theorem m_24 : (Jvm.Cond.privateMethod ({ cls := "CyclicCodeLab", name := "configure", desc := "(I)Z" } : Jvm.MethodName)) ∈ tables_1 := List.mem_of_getElem? (i := 24) rfl
theorem m_25 : (Jvm.Cond.code ({ cls := "CyclicCodeLab", name := "configure", desc := "(I)Z" } : Jvm.MethodName) prog_1_method_18_code (3 : Nat) (Option.some Jvm.ClassFile.FieldType.boolean)) ∈ tables_1 := List.mem_of_getElem? (i := 25) rfl
theorem m_26 : (Jvm.Cond.methodLink "CyclicCodeLab" (87 : Nat) ({ cls := "CyclicCodeLab", name := "degreeFor", desc := "(I)I" } : Jvm.MethodName)) ∈ tables_1 := List.mem_of_getElem? (i := 26) rfl
theorem m_27 : (Jvm.Cond.instanceMethod ({ cls := "CyclicCodeLab", name := "degreeFor", desc := "(I)I" } : Jvm.MethodName)) ∈ tables_1 := List.mem_of_getElem? (i := 27) rfl
theorem m_28 : (Jvm.Cond.privateMethod ({ cls := "CyclicCodeLab", name := "degreeFor", desc := "(I)I" } : Jvm.MethodName)) ∈ tables_1 := List.mem_of_getElem? (i := 28) rfl
theorem m_29 : (Jvm.Cond.code ({ cls := "CyclicCodeLab", name := "degreeFor", desc := "(I)I" } : Jvm.MethodName) prog_1_method_19_code (2 : Nat) (Option.some Jvm.ClassFile.FieldType.int)) ∈ tables_1 := List.mem_of_getElem? (i := 29) rfl
theorem m_30 : (Jvm.Cond.fieldLink "CyclicCodeLab" (32 : Nat) "CyclicCodeLab" "n" "I") ∈ tables_1 := List.mem_of_getElem? (i := 30) rfl
theorem m_31 : (Jvm.Cond.lays "CyclicCodeLab" "CyclicCodeLab" "n" "I") ∈ tables_1 := List.mem_of_getElem? (i := 31) rfl
theorem m_32 : (Jvm.Cond.fieldLink "CyclicCodeLab" (36 : Nat) "CyclicCodeLab" "m" "I") ∈ tables_1 := List.mem_of_getElem? (i := 32) rfl
theorem m_33 : (Jvm.Cond.lays "CyclicCodeLab" "CyclicCodeLab" "m" "I") ∈ tables_1 := List.mem_of_getElem? (i := 33) rfl
theorem m_34 : (Jvm.Cond.fieldLink "CyclicCodeLab" (90 : Nat) "CyclicCodeLab" "order" "I") ∈ tables_1 := List.mem_of_getElem? (i := 34) rfl
theorem m_35 : (Jvm.Cond.lays "CyclicCodeLab" "CyclicCodeLab" "order" "I") ∈ tables_1 := List.mem_of_getElem? (i := 35) rfl
theorem m_36 : (Jvm.Cond.methodLink "CyclicCodeLab" (71 : Nat) ({ cls := "CyclicCodeLab", name := "lowMask", desc := "(I)I" } : Jvm.MethodName)) ∈ tables_1 := List.mem_of_getElem? (i := 36) rfl
theorem m_37 : (Jvm.Cond.instanceMethod ({ cls := "CyclicCodeLab", name := "lowMask", desc := "(I)I" } : Jvm.MethodName)) ∈ tables_1 := List.mem_of_getElem? (i := 37) rfl
theorem m_38 : (Jvm.Cond.privateMethod ({ cls := "CyclicCodeLab", name := "lowMask", desc := "(I)I" } : Jvm.MethodName)) ∈ tables_1 := List.mem_of_getElem? (i := 38) rfl
theorem m_39 : (Jvm.Cond.code ({ cls := "CyclicCodeLab", name := "lowMask", desc := "(I)I" } : Jvm.MethodName) prog_1_method_39_code (2 : Nat) (Option.some Jvm.ClassFile.FieldType.int)) ∈ tables_1 := List.mem_of_getElem? (i := 39) rfl
theorem m_40 : (Jvm.Cond.fieldLink "CyclicCodeLab" (77 : Nat) "CyclicCodeLab" "nMask" "I") ∈ tables_1 := List.mem_of_getElem? (i := 40) rfl
theorem m_41 : (Jvm.Cond.lays "CyclicCodeLab" "CyclicCodeLab" "nMask" "I") ∈ tables_1 := List.mem_of_getElem? (i := 41) rfl
theorem m_42 : (Jvm.Cond.methodLink "CyclicCodeLab" (93 : Nat) ({ cls := "CyclicCodeLab", name := "buildField", desc := "()V" } : Jvm.MethodName)) ∈ tables_1 := List.mem_of_getElem? (i := 42) rfl
theorem m_43 : (Jvm.Cond.instanceMethod ({ cls := "CyclicCodeLab", name := "buildField", desc := "()V" } : Jvm.MethodName)) ∈ tables_1 := List.mem_of_getElem? (i := 43) rfl
theorem m_44 : (Jvm.Cond.privateMethod ({ cls := "CyclicCodeLab", name := "buildField", desc := "()V" } : Jvm.MethodName)) ∈ tables_1 := List.mem_of_getElem? (i := 44) rfl
theorem m_45 : (Jvm.Cond.code ({ cls := "CyclicCodeLab", name := "buildField", desc := "()V" } : Jvm.MethodName) prog_1_method_21_code (5 : Nat) (Option.none : Option Jvm.ClassFile.FieldType)) ∈ tables_1 := List.mem_of_getElem? (i := 45) rfl
theorem m_46 : (Jvm.Cond.methodLink "CyclicCodeLab" (102 : Nat) ({ cls := "CyclicCodeLab", name := "fieldPolyFor", desc := "(I)I" } : Jvm.MethodName)) ∈ tables_1 := List.mem_of_getElem? (i := 46) rfl
theorem m_47 : (Jvm.Cond.instanceMethod ({ cls := "CyclicCodeLab", name := "fieldPolyFor", desc := "(I)I" } : Jvm.MethodName)) ∈ tables_1 := List.mem_of_getElem? (i := 47) rfl
theorem m_48 : (Jvm.Cond.privateMethod ({ cls := "CyclicCodeLab", name := "fieldPolyFor", desc := "(I)I" } : Jvm.MethodName)) ∈ tables_1 := List.mem_of_getElem? (i := 48) rfl
theorem m_49 : (Jvm.Cond.code ({ cls := "CyclicCodeLab", name := "fieldPolyFor", desc := "(I)I" } : Jvm.MethodName) prog_1_method_20_code (2 : Nat) (Option.some Jvm.ClassFile.FieldType.int)) ∈ tables_1 := List.mem_of_getElem? (i := 49) rfl
theorem m_50 : (Jvm.Cond.methodLink "CyclicCodeLab" (96 : Nat) ({ cls := "CyclicCodeLab", name := "buildCosets", desc := "()V" } : Jvm.MethodName)) ∈ tables_1 := List.mem_of_getElem? (i := 50) rfl
theorem m_51 : (Jvm.Cond.instanceMethod ({ cls := "CyclicCodeLab", name := "buildCosets", desc := "()V" } : Jvm.MethodName)) ∈ tables_1 := List.mem_of_getElem? (i := 51) rfl
theorem m_52 : (Jvm.Cond.privateMethod ({ cls := "CyclicCodeLab", name := "buildCosets", desc := "()V" } : Jvm.MethodName)) ∈ tables_1 := List.mem_of_getElem? (i := 52) rfl
theorem m_53 : (Jvm.Cond.code ({ cls := "CyclicCodeLab", name := "buildCosets", desc := "()V" } : Jvm.MethodName) prog_1_method_22_code (3 : Nat) (Option.none : Option Jvm.ClassFile.FieldType)) ∈ tables_1 := List.mem_of_getElem? (i := 53) rfl
theorem m_54 : (Jvm.Cond.methodLink "CyclicCodeLab" (105 : Nat) ({ cls := "CyclicCodeLab", name := "cosetMaskOf", desc := "(I)I" } : Jvm.MethodName)) ∈ tables_1 := List.mem_of_getElem? (i := 54) rfl
theorem m_55 : (Jvm.Cond.instanceMethod ({ cls := "CyclicCodeLab", name := "cosetMaskOf", desc := "(I)I" } : Jvm.MethodName)) ∈ tables_1 := List.mem_of_getElem? (i := 55) rfl
theorem m_56 : (Jvm.Cond.privateMethod ({ cls := "CyclicCodeLab", name := "cosetMaskOf", desc := "(I)I" } : Jvm.MethodName)) ∈ tables_1 := List.mem_of_getElem? (i := 56) rfl
theorem m_57 : (Jvm.Cond.code ({ cls := "CyclicCodeLab", name := "cosetMaskOf", desc := "(I)I" } : Jvm.MethodName) prog_1_method_23_code (5 : Nat) (Option.some Jvm.ClassFile.FieldType.int)) ∈ tables_1 := List.mem_of_getElem? (i := 57) rfl
theorem m_58 : (Jvm.Cond.methodLink "CyclicCodeLab" (108 : Nat) ({ cls := "CyclicCodeLab", name := "lowestBit", desc := "(I)I" } : Jvm.MethodName)) ∈ tables_1 := List.mem_of_getElem? (i := 58) rfl
theorem m_59 : (Jvm.Cond.instanceMethod ({ cls := "CyclicCodeLab", name := "lowestBit", desc := "(I)I" } : Jvm.MethodName)) ∈ tables_1 := List.mem_of_getElem? (i := 59) rfl
theorem m_60 : (Jvm.Cond.privateMethod ({ cls := "CyclicCodeLab", name := "lowestBit", desc := "(I)I" } : Jvm.MethodName)) ∈ tables_1 := List.mem_of_getElem? (i := 60) rfl
theorem m_61 : (Jvm.Cond.code ({ cls := "CyclicCodeLab", name := "lowestBit", desc := "(I)I" } : Jvm.MethodName) prog_1_method_41_code (3 : Nat) (Option.some Jvm.ClassFile.FieldType.int)) ∈ tables_1 := List.mem_of_getElem? (i := 61) rfl
theorem m_62 : (Jvm.Cond.methodLink "CyclicCodeLab" (99 : Nat) ({ cls := "CyclicCodeLab", name := "buildMinimalPolys", desc := "()V" } : Jvm.MethodName)) ∈ tables_1 := List.mem_of_getElem? (i := 62) rfl
theorem m_63 : (Jvm.Cond.instanceMethod ({ cls := "CyclicCodeLab", name := "buildMinimalPolys", desc := "()V" } : Jvm.MethodName)) ∈ tables_1 := List.mem_of_getElem? (i := 63) rfl
theorem m_64 : (Jvm.Cond.privateMethod ({ cls := "CyclicCodeLab", name := "buildMinimalPolys", desc := "()V" } : Jvm.MethodName)) ∈ tables_1 := List.mem_of_getElem? (i := 64) rfl
theorem m_65 : (Jvm.Cond.code ({ cls := "CyclicCodeLab", name := "buildMinimalPolys", desc := "()V" } : Jvm.MethodName) prog_1_method_24_code (3 : Nat) (Option.none : Option Jvm.ClassFile.FieldType)) ∈ tables_1 := List.mem_of_getElem? (i := 65) rfl
theorem m_66 : (Jvm.Cond.methodLink "CyclicCodeLab" (111 : Nat) ({ cls := "CyclicCodeLab", name := "minimalPolyOfCoset", desc := "(I)I" } : Jvm.MethodName)) ∈ tables_1 := List.mem_of_getElem? (i := 66) rfl
theorem m_67 : (Jvm.Cond.instanceMethod ({ cls := "CyclicCodeLab", name := "minimalPolyOfCoset", desc := "(I)I" } : Jvm.MethodName)) ∈ tables_1 := List.mem_of_getElem? (i := 67) rfl
theorem m_68 : (Jvm.Cond.privateMethod ({ cls := "CyclicCodeLab", name := "minimalPolyOfCoset", desc := "(I)I" } : Jvm.MethodName)) ∈ tables_1 := List.mem_of_getElem? (i := 68) rfl
theorem m_69 : (Jvm.Cond.code ({ cls := "CyclicCodeLab", name := "minimalPolyOfCoset", desc := "(I)I" } : Jvm.MethodName) prog_1_method_25_code (5 : Nat) (Option.some Jvm.ClassFile.FieldType.int)) ∈ tables_1 := List.mem_of_getElem? (i := 69) rfl
theorem m_70 : (Jvm.Cond.methodLink "CyclicCodeLab" (114 : Nat) ({ cls := "CyclicCodeLab", name := "alphaPow", desc := "(I)I" } : Jvm.MethodName)) ∈ tables_1 := List.mem_of_getElem? (i := 70) rfl
theorem m_71 : (Jvm.Cond.instanceMethod ({ cls := "CyclicCodeLab", name := "alphaPow", desc := "(I)I" } : Jvm.MethodName)) ∈ tables_1 := List.mem_of_getElem? (i := 71) rfl
theorem m_72 : (Jvm.Cond.privateMethod ({ cls := "CyclicCodeLab", name := "alphaPow", desc := "(I)I" } : Jvm.MethodName)) ∈ tables_1 := List.mem_of_getElem? (i := 72) rfl
theorem m_73 : (Jvm.Cond.code ({ cls := "CyclicCodeLab", name := "alphaPow", desc := "(I)I" } : Jvm.MethodName) prog_1_method_27_code (4 : Nat) (Option.some Jvm.ClassFile.FieldType.int)) ∈ tables_1 := List.mem_of_getElem? (i := 73) rfl
theorem m_74 : (Jvm.Cond.methodLink "CyclicCodeLab" (117 : Nat) ({ cls := "CyclicCodeLab", name := "multiplyByLinear", desc := "(II)V" } : Jvm.MethodName)) ∈ tables_1 := List.mem_of_getElem? (i := 74) rfl
theorem m_75 : (Jvm.Cond.instanceMethod ({ cls := "CyclicCodeLab", name := "multiplyByLinear", desc := "(II)V" } : Jvm.MethodName)) ∈ tables_1 := List.mem_of_getElem? (i := 75) rfl
theorem m_76 : (Jvm.Cond.privateMethod ({ cls := "CyclicCodeLab", name := "multiplyByLinear", desc := "(II)V" } : Jvm.MethodName)) ∈ tables_1 := List.mem_of_getElem? (i := 76) rfl
theorem m_77 : (Jvm.Cond.code ({ cls := "CyclicCodeLab", name := "multiplyByLinear", desc := "(II)V" } : Jvm.MethodName) prog_1_method_26_code (5 : Nat) (Option.none : Option Jvm.ClassFile.FieldType)) ∈ tables_1 := List.mem_of_getElem? (i := 77) rfl
theorem m_78 : (Jvm.Cond.methodLink "CyclicCodeLab" (121 : Nat) ({ cls := "CyclicCodeLab", name := "gfMul", desc := "(II)I" } : Jvm.MethodName)) ∈ tables_1 := List.mem_of_getElem? (i := 78) rfl
theorem m_79 : (Jvm.Cond.instanceMethod ({ cls := "CyclicCodeLab", name := "gfMul", desc := "(II)I" } : Jvm.MethodName)) ∈ tables_1 := List.mem_of_getElem? (i := 79) rfl
theorem m_80 : (Jvm.Cond.privateMethod ({ cls := "CyclicCodeLab", name := "gfMul", desc := "(II)I" } : Jvm.MethodName)) ∈ tables_1 := List.mem_of_getElem? (i := 80) rfl
theorem m_81 : (Jvm.Cond.code ({ cls := "CyclicCodeLab", name := "gfMul", desc := "(II)I" } : Jvm.MethodName) prog_1_method_28_code (4 : Nat) (Option.some Jvm.ClassFile.FieldType.int)) ∈ tables_1 := List.mem_of_getElem? (i := 81) rfl
theorem m_82 : (Jvm.Cond.fieldLink "CyclicCodeLab" (42 : Nat) "CyclicCodeLab" "zeroSet" "I") ∈ tables_1 := List.mem_of_getElem? (i := 82) rfl
theorem m_83 : (Jvm.Cond.lays "CyclicCodeLab" "CyclicCodeLab" "zeroSet" "I") ∈ tables_1 := List.mem_of_getElem? (i := 83) rfl
theorem m_84 : (Jvm.Cond.methodLink "CyclicCodeLab" (45 : Nat) ({ cls := "CyclicCodeLab", name := "refresh", desc := "()V" } : Jvm.MethodName)) ∈ tables_1 := List.mem_of_getElem? (i := 84) rfl
theorem m_85 : (Jvm.Cond.instanceMethod ({ cls := "CyclicCodeLab", name := "refresh", desc := "()V" } : Jvm.MethodName)) ∈ tables_1 := List.mem_of_getElem? (i := 85) rfl
theorem m_86 : (Jvm.Cond.privateMethod ({ cls := "CyclicCodeLab", name := "refresh", desc := "()V" } : Jvm.MethodName)) ∈ tables_1 := List.mem_of_getElem? (i := 86) rfl
theorem m_87 : (Jvm.Cond.code ({ cls := "CyclicCodeLab", name := "refresh", desc := "()V" } : Jvm.MethodName) prog_1_method_29_code (1 : Nat) (Option.none : Option Jvm.ClassFile.FieldType)) ∈ tables_1 := List.mem_of_getElem? (i := 87) rfl
theorem m_88 : (Jvm.Cond.methodLink "CyclicCodeLab" (84 : Nat) ({ cls := "CyclicCodeLab", name := "popcount", desc := "(I)I" } : Jvm.MethodName)) ∈ tables_1 := List.mem_of_getElem? (i := 88) rfl
theorem m_89 : (Jvm.Cond.instanceMethod ({ cls := "CyclicCodeLab", name := "popcount", desc := "(I)I" } : Jvm.MethodName)) ∈ tables_1 := List.mem_of_getElem? (i := 89) rfl
theorem m_90 : (Jvm.Cond.privateMethod ({ cls := "CyclicCodeLab", name := "popcount", desc := "(I)I" } : Jvm.MethodName)) ∈ tables_1 := List.mem_of_getElem? (i := 90) rfl
theorem m_91 : (Jvm.Cond.code ({ cls := "CyclicCodeLab", name := "popcount", desc := "(I)I" } : Jvm.MethodName) prog_1_method_40_code (5 : Nat) (Option.some Jvm.ClassFile.FieldType.int)) ∈ tables_1 := List.mem_of_getElem? (i := 91) rfl
theorem m_92 : (Jvm.Cond.fieldLink "CyclicCodeLab" (54 : Nat) "CyclicCodeLab" "degG" "I") ∈ tables_1 := List.mem_of_getElem? (i := 92) rfl
theorem m_93 : (Jvm.Cond.lays "CyclicCodeLab" "CyclicCodeLab" "degG" "I") ∈ tables_1 := List.mem_of_getElem? (i := 93) rfl
theorem m_94 : (Jvm.Cond.methodLink "CyclicCodeLab" (124 : Nat) ({ cls := "CyclicCodeLab", name := "computeGenerator", desc := "()I" } : Jvm.MethodName)) ∈ tables_1 := List.mem_of_getElem? (i := 94) rfl
theorem m_95 : (Jvm.Cond.instanceMethod ({ cls := "CyclicCodeLab", name := "computeGenerator", desc := "()I" } : Jvm.MethodName)) ∈ tables_1 := List.mem_of_getElem? (i := 95) rfl
theorem m_96 : (Jvm.Cond.privateMethod ({ cls := "CyclicCodeLab", name := "computeGenerator", desc := "()I" } : Jvm.MethodName)) ∈ tables_1 := List.mem_of_getElem? (i := 96) rfl
theorem m_97 : (Jvm.Cond.code ({ cls := "CyclicCodeLab", name := "computeGenerator", desc := "()I" } : Jvm.MethodName) prog_1_method_30_code (3 : Nat) (Option.some Jvm.ClassFile.FieldType.int)) ∈ tables_1 := List.mem_of_getElem? (i := 97) rfl
theorem m_98 : (Jvm.Cond.methodLink "CyclicCodeLab" (48 : Nat) ({ cls := "CyclicCodeLab", name := "inZ", desc := "(I)Z" } : Jvm.MethodName)) ∈ tables_1 := List.mem_of_getElem? (i := 98) rfl
theorem m_99 : (Jvm.Cond.instanceMethod ({ cls := "CyclicCodeLab", name := "inZ", desc := "(I)Z" } : Jvm.MethodName)) ∈ tables_1 := List.mem_of_getElem? (i := 99) rfl
theorem m_100 : (Jvm.Cond.privateMethod ({ cls := "CyclicCodeLab", name := "inZ", desc := "(I)Z" } : Jvm.MethodName)) ∈ tables_1 := List.mem_of_getElem? (i := 100) rfl
theorem m_101 : (Jvm.Cond.code ({ cls := "CyclicCodeLab", name := "inZ", desc := "(I)Z" } : Jvm.MethodName) prog_1_method_38_code (2 : Nat) (Option.some Jvm.ClassFile.FieldType.boolean)) ∈ tables_1 := List.mem_of_getElem? (i := 101) rfl
theorem m_102 : (Jvm.Cond.fieldLink "CyclicCodeLab" (51 : Nat) "CyclicCodeLab" "gen" "I") ∈ tables_1 := List.mem_of_getElem? (i := 102) rfl
theorem m_103 : (Jvm.Cond.lays "CyclicCodeLab" "CyclicCodeLab" "gen" "I") ∈ tables_1 := List.mem_of_getElem? (i := 103) rfl
theorem m_104 : (Jvm.Cond.methodLink "CyclicCodeLab" (127 : Nat) ({ cls := "CyclicCodeLab", name := "computeRunLength", desc := "()I" } : Jvm.MethodName)) ∈ tables_1 := List.mem_of_getElem? (i := 104) rfl
theorem m_105 : (Jvm.Cond.instanceMethod ({ cls := "CyclicCodeLab", name := "computeRunLength", desc := "()I" } : Jvm.MethodName)) ∈ tables_1 := List.mem_of_getElem? (i := 105) rfl
theorem m_106 : (Jvm.Cond.privateMethod ({ cls := "CyclicCodeLab", name := "computeRunLength", desc := "()I" } : Jvm.MethodName)) ∈ tables_1 := List.mem_of_getElem? (i := 106) rfl
theorem m_107 : (Jvm.Cond.code ({ cls := "CyclicCodeLab", name := "computeRunLength", desc := "()I" } : Jvm.MethodName) prog_1_method_31_code (4 : Nat) (Option.some Jvm.ClassFile.FieldType.int)) ∈ tables_1 := List.mem_of_getElem? (i := 107) rfl
theorem m_108 : (Jvm.Cond.fieldLink "CyclicCodeLab" (57 : Nat) "CyclicCodeLab" "runLength" "I") ∈ tables_1 := List.mem_of_getElem? (i := 108) rfl
theorem m_109 : (Jvm.Cond.lays "CyclicCodeLab" "CyclicCodeLab" "runLength" "I") ∈ tables_1 := List.mem_of_getElem? (i := 109) rfl
theorem m_110 : (Jvm.Cond.methodLink "CyclicCodeLabOwnLaw" (60 : Nat) ({ cls := "CyclicCodeLabOwnLaw", name := "check", desc := "(LCyclicCodeLab;[II)Z" } : Jvm.MethodName)) ∈ tables_1 := List.mem_of_getElem? (i := 110) rfl
theorem m_111 : (Jvm.Cond.static ({ cls := "CyclicCodeLabOwnLaw", name := "check", desc := "(LCyclicCodeLab;[II)Z" } : Jvm.MethodName)) ∈ tables_1 := List.mem_of_getElem? (i := 111) rfl
theorem m_112 : (Jvm.Cond.initialized "CyclicCodeLabOwnLaw") ∈ tables_1 := List.mem_of_getElem? (i := 112) rfl
theorem m_113 : (Jvm.Cond.code ({ cls := "CyclicCodeLabOwnLaw", name := "check", desc := "(LCyclicCodeLab;[II)Z" } : Jvm.MethodName) method_7_code (17 : Nat) (Option.some Jvm.ClassFile.FieldType.boolean)) ∈ tables_1 := List.mem_of_getElem? (i := 113) rfl
theorem m_114 : (Jvm.Cond.methodLink "CyclicCodeLabOwnLaw" (14 : Nat) ({ cls := "CyclicCodeLab", name := "length", desc := "()I" } : Jvm.MethodName)) ∈ tables_1 := List.mem_of_getElem? (i := 114) rfl
theorem m_115 : (Jvm.Cond.declares ({ cls := "CyclicCodeLab", name := "length", desc := "()I" } : Jvm.MethodName)) ∈ tables_1 := List.mem_of_getElem? (i := 115) rfl
theorem m_116 : (Jvm.Cond.instanceMethod ({ cls := "CyclicCodeLab", name := "length", desc := "()I" } : Jvm.MethodName)) ∈ tables_1 := List.mem_of_getElem? (i := 116) rfl
theorem m_117 : (Jvm.Cond.selects "CyclicCodeLab" ({ cls := "CyclicCodeLab", name := "length", desc := "()I" } : Jvm.MethodName) ({ cls := "CyclicCodeLab", name := "length", desc := "()I" } : Jvm.MethodName)) ∈ tables_1 := List.mem_of_getElem? (i := 117) rfl
theorem m_118 : (Jvm.Cond.code ({ cls := "CyclicCodeLab", name := "length", desc := "()I" } : Jvm.MethodName) prog_1_method_3_code (1 : Nat) (Option.some Jvm.ClassFile.FieldType.int)) ∈ tables_1 := List.mem_of_getElem? (i := 118) rfl
theorem m_119 : (Jvm.Cond.methodLink "CyclicCodeLabOwnLaw" (20 : Nat) ({ cls := "CyclicCodeLab", name := "dimension", desc := "()I" } : Jvm.MethodName)) ∈ tables_1 := List.mem_of_getElem? (i := 119) rfl
theorem m_120 : (Jvm.Cond.declares ({ cls := "CyclicCodeLab", name := "dimension", desc := "()I" } : Jvm.MethodName)) ∈ tables_1 := List.mem_of_getElem? (i := 120) rfl
theorem m_121 : (Jvm.Cond.instanceMethod ({ cls := "CyclicCodeLab", name := "dimension", desc := "()I" } : Jvm.MethodName)) ∈ tables_1 := List.mem_of_getElem? (i := 121) rfl
theorem m_122 : (Jvm.Cond.selects "CyclicCodeLab" ({ cls := "CyclicCodeLab", name := "dimension", desc := "()I" } : Jvm.MethodName) ({ cls := "CyclicCodeLab", name := "dimension", desc := "()I" } : Jvm.MethodName)) ∈ tables_1 := List.mem_of_getElem? (i := 122) rfl
theorem m_123 : (Jvm.Cond.code ({ cls := "CyclicCodeLab", name := "dimension", desc := "()I" } : Jvm.MethodName) prog_1_method_11_code (1 : Nat) (Option.some Jvm.ClassFile.FieldType.int)) ∈ tables_1 := List.mem_of_getElem? (i := 123) rfl
theorem m_124 : (Jvm.Cond.methodLink "CyclicCodeLabOwnLaw" (23 : Nat) ({ cls := "CyclicCodeLab", name := "generator", desc := "()I" } : Jvm.MethodName)) ∈ tables_1 := List.mem_of_getElem? (i := 124) rfl
theorem m_125 : (Jvm.Cond.declares ({ cls := "CyclicCodeLab", name := "generator", desc := "()I" } : Jvm.MethodName)) ∈ tables_1 := List.mem_of_getElem? (i := 125) rfl
theorem m_126 : (Jvm.Cond.instanceMethod ({ cls := "CyclicCodeLab", name := "generator", desc := "()I" } : Jvm.MethodName)) ∈ tables_1 := List.mem_of_getElem? (i := 126) rfl
theorem m_127 : (Jvm.Cond.selects "CyclicCodeLab" ({ cls := "CyclicCodeLab", name := "generator", desc := "()I" } : Jvm.MethodName) ({ cls := "CyclicCodeLab", name := "generator", desc := "()I" } : Jvm.MethodName)) ∈ tables_1 := List.mem_of_getElem? (i := 127) rfl
theorem m_128 : (Jvm.Cond.code ({ cls := "CyclicCodeLab", name := "generator", desc := "()I" } : Jvm.MethodName) prog_1_method_10_code (1 : Nat) (Option.some Jvm.ClassFile.FieldType.int)) ∈ tables_1 := List.mem_of_getElem? (i := 128) rfl
theorem m_129 : (Jvm.Cond.constantLong "CyclicCodeLabOwnLaw" (26 : Nat) (4294967295 : Int64)) ∈ tables_1 := List.mem_of_getElem? (i := 129) rfl
theorem m_130 : (Jvm.Cond.methodLink "CyclicCodeLabOwnLaw" (8 : Nat) ({ cls := "CyclicCodeLabOwnLaw", name := "deg", desc := "(J)I" } : Jvm.MethodName)) ∈ tables_1 := List.mem_of_getElem? (i := 130) rfl
theorem m_131 : (Jvm.Cond.static ({ cls := "CyclicCodeLabOwnLaw", name := "deg", desc := "(J)I" } : Jvm.MethodName)) ∈ tables_1 := List.mem_of_getElem? (i := 131) rfl
theorem m_132 : (Jvm.Cond.code ({ cls := "CyclicCodeLabOwnLaw", name := "deg", desc := "(J)I" } : Jvm.MethodName) method_5_code (4 : Nat) (Option.some Jvm.ClassFile.FieldType.int)) ∈ tables_1 := List.mem_of_getElem? (i := 132) rfl
theorem m_133 : (Jvm.Cond.methodLink "CyclicCodeLabOwnLaw" (28 : Nat) ({ cls := "CyclicCodeLabOwnLaw", name := "pmod", desc := "(JJ)J" } : Jvm.MethodName)) ∈ tables_1 := List.mem_of_getElem? (i := 133) rfl
theorem m_134 : (Jvm.Cond.static ({ cls := "CyclicCodeLabOwnLaw", name := "pmod", desc := "(JJ)J" } : Jvm.MethodName)) ∈ tables_1 := List.mem_of_getElem? (i := 134) rfl
theorem m_135 : (Jvm.Cond.code ({ cls := "CyclicCodeLabOwnLaw", name := "pmod", desc := "(JJ)J" } : Jvm.MethodName) method_6_code (7 : Nat) (Option.some Jvm.ClassFile.FieldType.long)) ∈ tables_1 := List.mem_of_getElem? (i := 135) rfl
theorem m_136 : (Jvm.Cond.methodLink "CyclicCodeLabOwnLaw" (32 : Nat) ({ cls := "CyclicCodeLab", name := "minDistance", desc := "()I" } : Jvm.MethodName)) ∈ tables_1 := List.mem_of_getElem? (i := 136) rfl
theorem m_137 : (Jvm.Cond.declares ({ cls := "CyclicCodeLab", name := "minDistance", desc := "()I" } : Jvm.MethodName)) ∈ tables_1 := List.mem_of_getElem? (i := 137) rfl
theorem m_138 : (Jvm.Cond.instanceMethod ({ cls := "CyclicCodeLab", name := "minDistance", desc := "()I" } : Jvm.MethodName)) ∈ tables_1 := List.mem_of_getElem? (i := 138) rfl
theorem m_139 : (Jvm.Cond.selects "CyclicCodeLab" ({ cls := "CyclicCodeLab", name := "minDistance", desc := "()I" } : Jvm.MethodName) ({ cls := "CyclicCodeLab", name := "minDistance", desc := "()I" } : Jvm.MethodName)) ∈ tables_1 := List.mem_of_getElem? (i := 139) rfl
theorem m_140 : (Jvm.Cond.code ({ cls := "CyclicCodeLab", name := "minDistance", desc := "()I" } : Jvm.MethodName) prog_1_method_13_code (2 : Nat) (Option.some Jvm.ClassFile.FieldType.int)) ∈ tables_1 := List.mem_of_getElem? (i := 140) rfl
theorem m_141 : (Jvm.Cond.methodLink "CyclicCodeLab" (60 : Nat) ({ cls := "CyclicCodeLab", name := "dimension", desc := "()I" } : Jvm.MethodName)) ∈ tables_1 := List.mem_of_getElem? (i := 141) rfl
theorem m_142 : (Jvm.Cond.methodLink "CyclicCodeLab" (64 : Nat) ({ cls := "CyclicCodeLab", name := "enumerateMinWeight", desc := "(I)I" } : Jvm.MethodName)) ∈ tables_1 := List.mem_of_getElem? (i := 142) rfl
theorem m_143 : (Jvm.Cond.instanceMethod ({ cls := "CyclicCodeLab", name := "enumerateMinWeight", desc := "(I)I" } : Jvm.MethodName)) ∈ tables_1 := List.mem_of_getElem? (i := 143) rfl
theorem m_144 : (Jvm.Cond.privateMethod ({ cls := "CyclicCodeLab", name := "enumerateMinWeight", desc := "(I)I" } : Jvm.MethodName)) ∈ tables_1 := List.mem_of_getElem? (i := 144) rfl
theorem m_145 : (Jvm.Cond.code ({ cls := "CyclicCodeLab", name := "enumerateMinWeight", desc := "(I)I" } : Jvm.MethodName) prog_1_method_33_code (8 : Nat) (Option.some Jvm.ClassFile.FieldType.int)) ∈ tables_1 := List.mem_of_getElem? (i := 145) rfl
theorem m_146 : (Jvm.Cond.methodLink "CyclicCodeLab" (133 : Nat) ({ cls := "CyclicCodeLab", name := "trailingZeros", desc := "(I)I" } : Jvm.MethodName)) ∈ tables_1 := List.mem_of_getElem? (i := 146) rfl
theorem m_147 : (Jvm.Cond.instanceMethod ({ cls := "CyclicCodeLab", name := "trailingZeros", desc := "(I)I" } : Jvm.MethodName)) ∈ tables_1 := List.mem_of_getElem? (i := 147) rfl
theorem m_148 : (Jvm.Cond.privateMethod ({ cls := "CyclicCodeLab", name := "trailingZeros", desc := "(I)I" } : Jvm.MethodName)) ∈ tables_1 := List.mem_of_getElem? (i := 148) rfl
theorem m_149 : (Jvm.Cond.code ({ cls := "CyclicCodeLab", name := "trailingZeros", desc := "(I)I" } : Jvm.MethodName) prog_1_method_42_code (3 : Nat) (Option.some Jvm.ClassFile.FieldType.int)) ∈ tables_1 := List.mem_of_getElem? (i := 149) rfl
theorem m_150 : (Jvm.Cond.methodLink "CyclicCodeLabOwnLaw" (35 : Nat) ({ cls := "CyclicCodeLab", name := "designedDistance", desc := "()I" } : Jvm.MethodName)) ∈ tables_1 := List.mem_of_getElem? (i := 150) rfl
theorem m_151 : (Jvm.Cond.declares ({ cls := "CyclicCodeLab", name := "designedDistance", desc := "()I" } : Jvm.MethodName)) ∈ tables_1 := List.mem_of_getElem? (i := 151) rfl
theorem m_152 : (Jvm.Cond.instanceMethod ({ cls := "CyclicCodeLab", name := "designedDistance", desc := "()I" } : Jvm.MethodName)) ∈ tables_1 := List.mem_of_getElem? (i := 152) rfl
theorem m_153 : (Jvm.Cond.selects "CyclicCodeLab" ({ cls := "CyclicCodeLab", name := "designedDistance", desc := "()I" } : Jvm.MethodName) ({ cls := "CyclicCodeLab", name := "designedDistance", desc := "()I" } : Jvm.MethodName)) ∈ tables_1 := List.mem_of_getElem? (i := 153) rfl
theorem m_154 : (Jvm.Cond.code ({ cls := "CyclicCodeLab", name := "designedDistance", desc := "()I" } : Jvm.MethodName) prog_1_method_12_code (1 : Nat) (Option.some Jvm.ClassFile.FieldType.int)) ∈ tables_1 := List.mem_of_getElem? (i := 154) rfl
theorem m_155 : (Jvm.Cond.methodLink "CyclicCodeLabOwnLaw" (38 : Nat) ({ cls := "CyclicCodeLab", name := "trappingCapability", desc := "()I" } : Jvm.MethodName)) ∈ tables_1 := List.mem_of_getElem? (i := 155) rfl
theorem m_156 : (Jvm.Cond.declares ({ cls := "CyclicCodeLab", name := "trappingCapability", desc := "()I" } : Jvm.MethodName)) ∈ tables_1 := List.mem_of_getElem? (i := 156) rfl
theorem m_157 : (Jvm.Cond.instanceMethod ({ cls := "CyclicCodeLab", name := "trappingCapability", desc := "()I" } : Jvm.MethodName)) ∈ tables_1 := List.mem_of_getElem? (i := 157) rfl
theorem m_158 : (Jvm.Cond.selects "CyclicCodeLab" ({ cls := "CyclicCodeLab", name := "trappingCapability", desc := "()I" } : Jvm.MethodName) ({ cls := "CyclicCodeLab", name := "trappingCapability", desc := "()I" } : Jvm.MethodName)) ∈ tables_1 := List.mem_of_getElem? (i := 158) rfl
theorem m_159 : (Jvm.Cond.code ({ cls := "CyclicCodeLab", name := "trappingCapability", desc := "()I" } : Jvm.MethodName) prog_1_method_14_code (4 : Nat) (Option.some Jvm.ClassFile.FieldType.int)) ∈ tables_1 := List.mem_of_getElem? (i := 159) rfl
theorem m_160 : (Jvm.Cond.methodLink "CyclicCodeLab" (68 : Nat) ({ cls := "CyclicCodeLab", name := "radius", desc := "()I" } : Jvm.MethodName)) ∈ tables_1 := List.mem_of_getElem? (i := 160) rfl
theorem m_161 : (Jvm.Cond.instanceMethod ({ cls := "CyclicCodeLab", name := "radius", desc := "()I" } : Jvm.MethodName)) ∈ tables_1 := List.mem_of_getElem? (i := 161) rfl
theorem m_162 : (Jvm.Cond.privateMethod ({ cls := "CyclicCodeLab", name := "radius", desc := "()I" } : Jvm.MethodName)) ∈ tables_1 := List.mem_of_getElem? (i := 162) rfl
theorem m_163 : (Jvm.Cond.code ({ cls := "CyclicCodeLab", name := "radius", desc := "()I" } : Jvm.MethodName) prog_1_method_32_code (1 : Nat) (Option.some Jvm.ClassFile.FieldType.int)) ∈ tables_1 := List.mem_of_getElem? (i := 163) rfl
theorem m_164 : (Jvm.Cond.methodLink "CyclicCodeLabOwnLaw" (41 : Nat) ({ cls := "CyclicCodeLabOwnLaw", name := "cell", desc := "([II)I" } : Jvm.MethodName)) ∈ tables_1 := List.mem_of_getElem? (i := 164) rfl
theorem m_165 : (Jvm.Cond.static ({ cls := "CyclicCodeLabOwnLaw", name := "cell", desc := "([II)I" } : Jvm.MethodName)) ∈ tables_1 := List.mem_of_getElem? (i := 165) rfl
theorem m_166 : (Jvm.Cond.code ({ cls := "CyclicCodeLabOwnLaw", name := "cell", desc := "([II)I" } : Jvm.MethodName) method_2_code (2 : Nat) (Option.some Jvm.ClassFile.FieldType.int)) ∈ tables_1 := List.mem_of_getElem? (i := 166) rfl
theorem m_167 : (Jvm.Cond.methodLink "CyclicCodeLabOwnLaw" (46 : Nat) ({ cls := "CyclicCodeLab", name := "encode", desc := "(I)I" } : Jvm.MethodName)) ∈ tables_1 := List.mem_of_getElem? (i := 167) rfl
theorem m_168 : (Jvm.Cond.declares ({ cls := "CyclicCodeLab", name := "encode", desc := "(I)I" } : Jvm.MethodName)) ∈ tables_1 := List.mem_of_getElem? (i := 168) rfl
theorem m_169 : (Jvm.Cond.instanceMethod ({ cls := "CyclicCodeLab", name := "encode", desc := "(I)I" } : Jvm.MethodName)) ∈ tables_1 := List.mem_of_getElem? (i := 169) rfl
theorem m_170 : (Jvm.Cond.selects "CyclicCodeLab" ({ cls := "CyclicCodeLab", name := "encode", desc := "(I)I" } : Jvm.MethodName) ({ cls := "CyclicCodeLab", name := "encode", desc := "(I)I" } : Jvm.MethodName)) ∈ tables_1 := List.mem_of_getElem? (i := 170) rfl
theorem m_171 : (Jvm.Cond.code ({ cls := "CyclicCodeLab", name := "encode", desc := "(I)I" } : Jvm.MethodName) prog_1_method_15_code (5 : Nat) (Option.some Jvm.ClassFile.FieldType.int)) ∈ tables_1 := List.mem_of_getElem? (i := 171) rfl
theorem m_172 : (Jvm.Cond.methodLink "CyclicCodeLab" (74 : Nat) ({ cls := "CyclicCodeLab", name := "polyMod", desc := "(I)I" } : Jvm.MethodName)) ∈ tables_1 := List.mem_of_getElem? (i := 172) rfl
theorem m_173 : (Jvm.Cond.instanceMethod ({ cls := "CyclicCodeLab", name := "polyMod", desc := "(I)I" } : Jvm.MethodName)) ∈ tables_1 := List.mem_of_getElem? (i := 173) rfl
theorem m_174 : (Jvm.Cond.privateMethod ({ cls := "CyclicCodeLab", name := "polyMod", desc := "(I)I" } : Jvm.MethodName)) ∈ tables_1 := List.mem_of_getElem? (i := 174) rfl
theorem m_175 : (Jvm.Cond.code ({ cls := "CyclicCodeLab", name := "polyMod", desc := "(I)I" } : Jvm.MethodName) prog_1_method_34_code (4 : Nat) (Option.some Jvm.ClassFile.FieldType.int)) ∈ tables_1 := List.mem_of_getElem? (i := 175) rfl
theorem m_176 : (Jvm.Cond.methodLink "CyclicCodeLabOwnLaw" (50 : Nat) ({ cls := "CyclicCodeLab", name := "syndrome", desc := "(I)I" } : Jvm.MethodName)) ∈ tables_1 := List.mem_of_getElem? (i := 176) rfl
theorem m_177 : (Jvm.Cond.declares ({ cls := "CyclicCodeLab", name := "syndrome", desc := "(I)I" } : Jvm.MethodName)) ∈ tables_1 := List.mem_of_getElem? (i := 177) rfl
theorem m_178 : (Jvm.Cond.instanceMethod ({ cls := "CyclicCodeLab", name := "syndrome", desc := "(I)I" } : Jvm.MethodName)) ∈ tables_1 := List.mem_of_getElem? (i := 178) rfl
theorem m_179 : (Jvm.Cond.selects "CyclicCodeLab" ({ cls := "CyclicCodeLab", name := "syndrome", desc := "(I)I" } : Jvm.MethodName) ({ cls := "CyclicCodeLab", name := "syndrome", desc := "(I)I" } : Jvm.MethodName)) ∈ tables_1 := List.mem_of_getElem? (i := 179) rfl
theorem m_180 : (Jvm.Cond.code ({ cls := "CyclicCodeLab", name := "syndrome", desc := "(I)I" } : Jvm.MethodName) prog_1_method_16_code (3 : Nat) (Option.some Jvm.ClassFile.FieldType.int)) ∈ tables_1 := List.mem_of_getElem? (i := 180) rfl
theorem m_181 : (Jvm.Cond.methodLink "CyclicCodeLabOwnLaw" (53 : Nat) ({ cls := "CyclicCodeLabOwnLaw", name := "nonneg", desc := "(I)I" } : Jvm.MethodName)) ∈ tables_1 := List.mem_of_getElem? (i := 181) rfl
theorem m_182 : (Jvm.Cond.static ({ cls := "CyclicCodeLabOwnLaw", name := "nonneg", desc := "(I)I" } : Jvm.MethodName)) ∈ tables_1 := List.mem_of_getElem? (i := 182) rfl
theorem m_183 : (Jvm.Cond.code ({ cls := "CyclicCodeLabOwnLaw", name := "nonneg", desc := "(I)I" } : Jvm.MethodName) method_3_code (1 : Nat) (Option.some Jvm.ClassFile.FieldType.int)) ∈ tables_1 := List.mem_of_getElem? (i := 183) rfl
theorem m_184 : (Jvm.Cond.constant "CyclicCodeLabOwnLaw" (7 : Nat) (2147483647 : Int32)) ∈ tables_1 := List.mem_of_getElem? (i := 184) rfl
theorem m_185 : (Jvm.Cond.methodLink "CyclicCodeLabOwnLaw" (56 : Nat) ({ cls := "CyclicCodeLab", name := "decode", desc := "(I)I" } : Jvm.MethodName)) ∈ tables_1 := List.mem_of_getElem? (i := 185) rfl
theorem m_186 : (Jvm.Cond.declares ({ cls := "CyclicCodeLab", name := "decode", desc := "(I)I" } : Jvm.MethodName)) ∈ tables_1 := List.mem_of_getElem? (i := 186) rfl
theorem m_187 : (Jvm.Cond.instanceMethod ({ cls := "CyclicCodeLab", name := "decode", desc := "(I)I" } : Jvm.MethodName)) ∈ tables_1 := List.mem_of_getElem? (i := 187) rfl
theorem m_188 : (Jvm.Cond.selects "CyclicCodeLab" ({ cls := "CyclicCodeLab", name := "decode", desc := "(I)I" } : Jvm.MethodName) ({ cls := "CyclicCodeLab", name := "decode", desc := "(I)I" } : Jvm.MethodName)) ∈ tables_1 := List.mem_of_getElem? (i := 188) rfl
theorem m_189 : (Jvm.Cond.code ({ cls := "CyclicCodeLab", name := "decode", desc := "(I)I" } : Jvm.MethodName) prog_1_method_17_code (8 : Nat) (Option.some Jvm.ClassFile.FieldType.int)) ∈ tables_1 := List.mem_of_getElem? (i := 189) rfl
theorem m_190 : (Jvm.Cond.methodLink "CyclicCodeLab" (80 : Nat) ({ cls := "CyclicCodeLab", name := "rotate", desc := "(II)I" } : Jvm.MethodName)) ∈ tables_1 := List.mem_of_getElem? (i := 190) rfl
theorem m_191 : (Jvm.Cond.instanceMethod ({ cls := "CyclicCodeLab", name := "rotate", desc := "(II)I" } : Jvm.MethodName)) ∈ tables_1 := List.mem_of_getElem? (i := 191) rfl
theorem m_192 : (Jvm.Cond.privateMethod ({ cls := "CyclicCodeLab", name := "rotate", desc := "(II)I" } : Jvm.MethodName)) ∈ tables_1 := List.mem_of_getElem? (i := 192) rfl
theorem m_193 : (Jvm.Cond.code ({ cls := "CyclicCodeLab", name := "rotate", desc := "(II)I" } : Jvm.MethodName) prog_1_method_36_code (4 : Nat) (Option.some Jvm.ClassFile.FieldType.int)) ∈ tables_1 := List.mem_of_getElem? (i := 193) rfl
theorem m_194 : (Jvm.Cond.constant "CyclicCodeLabOwnLaw" (45 : Nat) (-1640531535 : Int32)) ∈ tables_1 := List.mem_of_getElem? (i := 194) rfl
theorem m_195 : (Jvm.Cond.methodLink "CyclicCodeLabOwnLaw" (74 : Nat) ({ cls := "CyclicCodeLab", name := "designBCH", desc := "(II)Z" } : Jvm.MethodName)) ∈ tables_1 := List.mem_of_getElem? (i := 195) rfl
theorem m_196 : (Jvm.Cond.declares ({ cls := "CyclicCodeLab", name := "designBCH", desc := "(II)Z" } : Jvm.MethodName)) ∈ tables_1 := List.mem_of_getElem? (i := 196) rfl
theorem m_197 : (Jvm.Cond.instanceMethod ({ cls := "CyclicCodeLab", name := "designBCH", desc := "(II)Z" } : Jvm.MethodName)) ∈ tables_1 := List.mem_of_getElem? (i := 197) rfl
theorem m_198 : (Jvm.Cond.selects "CyclicCodeLab" ({ cls := "CyclicCodeLab", name := "designBCH", desc := "(II)Z" } : Jvm.MethodName) ({ cls := "CyclicCodeLab", name := "designBCH", desc := "(II)Z" } : Jvm.MethodName)) ∈ tables_1 := List.mem_of_getElem? (i := 198) rfl
theorem m_199 : (Jvm.Cond.code ({ cls := "CyclicCodeLab", name := "designBCH", desc := "(II)Z" } : Jvm.MethodName) prog_1_method_8_code (6 : Nat) (Option.some Jvm.ClassFile.FieldType.boolean)) ∈ tables_1 := List.mem_of_getElem? (i := 199) rfl
theorem m_200 : (Jvm.Cond.methodLink "CyclicCodeLab" (39 : Nat) ({ cls := "CyclicCodeLab", name := "inRange", desc := "(I)Z" } : Jvm.MethodName)) ∈ tables_1 := List.mem_of_getElem? (i := 200) rfl
theorem m_201 : (Jvm.Cond.instanceMethod ({ cls := "CyclicCodeLab", name := "inRange", desc := "(I)Z" } : Jvm.MethodName)) ∈ tables_1 := List.mem_of_getElem? (i := 201) rfl
theorem m_202 : (Jvm.Cond.privateMethod ({ cls := "CyclicCodeLab", name := "inRange", desc := "(I)Z" } : Jvm.MethodName)) ∈ tables_1 := List.mem_of_getElem? (i := 202) rfl
theorem m_203 : (Jvm.Cond.code ({ cls := "CyclicCodeLab", name := "inRange", desc := "(I)Z" } : Jvm.MethodName) prog_1_method_37_code (2 : Nat) (Option.some Jvm.ClassFile.FieldType.boolean)) ∈ tables_1 := List.mem_of_getElem? (i := 203) rfl
theorem m_204 : (Jvm.Cond.methodLink "CyclicCodeLab" (130 : Nat) ({ cls := "CyclicCodeLab", name := "clmul", desc := "(II)I" } : Jvm.MethodName)) ∈ tables_1 := List.mem_of_getElem? (i := 204) rfl
theorem m_205 : (Jvm.Cond.instanceMethod ({ cls := "CyclicCodeLab", name := "clmul", desc := "(II)I" } : Jvm.MethodName)) ∈ tables_1 := List.mem_of_getElem? (i := 205) rfl
theorem m_206 : (Jvm.Cond.privateMethod ({ cls := "CyclicCodeLab", name := "clmul", desc := "(II)I" } : Jvm.MethodName)) ∈ tables_1 := List.mem_of_getElem? (i := 206) rfl
theorem m_207 : (Jvm.Cond.code ({ cls := "CyclicCodeLab", name := "clmul", desc := "(II)I" } : Jvm.MethodName) prog_1_method_35_code (5 : Nat) (Option.some Jvm.ClassFile.FieldType.int)) ∈ tables_1 := List.mem_of_getElem? (i := 207) rfl
theorem m_208 : (Jvm.Cond.methodLink "CyclicCodeLabOwnLaw" (64 : Nat) ({ cls := "CyclicCodeLabOwnLaw", name := "lenOf", desc := "(I)I" } : Jvm.MethodName)) ∈ tables_1 := List.mem_of_getElem? (i := 208) rfl
theorem m_209 : (Jvm.Cond.static ({ cls := "CyclicCodeLabOwnLaw", name := "lenOf", desc := "(I)I" } : Jvm.MethodName)) ∈ tables_1 := List.mem_of_getElem? (i := 209) rfl
theorem m_210 : (Jvm.Cond.code ({ cls := "CyclicCodeLabOwnLaw", name := "lenOf", desc := "(I)I" } : Jvm.MethodName) method_4_code (1 : Nat) (Option.some Jvm.ClassFile.FieldType.int)) ∈ tables_1 := List.mem_of_getElem? (i := 210) rfl
theorem m_211 : (Jvm.Cond.methodLink "CyclicCodeLabOwnLaw" (67 : Nat) ({ cls := "CyclicCodeLab", name := "setLength", desc := "(I)Z" } : Jvm.MethodName)) ∈ tables_1 := List.mem_of_getElem? (i := 211) rfl
theorem m_212 : (Jvm.Cond.declares ({ cls := "CyclicCodeLab", name := "setLength", desc := "(I)Z" } : Jvm.MethodName)) ∈ tables_1 := List.mem_of_getElem? (i := 212) rfl
theorem m_213 : (Jvm.Cond.instanceMethod ({ cls := "CyclicCodeLab", name := "setLength", desc := "(I)Z" } : Jvm.MethodName)) ∈ tables_1 := List.mem_of_getElem? (i := 213) rfl
theorem m_214 : (Jvm.Cond.selects "CyclicCodeLab" ({ cls := "CyclicCodeLab", name := "setLength", desc := "(I)Z" } : Jvm.MethodName) ({ cls := "CyclicCodeLab", name := "setLength", desc := "(I)Z" } : Jvm.MethodName)) ∈ tables_1 := List.mem_of_getElem? (i := 214) rfl
theorem m_215 : (Jvm.Cond.code ({ cls := "CyclicCodeLab", name := "setLength", desc := "(I)Z" } : Jvm.MethodName) prog_1_method_2_code (2 : Nat) (Option.some Jvm.ClassFile.FieldType.boolean)) ∈ tables_1 := List.mem_of_getElem? (i := 215) rfl
theorem m_216 : (Jvm.Cond.methodLink "CyclicCodeLabOwnLaw" (71 : Nat) ({ cls := "CyclicCodeLab", name := "addZeros", desc := "(I)Z" } : Jvm.MethodName)) ∈ tables_1 := List.mem_of_getElem? (i := 216) rfl
theorem m_217 : (Jvm.Cond.declares ({ cls := "CyclicCodeLab", name := "addZeros", desc := "(I)Z" } : Jvm.MethodName)) ∈ tables_1 := List.mem_of_getElem? (i := 217) rfl
theorem m_218 : (Jvm.Cond.instanceMethod ({ cls := "CyclicCodeLab", name := "addZeros", desc := "(I)Z" } : Jvm.MethodName)) ∈ tables_1 := List.mem_of_getElem? (i := 218) rfl
theorem m_219 : (Jvm.Cond.selects "CyclicCodeLab" ({ cls := "CyclicCodeLab", name := "addZeros", desc := "(I)Z" } : Jvm.MethodName) ({ cls := "CyclicCodeLab", name := "addZeros", desc := "(I)Z" } : Jvm.MethodName)) ∈ tables_1 := List.mem_of_getElem? (i := 219) rfl
theorem m_220 : (Jvm.Cond.code ({ cls := "CyclicCodeLab", name := "addZeros", desc := "(I)Z" } : Jvm.MethodName) prog_1_method_7_code (2 : Nat) (Option.some Jvm.ClassFile.FieldType.boolean)) ∈ tables_1 := List.mem_of_getElem? (i := 220) rfl
theorem laid0 {Z : State} {a0 : Array Value} (hw : HW a0 Z) : LaidAll Z a0 CN lay vs0 :=
  ⟨⟨Or.inl (hw _ m_31), .int, by decide, rfl⟩, ⟨Or.inl (hw _ m_33), .int, by decide, rfl⟩, ⟨Or.inl (hw _ m_35), .int, by decide, rfl⟩, ⟨Or.inl (hw _ m_41), .int, by decide, rfl⟩, ⟨Or.inl (hw _ m_83), .int, by decide, rfl⟩, ⟨Or.inl (hw _ m_103), .int, by decide, rfl⟩, ⟨Or.inl (hw _ m_93), .int, by decide, rfl⟩, ⟨Or.inl (hw _ m_109), .int, by decide, rfl⟩, ⟨Or.inl (hw _ m_11), .array .int, by decide, rfl⟩, ⟨Or.inl (hw _ m_13), .array .int, by decide, rfl⟩, ⟨Or.inl (hw _ m_15), .array .int, by decide, rfl⟩, ⟨Or.inl (hw _ m_17), .array .int, by decide, rfl⟩, ⟨Or.inl (hw _ m_19), .array .int, by decide, rfl⟩, ⟨Or.inl (hw _ m_21), .array .int, by decide, rfl⟩, trivial⟩
theorem hlay {Z : State} {a0 : Array Value} (hw : HW a0 Z) : ∀ (a b : Nat) (f g : String × String), lay[a]? = some f → lay[b]? = some g → a ≠ b → RoadKit.slotOf Z CN f.1 f.2 ≠ RoadKit.slotOf Z CN g.1 g.2 := (laid0 hw).ne (by decide)
theorem vs0_ok {Z : State} {a0 : Array Value} (hw : HW a0 Z) : ∀ (i : Nat) (f : String × String) (v : Value), lay[i]? = some f → vs0[i]? = some v → Laid Z a0 CN CN f.1 f.2 ∧ ∃ ty, parseFieldDescriptor f.2 = some ty ∧ v = defaultValue ty := (laid0 hw).new
theorem pn_cls : plainName CN = true := by first | (simp [plainName, overriddenIn]; done) | decide +kernel
theorem pn_law : plainName "CyclicCodeLabOwnLaw" = true := by first | (simp [plainName, overriddenIn]; done) | decide +kernel
theorem d2_0 : dc prog_1_method_19_code 0 (.iload_n 1) 1 := by decide +kernel
theorem d2_1 : dc prog_1_method_19_code 1 (.tableswitch 150 3 31 #[131, 150, 133, 150, 135, 150, 137, 150, 150, 150, 150, 150, 140, 150, 142, 150, 150, 150, 145, 150, 150, 150, 150, 150, 150, 150, 150, 150, 148]) 131 := by decide +kernel
theorem d2_132 : dc prog_1_method_19_code 132 (.iconst 2) 1 := by decide +kernel
theorem d2_133 : dc prog_1_method_19_code 133 (.ireturn) 1 := by decide +kernel
theorem d2_134 : dc prog_1_method_19_code 134 (.iconst 4) 1 := by decide +kernel
theorem d2_135 : dc prog_1_method_19_code 135 (.ireturn) 1 := by decide +kernel
theorem d2_136 : dc prog_1_method_19_code 136 (.iconst 3) 1 := by decide +kernel
theorem d2_137 : dc prog_1_method_19_code 137 (.ireturn) 1 := by decide +kernel
theorem d2_138 : dc prog_1_method_19_code 138 (.bipush 6) 2 := by decide +kernel
theorem d2_140 : dc prog_1_method_19_code 140 (.ireturn) 1 := by decide +kernel
theorem d2_141 : dc prog_1_method_19_code 141 (.iconst 4) 1 := by decide +kernel
theorem d2_142 : dc prog_1_method_19_code 142 (.ireturn) 1 := by decide +kernel
theorem d2_143 : dc prog_1_method_19_code 143 (.bipush 8) 2 := by decide +kernel
theorem d2_145 : dc prog_1_method_19_code 145 (.ireturn) 1 := by decide +kernel
theorem d2_146 : dc prog_1_method_19_code 146 (.bipush 6) 2 := by decide +kernel
theorem d2_148 : dc prog_1_method_19_code 148 (.ireturn) 1 := by decide +kernel
theorem d2_149 : dc prog_1_method_19_code 149 (.iconst 5) 1 := by decide +kernel
theorem d2_150 : dc prog_1_method_19_code 150 (.ireturn) 1 := by decide +kernel
theorem d2_151 : dc prog_1_method_19_code 151 (.iconst 0) 1 := by decide +kernel
theorem d2_152 : dc prog_1_method_19_code 152 (.ireturn) 1 := by decide +kernel
abbrev y2 : MethodName := ⟨"CyclicCodeLab", "degreeFor", "(I)I"⟩
theorem hy2 : y2.cls ≠ "java/lang/invoke/MethodHandle" ∧ y2.cls ≠ "java/lang/invoke/VarHandle" := by decide
theorem pd2 : parseMethodDescriptor y2.desc = some ⟨[.int], some .int⟩ := by decide +kernel
abbrev R2 : Room := { frames := 0, cells := 0, slots := 0, locals := 0 }
abbrev P2 (s : St) (r : Int32) : Option Value → List OwnC → Prop := fun v H' => v = some (.int r) ∧ H' = (Hb 0 s)
abbrev W2 (l : Launch) (Z : State) (n0 : Nat) (Q : Option Value → List OwnC → Prop) (k n pc : Nat) (L : List Slot) (S : List Value) (H : List OwnC) : Prop := WP l Z CN lay "CyclicCodeLab" "degreeFor" prog_1_method_19_code 2 (some FieldType.int) R2 n0 0 Q k n pc L S H
def f_degreeFor (p1 : Int32) (s : St) : Option (Int32) :=
  if p1 = (3 : Int32) then
    some (2 : Int32)
  else if p1 = (4 : Int32) then
    some (0 : Int32)
  else if p1 = (5 : Int32) then
    some (4 : Int32)
  else if p1 = (6 : Int32) then
    some (0 : Int32)
  else if p1 = (7 : Int32) then
    some (3 : Int32)
  else if p1 = (8 : Int32) then
    some (0 : Int32)
  else if p1 = (9 : Int32) then
    some (6 : Int32)
  else if p1 = (10 : Int32) then
    some (0 : Int32)
  else if p1 = (11 : Int32) then
    some (0 : Int32)
  else if p1 = (12 : Int32) then
    some (0 : Int32)
  else if p1 = (13 : Int32) then
    some (0 : Int32)
  else if p1 = (14 : Int32) then
    some (0 : Int32)
  else if p1 = (15 : Int32) then
    some (4 : Int32)
  else if p1 = (16 : Int32) then
    some (0 : Int32)
  else if p1 = (17 : Int32) then
    some (8 : Int32)
  else if p1 = (18 : Int32) then
    some (0 : Int32)
  else if p1 = (19 : Int32) then
    some (0 : Int32)
  else if p1 = (20 : Int32) then
    some (0 : Int32)
  else if p1 = (21 : Int32) then
    some (6 : Int32)
  else if p1 = (22 : Int32) then
    some (0 : Int32)
  else if p1 = (23 : Int32) then
    some (0 : Int32)
  else if p1 = (24 : Int32) then
    some (0 : Int32)
  else if p1 = (25 : Int32) then
    some (0 : Int32)
  else if p1 = (26 : Int32) then
    some (0 : Int32)
  else if p1 = (27 : Int32) then
    some (0 : Int32)
  else if p1 = (28 : Int32) then
    some (0 : Int32)
  else if p1 = (29 : Int32) then
    some (0 : Int32)
  else if p1 = (30 : Int32) then
    some (0 : Int32)
  else if p1 = (31 : Int32) then
    some (5 : Int32)
  else 
  some (0 : Int32)
set_option maxRecDepth 65536 in
set_option maxHeartbeats 4000000 in
theorem ok2 (l : Launch) (Z : State) (a0 : Array Value) (hw : HW a0 Z) (p1 : Int32) (s : St) (r : Int32) (h : f_degreeFor p1 s = some r) : CS l Z CN lay y2 prog_1_method_19_code 2 (some FieldType.int) R2 0 [.ref 0, .int p1] (Hb 0 s) (P2 s r) := by
  refine CS.of_wp pn_cls (leb rfl) fun n0 => ?_
  show W2 l Z n0 (P2 s r) 0 0 0 [.val (.ref 0), .val (.int p1)] [] (Hb 0 s)
  unfold f_degreeFor at h
  refine WP.iloadN d2_0 rfl ?_
  rcases ite_e h with ⟨hc1, h⟩ | ⟨hc1, h⟩
  ·
    refine WP.tswIn (o := 131) (pc' := 132) d2_1 (by rw [hc1]; decide) (by rw [hc1]; rfl) (by decide) rfl ?_
    refine WP.iconst (2 : Int32) d2_132 rfl ?_
    cases h
    exact WP.ireturn d2_133 rfl (leb rfl) (leb rfl) ⟨rfl, rfl⟩
  rcases ite_e h with ⟨hc2, h⟩ | ⟨hc2, h⟩
  ·
    refine WP.tswIn (o := 150) (pc' := 151) d2_1 (by rw [hc2]; decide) (by rw [hc2]; rfl) (by decide) rfl ?_
    refine WP.iconst (0 : Int32) d2_151 rfl ?_
    cases h
    exact WP.ireturn d2_152 rfl (leb rfl) (leb rfl) ⟨rfl, rfl⟩
  rcases ite_e h with ⟨hc3, h⟩ | ⟨hc3, h⟩
  ·
    refine WP.tswIn (o := 133) (pc' := 134) d2_1 (by rw [hc3]; decide) (by rw [hc3]; rfl) (by decide) rfl ?_
    refine WP.iconst (4 : Int32) d2_134 rfl ?_
    cases h
    exact WP.ireturn d2_135 rfl (leb rfl) (leb rfl) ⟨rfl, rfl⟩
  rcases ite_e h with ⟨hc4, h⟩ | ⟨hc4, h⟩
  ·
    refine WP.tswIn (o := 150) (pc' := 151) d2_1 (by rw [hc4]; decide) (by rw [hc4]; rfl) (by decide) rfl ?_
    refine WP.iconst (0 : Int32) d2_151 rfl ?_
    cases h
    exact WP.ireturn d2_152 rfl (leb rfl) (leb rfl) ⟨rfl, rfl⟩
  rcases ite_e h with ⟨hc5, h⟩ | ⟨hc5, h⟩
  ·
    refine WP.tswIn (o := 135) (pc' := 136) d2_1 (by rw [hc5]; decide) (by rw [hc5]; rfl) (by decide) rfl ?_
    refine WP.iconst (3 : Int32) d2_136 rfl ?_
    cases h
    exact WP.ireturn d2_137 rfl (leb rfl) (leb rfl) ⟨rfl, rfl⟩
  rcases ite_e h with ⟨hc6, h⟩ | ⟨hc6, h⟩
  ·
    refine WP.tswIn (o := 150) (pc' := 151) d2_1 (by rw [hc6]; decide) (by rw [hc6]; rfl) (by decide) rfl ?_
    refine WP.iconst (0 : Int32) d2_151 rfl ?_
    cases h
    exact WP.ireturn d2_152 rfl (leb rfl) (leb rfl) ⟨rfl, rfl⟩
  rcases ite_e h with ⟨hc7, h⟩ | ⟨hc7, h⟩
  ·
    refine WP.tswIn (o := 137) (pc' := 138) d2_1 (by rw [hc7]; decide) (by rw [hc7]; rfl) (by decide) rfl ?_
    refine WP.bipush (6 : Int32) d2_138 rfl ?_
    cases h
    exact WP.ireturn d2_140 rfl (leb rfl) (leb rfl) ⟨rfl, rfl⟩
  rcases ite_e h with ⟨hc8, h⟩ | ⟨hc8, h⟩
  ·
    refine WP.tswIn (o := 150) (pc' := 151) d2_1 (by rw [hc8]; decide) (by rw [hc8]; rfl) (by decide) rfl ?_
    refine WP.iconst (0 : Int32) d2_151 rfl ?_
    cases h
    exact WP.ireturn d2_152 rfl (leb rfl) (leb rfl) ⟨rfl, rfl⟩
  rcases ite_e h with ⟨hc9, h⟩ | ⟨hc9, h⟩
  ·
    refine WP.tswIn (o := 150) (pc' := 151) d2_1 (by rw [hc9]; decide) (by rw [hc9]; rfl) (by decide) rfl ?_
    refine WP.iconst (0 : Int32) d2_151 rfl ?_
    cases h
    exact WP.ireturn d2_152 rfl (leb rfl) (leb rfl) ⟨rfl, rfl⟩
  rcases ite_e h with ⟨hc10, h⟩ | ⟨hc10, h⟩
  ·
    refine WP.tswIn (o := 150) (pc' := 151) d2_1 (by rw [hc10]; decide) (by rw [hc10]; rfl) (by decide) rfl ?_
    refine WP.iconst (0 : Int32) d2_151 rfl ?_
    cases h
    exact WP.ireturn d2_152 rfl (leb rfl) (leb rfl) ⟨rfl, rfl⟩
  rcases ite_e h with ⟨hc11, h⟩ | ⟨hc11, h⟩
  ·
    refine WP.tswIn (o := 150) (pc' := 151) d2_1 (by rw [hc11]; decide) (by rw [hc11]; rfl) (by decide) rfl ?_
    refine WP.iconst (0 : Int32) d2_151 rfl ?_
    cases h
    exact WP.ireturn d2_152 rfl (leb rfl) (leb rfl) ⟨rfl, rfl⟩
  rcases ite_e h with ⟨hc12, h⟩ | ⟨hc12, h⟩
  ·
    refine WP.tswIn (o := 150) (pc' := 151) d2_1 (by rw [hc12]; decide) (by rw [hc12]; rfl) (by decide) rfl ?_
    refine WP.iconst (0 : Int32) d2_151 rfl ?_
    cases h
    exact WP.ireturn d2_152 rfl (leb rfl) (leb rfl) ⟨rfl, rfl⟩
  rcases ite_e h with ⟨hc13, h⟩ | ⟨hc13, h⟩
  ·
    refine WP.tswIn (o := 140) (pc' := 141) d2_1 (by rw [hc13]; decide) (by rw [hc13]; rfl) (by decide) rfl ?_
    refine WP.iconst (4 : Int32) d2_141 rfl ?_
    cases h
    exact WP.ireturn d2_142 rfl (leb rfl) (leb rfl) ⟨rfl, rfl⟩
  rcases ite_e h with ⟨hc14, h⟩ | ⟨hc14, h⟩
  ·
    refine WP.tswIn (o := 150) (pc' := 151) d2_1 (by rw [hc14]; decide) (by rw [hc14]; rfl) (by decide) rfl ?_
    refine WP.iconst (0 : Int32) d2_151 rfl ?_
    cases h
    exact WP.ireturn d2_152 rfl (leb rfl) (leb rfl) ⟨rfl, rfl⟩
  rcases ite_e h with ⟨hc15, h⟩ | ⟨hc15, h⟩
  ·
    refine WP.tswIn (o := 142) (pc' := 143) d2_1 (by rw [hc15]; decide) (by rw [hc15]; rfl) (by decide) rfl ?_
    refine WP.bipush (8 : Int32) d2_143 rfl ?_
    cases h
    exact WP.ireturn d2_145 rfl (leb rfl) (leb rfl) ⟨rfl, rfl⟩
  rcases ite_e h with ⟨hc16, h⟩ | ⟨hc16, h⟩
  ·
    refine WP.tswIn (o := 150) (pc' := 151) d2_1 (by rw [hc16]; decide) (by rw [hc16]; rfl) (by decide) rfl ?_
    refine WP.iconst (0 : Int32) d2_151 rfl ?_
    cases h
    exact WP.ireturn d2_152 rfl (leb rfl) (leb rfl) ⟨rfl, rfl⟩
  rcases ite_e h with ⟨hc17, h⟩ | ⟨hc17, h⟩
  ·
    refine WP.tswIn (o := 150) (pc' := 151) d2_1 (by rw [hc17]; decide) (by rw [hc17]; rfl) (by decide) rfl ?_
    refine WP.iconst (0 : Int32) d2_151 rfl ?_
    cases h
    exact WP.ireturn d2_152 rfl (leb rfl) (leb rfl) ⟨rfl, rfl⟩
  rcases ite_e h with ⟨hc18, h⟩ | ⟨hc18, h⟩
  ·
    refine WP.tswIn (o := 150) (pc' := 151) d2_1 (by rw [hc18]; decide) (by rw [hc18]; rfl) (by decide) rfl ?_
    refine WP.iconst (0 : Int32) d2_151 rfl ?_
    cases h
    exact WP.ireturn d2_152 rfl (leb rfl) (leb rfl) ⟨rfl, rfl⟩
  rcases ite_e h with ⟨hc19, h⟩ | ⟨hc19, h⟩
  ·
    refine WP.tswIn (o := 145) (pc' := 146) d2_1 (by rw [hc19]; decide) (by rw [hc19]; rfl) (by decide) rfl ?_
    refine WP.bipush (6 : Int32) d2_146 rfl ?_
    cases h
    exact WP.ireturn d2_148 rfl (leb rfl) (leb rfl) ⟨rfl, rfl⟩
  rcases ite_e h with ⟨hc20, h⟩ | ⟨hc20, h⟩
  ·
    refine WP.tswIn (o := 150) (pc' := 151) d2_1 (by rw [hc20]; decide) (by rw [hc20]; rfl) (by decide) rfl ?_
    refine WP.iconst (0 : Int32) d2_151 rfl ?_
    cases h
    exact WP.ireturn d2_152 rfl (leb rfl) (leb rfl) ⟨rfl, rfl⟩
  rcases ite_e h with ⟨hc21, h⟩ | ⟨hc21, h⟩
  ·
    refine WP.tswIn (o := 150) (pc' := 151) d2_1 (by rw [hc21]; decide) (by rw [hc21]; rfl) (by decide) rfl ?_
    refine WP.iconst (0 : Int32) d2_151 rfl ?_
    cases h
    exact WP.ireturn d2_152 rfl (leb rfl) (leb rfl) ⟨rfl, rfl⟩
  rcases ite_e h with ⟨hc22, h⟩ | ⟨hc22, h⟩
  ·
    refine WP.tswIn (o := 150) (pc' := 151) d2_1 (by rw [hc22]; decide) (by rw [hc22]; rfl) (by decide) rfl ?_
    refine WP.iconst (0 : Int32) d2_151 rfl ?_
    cases h
    exact WP.ireturn d2_152 rfl (leb rfl) (leb rfl) ⟨rfl, rfl⟩
  rcases ite_e h with ⟨hc23, h⟩ | ⟨hc23, h⟩
  ·
    refine WP.tswIn (o := 150) (pc' := 151) d2_1 (by rw [hc23]; decide) (by rw [hc23]; rfl) (by decide) rfl ?_
    refine WP.iconst (0 : Int32) d2_151 rfl ?_
    cases h
    exact WP.ireturn d2_152 rfl (leb rfl) (leb rfl) ⟨rfl, rfl⟩
  rcases ite_e h with ⟨hc24, h⟩ | ⟨hc24, h⟩
  ·
    refine WP.tswIn (o := 150) (pc' := 151) d2_1 (by rw [hc24]; decide) (by rw [hc24]; rfl) (by decide) rfl ?_
    refine WP.iconst (0 : Int32) d2_151 rfl ?_
    cases h
    exact WP.ireturn d2_152 rfl (leb rfl) (leb rfl) ⟨rfl, rfl⟩
  rcases ite_e h with ⟨hc25, h⟩ | ⟨hc25, h⟩
  ·
    refine WP.tswIn (o := 150) (pc' := 151) d2_1 (by rw [hc25]; decide) (by rw [hc25]; rfl) (by decide) rfl ?_
    refine WP.iconst (0 : Int32) d2_151 rfl ?_
    cases h
    exact WP.ireturn d2_152 rfl (leb rfl) (leb rfl) ⟨rfl, rfl⟩
  rcases ite_e h with ⟨hc26, h⟩ | ⟨hc26, h⟩
  ·
    refine WP.tswIn (o := 150) (pc' := 151) d2_1 (by rw [hc26]; decide) (by rw [hc26]; rfl) (by decide) rfl ?_
    refine WP.iconst (0 : Int32) d2_151 rfl ?_
    cases h
    exact WP.ireturn d2_152 rfl (leb rfl) (leb rfl) ⟨rfl, rfl⟩
  rcases ite_e h with ⟨hc27, h⟩ | ⟨hc27, h⟩
  ·
    refine WP.tswIn (o := 150) (pc' := 151) d2_1 (by rw [hc27]; decide) (by rw [hc27]; rfl) (by decide) rfl ?_
    refine WP.iconst (0 : Int32) d2_151 rfl ?_
    cases h
    exact WP.ireturn d2_152 rfl (leb rfl) (leb rfl) ⟨rfl, rfl⟩
  rcases ite_e h with ⟨hc28, h⟩ | ⟨hc28, h⟩
  ·
    refine WP.tswIn (o := 150) (pc' := 151) d2_1 (by rw [hc28]; decide) (by rw [hc28]; rfl) (by decide) rfl ?_
    refine WP.iconst (0 : Int32) d2_151 rfl ?_
    cases h
    exact WP.ireturn d2_152 rfl (leb rfl) (leb rfl) ⟨rfl, rfl⟩
  rcases ite_e h with ⟨hc29, h⟩ | ⟨hc29, h⟩
  ·
    refine WP.tswIn (o := 148) (pc' := 149) d2_1 (by rw [hc29]; decide) (by rw [hc29]; rfl) (by decide) rfl ?_
    refine WP.iconst (5 : Int32) d2_149 rfl ?_
    cases h
    exact WP.ireturn d2_150 rfl (leb rfl) (leb rfl) ⟨rfl, rfl⟩
  refine WP.tswOut (pc' := 151) d2_1 (tsw_miss fun z h1 h2 => by
      have hz : z = 3 ∨ z = 4 ∨ z = 5 ∨ z = 6 ∨ z = 7 ∨ z = 8 ∨ z = 9 ∨ z = 10 ∨ z = 11 ∨ z = 12 ∨ z = 13 ∨ z = 14 ∨ z = 15 ∨ z = 16 ∨ z = 17 ∨ z = 18 ∨ z = 19 ∨ z = 20 ∨ z = 21 ∨ z = 22 ∨ z = 23 ∨ z = 24 ∨ z = 25 ∨ z = 26 ∨ z = 27 ∨ z = 28 ∨ z = 29 ∨ z = 30 ∨ z = 31 := by omega
      rcases hz with rfl | rfl | rfl | rfl | rfl | rfl | rfl | rfl | rfl | rfl | rfl | rfl | rfl | rfl | rfl | rfl | rfl | rfl | rfl | rfl | rfl | rfl | rfl | rfl | rfl | rfl | rfl | rfl | rfl
      · exact hc1
      · exact hc2
      · exact hc3
      · exact hc4
      · exact hc5
      · exact hc6
      · exact hc7
      · exact hc8
      · exact hc9
      · exact hc10
      · exact hc11
      · exact hc12
      · exact hc13
      · exact hc14
      · exact hc15
      · exact hc16
      · exact hc17
      · exact hc18
      · exact hc19
      · exact hc20
      · exact hc21
      · exact hc22
      · exact hc23
      · exact hc24
      · exact hc25
      · exact hc26
      · exact hc27
      · exact hc28
      · exact hc29
      ) (by decide) rfl ?_
  refine WP.iconst (0 : Int32) d2_151 rfl ?_
  cases h
  exact WP.ireturn d2_152 rfl (leb rfl) (leb rfl) ⟨rfl, rfl⟩
theorem d3_0 : dc prog_1_method_39_code 0 (.iconst 1) 1 := by decide +kernel
theorem d3_1 : dc prog_1_method_39_code 1 (.iload_n 1) 1 := by decide +kernel
theorem d3_2 : dc prog_1_method_39_code 2 (.ishl) 1 := by decide +kernel
theorem d3_3 : dc prog_1_method_39_code 3 (.iconst 1) 1 := by decide +kernel
theorem d3_4 : dc prog_1_method_39_code 4 (.isub) 1 := by decide +kernel
theorem d3_5 : dc prog_1_method_39_code 5 (.ireturn) 1 := by decide +kernel
abbrev y3 : MethodName := ⟨"CyclicCodeLab", "lowMask", "(I)I"⟩
theorem hy3 : y3.cls ≠ "java/lang/invoke/MethodHandle" ∧ y3.cls ≠ "java/lang/invoke/VarHandle" := by decide
theorem pd3 : parseMethodDescriptor y3.desc = some ⟨[.int], some .int⟩ := by decide +kernel
abbrev R3 : Room := { frames := 0, cells := 0, slots := 0, locals := 0 }
abbrev P3 (s : St) (r : Int32) : Option Value → List OwnC → Prop := fun v H' => v = some (.int r) ∧ H' = (Hb 0 s)
abbrev W3 (l : Launch) (Z : State) (n0 : Nat) (Q : Option Value → List OwnC → Prop) (k n pc : Nat) (L : List Slot) (S : List Value) (H : List OwnC) : Prop := WP l Z CN lay "CyclicCodeLab" "lowMask" prog_1_method_39_code 2 (some FieldType.int) R3 n0 0 Q k n pc L S H
def f_lowMask (p1 : Int32) (s : St) : Option (Int32) :=
  some (((1 : Int32) <<< (p1 &&& 31)) - (1 : Int32))
set_option maxRecDepth 65536 in
set_option maxHeartbeats 4000000 in
theorem ok3 (l : Launch) (Z : State) (a0 : Array Value) (hw : HW a0 Z) (p1 : Int32) (s : St) (r : Int32) (h : f_lowMask p1 s = some r) : CS l Z CN lay y3 prog_1_method_39_code 2 (some FieldType.int) R3 0 [.ref 0, .int p1] (Hb 0 s) (P3 s r) := by
  refine CS.of_wp pn_cls (leb rfl) fun n0 => ?_
  show W3 l Z n0 (P3 s r) 0 0 0 [.val (.ref 0), .val (.int p1)] [] (Hb 0 s)
  unfold f_lowMask at h
  refine WP.iconst (1 : Int32) d3_0 rfl ?_
  refine WP.iloadN d3_1 rfl ?_
  refine WP.ishl d3_2 ?_
  refine WP.iconst (1 : Int32) d3_3 rfl ?_
  refine WP.isub d3_4 ?_
  cases h
  exact WP.ireturn d3_5 rfl (leb rfl) (leb rfl) ⟨rfl, rfl⟩
theorem d5_0 : dc prog_1_method_20_code 0 (.iload_n 1) 1 := by decide +kernel
theorem d5_1 : dc prog_1_method_20_code 1 (.tableswitch 50 2 6 #[35, 38, 41, 44, 47]) 35 := by decide +kernel
theorem d5_36 : dc prog_1_method_20_code 36 (.bipush 7) 2 := by decide +kernel
theorem d5_38 : dc prog_1_method_20_code 38 (.ireturn) 1 := by decide +kernel
theorem d5_39 : dc prog_1_method_20_code 39 (.bipush 11) 2 := by decide +kernel
theorem d5_41 : dc prog_1_method_20_code 41 (.ireturn) 1 := by decide +kernel
theorem d5_42 : dc prog_1_method_20_code 42 (.bipush 19) 2 := by decide +kernel
theorem d5_44 : dc prog_1_method_20_code 44 (.ireturn) 1 := by decide +kernel
theorem d5_45 : dc prog_1_method_20_code 45 (.bipush 37) 2 := by decide +kernel
theorem d5_47 : dc prog_1_method_20_code 47 (.ireturn) 1 := by decide +kernel
theorem d5_48 : dc prog_1_method_20_code 48 (.bipush 67) 2 := by decide +kernel
theorem d5_50 : dc prog_1_method_20_code 50 (.ireturn) 1 := by decide +kernel
theorem d5_51 : dc prog_1_method_20_code 51 (.sipush 285) 3 := by decide +kernel
theorem d5_54 : dc prog_1_method_20_code 54 (.ireturn) 1 := by decide +kernel
abbrev y5 : MethodName := ⟨"CyclicCodeLab", "fieldPolyFor", "(I)I"⟩
theorem hy5 : y5.cls ≠ "java/lang/invoke/MethodHandle" ∧ y5.cls ≠ "java/lang/invoke/VarHandle" := by decide
theorem pd5 : parseMethodDescriptor y5.desc = some ⟨[.int], some .int⟩ := by decide +kernel
abbrev R5 : Room := { frames := 0, cells := 0, slots := 0, locals := 0 }
abbrev P5 (s : St) (r : Int32) : Option Value → List OwnC → Prop := fun v H' => v = some (.int r) ∧ H' = (Hb 0 s)
abbrev W5 (l : Launch) (Z : State) (n0 : Nat) (Q : Option Value → List OwnC → Prop) (k n pc : Nat) (L : List Slot) (S : List Value) (H : List OwnC) : Prop := WP l Z CN lay "CyclicCodeLab" "fieldPolyFor" prog_1_method_20_code 2 (some FieldType.int) R5 n0 0 Q k n pc L S H
def f_fieldPolyFor (p1 : Int32) (s : St) : Option (Int32) :=
  if p1 = (2 : Int32) then
    some (7 : Int32)
  else if p1 = (3 : Int32) then
    some (11 : Int32)
  else if p1 = (4 : Int32) then
    some (19 : Int32)
  else if p1 = (5 : Int32) then
    some (37 : Int32)
  else if p1 = (6 : Int32) then
    some (67 : Int32)
  else 
  some (285 : Int32)
set_option maxRecDepth 65536 in
set_option maxHeartbeats 4000000 in
theorem ok5 (l : Launch) (Z : State) (a0 : Array Value) (hw : HW a0 Z) (p1 : Int32) (s : St) (r : Int32) (h : f_fieldPolyFor p1 s = some r) : CS l Z CN lay y5 prog_1_method_20_code 2 (some FieldType.int) R5 0 [.ref 0, .int p1] (Hb 0 s) (P5 s r) := by
  refine CS.of_wp pn_cls (leb rfl) fun n0 => ?_
  show W5 l Z n0 (P5 s r) 0 0 0 [.val (.ref 0), .val (.int p1)] [] (Hb 0 s)
  unfold f_fieldPolyFor at h
  refine WP.iloadN d5_0 rfl ?_
  rcases ite_e h with ⟨hc1, h⟩ | ⟨hc1, h⟩
  ·
    refine WP.tswIn (o := 35) (pc' := 36) d5_1 (by rw [hc1]; decide) (by rw [hc1]; rfl) (by decide) rfl ?_
    refine WP.bipush (7 : Int32) d5_36 rfl ?_
    cases h
    exact WP.ireturn d5_38 rfl (leb rfl) (leb rfl) ⟨rfl, rfl⟩
  rcases ite_e h with ⟨hc2, h⟩ | ⟨hc2, h⟩
  ·
    refine WP.tswIn (o := 38) (pc' := 39) d5_1 (by rw [hc2]; decide) (by rw [hc2]; rfl) (by decide) rfl ?_
    refine WP.bipush (11 : Int32) d5_39 rfl ?_
    cases h
    exact WP.ireturn d5_41 rfl (leb rfl) (leb rfl) ⟨rfl, rfl⟩
  rcases ite_e h with ⟨hc3, h⟩ | ⟨hc3, h⟩
  ·
    refine WP.tswIn (o := 41) (pc' := 42) d5_1 (by rw [hc3]; decide) (by rw [hc3]; rfl) (by decide) rfl ?_
    refine WP.bipush (19 : Int32) d5_42 rfl ?_
    cases h
    exact WP.ireturn d5_44 rfl (leb rfl) (leb rfl) ⟨rfl, rfl⟩
  rcases ite_e h with ⟨hc4, h⟩ | ⟨hc4, h⟩
  ·
    refine WP.tswIn (o := 44) (pc' := 45) d5_1 (by rw [hc4]; decide) (by rw [hc4]; rfl) (by decide) rfl ?_
    refine WP.bipush (37 : Int32) d5_45 rfl ?_
    cases h
    exact WP.ireturn d5_47 rfl (leb rfl) (leb rfl) ⟨rfl, rfl⟩
  rcases ite_e h with ⟨hc5, h⟩ | ⟨hc5, h⟩
  ·
    refine WP.tswIn (o := 47) (pc' := 48) d5_1 (by rw [hc5]; decide) (by rw [hc5]; rfl) (by decide) rfl ?_
    refine WP.bipush (67 : Int32) d5_48 rfl ?_
    cases h
    exact WP.ireturn d5_50 rfl (leb rfl) (leb rfl) ⟨rfl, rfl⟩
  refine WP.tswOut (pc' := 51) d5_1 (tsw_miss fun z h1 h2 => by
      have hz : z = 2 ∨ z = 3 ∨ z = 4 ∨ z = 5 ∨ z = 6 := by omega
      rcases hz with rfl | rfl | rfl | rfl | rfl
      · exact hc1
      · exact hc2
      · exact hc3
      · exact hc4
      · exact hc5
      ) (by decide) rfl ?_
  refine WP.sipush (285 : Int32) d5_51 rfl ?_
  cases h
  exact WP.ireturn d5_54 rfl (leb rfl) (leb rfl) ⟨rfl, rfl⟩
theorem d4_0 : dc prog_1_method_21_code 0 (.aload_n 0) 1 := by decide +kernel
theorem d4_1 : dc prog_1_method_21_code 1 (.aload_n 0) 1 := by decide +kernel
theorem d4_2 : dc prog_1_method_21_code 2 (.getfield 36) 3 := by decide +kernel
theorem d4_5 : dc prog_1_method_21_code 5 (.invokevirtual 102) 3 := by decide +kernel
theorem d4_8 : dc prog_1_method_21_code 8 (.istore_n 1) 1 := by decide +kernel
theorem d4_9 : dc prog_1_method_21_code 9 (.iconst 1) 1 := by decide +kernel
theorem d4_10 : dc prog_1_method_21_code 10 (.aload_n 0) 1 := by decide +kernel
theorem d4_11 : dc prog_1_method_21_code 11 (.getfield 36) 3 := by decide +kernel
theorem d4_14 : dc prog_1_method_21_code 14 (.ishl) 1 := by decide +kernel
theorem d4_15 : dc prog_1_method_21_code 15 (.istore_n 2) 1 := by decide +kernel
theorem d4_16 : dc prog_1_method_21_code 16 (.iconst 0) 1 := by decide +kernel
theorem d4_17 : dc prog_1_method_21_code 17 (.istore_n 3) 1 := by decide +kernel
theorem d4_18 : dc prog_1_method_21_code 18 (.iload_n 3) 1 := by decide +kernel
theorem d4_19 : dc prog_1_method_21_code 19 (.sipush 256) 3 := by decide +kernel
theorem d4_22 : dc prog_1_method_21_code 22 (.if_icmp .ge 23) 3 := by decide +kernel
theorem d4_25 : dc prog_1_method_21_code 25 (.aload_n 0) 1 := by decide +kernel
theorem d4_26 : dc prog_1_method_21_code 26 (.getfield 7) 3 := by decide +kernel
theorem d4_29 : dc prog_1_method_21_code 29 (.iload_n 3) 1 := by decide +kernel
theorem d4_30 : dc prog_1_method_21_code 30 (.iconst 0) 1 := by decide +kernel
theorem d4_31 : dc prog_1_method_21_code 31 (.iastore) 1 := by decide +kernel
theorem d4_32 : dc prog_1_method_21_code 32 (.aload_n 0) 1 := by decide +kernel
theorem d4_33 : dc prog_1_method_21_code 33 (.getfield 13) 3 := by decide +kernel
theorem d4_36 : dc prog_1_method_21_code 36 (.iload_n 3) 1 := by decide +kernel
theorem d4_37 : dc prog_1_method_21_code 37 (.iconst 0) 1 := by decide +kernel
theorem d4_38 : dc prog_1_method_21_code 38 (.iastore) 1 := by decide +kernel
theorem d4_39 : dc prog_1_method_21_code 39 (.iinc 3 1) 3 := by decide +kernel
theorem d4_42 : dc prog_1_method_21_code 42 (.goto (-24)) 3 := by decide +kernel
theorem d4_45 : dc prog_1_method_21_code 45 (.iconst 1) 1 := by decide +kernel
theorem d4_46 : dc prog_1_method_21_code 46 (.istore_n 3) 1 := by decide +kernel
theorem d4_47 : dc prog_1_method_21_code 47 (.iconst 0) 1 := by decide +kernel
theorem d4_48 : dc prog_1_method_21_code 48 (.istore 4) 2 := by decide +kernel
theorem d4_50 : dc prog_1_method_21_code 50 (.iload 4) 2 := by decide +kernel
theorem d4_52 : dc prog_1_method_21_code 52 (.aload_n 0) 1 := by decide +kernel
theorem d4_53 : dc prog_1_method_21_code 53 (.getfield 90) 3 := by decide +kernel
theorem d4_56 : dc prog_1_method_21_code 56 (.if_icmp .ge 51) 3 := by decide +kernel
theorem d4_59 : dc prog_1_method_21_code 59 (.iload 4) 2 := by decide +kernel
theorem d4_61 : dc prog_1_method_21_code 61 (.sipush 256) 3 := by decide +kernel
theorem d4_64 : dc prog_1_method_21_code 64 (.if_icmp .ge 43) 3 := by decide +kernel
theorem d4_67 : dc prog_1_method_21_code 67 (.aload_n 0) 1 := by decide +kernel
theorem d4_68 : dc prog_1_method_21_code 68 (.getfield 7) 3 := by decide +kernel
theorem d4_71 : dc prog_1_method_21_code 71 (.iload 4) 2 := by decide +kernel
theorem d4_73 : dc prog_1_method_21_code 73 (.iload_n 3) 1 := by decide +kernel
theorem d4_74 : dc prog_1_method_21_code 74 (.iastore) 1 := by decide +kernel
theorem d4_75 : dc prog_1_method_21_code 75 (.aload_n 0) 1 := by decide +kernel
theorem d4_76 : dc prog_1_method_21_code 76 (.getfield 13) 3 := by decide +kernel
theorem d4_79 : dc prog_1_method_21_code 79 (.iload_n 3) 1 := by decide +kernel
theorem d4_80 : dc prog_1_method_21_code 80 (.sipush 255) 3 := by decide +kernel
theorem d4_83 : dc prog_1_method_21_code 83 (.iand) 1 := by decide +kernel
theorem d4_84 : dc prog_1_method_21_code 84 (.iload 4) 2 := by decide +kernel
theorem d4_86 : dc prog_1_method_21_code 86 (.iastore) 1 := by decide +kernel
theorem d4_87 : dc prog_1_method_21_code 87 (.iload_n 3) 1 := by decide +kernel
theorem d4_88 : dc prog_1_method_21_code 88 (.iconst 1) 1 := by decide +kernel
theorem d4_89 : dc prog_1_method_21_code 89 (.ishl) 1 := by decide +kernel
theorem d4_90 : dc prog_1_method_21_code 90 (.istore_n 3) 1 := by decide +kernel
theorem d4_91 : dc prog_1_method_21_code 91 (.iload_n 3) 1 := by decide +kernel
theorem d4_92 : dc prog_1_method_21_code 92 (.iload_n 2) 1 := by decide +kernel
theorem d4_93 : dc prog_1_method_21_code 93 (.iand) 1 := by decide +kernel
theorem d4_94 : dc prog_1_method_21_code 94 (.ifCond .eq 7) 3 := by decide +kernel
theorem d4_97 : dc prog_1_method_21_code 97 (.iload_n 3) 1 := by decide +kernel
theorem d4_98 : dc prog_1_method_21_code 98 (.iload_n 1) 1 := by decide +kernel
theorem d4_99 : dc prog_1_method_21_code 99 (.ixor) 1 := by decide +kernel
theorem d4_100 : dc prog_1_method_21_code 100 (.istore_n 3) 1 := by decide +kernel
theorem d4_101 : dc prog_1_method_21_code 101 (.iinc 4 1) 3 := by decide +kernel
theorem d4_104 : dc prog_1_method_21_code 104 (.goto (-54)) 3 := by decide +kernel
theorem d4_107 : dc prog_1_method_21_code 107 (.return_) 1 := by decide +kernel
abbrev y4 : MethodName := ⟨"CyclicCodeLab", "buildField", "()V"⟩
theorem hy4 : y4.cls ≠ "java/lang/invoke/MethodHandle" ∧ y4.cls ≠ "java/lang/invoke/VarHandle" := by decide
theorem pd4 : parseMethodDescriptor y4.desc = some ⟨[], none⟩ := by decide +kernel
abbrev R4 : Room := { frames := 1, cells := 0, slots := 0, locals := 13 }
abbrev P4 (r : St) : Option Value → List OwnC → Prop := fun v H' => v = none ∧ H' = (Hb 0 r)
abbrev W4 (l : Launch) (Z : State) (n0 : Nat) (Q : Option Value → List OwnC → Prop) (k n pc : Nat) (L : List Slot) (S : List Value) (H : List OwnC) : Prop := WP l Z CN lay "CyclicCodeLab" "buildField" prog_1_method_21_code 5 (none) R4 n0 0 Q k n pc L S H
def f_buildField_101 (k50 : Int32 → Int32 → Int32 → Int32 → St → Option (St)) (n : Nat) (v1 : Int32) (v2 : Int32) (v3 : Int32) (v4 : Int32) (s : St) : Option (St) :=
  lt (v4 + (1 : Int32)) fun x1 =>
  k50 v1 v2 v3 x1 s
set_option maxRecDepth 65536 in
set_option maxHeartbeats 4000000 in
theorem ok4_101 (l : Launch) (Z : State) (a0 : Array Value) (hw : HW a0 Z) (n0 : Nat) (k50 : Int32 → Int32 → Int32 → Int32 → St → Option (St)) (hk50 : ∀ (v1 : Int32) (v2 : Int32) (v3 : Int32) (v4 : Int32) (s : St) (r : St), k50 v1 v2 v3 v4 s = some r → W4 l Z n0 (P4 r) 0 0 50 [.val (.ref 0), .val (.int v1), .val (.int v2), .val (.int v3), .val (.int v4)] [] (Hb 0 s)) (n : Nat) (v1 : Int32) (v2 : Int32) (v3 : Int32) (v4 : Int32) (s : St) (r : St) (h : f_buildField_101 k50 n v1 v2 v3 v4 s = some r) : W4 l Z n0 (P4 r) 0 0 101 [.val (.ref 0), .val (.int v1), .val (.int v2), .val (.int v3), .val (.int v4)] [] (Hb 0 s) := by
  unfold f_buildField_101 at h
  obtain ⟨x1, ex1, h⟩ := lt_e h
  refine WP.iinc (L' := [.val (.ref 0), .val (.int v1), .val (.int v2), .val (.int v3), .val (.int x1)]) (1 : Int32) d4_101 rfl rfl (by subst ex1; rfl) ?_
  refine WP.goto (pc' := 50) d4_104 (by decide) rfl ?_
  exact WP.weak (L' := [.val (.ref 0), .val (.int v1), .val (.int v2), .val (.int v3), .val (.int x1)]) ⟨rfl, rfl, rfl, rfl, rfl, trivial⟩ (hk50 v1 v2 v3 x1 s _ h)
def f_buildField_107 (n : Nat) (s : St) : Option (St) :=
  some s
set_option maxRecDepth 65536 in
set_option maxHeartbeats 4000000 in
theorem ok4_107 (l : Launch) (Z : State) (a0 : Array Value) (hw : HW a0 Z) (n0 : Nat) (n : Nat) (s : St) (r : St) (h : f_buildField_107 n s = some r) : W4 l Z n0 (P4 r) 0 0 107 [.unset, .unset, .unset, .unset, .unset] [] (Hb 0 s) := by
  unfold f_buildField_107 at h
  cases h
  exact WP.vreturn d4_107 rfl (leb rfl) (leb rfl) ⟨rfl, rfl⟩
def g_buildField_50 (k50 : Int32 → Int32 → Int32 → Int32 → St → Option (St)) (n : Nat) (v1 : Int32) (v2 : Int32) (v3 : Int32) (v4 : Int32) (s : St) : Option (St) :=
  if v4 < (gI s 2) then
    if v4 < (256 : Int32) then
      (wrA s 0 v4 v3).bind fun s3 =>
      (wrA s3 1 (v3 &&& (255 : Int32)) v4).bind fun s4 =>
      lt (v3 <<< ((1 : Int32) &&& 31)) fun x5 =>
      if (x5 &&& v2) = 0 then
        f_buildField_101 k50 n v1 v2 x5 v4 s4
      else
        lt (x5 ^^^ v1) fun x7 =>
        f_buildField_101 k50 n v1 v2 x7 v4 s4
    else
      f_buildField_107 n s
  else
    f_buildField_107 n s
set_option maxRecDepth 65536 in
set_option maxHeartbeats 4000000 in
theorem okg4_50 (l : Launch) (Z : State) (a0 : Array Value) (hw : HW a0 Z) (n0 : Nat) (k50 : Int32 → Int32 → Int32 → Int32 → St → Option (St)) (hk50 : ∀ (v1 : Int32) (v2 : Int32) (v3 : Int32) (v4 : Int32) (s : St) (r : St), k50 v1 v2 v3 v4 s = some r → W4 l Z n0 (P4 r) 0 0 50 [.val (.ref 0), .val (.int v1), .val (.int v2), .val (.int v3), .val (.int v4)] [] (Hb 0 s)) (n : Nat) (v1 : Int32) (v2 : Int32) (v3 : Int32) (v4 : Int32) (s : St) (r : St) (h : g_buildField_50 k50 n v1 v2 v3 v4 s = some r) : W4 l Z n0 (P4 r) 0 0 50 [.val (.ref 0), .val (.int v1), .val (.int v2), .val (.int v3), .val (.int v4)] [] (Hb 0 s) := by
  unfold g_buildField_50 at h
  refine WP.iload d4_50 rfl ?_
  refine WP.aloadN d4_52 rfl ?_
  refine WP.getfield (i := 0) (j := 2) d4_53 (hw _ m_34) rfl rfl rfl ?_
  rcases ite_e h with ⟨hc1, h⟩ | ⟨hc1, h⟩
  ·
    refine WP.icmpN d4_56 (XT.ii_ge_f hc1) ?_
    refine WP.iload d4_59 rfl ?_
    refine WP.sipush (256 : Int32) d4_61 rfl ?_
    rcases ite_e h with ⟨hc2, h⟩ | ⟨hc2, h⟩
    ·
      refine WP.icmpN d4_64 (XT.ii_ge_f hc2) ?_
      refine WP.aloadN d4_67 rfl ?_
      refine WP.getfield (i := 0) (j := 8) d4_68 (hw _ m_10) rfl rfl rfl ?_
      refine WP.iload d4_71 rfl ?_
      refine WP.iloadN d4_73 rfl ?_
      obtain ⟨s3, hs3, h⟩ := Option.bind_eq_some_iff.mp h
      obtain ⟨ys3, gs3, es3⟩ := wrA_e hs3
      refine WP.iastore (i := 1) (xs := gA s 0) (H' := (Hb 0 s3)) d4_74 rfl (leb rfl) gs3 (by subst es3; rfl) ?_
      refine WP.aloadN d4_75 rfl ?_
      refine WP.getfield (i := 0) (j := 9) d4_76 (hw _ m_12) rfl rfl rfl ?_
      refine WP.iloadN d4_79 rfl ?_
      refine WP.sipush (255 : Int32) d4_80 rfl ?_
      refine WP.iand d4_83 ?_
      refine WP.iload d4_84 rfl ?_
      obtain ⟨s4, hs4, h⟩ := Option.bind_eq_some_iff.mp h
      obtain ⟨ys4, gs4, es4⟩ := wrA_e hs4
      refine WP.iastore (i := 2) (xs := gA s3 1) (H' := (Hb 0 s4)) d4_86 rfl (leb rfl) gs4 (by subst es4; rfl) ?_
      refine WP.iloadN d4_87 rfl ?_
      refine WP.iconst (1 : Int32) d4_88 rfl ?_
      refine WP.ishl d4_89 ?_
      obtain ⟨x5, ex5, h⟩ := lt_e h
      refine WP.istoreN (L' := [.val (.ref 0), .val (.int v1), .val (.int v2), .val (.int x5), .val (.int v4)]) d4_90 (leb rfl) (by subst ex5; rfl) ?_
      refine WP.iloadN d4_91 rfl ?_
      refine WP.iloadN d4_92 rfl ?_
      refine WP.iand d4_93 ?_
      rcases ite_e h with ⟨hc6, h⟩ | ⟨hc6, h⟩
      ·
        refine WP.ifY (pc' := 101) d4_94 (XT.i0_eq_t hc6) (by decide) rfl ?_
        exact WP.weak (L' := [.val (.ref 0), .val (.int v1), .val (.int v2), .val (.int x5), .val (.int v4)]) ⟨rfl, rfl, rfl, rfl, rfl, trivial⟩ (ok4_101 l Z a0 hw n0 _ hk50 n v1 v2 x5 v4 s4 _ h)
      ·
        refine WP.ifN d4_94 (XT.i0_eq_f hc6) ?_
        refine WP.iloadN d4_97 rfl ?_
        refine WP.iloadN d4_98 rfl ?_
        refine WP.ixor d4_99 ?_
        obtain ⟨x7, ex7, h⟩ := lt_e h
        refine WP.istoreN (L' := [.val (.ref 0), .val (.int v1), .val (.int v2), .val (.int x7), .val (.int v4)]) d4_100 (leb rfl) (by subst ex7; rfl) ?_
        exact WP.weak (L' := [.val (.ref 0), .val (.int v1), .val (.int v2), .val (.int x7), .val (.int v4)]) ⟨rfl, rfl, rfl, rfl, rfl, trivial⟩ (ok4_101 l Z a0 hw n0 _ hk50 n v1 v2 x7 v4 s4 _ h)
    ·
      refine WP.icmpY (pc' := 107) d4_64 (XT.ii_ge_t hc2) (by decide) rfl ?_
      exact WP.weak (L' := [.unset, .unset, .unset, .unset, .unset]) trivial (ok4_107 l Z a0 hw n0 n s _ h)
  ·
    refine WP.icmpY (pc' := 107) d4_56 (XT.ii_ge_t hc1) (by decide) rfl ?_
    exact WP.weak (L' := [.unset, .unset, .unset, .unset, .unset]) trivial (ok4_107 l Z a0 hw n0 n s _ h)
def f_buildField_50 : Nat → Int32 → Int32 → Int32 → Int32 → St → Option (St)
  | 0 => fun _ _ _ _ _ => none
  | n + 1 => g_buildField_50 (f_buildField_50 n) n
theorem ok4_50 (l : Launch) (Z : State) (a0 : Array Value) (hw : HW a0 Z) (n0 : Nat) : ∀ (n : Nat) (v1 : Int32) (v2 : Int32) (v3 : Int32) (v4 : Int32) (s : St) (r : St), f_buildField_50 n v1 v2 v3 v4 s = some r → W4 l Z n0 (P4 r) 0 0 50 [.val (.ref 0), .val (.int v1), .val (.int v2), .val (.int v3), .val (.int v4)] [] (Hb 0 s)
  | 0, v1, v2, v3, v4, s, r, h => nomatch (show none = some r from h)
  | n + 1, v1, v2, v3, v4, s, r, h => okg4_50 l Z a0 hw n0 _ (ok4_50 l Z a0 hw n0 n) n v1 v2 v3 v4 s r h
def g_buildField_18 (k18 : Int32 → Int32 → Int32 → St → Option (St)) (n : Nat) (v1 : Int32) (v2 : Int32) (v3 : Int32) (s : St) : Option (St) :=
  if v3 < (256 : Int32) then
    (wrA s 0 v3 (0 : Int32)).bind fun s2 =>
    (wrA s2 1 v3 (0 : Int32)).bind fun s3 =>
    lt (v3 + (1 : Int32)) fun x4 =>
    k18 v1 v2 x4 s3
  else
    f_buildField_50 n v1 v2 (1 : Int32) (0 : Int32) s
set_option maxRecDepth 65536 in
set_option maxHeartbeats 4000000 in
theorem okg4_18 (l : Launch) (Z : State) (a0 : Array Value) (hw : HW a0 Z) (n0 : Nat) (k18 : Int32 → Int32 → Int32 → St → Option (St)) (hk18 : ∀ (v1 : Int32) (v2 : Int32) (v3 : Int32) (s : St) (r : St), k18 v1 v2 v3 s = some r → W4 l Z n0 (P4 r) 0 0 18 [.val (.ref 0), .val (.int v1), .val (.int v2), .val (.int v3), .unset] [] (Hb 0 s)) (n : Nat) (v1 : Int32) (v2 : Int32) (v3 : Int32) (s : St) (r : St) (h : g_buildField_18 k18 n v1 v2 v3 s = some r) : W4 l Z n0 (P4 r) 0 0 18 [.val (.ref 0), .val (.int v1), .val (.int v2), .val (.int v3), .unset] [] (Hb 0 s) := by
  unfold g_buildField_18 at h
  refine WP.iloadN d4_18 rfl ?_
  refine WP.sipush (256 : Int32) d4_19 rfl ?_
  rcases ite_e h with ⟨hc1, h⟩ | ⟨hc1, h⟩
  ·
    refine WP.icmpN d4_22 (XT.ii_ge_f hc1) ?_
    refine WP.aloadN d4_25 rfl ?_
    refine WP.getfield (i := 0) (j := 8) d4_26 (hw _ m_10) rfl rfl rfl ?_
    refine WP.iloadN d4_29 rfl ?_
    refine WP.iconst (0 : Int32) d4_30 rfl ?_
    obtain ⟨s2, hs2, h⟩ := Option.bind_eq_some_iff.mp h
    obtain ⟨ys2, gs2, es2⟩ := wrA_e hs2
    refine WP.iastore (i := 1) (xs := gA s 0) (H' := (Hb 0 s2)) d4_31 rfl (leb rfl) gs2 (by subst es2; rfl) ?_
    refine WP.aloadN d4_32 rfl ?_
    refine WP.getfield (i := 0) (j := 9) d4_33 (hw _ m_12) rfl rfl rfl ?_
    refine WP.iloadN d4_36 rfl ?_
    refine WP.iconst (0 : Int32) d4_37 rfl ?_
    obtain ⟨s3, hs3, h⟩ := Option.bind_eq_some_iff.mp h
    obtain ⟨ys3, gs3, es3⟩ := wrA_e hs3
    refine WP.iastore (i := 2) (xs := gA s2 1) (H' := (Hb 0 s3)) d4_38 rfl (leb rfl) gs3 (by subst es3; rfl) ?_
    obtain ⟨x4, ex4, h⟩ := lt_e h
    refine WP.iinc (L' := [.val (.ref 0), .val (.int v1), .val (.int v2), .val (.int x4), .unset]) (1 : Int32) d4_39 rfl rfl (by subst ex4; rfl) ?_
    refine WP.goto (pc' := 18) d4_42 (by decide) rfl ?_
    exact WP.weak (L' := [.val (.ref 0), .val (.int v1), .val (.int v2), .val (.int x4), .unset]) ⟨rfl, rfl, rfl, rfl, trivial⟩ (hk18 v1 v2 x4 s3 _ h)
  ·
    refine WP.icmpY (pc' := 45) d4_22 (XT.ii_ge_t hc1) (by decide) rfl ?_
    refine WP.iconst (1 : Int32) d4_45 rfl ?_
    refine WP.istoreN (L' := [.val (.ref 0), .val (.int v1), .val (.int v2), .val (.int (1 : Int32)), .unset]) d4_46 (leb rfl) rfl ?_
    refine WP.iconst (0 : Int32) d4_47 rfl ?_
    refine WP.istore (L' := [.val (.ref 0), .val (.int v1), .val (.int v2), .val (.int (1 : Int32)), .val (.int (0 : Int32))]) d4_48 (leb rfl) rfl ?_
    exact WP.weak (L' := [.val (.ref 0), .val (.int v1), .val (.int v2), .val (.int (1 : Int32)), .val (.int (0 : Int32))]) ⟨rfl, rfl, rfl, rfl, rfl, trivial⟩ (ok4_50 l Z a0 hw n0 n v1 v2 (1 : Int32) (0 : Int32) s _ h)
def f_buildField_18 : Nat → Int32 → Int32 → Int32 → St → Option (St)
  | 0 => fun _ _ _ _ => none
  | n + 1 => g_buildField_18 (f_buildField_18 n) n
theorem ok4_18 (l : Launch) (Z : State) (a0 : Array Value) (hw : HW a0 Z) (n0 : Nat) : ∀ (n : Nat) (v1 : Int32) (v2 : Int32) (v3 : Int32) (s : St) (r : St), f_buildField_18 n v1 v2 v3 s = some r → W4 l Z n0 (P4 r) 0 0 18 [.val (.ref 0), .val (.int v1), .val (.int v2), .val (.int v3), .unset] [] (Hb 0 s)
  | 0, v1, v2, v3, s, r, h => nomatch (show none = some r from h)
  | n + 1, v1, v2, v3, s, r, h => okg4_18 l Z a0 hw n0 _ (ok4_18 l Z a0 hw n0 n) n v1 v2 v3 s r h
def f_buildField (n : Nat) (s : St) : Option (St) :=
  (f_fieldPolyFor (gI s 1) s).bind fun c1 =>
  lt ((1 : Int32) <<< ((gI s 1) &&& 31)) fun x2 =>
  f_buildField_18 n c1 x2 (0 : Int32) s
set_option maxRecDepth 65536 in
set_option maxHeartbeats 4000000 in
theorem ok4 (l : Launch) (Z : State) (a0 : Array Value) (hw : HW a0 Z) (n : Nat) (s : St) (r : St) (h : f_buildField n s = some r) : CS l Z CN lay y4 prog_1_method_21_code 5 (none) R4 0 [.ref 0] (Hb 0 s) (P4 r) := by
  refine CS.of_wp pn_cls (leb rfl) fun n0 => ?_
  show W4 l Z n0 (P4 r) 0 0 0 [.val (.ref 0), .unset, .unset, .unset, .unset] [] (Hb 0 s)
  unfold f_buildField at h
  refine WP.aloadN d4_0 rfl ?_
  refine WP.aloadN d4_1 rfl ?_
  refine WP.getfield (i := 0) (j := 1) d4_2 (hw _ m_32) rfl rfl rfl ?_
  obtain ⟨c1, hc1, h⟩ := Option.bind_eq_some_iff.mp h
  refine WP.callP (i := 0) (y := y5) (as := [.int (gI s 1)]) (S := []) d4_5 (hw _ m_46) (hw _ m_48) (hw _ m_1) (hw _ m_47) (hw _ m_49) (hw _ m_2) hy5 rfl (ok5 l Z a0 hw (gI s 1) s _ hc1) rfl (lenOf pd5 rfl) (leb rfl) (leb rfl) (leb rfl) (leb rfl) ?_
  rintro _ _ ⟨rfl, rfl⟩
  show W4 l Z n0 (P4 r) 0 0 8 [.val (.ref 0), .unset, .unset, .unset, .unset] [.int c1] (Hb 0 s)
  refine WP.istoreN (L' := [.val (.ref 0), .val (.int c1), .unset, .unset, .unset]) d4_8 (leb rfl) rfl ?_
  refine WP.iconst (1 : Int32) d4_9 rfl ?_
  refine WP.aloadN d4_10 rfl ?_
  refine WP.getfield (i := 0) (j := 1) d4_11 (hw _ m_32) rfl rfl rfl ?_
  refine WP.ishl d4_14 ?_
  obtain ⟨x2, ex2, h⟩ := lt_e h
  refine WP.istoreN (L' := [.val (.ref 0), .val (.int c1), .val (.int x2), .unset, .unset]) d4_15 (leb rfl) (by subst ex2; rfl) ?_
  refine WP.iconst (0 : Int32) d4_16 rfl ?_
  refine WP.istoreN (L' := [.val (.ref 0), .val (.int c1), .val (.int x2), .val (.int (0 : Int32)), .unset]) d4_17 (leb rfl) rfl ?_
  exact WP.weak (L' := [.val (.ref 0), .val (.int c1), .val (.int x2), .val (.int (0 : Int32)), .unset]) ⟨rfl, rfl, rfl, rfl, trivial⟩ (ok4_18 l Z a0 hw n0 n c1 x2 (0 : Int32) s _ h)
theorem d7_0 : dc prog_1_method_23_code 0 (.iconst 0) 1 := by decide +kernel
theorem d7_1 : dc prog_1_method_23_code 1 (.istore_n 2) 1 := by decide +kernel
theorem d7_2 : dc prog_1_method_23_code 2 (.iload_n 1) 1 := by decide +kernel
theorem d7_3 : dc prog_1_method_23_code 3 (.istore_n 3) 1 := by decide +kernel
theorem d7_4 : dc prog_1_method_23_code 4 (.iconst 0) 1 := by decide +kernel
theorem d7_5 : dc prog_1_method_23_code 5 (.istore 4) 2 := by decide +kernel
theorem d7_7 : dc prog_1_method_23_code 7 (.iload 4) 2 := by decide +kernel
theorem d7_9 : dc prog_1_method_23_code 9 (.bipush 32) 2 := by decide +kernel
theorem d7_11 : dc prog_1_method_23_code 11 (.if_icmp .ge 32) 3 := by decide +kernel
theorem d7_14 : dc prog_1_method_23_code 14 (.iload_n 2) 1 := by decide +kernel
theorem d7_15 : dc prog_1_method_23_code 15 (.iconst 1) 1 := by decide +kernel
theorem d7_16 : dc prog_1_method_23_code 16 (.iload_n 3) 1 := by decide +kernel
theorem d7_17 : dc prog_1_method_23_code 17 (.ishl) 1 := by decide +kernel
theorem d7_18 : dc prog_1_method_23_code 18 (.ior) 1 := by decide +kernel
theorem d7_19 : dc prog_1_method_23_code 19 (.istore_n 2) 1 := by decide +kernel
theorem d7_20 : dc prog_1_method_23_code 20 (.iload_n 3) 1 := by decide +kernel
theorem d7_21 : dc prog_1_method_23_code 21 (.iconst 2) 1 := by decide +kernel
theorem d7_22 : dc prog_1_method_23_code 22 (.imul) 1 := by decide +kernel
theorem d7_23 : dc prog_1_method_23_code 23 (.aload_n 0) 1 := by decide +kernel
theorem d7_24 : dc prog_1_method_23_code 24 (.getfield 32) 3 := by decide +kernel
theorem d7_27 : dc prog_1_method_23_code 27 (.irem) 1 := by decide +kernel
theorem d7_28 : dc prog_1_method_23_code 28 (.istore_n 3) 1 := by decide +kernel
theorem d7_29 : dc prog_1_method_23_code 29 (.iload_n 3) 1 := by decide +kernel
theorem d7_30 : dc prog_1_method_23_code 30 (.iload_n 1) 1 := by decide +kernel
theorem d7_31 : dc prog_1_method_23_code 31 (.if_icmp .ne 6) 3 := by decide +kernel
theorem d7_34 : dc prog_1_method_23_code 34 (.goto 9) 3 := by decide +kernel
theorem d7_37 : dc prog_1_method_23_code 37 (.iinc 4 1) 3 := by decide +kernel
theorem d7_40 : dc prog_1_method_23_code 40 (.goto (-33)) 3 := by decide +kernel
theorem d7_43 : dc prog_1_method_23_code 43 (.iload_n 2) 1 := by decide +kernel
theorem d7_44 : dc prog_1_method_23_code 44 (.ireturn) 1 := by decide +kernel
abbrev y7 : MethodName := ⟨"CyclicCodeLab", "cosetMaskOf", "(I)I"⟩
theorem hy7 : y7.cls ≠ "java/lang/invoke/MethodHandle" ∧ y7.cls ≠ "java/lang/invoke/VarHandle" := by decide
theorem pd7 : parseMethodDescriptor y7.desc = some ⟨[.int], some .int⟩ := by decide +kernel
abbrev R7 : Room := { frames := 0, cells := 0, slots := 0, locals := 0 }
abbrev P7 (s : St) (r : Int32) : Option Value → List OwnC → Prop := fun v H' => v = some (.int r) ∧ H' = (Hb 0 s)
abbrev W7 (l : Launch) (Z : State) (n0 : Nat) (Q : Option Value → List OwnC → Prop) (k n pc : Nat) (L : List Slot) (S : List Value) (H : List OwnC) : Prop := WP l Z CN lay "CyclicCodeLab" "cosetMaskOf" prog_1_method_23_code 5 (some FieldType.int) R7 n0 0 Q k n pc L S H
def f_cosetMaskOf_43 (n : Nat) (v2 : Int32) (s : St) : Option (Int32) :=
  some v2
set_option maxRecDepth 65536 in
set_option maxHeartbeats 4000000 in
theorem ok7_43 (l : Launch) (Z : State) (a0 : Array Value) (hw : HW a0 Z) (n0 : Nat) (n : Nat) (v2 : Int32) (s : St) (r : Int32) (h : f_cosetMaskOf_43 n v2 s = some r) : W7 l Z n0 (P7 s r) 0 0 43 [.unset, .unset, .val (.int v2), .unset, .unset] [] (Hb 0 s) := by
  unfold f_cosetMaskOf_43 at h
  refine WP.iloadN d7_43 rfl ?_
  cases h
  exact WP.ireturn d7_44 rfl (leb rfl) (leb rfl) ⟨rfl, rfl⟩
def g_cosetMaskOf_7 (k7 : Int32 → Int32 → Int32 → Int32 → St → Option (Int32)) (n : Nat) (v1 : Int32) (v2 : Int32) (v3 : Int32) (v4 : Int32) (s : St) : Option (Int32) :=
  if v4 < (32 : Int32) then
    lt (v2 ||| ((1 : Int32) <<< (v3 &&& 31))) fun x2 =>
    if gI s 0 = 0 then none else
    lt ((v3 * (2 : Int32)) % (gI s 0)) fun x4 =>
    if x4 = v1 then
      f_cosetMaskOf_43 n x2 s
    else
      lt (v4 + (1 : Int32)) fun x6 =>
      k7 v1 x2 x4 x6 s
  else
    f_cosetMaskOf_43 n v2 s
set_option maxRecDepth 65536 in
set_option maxHeartbeats 4000000 in
theorem okg7_7 (l : Launch) (Z : State) (a0 : Array Value) (hw : HW a0 Z) (n0 : Nat) (k7 : Int32 → Int32 → Int32 → Int32 → St → Option (Int32)) (hk7 : ∀ (v1 : Int32) (v2 : Int32) (v3 : Int32) (v4 : Int32) (s : St) (r : Int32), k7 v1 v2 v3 v4 s = some r → W7 l Z n0 (P7 s r) 0 0 7 [.val (.ref 0), .val (.int v1), .val (.int v2), .val (.int v3), .val (.int v4)] [] (Hb 0 s)) (n : Nat) (v1 : Int32) (v2 : Int32) (v3 : Int32) (v4 : Int32) (s : St) (r : Int32) (h : g_cosetMaskOf_7 k7 n v1 v2 v3 v4 s = some r) : W7 l Z n0 (P7 s r) 0 0 7 [.val (.ref 0), .val (.int v1), .val (.int v2), .val (.int v3), .val (.int v4)] [] (Hb 0 s) := by
  unfold g_cosetMaskOf_7 at h
  refine WP.iload d7_7 rfl ?_
  refine WP.bipush (32 : Int32) d7_9 rfl ?_
  rcases ite_e h with ⟨hc1, h⟩ | ⟨hc1, h⟩
  ·
    refine WP.icmpN d7_11 (XT.ii_ge_f hc1) ?_
    refine WP.iloadN d7_14 rfl ?_
    refine WP.iconst (1 : Int32) d7_15 rfl ?_
    refine WP.iloadN d7_16 rfl ?_
    refine WP.ishl d7_17 ?_
    refine WP.ior d7_18 ?_
    obtain ⟨x2, ex2, h⟩ := lt_e h
    refine WP.istoreN (L' := [.val (.ref 0), .val (.int v1), .val (.int x2), .val (.int v3), .val (.int v4)]) d7_19 (leb rfl) (by subst ex2; rfl) ?_
    refine WP.iloadN d7_20 rfl ?_
    refine WP.iconst (2 : Int32) d7_21 rfl ?_
    refine WP.imul d7_22 ?_
    refine WP.aloadN d7_23 rfl ?_
    refine WP.getfield (i := 0) (j := 0) d7_24 (hw _ m_30) rfl rfl rfl ?_
    obtain ⟨hz3, h⟩ := nz_e h
    refine WP.irem d7_27 hz3 ?_
    obtain ⟨x4, ex4, h⟩ := lt_e h
    refine WP.istoreN (L' := [.val (.ref 0), .val (.int v1), .val (.int x2), .val (.int x4), .val (.int v4)]) d7_28 (leb rfl) (by subst ex4; rfl) ?_
    refine WP.iloadN d7_29 rfl ?_
    refine WP.iloadN d7_30 rfl ?_
    rcases ite_e h with ⟨hc5, h⟩ | ⟨hc5, h⟩
    ·
      refine WP.icmpN d7_31 (XT.ii_ne_f hc5) ?_
      refine WP.goto (pc' := 43) d7_34 (by decide) rfl ?_
      exact WP.weak (L' := [.unset, .unset, .val (.int x2), .unset, .unset]) ⟨rfl, trivial⟩ (ok7_43 l Z a0 hw n0 n x2 s _ h)
    ·
      refine WP.icmpY (pc' := 37) d7_31 (XT.ii_ne_t hc5) (by decide) rfl ?_
      obtain ⟨x6, ex6, h⟩ := lt_e h
      refine WP.iinc (L' := [.val (.ref 0), .val (.int v1), .val (.int x2), .val (.int x4), .val (.int x6)]) (1 : Int32) d7_37 rfl rfl (by subst ex6; rfl) ?_
      refine WP.goto (pc' := 7) d7_40 (by decide) rfl ?_
      exact WP.weak (L' := [.val (.ref 0), .val (.int v1), .val (.int x2), .val (.int x4), .val (.int x6)]) ⟨rfl, rfl, rfl, rfl, rfl, trivial⟩ (hk7 v1 x2 x4 x6 s _ h)
  ·
    refine WP.icmpY (pc' := 43) d7_11 (XT.ii_ge_t hc1) (by decide) rfl ?_
    exact WP.weak (L' := [.unset, .unset, .val (.int v2), .unset, .unset]) ⟨rfl, trivial⟩ (ok7_43 l Z a0 hw n0 n v2 s _ h)
def f_cosetMaskOf_7 : Nat → Int32 → Int32 → Int32 → Int32 → St → Option (Int32)
  | 0 => fun _ _ _ _ _ => none
  | n + 1 => g_cosetMaskOf_7 (f_cosetMaskOf_7 n) n
theorem ok7_7 (l : Launch) (Z : State) (a0 : Array Value) (hw : HW a0 Z) (n0 : Nat) : ∀ (n : Nat) (v1 : Int32) (v2 : Int32) (v3 : Int32) (v4 : Int32) (s : St) (r : Int32), f_cosetMaskOf_7 n v1 v2 v3 v4 s = some r → W7 l Z n0 (P7 s r) 0 0 7 [.val (.ref 0), .val (.int v1), .val (.int v2), .val (.int v3), .val (.int v4)] [] (Hb 0 s)
  | 0, v1, v2, v3, v4, s, r, h => nomatch (show none = some r from h)
  | n + 1, v1, v2, v3, v4, s, r, h => okg7_7 l Z a0 hw n0 _ (ok7_7 l Z a0 hw n0 n) n v1 v2 v3 v4 s r h
def f_cosetMaskOf (n : Nat) (p1 : Int32) (s : St) : Option (Int32) :=
  f_cosetMaskOf_7 n p1 (0 : Int32) p1 (0 : Int32) s
set_option maxRecDepth 65536 in
set_option maxHeartbeats 4000000 in
theorem ok7 (l : Launch) (Z : State) (a0 : Array Value) (hw : HW a0 Z) (n : Nat) (p1 : Int32) (s : St) (r : Int32) (h : f_cosetMaskOf n p1 s = some r) : CS l Z CN lay y7 prog_1_method_23_code 5 (some FieldType.int) R7 0 [.ref 0, .int p1] (Hb 0 s) (P7 s r) := by
  refine CS.of_wp pn_cls (leb rfl) fun n0 => ?_
  show W7 l Z n0 (P7 s r) 0 0 0 [.val (.ref 0), .val (.int p1), .unset, .unset, .unset] [] (Hb 0 s)
  unfold f_cosetMaskOf at h
  refine WP.iconst (0 : Int32) d7_0 rfl ?_
  refine WP.istoreN (L' := [.val (.ref 0), .val (.int p1), .val (.int (0 : Int32)), .unset, .unset]) d7_1 (leb rfl) rfl ?_
  refine WP.iloadN d7_2 rfl ?_
  refine WP.istoreN (L' := [.val (.ref 0), .val (.int p1), .val (.int (0 : Int32)), .val (.int p1), .unset]) d7_3 (leb rfl) rfl ?_
  refine WP.iconst (0 : Int32) d7_4 rfl ?_
  refine WP.istore (L' := [.val (.ref 0), .val (.int p1), .val (.int (0 : Int32)), .val (.int p1), .val (.int (0 : Int32))]) d7_5 (leb rfl) rfl ?_
  exact WP.weak (L' := [.val (.ref 0), .val (.int p1), .val (.int (0 : Int32)), .val (.int p1), .val (.int (0 : Int32))]) ⟨rfl, rfl, rfl, rfl, rfl, trivial⟩ (ok7_7 l Z a0 hw n0 n p1 (0 : Int32) p1 (0 : Int32) s _ h)
theorem d8_0 : dc prog_1_method_41_code 0 (.iconst 0) 1 := by decide +kernel
theorem d8_1 : dc prog_1_method_41_code 1 (.istore_n 2) 1 := by decide +kernel
theorem d8_2 : dc prog_1_method_41_code 2 (.iload_n 2) 1 := by decide +kernel
theorem d8_3 : dc prog_1_method_41_code 3 (.bipush 32) 2 := by decide +kernel
theorem d8_5 : dc prog_1_method_41_code 5 (.if_icmp .ge 19) 3 := by decide +kernel
theorem d8_8 : dc prog_1_method_41_code 8 (.iload_n 1) 1 := by decide +kernel
theorem d8_9 : dc prog_1_method_41_code 9 (.iload_n 2) 1 := by decide +kernel
theorem d8_10 : dc prog_1_method_41_code 10 (.iushr) 1 := by decide +kernel
theorem d8_11 : dc prog_1_method_41_code 11 (.iconst 1) 1 := by decide +kernel
theorem d8_12 : dc prog_1_method_41_code 12 (.iand) 1 := by decide +kernel
theorem d8_13 : dc prog_1_method_41_code 13 (.ifCond .eq 5) 3 := by decide +kernel
theorem d8_16 : dc prog_1_method_41_code 16 (.iload_n 2) 1 := by decide +kernel
theorem d8_17 : dc prog_1_method_41_code 17 (.ireturn) 1 := by decide +kernel
theorem d8_18 : dc prog_1_method_41_code 18 (.iinc 2 1) 3 := by decide +kernel
theorem d8_21 : dc prog_1_method_41_code 21 (.goto (-19)) 3 := by decide +kernel
theorem d8_24 : dc prog_1_method_41_code 24 (.iconst 0) 1 := by decide +kernel
theorem d8_25 : dc prog_1_method_41_code 25 (.ireturn) 1 := by decide +kernel
abbrev y8 : MethodName := ⟨"CyclicCodeLab", "lowestBit", "(I)I"⟩
theorem hy8 : y8.cls ≠ "java/lang/invoke/MethodHandle" ∧ y8.cls ≠ "java/lang/invoke/VarHandle" := by decide
theorem pd8 : parseMethodDescriptor y8.desc = some ⟨[.int], some .int⟩ := by decide +kernel
abbrev R8 : Room := { frames := 0, cells := 0, slots := 0, locals := 0 }
abbrev P8 (s : St) (r : Int32) : Option Value → List OwnC → Prop := fun v H' => v = some (.int r) ∧ H' = (Hb 0 s)
abbrev W8 (l : Launch) (Z : State) (n0 : Nat) (Q : Option Value → List OwnC → Prop) (k n pc : Nat) (L : List Slot) (S : List Value) (H : List OwnC) : Prop := WP l Z CN lay "CyclicCodeLab" "lowestBit" prog_1_method_41_code 3 (some FieldType.int) R8 n0 0 Q k n pc L S H
def g_lowestBit_2 (k2 : Int32 → Int32 → St → Option (Int32)) (n : Nat) (v1 : Int32) (v2 : Int32) (s : St) : Option (Int32) :=
  if v2 < (32 : Int32) then
    if ((XT.ushr v1 v2) &&& (1 : Int32)) = 0 then
      lt (v2 + (1 : Int32)) fun x3 =>
      k2 v1 x3 s
    else
      some v2
  else
    some (0 : Int32)
set_option maxRecDepth 65536 in
set_option maxHeartbeats 4000000 in
theorem okg8_2 (l : Launch) (Z : State) (a0 : Array Value) (hw : HW a0 Z) (n0 : Nat) (k2 : Int32 → Int32 → St → Option (Int32)) (hk2 : ∀ (v1 : Int32) (v2 : Int32) (s : St) (r : Int32), k2 v1 v2 s = some r → W8 l Z n0 (P8 s r) 0 0 2 [.unset, .val (.int v1), .val (.int v2)] [] (Hb 0 s)) (n : Nat) (v1 : Int32) (v2 : Int32) (s : St) (r : Int32) (h : g_lowestBit_2 k2 n v1 v2 s = some r) : W8 l Z n0 (P8 s r) 0 0 2 [.unset, .val (.int v1), .val (.int v2)] [] (Hb 0 s) := by
  unfold g_lowestBit_2 at h
  refine WP.iloadN d8_2 rfl ?_
  refine WP.bipush (32 : Int32) d8_3 rfl ?_
  rcases ite_e h with ⟨hc1, h⟩ | ⟨hc1, h⟩
  ·
    refine WP.icmpN d8_5 (XT.ii_ge_f hc1) ?_
    refine WP.iloadN d8_8 rfl ?_
    refine WP.iloadN d8_9 rfl ?_
    refine WP.iushr d8_10 ?_
    refine WP.iconst (1 : Int32) d8_11 rfl ?_
    refine WP.iand d8_12 ?_
    rcases ite_e h with ⟨hc2, h⟩ | ⟨hc2, h⟩
    ·
      refine WP.ifY (pc' := 18) d8_13 (XT.i0_eq_t hc2) (by decide) rfl ?_
      obtain ⟨x3, ex3, h⟩ := lt_e h
      refine WP.iinc (L' := [.unset, .val (.int v1), .val (.int x3)]) (1 : Int32) d8_18 rfl rfl (by subst ex3; rfl) ?_
      refine WP.goto (pc' := 2) d8_21 (by decide) rfl ?_
      exact WP.weak (L' := [.unset, .val (.int v1), .val (.int x3)]) ⟨rfl, rfl, trivial⟩ (hk2 v1 x3 s _ h)
    ·
      refine WP.ifN d8_13 (XT.i0_eq_f hc2) ?_
      refine WP.iloadN d8_16 rfl ?_
      cases h
      exact WP.ireturn d8_17 rfl (leb rfl) (leb rfl) ⟨rfl, rfl⟩
  ·
    refine WP.icmpY (pc' := 24) d8_5 (XT.ii_ge_t hc1) (by decide) rfl ?_
    refine WP.iconst (0 : Int32) d8_24 rfl ?_
    cases h
    exact WP.ireturn d8_25 rfl (leb rfl) (leb rfl) ⟨rfl, rfl⟩
def f_lowestBit_2 : Nat → Int32 → Int32 → St → Option (Int32)
  | 0 => fun _ _ _ => none
  | n + 1 => g_lowestBit_2 (f_lowestBit_2 n) n
theorem ok8_2 (l : Launch) (Z : State) (a0 : Array Value) (hw : HW a0 Z) (n0 : Nat) : ∀ (n : Nat) (v1 : Int32) (v2 : Int32) (s : St) (r : Int32), f_lowestBit_2 n v1 v2 s = some r → W8 l Z n0 (P8 s r) 0 0 2 [.unset, .val (.int v1), .val (.int v2)] [] (Hb 0 s)
  | 0, v1, v2, s, r, h => nomatch (show none = some r from h)
  | n + 1, v1, v2, s, r, h => okg8_2 l Z a0 hw n0 _ (ok8_2 l Z a0 hw n0 n) n v1 v2 s r h
def f_lowestBit (n : Nat) (p1 : Int32) (s : St) : Option (Int32) :=
  f_lowestBit_2 n p1 (0 : Int32) s
set_option maxRecDepth 65536 in
set_option maxHeartbeats 4000000 in
theorem ok8 (l : Launch) (Z : State) (a0 : Array Value) (hw : HW a0 Z) (n : Nat) (p1 : Int32) (s : St) (r : Int32) (h : f_lowestBit n p1 s = some r) : CS l Z CN lay y8 prog_1_method_41_code 3 (some FieldType.int) R8 0 [.ref 0, .int p1] (Hb 0 s) (P8 s r) := by
  refine CS.of_wp pn_cls (leb rfl) fun n0 => ?_
  show W8 l Z n0 (P8 s r) 0 0 0 [.val (.ref 0), .val (.int p1), .unset] [] (Hb 0 s)
  unfold f_lowestBit at h
  refine WP.iconst (0 : Int32) d8_0 rfl ?_
  refine WP.istoreN (L' := [.val (.ref 0), .val (.int p1), .val (.int (0 : Int32))]) d8_1 (leb rfl) rfl ?_
  exact WP.weak (L' := [.unset, .val (.int p1), .val (.int (0 : Int32))]) ⟨rfl, rfl, trivial⟩ (ok8_2 l Z a0 hw n0 n p1 (0 : Int32) s _ h)
theorem d6_0 : dc prog_1_method_22_code 0 (.iconst 0) 1 := by decide +kernel
theorem d6_1 : dc prog_1_method_22_code 1 (.istore_n 1) 1 := by decide +kernel
theorem d6_2 : dc prog_1_method_22_code 2 (.iload_n 1) 1 := by decide +kernel
theorem d6_3 : dc prog_1_method_22_code 3 (.bipush 32) 2 := by decide +kernel
theorem d6_5 : dc prog_1_method_22_code 5 (.if_icmp .ge 23) 3 := by decide +kernel
theorem d6_8 : dc prog_1_method_22_code 8 (.aload_n 0) 1 := by decide +kernel
theorem d6_9 : dc prog_1_method_22_code 9 (.getfield 16) 3 := by decide +kernel
theorem d6_12 : dc prog_1_method_22_code 12 (.iload_n 1) 1 := by decide +kernel
theorem d6_13 : dc prog_1_method_22_code 13 (.iconst 0) 1 := by decide +kernel
theorem d6_14 : dc prog_1_method_22_code 14 (.iastore) 1 := by decide +kernel
theorem d6_15 : dc prog_1_method_22_code 15 (.aload_n 0) 1 := by decide +kernel
theorem d6_16 : dc prog_1_method_22_code 16 (.getfield 19) 3 := by decide +kernel
theorem d6_19 : dc prog_1_method_22_code 19 (.iload_n 1) 1 := by decide +kernel
theorem d6_20 : dc prog_1_method_22_code 20 (.iconst 0) 1 := by decide +kernel
theorem d6_21 : dc prog_1_method_22_code 21 (.iastore) 1 := by decide +kernel
theorem d6_22 : dc prog_1_method_22_code 22 (.iinc 1 1) 3 := by decide +kernel
theorem d6_25 : dc prog_1_method_22_code 25 (.goto (-23)) 3 := by decide +kernel
theorem d6_28 : dc prog_1_method_22_code 28 (.iconst 0) 1 := by decide +kernel
theorem d6_29 : dc prog_1_method_22_code 29 (.istore_n 1) 1 := by decide +kernel
theorem d6_30 : dc prog_1_method_22_code 30 (.iload_n 1) 1 := by decide +kernel
theorem d6_31 : dc prog_1_method_22_code 31 (.aload_n 0) 1 := by decide +kernel
theorem d6_32 : dc prog_1_method_22_code 32 (.getfield 32) 3 := by decide +kernel
theorem d6_35 : dc prog_1_method_22_code 35 (.if_icmp .ge 33) 3 := by decide +kernel
theorem d6_38 : dc prog_1_method_22_code 38 (.aload_n 0) 1 := by decide +kernel
theorem d6_39 : dc prog_1_method_22_code 39 (.iload_n 1) 1 := by decide +kernel
theorem d6_40 : dc prog_1_method_22_code 40 (.invokevirtual 105) 3 := by decide +kernel
theorem d6_43 : dc prog_1_method_22_code 43 (.istore_n 2) 1 := by decide +kernel
theorem d6_44 : dc prog_1_method_22_code 44 (.aload_n 0) 1 := by decide +kernel
theorem d6_45 : dc prog_1_method_22_code 45 (.getfield 16) 3 := by decide +kernel
theorem d6_48 : dc prog_1_method_22_code 48 (.iload_n 1) 1 := by decide +kernel
theorem d6_49 : dc prog_1_method_22_code 49 (.iload_n 2) 1 := by decide +kernel
theorem d6_50 : dc prog_1_method_22_code 50 (.iastore) 1 := by decide +kernel
theorem d6_51 : dc prog_1_method_22_code 51 (.aload_n 0) 1 := by decide +kernel
theorem d6_52 : dc prog_1_method_22_code 52 (.getfield 19) 3 := by decide +kernel
theorem d6_55 : dc prog_1_method_22_code 55 (.iload_n 1) 1 := by decide +kernel
theorem d6_56 : dc prog_1_method_22_code 56 (.aload_n 0) 1 := by decide +kernel
theorem d6_57 : dc prog_1_method_22_code 57 (.iload_n 2) 1 := by decide +kernel
theorem d6_58 : dc prog_1_method_22_code 58 (.invokevirtual 108) 3 := by decide +kernel
theorem d6_61 : dc prog_1_method_22_code 61 (.iastore) 1 := by decide +kernel
theorem d6_62 : dc prog_1_method_22_code 62 (.iinc 1 1) 3 := by decide +kernel
theorem d6_65 : dc prog_1_method_22_code 65 (.goto (-35)) 3 := by decide +kernel
theorem d6_68 : dc prog_1_method_22_code 68 (.return_) 1 := by decide +kernel
abbrev y6 : MethodName := ⟨"CyclicCodeLab", "buildCosets", "()V"⟩
theorem hy6 : y6.cls ≠ "java/lang/invoke/MethodHandle" ∧ y6.cls ≠ "java/lang/invoke/VarHandle" := by decide
theorem pd6 : parseMethodDescriptor y6.desc = some ⟨[], none⟩ := by decide +kernel
abbrev R6 : Room := { frames := 1, cells := 0, slots := 0, locals := 16 }
abbrev P6 (r : St) : Option Value → List OwnC → Prop := fun v H' => v = none ∧ H' = (Hb 0 r)
abbrev W6 (l : Launch) (Z : State) (n0 : Nat) (Q : Option Value → List OwnC → Prop) (k n pc : Nat) (L : List Slot) (S : List Value) (H : List OwnC) : Prop := WP l Z CN lay "CyclicCodeLab" "buildCosets" prog_1_method_22_code 3 (none) R6 n0 0 Q k n pc L S H
def g_buildCosets_30 (k30 : Int32 → St → Option (St)) (n : Nat) (v1 : Int32) (s : St) : Option (St) :=
  if v1 < (gI s 0) then
    (f_cosetMaskOf n v1 s).bind fun c2 =>
    (wrA s 2 v1 c2).bind fun s3 =>
    (f_lowestBit n c2 s3).bind fun c4 =>
    (wrA s3 3 v1 c4).bind fun s5 =>
    lt (v1 + (1 : Int32)) fun x6 =>
    k30 x6 s5
  else
    some s
set_option maxRecDepth 65536 in
set_option maxHeartbeats 4000000 in
theorem okg6_30 (l : Launch) (Z : State) (a0 : Array Value) (hw : HW a0 Z) (n0 : Nat) (k30 : Int32 → St → Option (St)) (hk30 : ∀ (v1 : Int32) (s : St) (r : St), k30 v1 s = some r → W6 l Z n0 (P6 r) 0 0 30 [.val (.ref 0), .val (.int v1), .unset] [] (Hb 0 s)) (n : Nat) (v1 : Int32) (s : St) (r : St) (h : g_buildCosets_30 k30 n v1 s = some r) : W6 l Z n0 (P6 r) 0 0 30 [.val (.ref 0), .val (.int v1), .unset] [] (Hb 0 s) := by
  unfold g_buildCosets_30 at h
  refine WP.iloadN d6_30 rfl ?_
  refine WP.aloadN d6_31 rfl ?_
  refine WP.getfield (i := 0) (j := 0) d6_32 (hw _ m_30) rfl rfl rfl ?_
  rcases ite_e h with ⟨hc1, h⟩ | ⟨hc1, h⟩
  ·
    refine WP.icmpN d6_35 (XT.ii_ge_f hc1) ?_
    refine WP.aloadN d6_38 rfl ?_
    refine WP.iloadN d6_39 rfl ?_
    obtain ⟨c2, hc2, h⟩ := Option.bind_eq_some_iff.mp h
    refine WP.callP (i := 0) (y := y7) (as := [.int v1]) (S := []) d6_40 (hw _ m_54) (hw _ m_56) (hw _ m_1) (hw _ m_55) (hw _ m_57) (hw _ m_2) hy7 rfl (ok7 l Z a0 hw n v1 s _ hc2) rfl (lenOf pd7 rfl) (leb rfl) (leb rfl) (leb rfl) (leb rfl) ?_
    rintro _ _ ⟨rfl, rfl⟩
    show W6 l Z n0 (P6 r) 0 0 43 [.val (.ref 0), .val (.int v1), .unset] [.int c2] (Hb 0 s)
    refine WP.istoreN (L' := [.val (.ref 0), .val (.int v1), .val (.int c2)]) d6_43 (leb rfl) rfl ?_
    refine WP.aloadN d6_44 rfl ?_
    refine WP.getfield (i := 0) (j := 10) d6_45 (hw _ m_14) rfl rfl rfl ?_
    refine WP.iloadN d6_48 rfl ?_
    refine WP.iloadN d6_49 rfl ?_
    obtain ⟨s3, hs3, h⟩ := Option.bind_eq_some_iff.mp h
    obtain ⟨ys3, gs3, es3⟩ := wrA_e hs3
    refine WP.iastore (i := 3) (xs := gA s 2) (H' := (Hb 0 s3)) d6_50 rfl (leb rfl) gs3 (by subst es3; rfl) ?_
    refine WP.aloadN d6_51 rfl ?_
    refine WP.getfield (i := 0) (j := 11) d6_52 (hw _ m_16) rfl rfl rfl ?_
    refine WP.iloadN d6_55 rfl ?_
    refine WP.aloadN d6_56 rfl ?_
    refine WP.iloadN d6_57 rfl ?_
    obtain ⟨c4, hc4, h⟩ := Option.bind_eq_some_iff.mp h
    refine WP.callP (i := 0) (y := y8) (as := [.int c2]) (S := [.int v1, .ref 4]) d6_58 (hw _ m_58) (hw _ m_60) (hw _ m_1) (hw _ m_59) (hw _ m_61) (hw _ m_2) hy8 rfl (ok8 l Z a0 hw n c2 s3 _ hc4) rfl (lenOf pd8 rfl) (leb rfl) (leb rfl) (leb rfl) (leb rfl) ?_
    rintro _ _ ⟨rfl, rfl⟩
    show W6 l Z n0 (P6 r) 0 0 61 [.val (.ref 0), .val (.int v1), .val (.int c2)] [.int c4, .int v1, .ref 4] (Hb 0 s3)
    obtain ⟨s5, hs5, h⟩ := Option.bind_eq_some_iff.mp h
    obtain ⟨ys5, gs5, es5⟩ := wrA_e hs5
    refine WP.iastore (i := 4) (xs := gA s3 3) (H' := (Hb 0 s5)) d6_61 rfl (leb rfl) gs5 (by subst es5; rfl) ?_
    obtain ⟨x6, ex6, h⟩ := lt_e h
    refine WP.iinc (L' := [.val (.ref 0), .val (.int x6), .val (.int c2)]) (1 : Int32) d6_62 rfl rfl (by subst ex6; rfl) ?_
    refine WP.goto (pc' := 30) d6_65 (by decide) rfl ?_
    exact WP.weak (L' := [.val (.ref 0), .val (.int x6), .unset]) ⟨rfl, rfl, trivial⟩ (hk30 x6 s5 _ h)
  ·
    refine WP.icmpY (pc' := 68) d6_35 (XT.ii_ge_t hc1) (by decide) rfl ?_
    cases h
    exact WP.vreturn d6_68 rfl (leb rfl) (leb rfl) ⟨rfl, rfl⟩
def f_buildCosets_30 : Nat → Int32 → St → Option (St)
  | 0 => fun _ _ => none
  | n + 1 => g_buildCosets_30 (f_buildCosets_30 n) n
theorem ok6_30 (l : Launch) (Z : State) (a0 : Array Value) (hw : HW a0 Z) (n0 : Nat) : ∀ (n : Nat) (v1 : Int32) (s : St) (r : St), f_buildCosets_30 n v1 s = some r → W6 l Z n0 (P6 r) 0 0 30 [.val (.ref 0), .val (.int v1), .unset] [] (Hb 0 s)
  | 0, v1, s, r, h => nomatch (show none = some r from h)
  | n + 1, v1, s, r, h => okg6_30 l Z a0 hw n0 _ (ok6_30 l Z a0 hw n0 n) n v1 s r h
def g_buildCosets_2 (k2 : Int32 → St → Option (St)) (n : Nat) (v1 : Int32) (s : St) : Option (St) :=
  if v1 < (32 : Int32) then
    (wrA s 2 v1 (0 : Int32)).bind fun s2 =>
    (wrA s2 3 v1 (0 : Int32)).bind fun s3 =>
    lt (v1 + (1 : Int32)) fun x4 =>
    k2 x4 s3
  else
    f_buildCosets_30 n (0 : Int32) s
set_option maxRecDepth 65536 in
set_option maxHeartbeats 4000000 in
theorem okg6_2 (l : Launch) (Z : State) (a0 : Array Value) (hw : HW a0 Z) (n0 : Nat) (k2 : Int32 → St → Option (St)) (hk2 : ∀ (v1 : Int32) (s : St) (r : St), k2 v1 s = some r → W6 l Z n0 (P6 r) 0 0 2 [.val (.ref 0), .val (.int v1), .unset] [] (Hb 0 s)) (n : Nat) (v1 : Int32) (s : St) (r : St) (h : g_buildCosets_2 k2 n v1 s = some r) : W6 l Z n0 (P6 r) 0 0 2 [.val (.ref 0), .val (.int v1), .unset] [] (Hb 0 s) := by
  unfold g_buildCosets_2 at h
  refine WP.iloadN d6_2 rfl ?_
  refine WP.bipush (32 : Int32) d6_3 rfl ?_
  rcases ite_e h with ⟨hc1, h⟩ | ⟨hc1, h⟩
  ·
    refine WP.icmpN d6_5 (XT.ii_ge_f hc1) ?_
    refine WP.aloadN d6_8 rfl ?_
    refine WP.getfield (i := 0) (j := 10) d6_9 (hw _ m_14) rfl rfl rfl ?_
    refine WP.iloadN d6_12 rfl ?_
    refine WP.iconst (0 : Int32) d6_13 rfl ?_
    obtain ⟨s2, hs2, h⟩ := Option.bind_eq_some_iff.mp h
    obtain ⟨ys2, gs2, es2⟩ := wrA_e hs2
    refine WP.iastore (i := 3) (xs := gA s 2) (H' := (Hb 0 s2)) d6_14 rfl (leb rfl) gs2 (by subst es2; rfl) ?_
    refine WP.aloadN d6_15 rfl ?_
    refine WP.getfield (i := 0) (j := 11) d6_16 (hw _ m_16) rfl rfl rfl ?_
    refine WP.iloadN d6_19 rfl ?_
    refine WP.iconst (0 : Int32) d6_20 rfl ?_
    obtain ⟨s3, hs3, h⟩ := Option.bind_eq_some_iff.mp h
    obtain ⟨ys3, gs3, es3⟩ := wrA_e hs3
    refine WP.iastore (i := 4) (xs := gA s2 3) (H' := (Hb 0 s3)) d6_21 rfl (leb rfl) gs3 (by subst es3; rfl) ?_
    obtain ⟨x4, ex4, h⟩ := lt_e h
    refine WP.iinc (L' := [.val (.ref 0), .val (.int x4), .unset]) (1 : Int32) d6_22 rfl rfl (by subst ex4; rfl) ?_
    refine WP.goto (pc' := 2) d6_25 (by decide) rfl ?_
    exact WP.weak (L' := [.val (.ref 0), .val (.int x4), .unset]) ⟨rfl, rfl, trivial⟩ (hk2 x4 s3 _ h)
  ·
    refine WP.icmpY (pc' := 28) d6_5 (XT.ii_ge_t hc1) (by decide) rfl ?_
    refine WP.iconst (0 : Int32) d6_28 rfl ?_
    refine WP.istoreN (L' := [.val (.ref 0), .val (.int (0 : Int32)), .unset]) d6_29 (leb rfl) rfl ?_
    exact WP.weak (L' := [.val (.ref 0), .val (.int (0 : Int32)), .unset]) ⟨rfl, rfl, trivial⟩ (ok6_30 l Z a0 hw n0 n (0 : Int32) s _ h)
def f_buildCosets_2 : Nat → Int32 → St → Option (St)
  | 0 => fun _ _ => none
  | n + 1 => g_buildCosets_2 (f_buildCosets_2 n) n
theorem ok6_2 (l : Launch) (Z : State) (a0 : Array Value) (hw : HW a0 Z) (n0 : Nat) : ∀ (n : Nat) (v1 : Int32) (s : St) (r : St), f_buildCosets_2 n v1 s = some r → W6 l Z n0 (P6 r) 0 0 2 [.val (.ref 0), .val (.int v1), .unset] [] (Hb 0 s)
  | 0, v1, s, r, h => nomatch (show none = some r from h)
  | n + 1, v1, s, r, h => okg6_2 l Z a0 hw n0 _ (ok6_2 l Z a0 hw n0 n) n v1 s r h
def f_buildCosets (n : Nat) (s : St) : Option (St) :=
  f_buildCosets_2 n (0 : Int32) s
set_option maxRecDepth 65536 in
set_option maxHeartbeats 4000000 in
theorem ok6 (l : Launch) (Z : State) (a0 : Array Value) (hw : HW a0 Z) (n : Nat) (s : St) (r : St) (h : f_buildCosets n s = some r) : CS l Z CN lay y6 prog_1_method_22_code 3 (none) R6 0 [.ref 0] (Hb 0 s) (P6 r) := by
  refine CS.of_wp pn_cls (leb rfl) fun n0 => ?_
  show W6 l Z n0 (P6 r) 0 0 0 [.val (.ref 0), .unset, .unset] [] (Hb 0 s)
  unfold f_buildCosets at h
  refine WP.iconst (0 : Int32) d6_0 rfl ?_
  refine WP.istoreN (L' := [.val (.ref 0), .val (.int (0 : Int32)), .unset]) d6_1 (leb rfl) rfl ?_
  exact WP.weak (L' := [.val (.ref 0), .val (.int (0 : Int32)), .unset]) ⟨rfl, rfl, trivial⟩ (ok6_2 l Z a0 hw n0 n (0 : Int32) s _ h)
theorem d11_0 : dc prog_1_method_27_code 0 (.aload_n 0) 1 := by decide +kernel
theorem d11_1 : dc prog_1_method_27_code 1 (.getfield 90) 3 := by decide +kernel
theorem d11_4 : dc prog_1_method_27_code 4 (.aload_n 0) 1 := by decide +kernel
theorem d11_5 : dc prog_1_method_27_code 5 (.getfield 32) 3 := by decide +kernel
theorem d11_8 : dc prog_1_method_27_code 8 (.idiv) 1 := by decide +kernel
theorem d11_9 : dc prog_1_method_27_code 9 (.istore_n 2) 1 := by decide +kernel
theorem d11_10 : dc prog_1_method_27_code 10 (.iload_n 1) 1 := by decide +kernel
theorem d11_11 : dc prog_1_method_27_code 11 (.iload_n 2) 1 := by decide +kernel
theorem d11_12 : dc prog_1_method_27_code 12 (.imul) 1 := by decide +kernel
theorem d11_13 : dc prog_1_method_27_code 13 (.aload_n 0) 1 := by decide +kernel
theorem d11_14 : dc prog_1_method_27_code 14 (.getfield 90) 3 := by decide +kernel
theorem d11_17 : dc prog_1_method_27_code 17 (.irem) 1 := by decide +kernel
theorem d11_18 : dc prog_1_method_27_code 18 (.istore_n 3) 1 := by decide +kernel
theorem d11_19 : dc prog_1_method_27_code 19 (.iload_n 3) 1 := by decide +kernel
theorem d11_20 : dc prog_1_method_27_code 20 (.ifCond .ge 10) 3 := by decide +kernel
theorem d11_23 : dc prog_1_method_27_code 23 (.iload_n 3) 1 := by decide +kernel
theorem d11_24 : dc prog_1_method_27_code 24 (.aload_n 0) 1 := by decide +kernel
theorem d11_25 : dc prog_1_method_27_code 25 (.getfield 90) 3 := by decide +kernel
theorem d11_28 : dc prog_1_method_27_code 28 (.iadd) 1 := by decide +kernel
theorem d11_29 : dc prog_1_method_27_code 29 (.istore_n 3) 1 := by decide +kernel
theorem d11_30 : dc prog_1_method_27_code 30 (.aload_n 0) 1 := by decide +kernel
theorem d11_31 : dc prog_1_method_27_code 31 (.getfield 7) 3 := by decide +kernel
theorem d11_34 : dc prog_1_method_27_code 34 (.iload_n 3) 1 := by decide +kernel
theorem d11_35 : dc prog_1_method_27_code 35 (.sipush 255) 3 := by decide +kernel
theorem d11_38 : dc prog_1_method_27_code 38 (.iand) 1 := by decide +kernel
theorem d11_39 : dc prog_1_method_27_code 39 (.iaload) 1 := by decide +kernel
theorem d11_40 : dc prog_1_method_27_code 40 (.ireturn) 1 := by decide +kernel
abbrev y11 : MethodName := ⟨"CyclicCodeLab", "alphaPow", "(I)I"⟩
theorem hy11 : y11.cls ≠ "java/lang/invoke/MethodHandle" ∧ y11.cls ≠ "java/lang/invoke/VarHandle" := by decide
theorem pd11 : parseMethodDescriptor y11.desc = some ⟨[.int], some .int⟩ := by decide +kernel
abbrev R11 : Room := { frames := 0, cells := 0, slots := 0, locals := 0 }
abbrev P11 (s : St) (r : Int32) : Option Value → List OwnC → Prop := fun v H' => v = some (.int r) ∧ H' = (Hb 0 s)
abbrev W11 (l : Launch) (Z : State) (n0 : Nat) (Q : Option Value → List OwnC → Prop) (k n pc : Nat) (L : List Slot) (S : List Value) (H : List OwnC) : Prop := WP l Z CN lay "CyclicCodeLab" "alphaPow" prog_1_method_27_code 4 (some FieldType.int) R11 n0 0 Q k n pc L S H
def f_alphaPow_30 (v3 : Int32) (s : St) : Option (Int32) :=
  (rd (gA s 0) (v3 &&& (255 : Int32))).bind fun x1 =>
  some x1
set_option maxRecDepth 65536 in
set_option maxHeartbeats 4000000 in
theorem ok11_30 (l : Launch) (Z : State) (a0 : Array Value) (hw : HW a0 Z) (n0 : Nat) (v3 : Int32) (s : St) (r : Int32) (h : f_alphaPow_30 v3 s = some r) : W11 l Z n0 (P11 s r) 0 0 30 [.val (.ref 0), .unset, .unset, .val (.int v3)] [] (Hb 0 s) := by
  unfold f_alphaPow_30 at h
  refine WP.aloadN d11_30 rfl ?_
  refine WP.getfield (i := 0) (j := 8) d11_31 (hw _ m_10) rfl rfl rfl ?_
  refine WP.iloadN d11_34 rfl ?_
  refine WP.sipush (255 : Int32) d11_35 rfl ?_
  refine WP.iand d11_38 ?_
  obtain ⟨x1, hx1, h⟩ := Option.bind_eq_some_iff.mp h
  refine WP.iaload (i := 1) d11_39 rfl hx1 ?_
  cases h
  exact WP.ireturn d11_40 rfl (leb rfl) (leb rfl) ⟨rfl, rfl⟩
def f_alphaPow (p1 : Int32) (s : St) : Option (Int32) :=
  if gI s 0 = 0 then none else
  lt ((gI s 2) / (gI s 0)) fun x2 =>
  if gI s 2 = 0 then none else
  lt ((p1 * x2) % (gI s 2)) fun x4 =>
  if x4 < 0 then
    lt (x4 + (gI s 2)) fun x6 =>
    f_alphaPow_30 x6 s
  else
    f_alphaPow_30 x4 s
set_option maxRecDepth 65536 in
set_option maxHeartbeats 4000000 in
theorem ok11 (l : Launch) (Z : State) (a0 : Array Value) (hw : HW a0 Z) (p1 : Int32) (s : St) (r : Int32) (h : f_alphaPow p1 s = some r) : CS l Z CN lay y11 prog_1_method_27_code 4 (some FieldType.int) R11 0 [.ref 0, .int p1] (Hb 0 s) (P11 s r) := by
  refine CS.of_wp pn_cls (leb rfl) fun n0 => ?_
  show W11 l Z n0 (P11 s r) 0 0 0 [.val (.ref 0), .val (.int p1), .unset, .unset] [] (Hb 0 s)
  unfold f_alphaPow at h
  refine WP.aloadN d11_0 rfl ?_
  refine WP.getfield (i := 0) (j := 2) d11_1 (hw _ m_34) rfl rfl rfl ?_
  refine WP.aloadN d11_4 rfl ?_
  refine WP.getfield (i := 0) (j := 0) d11_5 (hw _ m_30) rfl rfl rfl ?_
  obtain ⟨hz1, h⟩ := nz_e h
  refine WP.idiv d11_8 hz1 ?_
  obtain ⟨x2, ex2, h⟩ := lt_e h
  refine WP.istoreN (L' := [.val (.ref 0), .val (.int p1), .val (.int x2), .unset]) d11_9 (leb rfl) (by subst ex2; rfl) ?_
  refine WP.iloadN d11_10 rfl ?_
  refine WP.iloadN d11_11 rfl ?_
  refine WP.imul d11_12 ?_
  refine WP.aloadN d11_13 rfl ?_
  refine WP.getfield (i := 0) (j := 2) d11_14 (hw _ m_34) rfl rfl rfl ?_
  obtain ⟨hz3, h⟩ := nz_e h
  refine WP.irem d11_17 hz3 ?_
  obtain ⟨x4, ex4, h⟩ := lt_e h
  refine WP.istoreN (L' := [.val (.ref 0), .val (.int p1), .val (.int x2), .val (.int x4)]) d11_18 (leb rfl) (by subst ex4; rfl) ?_
  refine WP.iloadN d11_19 rfl ?_
  rcases ite_e h with ⟨hc5, h⟩ | ⟨hc5, h⟩
  ·
    refine WP.ifN d11_20 (XT.i0_ge_f hc5) ?_
    refine WP.iloadN d11_23 rfl ?_
    refine WP.aloadN d11_24 rfl ?_
    refine WP.getfield (i := 0) (j := 2) d11_25 (hw _ m_34) rfl rfl rfl ?_
    refine WP.iadd d11_28 ?_
    obtain ⟨x6, ex6, h⟩ := lt_e h
    refine WP.istoreN (L' := [.val (.ref 0), .val (.int p1), .val (.int x2), .val (.int x6)]) d11_29 (leb rfl) (by subst ex6; rfl) ?_
    exact WP.weak (L' := [.val (.ref 0), .unset, .unset, .val (.int x6)]) ⟨rfl, rfl, trivial⟩ (ok11_30 l Z a0 hw n0 x6 s _ h)
  ·
    refine WP.ifY (pc' := 30) d11_20 (XT.i0_ge_t hc5) (by decide) rfl ?_
    exact WP.weak (L' := [.val (.ref 0), .unset, .unset, .val (.int x4)]) ⟨rfl, rfl, trivial⟩ (ok11_30 l Z a0 hw n0 x4 s _ h)
theorem d13_0 : dc prog_1_method_28_code 0 (.iload_n 1) 1 := by decide +kernel
theorem d13_1 : dc prog_1_method_28_code 1 (.ifCond .eq 7) 3 := by decide +kernel
theorem d13_4 : dc prog_1_method_28_code 4 (.iload_n 2) 1 := by decide +kernel
theorem d13_5 : dc prog_1_method_28_code 5 (.ifCond .ne 5) 3 := by decide +kernel
theorem d13_8 : dc prog_1_method_28_code 8 (.iconst 0) 1 := by decide +kernel
theorem d13_9 : dc prog_1_method_28_code 9 (.ireturn) 1 := by decide +kernel
theorem d13_10 : dc prog_1_method_28_code 10 (.aload_n 0) 1 := by decide +kernel
theorem d13_11 : dc prog_1_method_28_code 11 (.getfield 13) 3 := by decide +kernel
theorem d13_14 : dc prog_1_method_28_code 14 (.iload_n 1) 1 := by decide +kernel
theorem d13_15 : dc prog_1_method_28_code 15 (.sipush 255) 3 := by decide +kernel
theorem d13_18 : dc prog_1_method_28_code 18 (.iand) 1 := by decide +kernel
theorem d13_19 : dc prog_1_method_28_code 19 (.iaload) 1 := by decide +kernel
theorem d13_20 : dc prog_1_method_28_code 20 (.aload_n 0) 1 := by decide +kernel
theorem d13_21 : dc prog_1_method_28_code 21 (.getfield 13) 3 := by decide +kernel
theorem d13_24 : dc prog_1_method_28_code 24 (.iload_n 2) 1 := by decide +kernel
theorem d13_25 : dc prog_1_method_28_code 25 (.sipush 255) 3 := by decide +kernel
theorem d13_28 : dc prog_1_method_28_code 28 (.iand) 1 := by decide +kernel
theorem d13_29 : dc prog_1_method_28_code 29 (.iaload) 1 := by decide +kernel
theorem d13_30 : dc prog_1_method_28_code 30 (.iadd) 1 := by decide +kernel
theorem d13_31 : dc prog_1_method_28_code 31 (.istore_n 3) 1 := by decide +kernel
theorem d13_32 : dc prog_1_method_28_code 32 (.iload_n 3) 1 := by decide +kernel
theorem d13_33 : dc prog_1_method_28_code 33 (.aload_n 0) 1 := by decide +kernel
theorem d13_34 : dc prog_1_method_28_code 34 (.getfield 90) 3 := by decide +kernel
theorem d13_37 : dc prog_1_method_28_code 37 (.if_icmp .lt 10) 3 := by decide +kernel
theorem d13_40 : dc prog_1_method_28_code 40 (.iload_n 3) 1 := by decide +kernel
theorem d13_41 : dc prog_1_method_28_code 41 (.aload_n 0) 1 := by decide +kernel
theorem d13_42 : dc prog_1_method_28_code 42 (.getfield 90) 3 := by decide +kernel
theorem d13_45 : dc prog_1_method_28_code 45 (.isub) 1 := by decide +kernel
theorem d13_46 : dc prog_1_method_28_code 46 (.istore_n 3) 1 := by decide +kernel
theorem d13_47 : dc prog_1_method_28_code 47 (.aload_n 0) 1 := by decide +kernel
theorem d13_48 : dc prog_1_method_28_code 48 (.getfield 7) 3 := by decide +kernel
theorem d13_51 : dc prog_1_method_28_code 51 (.iload_n 3) 1 := by decide +kernel
theorem d13_52 : dc prog_1_method_28_code 52 (.sipush 255) 3 := by decide +kernel
theorem d13_55 : dc prog_1_method_28_code 55 (.iand) 1 := by decide +kernel
theorem d13_56 : dc prog_1_method_28_code 56 (.iaload) 1 := by decide +kernel
theorem d13_57 : dc prog_1_method_28_code 57 (.ireturn) 1 := by decide +kernel
abbrev y13 : MethodName := ⟨"CyclicCodeLab", "gfMul", "(II)I"⟩
theorem hy13 : y13.cls ≠ "java/lang/invoke/MethodHandle" ∧ y13.cls ≠ "java/lang/invoke/VarHandle" := by decide
theorem pd13 : parseMethodDescriptor y13.desc = some ⟨[.int, .int], some .int⟩ := by decide +kernel
abbrev R13 : Room := { frames := 0, cells := 0, slots := 0, locals := 0 }
abbrev P13 (s : St) (r : Int32) : Option Value → List OwnC → Prop := fun v H' => v = some (.int r) ∧ H' = (Hb 0 s)
abbrev W13 (l : Launch) (Z : State) (n0 : Nat) (Q : Option Value → List OwnC → Prop) (k n pc : Nat) (L : List Slot) (S : List Value) (H : List OwnC) : Prop := WP l Z CN lay "CyclicCodeLab" "gfMul" prog_1_method_28_code 4 (some FieldType.int) R13 n0 0 Q k n pc L S H
def f_gfMul_8 (s : St) : Option (Int32) :=
  some (0 : Int32)
set_option maxRecDepth 65536 in
set_option maxHeartbeats 4000000 in
theorem ok13_8 (l : Launch) (Z : State) (a0 : Array Value) (hw : HW a0 Z) (n0 : Nat) (s : St) (r : Int32) (h : f_gfMul_8 s = some r) : W13 l Z n0 (P13 s r) 0 0 8 [.unset, .unset, .unset, .unset] [] (Hb 0 s) := by
  unfold f_gfMul_8 at h
  refine WP.iconst (0 : Int32) d13_8 rfl ?_
  cases h
  exact WP.ireturn d13_9 rfl (leb rfl) (leb rfl) ⟨rfl, rfl⟩
def f_gfMul_47 (v3 : Int32) (s : St) : Option (Int32) :=
  (rd (gA s 0) (v3 &&& (255 : Int32))).bind fun x1 =>
  some x1
set_option maxRecDepth 65536 in
set_option maxHeartbeats 4000000 in
theorem ok13_47 (l : Launch) (Z : State) (a0 : Array Value) (hw : HW a0 Z) (n0 : Nat) (v3 : Int32) (s : St) (r : Int32) (h : f_gfMul_47 v3 s = some r) : W13 l Z n0 (P13 s r) 0 0 47 [.val (.ref 0), .unset, .unset, .val (.int v3)] [] (Hb 0 s) := by
  unfold f_gfMul_47 at h
  refine WP.aloadN d13_47 rfl ?_
  refine WP.getfield (i := 0) (j := 8) d13_48 (hw _ m_10) rfl rfl rfl ?_
  refine WP.iloadN d13_51 rfl ?_
  refine WP.sipush (255 : Int32) d13_52 rfl ?_
  refine WP.iand d13_55 ?_
  obtain ⟨x1, hx1, h⟩ := Option.bind_eq_some_iff.mp h
  refine WP.iaload (i := 1) d13_56 rfl hx1 ?_
  cases h
  exact WP.ireturn d13_57 rfl (leb rfl) (leb rfl) ⟨rfl, rfl⟩
def f_gfMul (p1 : Int32) (p2 : Int32) (s : St) : Option (Int32) :=
  if p1 = 0 then
    f_gfMul_8 s
  else
    if p2 = 0 then
      f_gfMul_8 s
    else
      (rd (gA s 1) (p1 &&& (255 : Int32))).bind fun x3 =>
      (rd (gA s 1) (p2 &&& (255 : Int32))).bind fun x4 =>
      lt (x3 + x4) fun x5 =>
      if x5 < (gI s 2) then
        f_gfMul_47 x5 s
      else
        lt (x5 - (gI s 2)) fun x7 =>
        f_gfMul_47 x7 s
set_option maxRecDepth 65536 in
set_option maxHeartbeats 4000000 in
theorem ok13 (l : Launch) (Z : State) (a0 : Array Value) (hw : HW a0 Z) (p1 : Int32) (p2 : Int32) (s : St) (r : Int32) (h : f_gfMul p1 p2 s = some r) : CS l Z CN lay y13 prog_1_method_28_code 4 (some FieldType.int) R13 0 [.ref 0, .int p1, .int p2] (Hb 0 s) (P13 s r) := by
  refine CS.of_wp pn_cls (leb rfl) fun n0 => ?_
  show W13 l Z n0 (P13 s r) 0 0 0 [.val (.ref 0), .val (.int p1), .val (.int p2), .unset] [] (Hb 0 s)
  unfold f_gfMul at h
  refine WP.iloadN d13_0 rfl ?_
  rcases ite_e h with ⟨hc1, h⟩ | ⟨hc1, h⟩
  ·
    refine WP.ifY (pc' := 8) d13_1 (XT.i0_eq_t hc1) (by decide) rfl ?_
    exact WP.weak (L' := [.unset, .unset, .unset, .unset]) trivial (ok13_8 l Z a0 hw n0 s _ h)
  ·
    refine WP.ifN d13_1 (XT.i0_eq_f hc1) ?_
    refine WP.iloadN d13_4 rfl ?_
    rcases ite_e h with ⟨hc2, h⟩ | ⟨hc2, h⟩
    ·
      refine WP.ifN d13_5 (XT.i0_ne_f hc2) ?_
      exact WP.weak (L' := [.unset, .unset, .unset, .unset]) trivial (ok13_8 l Z a0 hw n0 s _ h)
    ·
      refine WP.ifY (pc' := 10) d13_5 (XT.i0_ne_t hc2) (by decide) rfl ?_
      refine WP.aloadN d13_10 rfl ?_
      refine WP.getfield (i := 0) (j := 9) d13_11 (hw _ m_12) rfl rfl rfl ?_
      refine WP.iloadN d13_14 rfl ?_
      refine WP.sipush (255 : Int32) d13_15 rfl ?_
      refine WP.iand d13_18 ?_
      obtain ⟨x3, hx3, h⟩ := Option.bind_eq_some_iff.mp h
      refine WP.iaload (i := 2) d13_19 rfl hx3 ?_
      refine WP.aloadN d13_20 rfl ?_
      refine WP.getfield (i := 0) (j := 9) d13_21 (hw _ m_12) rfl rfl rfl ?_
      refine WP.iloadN d13_24 rfl ?_
      refine WP.sipush (255 : Int32) d13_25 rfl ?_
      refine WP.iand d13_28 ?_
      obtain ⟨x4, hx4, h⟩ := Option.bind_eq_some_iff.mp h
      refine WP.iaload (i := 2) d13_29 rfl hx4 ?_
      refine WP.iadd d13_30 ?_
      obtain ⟨x5, ex5, h⟩ := lt_e h
      refine WP.istoreN (L' := [.val (.ref 0), .val (.int p1), .val (.int p2), .val (.int x5)]) d13_31 (leb rfl) (by subst ex5; rfl) ?_
      refine WP.iloadN d13_32 rfl ?_
      refine WP.aloadN d13_33 rfl ?_
      refine WP.getfield (i := 0) (j := 2) d13_34 (hw _ m_34) rfl rfl rfl ?_
      rcases ite_e h with ⟨hc6, h⟩ | ⟨hc6, h⟩
      ·
        refine WP.icmpY (pc' := 47) d13_37 (XT.ii_lt_t hc6) (by decide) rfl ?_
        exact WP.weak (L' := [.val (.ref 0), .unset, .unset, .val (.int x5)]) ⟨rfl, rfl, trivial⟩ (ok13_47 l Z a0 hw n0 x5 s _ h)
      ·
        refine WP.icmpN d13_37 (XT.ii_lt_f hc6) ?_
        refine WP.iloadN d13_40 rfl ?_
        refine WP.aloadN d13_41 rfl ?_
        refine WP.getfield (i := 0) (j := 2) d13_42 (hw _ m_34) rfl rfl rfl ?_
        refine WP.isub d13_45 ?_
        obtain ⟨x7, ex7, h⟩ := lt_e h
        refine WP.istoreN (L' := [.val (.ref 0), .val (.int p1), .val (.int p2), .val (.int x7)]) d13_46 (leb rfl) (by subst ex7; rfl) ?_
        exact WP.weak (L' := [.val (.ref 0), .unset, .unset, .val (.int x7)]) ⟨rfl, rfl, trivial⟩ (ok13_47 l Z a0 hw n0 x7 s _ h)
theorem d12_0 : dc prog_1_method_26_code 0 (.iload_n 2) 1 := by decide +kernel
theorem d12_1 : dc prog_1_method_26_code 1 (.ifCond .lt 9) 3 := by decide +kernel
theorem d12_4 : dc prog_1_method_26_code 4 (.iload_n 2) 1 := by decide +kernel
theorem d12_5 : dc prog_1_method_26_code 5 (.bipush 8) 2 := by decide +kernel
theorem d12_7 : dc prog_1_method_26_code 7 (.if_icmp .le 4) 3 := by decide +kernel
theorem d12_10 : dc prog_1_method_26_code 10 (.return_) 1 := by decide +kernel
theorem d12_11 : dc prog_1_method_26_code 11 (.iload_n 2) 1 := by decide +kernel
theorem d12_12 : dc prog_1_method_26_code 12 (.iconst 1) 1 := by decide +kernel
theorem d12_13 : dc prog_1_method_26_code 13 (.iadd) 1 := by decide +kernel
theorem d12_14 : dc prog_1_method_26_code 14 (.istore_n 3) 1 := by decide +kernel
theorem d12_15 : dc prog_1_method_26_code 15 (.iload_n 3) 1 := by decide +kernel
theorem d12_16 : dc prog_1_method_26_code 16 (.iconst 1) 1 := by decide +kernel
theorem d12_17 : dc prog_1_method_26_code 17 (.if_icmp .lt 39) 3 := by decide +kernel
theorem d12_20 : dc prog_1_method_26_code 20 (.aload_n 0) 1 := by decide +kernel
theorem d12_21 : dc prog_1_method_26_code 21 (.iload_n 1) 1 := by decide +kernel
theorem d12_22 : dc prog_1_method_26_code 22 (.aload_n 0) 1 := by decide +kernel
theorem d12_23 : dc prog_1_method_26_code 23 (.getfield 25) 3 := by decide +kernel
theorem d12_26 : dc prog_1_method_26_code 26 (.iload_n 3) 1 := by decide +kernel
theorem d12_27 : dc prog_1_method_26_code 27 (.iaload) 1 := by decide +kernel
theorem d12_28 : dc prog_1_method_26_code 28 (.invokevirtual 121) 3 := by decide +kernel
theorem d12_31 : dc prog_1_method_26_code 31 (.istore 4) 2 := by decide +kernel
theorem d12_33 : dc prog_1_method_26_code 33 (.aload_n 0) 1 := by decide +kernel
theorem d12_34 : dc prog_1_method_26_code 34 (.getfield 25) 3 := by decide +kernel
theorem d12_37 : dc prog_1_method_26_code 37 (.iload_n 3) 1 := by decide +kernel
theorem d12_38 : dc prog_1_method_26_code 38 (.aload_n 0) 1 := by decide +kernel
theorem d12_39 : dc prog_1_method_26_code 39 (.getfield 25) 3 := by decide +kernel
theorem d12_42 : dc prog_1_method_26_code 42 (.iload_n 3) 1 := by decide +kernel
theorem d12_43 : dc prog_1_method_26_code 43 (.iconst 1) 1 := by decide +kernel
theorem d12_44 : dc prog_1_method_26_code 44 (.isub) 1 := by decide +kernel
theorem d12_45 : dc prog_1_method_26_code 45 (.iaload) 1 := by decide +kernel
theorem d12_46 : dc prog_1_method_26_code 46 (.iload 4) 2 := by decide +kernel
theorem d12_48 : dc prog_1_method_26_code 48 (.ixor) 1 := by decide +kernel
theorem d12_49 : dc prog_1_method_26_code 49 (.iastore) 1 := by decide +kernel
theorem d12_50 : dc prog_1_method_26_code 50 (.iinc 3 (-1)) 3 := by decide +kernel
theorem d12_53 : dc prog_1_method_26_code 53 (.goto (-38)) 3 := by decide +kernel
theorem d12_56 : dc prog_1_method_26_code 56 (.aload_n 0) 1 := by decide +kernel
theorem d12_57 : dc prog_1_method_26_code 57 (.getfield 25) 3 := by decide +kernel
theorem d12_60 : dc prog_1_method_26_code 60 (.iconst 0) 1 := by decide +kernel
theorem d12_61 : dc prog_1_method_26_code 61 (.aload_n 0) 1 := by decide +kernel
theorem d12_62 : dc prog_1_method_26_code 62 (.iload_n 1) 1 := by decide +kernel
theorem d12_63 : dc prog_1_method_26_code 63 (.aload_n 0) 1 := by decide +kernel
theorem d12_64 : dc prog_1_method_26_code 64 (.getfield 25) 3 := by decide +kernel
theorem d12_67 : dc prog_1_method_26_code 67 (.iconst 0) 1 := by decide +kernel
theorem d12_68 : dc prog_1_method_26_code 68 (.iaload) 1 := by decide +kernel
theorem d12_69 : dc prog_1_method_26_code 69 (.invokevirtual 121) 3 := by decide +kernel
theorem d12_72 : dc prog_1_method_26_code 72 (.iastore) 1 := by decide +kernel
theorem d12_73 : dc prog_1_method_26_code 73 (.return_) 1 := by decide +kernel
abbrev y12 : MethodName := ⟨"CyclicCodeLab", "multiplyByLinear", "(II)V"⟩
theorem hy12 : y12.cls ≠ "java/lang/invoke/MethodHandle" ∧ y12.cls ≠ "java/lang/invoke/VarHandle" := by decide
theorem pd12 : parseMethodDescriptor y12.desc = some ⟨[.int, .int], none⟩ := by decide +kernel
abbrev R12 : Room := { frames := 1, cells := 0, slots := 0, locals := 17 }
abbrev P12 (r : St) : Option Value → List OwnC → Prop := fun v H' => v = none ∧ H' = (Hb 0 r)
abbrev W12 (l : Launch) (Z : State) (n0 : Nat) (Q : Option Value → List OwnC → Prop) (k n pc : Nat) (L : List Slot) (S : List Value) (H : List OwnC) : Prop := WP l Z CN lay "CyclicCodeLab" "multiplyByLinear" prog_1_method_26_code 5 (none) R12 n0 0 Q k n pc L S H
def f_multiplyByLinear_10 (n : Nat) (s : St) : Option (St) :=
  some s
set_option maxRecDepth 65536 in
set_option maxHeartbeats 4000000 in
theorem ok12_10 (l : Launch) (Z : State) (a0 : Array Value) (hw : HW a0 Z) (n0 : Nat) (n : Nat) (s : St) (r : St) (h : f_multiplyByLinear_10 n s = some r) : W12 l Z n0 (P12 r) 0 0 10 [.unset, .unset, .unset, .unset, .unset] [] (Hb 0 s) := by
  unfold f_multiplyByLinear_10 at h
  cases h
  exact WP.vreturn d12_10 rfl (leb rfl) (leb rfl) ⟨rfl, rfl⟩
def g_multiplyByLinear_15 (k15 : Int32 → Int32 → St → Option (St)) (n : Nat) (v1 : Int32) (v3 : Int32) (s : St) : Option (St) :=
  if v3 < (1 : Int32) then
    (rd (gA s 5) (0 : Int32)).bind fun x2 =>
    (f_gfMul v1 x2 s).bind fun c3 =>
    (wrA s 5 (0 : Int32) c3).bind fun s4 =>
    some s4
  else
    (rd (gA s 5) v3).bind fun x5 =>
    (f_gfMul v1 x5 s).bind fun c6 =>
    (rd (gA s 5) (v3 - (1 : Int32))).bind fun x7 =>
    (wrA s 5 v3 (x7 ^^^ c6)).bind fun s8 =>
    lt (v3 + (-1 : Int32)) fun x9 =>
    k15 v1 x9 s8
set_option maxRecDepth 65536 in
set_option maxHeartbeats 4000000 in
theorem okg12_15 (l : Launch) (Z : State) (a0 : Array Value) (hw : HW a0 Z) (n0 : Nat) (k15 : Int32 → Int32 → St → Option (St)) (hk15 : ∀ (v1 : Int32) (v3 : Int32) (s : St) (r : St), k15 v1 v3 s = some r → W12 l Z n0 (P12 r) 0 0 15 [.val (.ref 0), .val (.int v1), .unset, .val (.int v3), .unset] [] (Hb 0 s)) (n : Nat) (v1 : Int32) (v3 : Int32) (s : St) (r : St) (h : g_multiplyByLinear_15 k15 n v1 v3 s = some r) : W12 l Z n0 (P12 r) 0 0 15 [.val (.ref 0), .val (.int v1), .unset, .val (.int v3), .unset] [] (Hb 0 s) := by
  unfold g_multiplyByLinear_15 at h
  refine WP.iloadN d12_15 rfl ?_
  refine WP.iconst (1 : Int32) d12_16 rfl ?_
  rcases ite_e h with ⟨hc1, h⟩ | ⟨hc1, h⟩
  ·
    refine WP.icmpY (pc' := 56) d12_17 (XT.ii_lt_t hc1) (by decide) rfl ?_
    refine WP.aloadN d12_56 rfl ?_
    refine WP.getfield (i := 0) (j := 13) d12_57 (hw _ m_20) rfl rfl rfl ?_
    refine WP.iconst (0 : Int32) d12_60 rfl ?_
    refine WP.aloadN d12_61 rfl ?_
    refine WP.iloadN d12_62 rfl ?_
    refine WP.aloadN d12_63 rfl ?_
    refine WP.getfield (i := 0) (j := 13) d12_64 (hw _ m_20) rfl rfl rfl ?_
    refine WP.iconst (0 : Int32) d12_67 rfl ?_
    obtain ⟨x2, hx2, h⟩ := Option.bind_eq_some_iff.mp h
    refine WP.iaload (i := 6) d12_68 rfl hx2 ?_
    obtain ⟨c3, hc3, h⟩ := Option.bind_eq_some_iff.mp h
    refine WP.callP (i := 0) (y := y13) (as := [.int v1, .int x2]) (S := [.int (0 : Int32), .ref 6]) d12_69 (hw _ m_78) (hw _ m_80) (hw _ m_1) (hw _ m_79) (hw _ m_81) (hw _ m_2) hy13 rfl (ok13 l Z a0 hw v1 x2 s _ hc3) rfl (lenOf pd13 rfl) (leb rfl) (leb rfl) (leb rfl) (leb rfl) ?_
    rintro _ _ ⟨rfl, rfl⟩
    show W12 l Z n0 (P12 r) 0 0 72 [.val (.ref 0), .val (.int v1), .unset, .val (.int v3), .unset] [.int c3, .int (0 : Int32), .ref 6] (Hb 0 s)
    obtain ⟨s4, hs4, h⟩ := Option.bind_eq_some_iff.mp h
    obtain ⟨ys4, gs4, es4⟩ := wrA_e hs4
    refine WP.iastore (i := 6) (xs := gA s 5) (H' := (Hb 0 s4)) d12_72 rfl (leb rfl) gs4 (by subst es4; rfl) ?_
    cases h
    exact WP.vreturn d12_73 rfl (leb rfl) (leb rfl) ⟨rfl, rfl⟩
  ·
    refine WP.icmpN d12_17 (XT.ii_lt_f hc1) ?_
    refine WP.aloadN d12_20 rfl ?_
    refine WP.iloadN d12_21 rfl ?_
    refine WP.aloadN d12_22 rfl ?_
    refine WP.getfield (i := 0) (j := 13) d12_23 (hw _ m_20) rfl rfl rfl ?_
    refine WP.iloadN d12_26 rfl ?_
    obtain ⟨x5, hx5, h⟩ := Option.bind_eq_some_iff.mp h
    refine WP.iaload (i := 6) d12_27 rfl hx5 ?_
    obtain ⟨c6, hc6, h⟩ := Option.bind_eq_some_iff.mp h
    refine WP.callP (i := 0) (y := y13) (as := [.int v1, .int x5]) (S := []) d12_28 (hw _ m_78) (hw _ m_80) (hw _ m_1) (hw _ m_79) (hw _ m_81) (hw _ m_2) hy13 rfl (ok13 l Z a0 hw v1 x5 s _ hc6) rfl (lenOf pd13 rfl) (leb rfl) (leb rfl) (leb rfl) (leb rfl) ?_
    rintro _ _ ⟨rfl, rfl⟩
    show W12 l Z n0 (P12 r) 0 0 31 [.val (.ref 0), .val (.int v1), .unset, .val (.int v3), .unset] [.int c6] (Hb 0 s)
    refine WP.istore (L' := [.val (.ref 0), .val (.int v1), .unset, .val (.int v3), .val (.int c6)]) d12_31 (leb rfl) rfl ?_
    refine WP.aloadN d12_33 rfl ?_
    refine WP.getfield (i := 0) (j := 13) d12_34 (hw _ m_20) rfl rfl rfl ?_
    refine WP.iloadN d12_37 rfl ?_
    refine WP.aloadN d12_38 rfl ?_
    refine WP.getfield (i := 0) (j := 13) d12_39 (hw _ m_20) rfl rfl rfl ?_
    refine WP.iloadN d12_42 rfl ?_
    refine WP.iconst (1 : Int32) d12_43 rfl ?_
    refine WP.isub d12_44 ?_
    obtain ⟨x7, hx7, h⟩ := Option.bind_eq_some_iff.mp h
    refine WP.iaload (i := 6) d12_45 rfl hx7 ?_
    refine WP.iload d12_46 rfl ?_
    refine WP.ixor d12_48 ?_
    obtain ⟨s8, hs8, h⟩ := Option.bind_eq_some_iff.mp h
    obtain ⟨ys8, gs8, es8⟩ := wrA_e hs8
    refine WP.iastore (i := 6) (xs := gA s 5) (H' := (Hb 0 s8)) d12_49 rfl (leb rfl) gs8 (by subst es8; rfl) ?_
    obtain ⟨x9, ex9, h⟩ := lt_e h
    refine WP.iinc (L' := [.val (.ref 0), .val (.int v1), .unset, .val (.int x9), .val (.int c6)]) (-1 : Int32) d12_50 rfl rfl (by subst ex9; rfl) ?_
    refine WP.goto (pc' := 15) d12_53 (by decide) rfl ?_
    exact WP.weak (L' := [.val (.ref 0), .val (.int v1), .unset, .val (.int x9), .unset]) ⟨rfl, rfl, rfl, trivial⟩ (hk15 v1 x9 s8 _ h)
def f_multiplyByLinear_15 : Nat → Int32 → Int32 → St → Option (St)
  | 0 => fun _ _ _ => none
  | n + 1 => g_multiplyByLinear_15 (f_multiplyByLinear_15 n) n
theorem ok12_15 (l : Launch) (Z : State) (a0 : Array Value) (hw : HW a0 Z) (n0 : Nat) : ∀ (n : Nat) (v1 : Int32) (v3 : Int32) (s : St) (r : St), f_multiplyByLinear_15 n v1 v3 s = some r → W12 l Z n0 (P12 r) 0 0 15 [.val (.ref 0), .val (.int v1), .unset, .val (.int v3), .unset] [] (Hb 0 s)
  | 0, v1, v3, s, r, h => nomatch (show none = some r from h)
  | n + 1, v1, v3, s, r, h => okg12_15 l Z a0 hw n0 _ (ok12_15 l Z a0 hw n0 n) n v1 v3 s r h
def f_multiplyByLinear (n : Nat) (p1 : Int32) (p2 : Int32) (s : St) : Option (St) :=
  if p2 < 0 then
    f_multiplyByLinear_10 n s
  else
    if (8 : Int32) < p2 then
      f_multiplyByLinear_10 n s
    else
      lt (p2 + (1 : Int32)) fun x3 =>
      f_multiplyByLinear_15 n p1 x3 s
set_option maxRecDepth 65536 in
set_option maxHeartbeats 4000000 in
theorem ok12 (l : Launch) (Z : State) (a0 : Array Value) (hw : HW a0 Z) (n : Nat) (p1 : Int32) (p2 : Int32) (s : St) (r : St) (h : f_multiplyByLinear n p1 p2 s = some r) : CS l Z CN lay y12 prog_1_method_26_code 5 (none) R12 0 [.ref 0, .int p1, .int p2] (Hb 0 s) (P12 r) := by
  refine CS.of_wp pn_cls (leb rfl) fun n0 => ?_
  show W12 l Z n0 (P12 r) 0 0 0 [.val (.ref 0), .val (.int p1), .val (.int p2), .unset, .unset] [] (Hb 0 s)
  unfold f_multiplyByLinear at h
  refine WP.iloadN d12_0 rfl ?_
  rcases ite_e h with ⟨hc1, h⟩ | ⟨hc1, h⟩
  ·
    refine WP.ifY (pc' := 10) d12_1 (XT.i0_lt_t hc1) (by decide) rfl ?_
    exact WP.weak (L' := [.unset, .unset, .unset, .unset, .unset]) trivial (ok12_10 l Z a0 hw n0 n s _ h)
  ·
    refine WP.ifN d12_1 (XT.i0_lt_f hc1) ?_
    refine WP.iloadN d12_4 rfl ?_
    refine WP.bipush (8 : Int32) d12_5 rfl ?_
    rcases ite_e h with ⟨hc2, h⟩ | ⟨hc2, h⟩
    ·
      refine WP.icmpN d12_7 (XT.ii_le_f hc2) ?_
      exact WP.weak (L' := [.unset, .unset, .unset, .unset, .unset]) trivial (ok12_10 l Z a0 hw n0 n s _ h)
    ·
      refine WP.icmpY (pc' := 11) d12_7 (XT.ii_le_t hc2) (by decide) rfl ?_
      refine WP.iloadN d12_11 rfl ?_
      refine WP.iconst (1 : Int32) d12_12 rfl ?_
      refine WP.iadd d12_13 ?_
      obtain ⟨x3, ex3, h⟩ := lt_e h
      refine WP.istoreN (L' := [.val (.ref 0), .val (.int p1), .val (.int p2), .val (.int x3), .unset]) d12_14 (leb rfl) (by subst ex3; rfl) ?_
      exact WP.weak (L' := [.val (.ref 0), .val (.int p1), .unset, .val (.int x3), .unset]) ⟨rfl, rfl, rfl, trivial⟩ (ok12_15 l Z a0 hw n0 n p1 x3 s _ h)
theorem d10_0 : dc prog_1_method_25_code 0 (.iconst 0) 1 := by decide +kernel
theorem d10_1 : dc prog_1_method_25_code 1 (.istore_n 2) 1 := by decide +kernel
theorem d10_2 : dc prog_1_method_25_code 2 (.iload_n 2) 1 := by decide +kernel
theorem d10_3 : dc prog_1_method_25_code 3 (.bipush 10) 2 := by decide +kernel
theorem d10_5 : dc prog_1_method_25_code 5 (.if_icmp .ge 16) 3 := by decide +kernel
theorem d10_8 : dc prog_1_method_25_code 8 (.aload_n 0) 1 := by decide +kernel
theorem d10_9 : dc prog_1_method_25_code 9 (.getfield 25) 3 := by decide +kernel
theorem d10_12 : dc prog_1_method_25_code 12 (.iload_n 2) 1 := by decide +kernel
theorem d10_13 : dc prog_1_method_25_code 13 (.iconst 0) 1 := by decide +kernel
theorem d10_14 : dc prog_1_method_25_code 14 (.iastore) 1 := by decide +kernel
theorem d10_15 : dc prog_1_method_25_code 15 (.iinc 2 1) 3 := by decide +kernel
theorem d10_18 : dc prog_1_method_25_code 18 (.goto (-16)) 3 := by decide +kernel
theorem d10_21 : dc prog_1_method_25_code 21 (.aload_n 0) 1 := by decide +kernel
theorem d10_22 : dc prog_1_method_25_code 22 (.getfield 25) 3 := by decide +kernel
theorem d10_25 : dc prog_1_method_25_code 25 (.iconst 0) 1 := by decide +kernel
theorem d10_26 : dc prog_1_method_25_code 26 (.iconst 1) 1 := by decide +kernel
theorem d10_27 : dc prog_1_method_25_code 27 (.iastore) 1 := by decide +kernel
theorem d10_28 : dc prog_1_method_25_code 28 (.iconst 0) 1 := by decide +kernel
theorem d10_29 : dc prog_1_method_25_code 29 (.istore_n 2) 1 := by decide +kernel
theorem d10_30 : dc prog_1_method_25_code 30 (.iconst 0) 1 := by decide +kernel
theorem d10_31 : dc prog_1_method_25_code 31 (.istore_n 3) 1 := by decide +kernel
theorem d10_32 : dc prog_1_method_25_code 32 (.iload_n 3) 1 := by decide +kernel
theorem d10_33 : dc prog_1_method_25_code 33 (.aload_n 0) 1 := by decide +kernel
theorem d10_34 : dc prog_1_method_25_code 34 (.getfield 32) 3 := by decide +kernel
theorem d10_37 : dc prog_1_method_25_code 37 (.if_icmp .ge 40) 3 := by decide +kernel
theorem d10_40 : dc prog_1_method_25_code 40 (.iload_n 1) 1 := by decide +kernel
theorem d10_41 : dc prog_1_method_25_code 41 (.iload_n 3) 1 := by decide +kernel
theorem d10_42 : dc prog_1_method_25_code 42 (.iushr) 1 := by decide +kernel
theorem d10_43 : dc prog_1_method_25_code 43 (.iconst 1) 1 := by decide +kernel
theorem d10_44 : dc prog_1_method_25_code 44 (.iand) 1 := by decide +kernel
theorem d10_45 : dc prog_1_method_25_code 45 (.ifCond .eq 26) 3 := by decide +kernel
theorem d10_48 : dc prog_1_method_25_code 48 (.iload_n 2) 1 := by decide +kernel
theorem d10_49 : dc prog_1_method_25_code 49 (.bipush 9) 2 := by decide +kernel
theorem d10_51 : dc prog_1_method_25_code 51 (.if_icmp .ge 20) 3 := by decide +kernel
theorem d10_54 : dc prog_1_method_25_code 54 (.aload_n 0) 1 := by decide +kernel
theorem d10_55 : dc prog_1_method_25_code 55 (.iload_n 3) 1 := by decide +kernel
theorem d10_56 : dc prog_1_method_25_code 56 (.invokevirtual 114) 3 := by decide +kernel
theorem d10_59 : dc prog_1_method_25_code 59 (.istore 4) 2 := by decide +kernel
theorem d10_61 : dc prog_1_method_25_code 61 (.aload_n 0) 1 := by decide +kernel
theorem d10_62 : dc prog_1_method_25_code 62 (.iload 4) 2 := by decide +kernel
theorem d10_64 : dc prog_1_method_25_code 64 (.iload_n 2) 1 := by decide +kernel
theorem d10_65 : dc prog_1_method_25_code 65 (.invokevirtual 117) 3 := by decide +kernel
theorem d10_68 : dc prog_1_method_25_code 68 (.iinc 2 1) 3 := by decide +kernel
theorem d10_71 : dc prog_1_method_25_code 71 (.iinc 3 1) 3 := by decide +kernel
theorem d10_74 : dc prog_1_method_25_code 74 (.goto (-42)) 3 := by decide +kernel
theorem d10_77 : dc prog_1_method_25_code 77 (.iconst 0) 1 := by decide +kernel
theorem d10_78 : dc prog_1_method_25_code 78 (.istore_n 3) 1 := by decide +kernel
theorem d10_79 : dc prog_1_method_25_code 79 (.iconst 0) 1 := by decide +kernel
theorem d10_80 : dc prog_1_method_25_code 80 (.istore 4) 2 := by decide +kernel
theorem d10_82 : dc prog_1_method_25_code 82 (.iload 4) 2 := by decide +kernel
theorem d10_84 : dc prog_1_method_25_code 84 (.iload_n 2) 1 := by decide +kernel
theorem d10_85 : dc prog_1_method_25_code 85 (.if_icmp .gt 33) 3 := by decide +kernel
theorem d10_88 : dc prog_1_method_25_code 88 (.iload 4) 2 := by decide +kernel
theorem d10_90 : dc prog_1_method_25_code 90 (.bipush 10) 2 := by decide +kernel
theorem d10_92 : dc prog_1_method_25_code 92 (.if_icmp .ge 26) 3 := by decide +kernel
theorem d10_95 : dc prog_1_method_25_code 95 (.aload_n 0) 1 := by decide +kernel
theorem d10_96 : dc prog_1_method_25_code 96 (.getfield 25) 3 := by decide +kernel
theorem d10_99 : dc prog_1_method_25_code 99 (.iload 4) 2 := by decide +kernel
theorem d10_101 : dc prog_1_method_25_code 101 (.iaload) 1 := by decide +kernel
theorem d10_102 : dc prog_1_method_25_code 102 (.ifCond .eq 10) 3 := by decide +kernel
theorem d10_105 : dc prog_1_method_25_code 105 (.iload_n 3) 1 := by decide +kernel
theorem d10_106 : dc prog_1_method_25_code 106 (.iconst 1) 1 := by decide +kernel
theorem d10_107 : dc prog_1_method_25_code 107 (.iload 4) 2 := by decide +kernel
theorem d10_109 : dc prog_1_method_25_code 109 (.ishl) 1 := by decide +kernel
theorem d10_110 : dc prog_1_method_25_code 110 (.ior) 1 := by decide +kernel
theorem d10_111 : dc prog_1_method_25_code 111 (.istore_n 3) 1 := by decide +kernel
theorem d10_112 : dc prog_1_method_25_code 112 (.iinc 4 1) 3 := by decide +kernel
theorem d10_115 : dc prog_1_method_25_code 115 (.goto (-33)) 3 := by decide +kernel
theorem d10_118 : dc prog_1_method_25_code 118 (.iload_n 3) 1 := by decide +kernel
theorem d10_119 : dc prog_1_method_25_code 119 (.ireturn) 1 := by decide +kernel
abbrev y10 : MethodName := ⟨"CyclicCodeLab", "minimalPolyOfCoset", "(I)I"⟩
theorem hy10 : y10.cls ≠ "java/lang/invoke/MethodHandle" ∧ y10.cls ≠ "java/lang/invoke/VarHandle" := by decide
theorem pd10 : parseMethodDescriptor y10.desc = some ⟨[.int], some .int⟩ := by decide +kernel
abbrev R10 : Room := { frames := 2, cells := 0, slots := 0, locals := 33 }
abbrev P10 (r : Int32 × St) : Option Value → List OwnC → Prop := fun v H' => v = some (.int r.1) ∧ H' = (Hb 0 r.2)
abbrev W10 (l : Launch) (Z : State) (n0 : Nat) (Q : Option Value → List OwnC → Prop) (k n pc : Nat) (L : List Slot) (S : List Value) (H : List OwnC) : Prop := WP l Z CN lay "CyclicCodeLab" "minimalPolyOfCoset" prog_1_method_25_code 5 (some FieldType.int) R10 n0 0 Q k n pc L S H
def f_minimalPolyOfCoset_71 (k32 : Int32 → Int32 → Int32 → St → Option (Int32 × St)) (n : Nat) (v1 : Int32) (v2 : Int32) (v3 : Int32) (s : St) : Option (Int32 × St) :=
  lt (v3 + (1 : Int32)) fun x1 =>
  k32 v1 v2 x1 s
set_option maxRecDepth 65536 in
set_option maxHeartbeats 4000000 in
theorem ok10_71 (l : Launch) (Z : State) (a0 : Array Value) (hw : HW a0 Z) (n0 : Nat) (k32 : Int32 → Int32 → Int32 → St → Option (Int32 × St)) (hk32 : ∀ (v1 : Int32) (v2 : Int32) (v3 : Int32) (s : St) (r : Int32 × St), k32 v1 v2 v3 s = some r → W10 l Z n0 (P10 r) 0 0 32 [.val (.ref 0), .val (.int v1), .val (.int v2), .val (.int v3), .unset] [] (Hb 0 s)) (n : Nat) (v1 : Int32) (v2 : Int32) (v3 : Int32) (s : St) (r : Int32 × St) (h : f_minimalPolyOfCoset_71 k32 n v1 v2 v3 s = some r) : W10 l Z n0 (P10 r) 0 0 71 [.val (.ref 0), .val (.int v1), .val (.int v2), .val (.int v3), .unset] [] (Hb 0 s) := by
  unfold f_minimalPolyOfCoset_71 at h
  obtain ⟨x1, ex1, h⟩ := lt_e h
  refine WP.iinc (L' := [.val (.ref 0), .val (.int v1), .val (.int v2), .val (.int x1), .unset]) (1 : Int32) d10_71 rfl rfl (by subst ex1; rfl) ?_
  refine WP.goto (pc' := 32) d10_74 (by decide) rfl ?_
  exact WP.weak (L' := [.val (.ref 0), .val (.int v1), .val (.int v2), .val (.int x1), .unset]) ⟨rfl, rfl, rfl, rfl, trivial⟩ (hk32 v1 v2 x1 s _ h)
def f_minimalPolyOfCoset_112 (k82 : Int32 → Int32 → Int32 → St → Option (Int32 × St)) (n : Nat) (v2 : Int32) (v3 : Int32) (v4 : Int32) (s : St) : Option (Int32 × St) :=
  lt (v4 + (1 : Int32)) fun x1 =>
  k82 v2 v3 x1 s
set_option maxRecDepth 65536 in
set_option maxHeartbeats 4000000 in
theorem ok10_112 (l : Launch) (Z : State) (a0 : Array Value) (hw : HW a0 Z) (n0 : Nat) (k82 : Int32 → Int32 → Int32 → St → Option (Int32 × St)) (hk82 : ∀ (v2 : Int32) (v3 : Int32) (v4 : Int32) (s : St) (r : Int32 × St), k82 v2 v3 v4 s = some r → W10 l Z n0 (P10 r) 0 0 82 [.val (.ref 0), .unset, .val (.int v2), .val (.int v3), .val (.int v4)] [] (Hb 0 s)) (n : Nat) (v2 : Int32) (v3 : Int32) (v4 : Int32) (s : St) (r : Int32 × St) (h : f_minimalPolyOfCoset_112 k82 n v2 v3 v4 s = some r) : W10 l Z n0 (P10 r) 0 0 112 [.val (.ref 0), .unset, .val (.int v2), .val (.int v3), .val (.int v4)] [] (Hb 0 s) := by
  unfold f_minimalPolyOfCoset_112 at h
  obtain ⟨x1, ex1, h⟩ := lt_e h
  refine WP.iinc (L' := [.val (.ref 0), .unset, .val (.int v2), .val (.int v3), .val (.int x1)]) (1 : Int32) d10_112 rfl rfl (by subst ex1; rfl) ?_
  refine WP.goto (pc' := 82) d10_115 (by decide) rfl ?_
  exact WP.weak (L' := [.val (.ref 0), .unset, .val (.int v2), .val (.int v3), .val (.int x1)]) ⟨rfl, rfl, rfl, rfl, trivial⟩ (hk82 v2 v3 x1 s _ h)
def f_minimalPolyOfCoset_118 (n : Nat) (v3 : Int32) (s : St) : Option (Int32 × St) :=
  some (v3, s)
set_option maxRecDepth 65536 in
set_option maxHeartbeats 4000000 in
theorem ok10_118 (l : Launch) (Z : State) (a0 : Array Value) (hw : HW a0 Z) (n0 : Nat) (n : Nat) (v3 : Int32) (s : St) (r : Int32 × St) (h : f_minimalPolyOfCoset_118 n v3 s = some r) : W10 l Z n0 (P10 r) 0 0 118 [.unset, .unset, .unset, .val (.int v3), .unset] [] (Hb 0 s) := by
  unfold f_minimalPolyOfCoset_118 at h
  refine WP.iloadN d10_118 rfl ?_
  cases h
  exact WP.ireturn d10_119 rfl (leb rfl) (leb rfl) ⟨rfl, rfl⟩
def g_minimalPolyOfCoset_82 (k82 : Int32 → Int32 → Int32 → St → Option (Int32 × St)) (n : Nat) (v2 : Int32) (v3 : Int32) (v4 : Int32) (s : St) : Option (Int32 × St) :=
  if v2 < v4 then
    f_minimalPolyOfCoset_118 n v3 s
  else
    if v4 < (10 : Int32) then
      (rd (gA s 5) v4).bind fun x3 =>
      if x3 = 0 then
        f_minimalPolyOfCoset_112 k82 n v2 v3 v4 s
      else
        lt (v3 ||| ((1 : Int32) <<< (v4 &&& 31))) fun x5 =>
        f_minimalPolyOfCoset_112 k82 n v2 x5 v4 s
    else
      f_minimalPolyOfCoset_118 n v3 s
set_option maxRecDepth 65536 in
set_option maxHeartbeats 4000000 in
theorem okg10_82 (l : Launch) (Z : State) (a0 : Array Value) (hw : HW a0 Z) (n0 : Nat) (k82 : Int32 → Int32 → Int32 → St → Option (Int32 × St)) (hk82 : ∀ (v2 : Int32) (v3 : Int32) (v4 : Int32) (s : St) (r : Int32 × St), k82 v2 v3 v4 s = some r → W10 l Z n0 (P10 r) 0 0 82 [.val (.ref 0), .unset, .val (.int v2), .val (.int v3), .val (.int v4)] [] (Hb 0 s)) (n : Nat) (v2 : Int32) (v3 : Int32) (v4 : Int32) (s : St) (r : Int32 × St) (h : g_minimalPolyOfCoset_82 k82 n v2 v3 v4 s = some r) : W10 l Z n0 (P10 r) 0 0 82 [.val (.ref 0), .unset, .val (.int v2), .val (.int v3), .val (.int v4)] [] (Hb 0 s) := by
  unfold g_minimalPolyOfCoset_82 at h
  refine WP.iload d10_82 rfl ?_
  refine WP.iloadN d10_84 rfl ?_
  rcases ite_e h with ⟨hc1, h⟩ | ⟨hc1, h⟩
  ·
    refine WP.icmpY (pc' := 118) d10_85 (XT.ii_gt_t hc1) (by decide) rfl ?_
    exact WP.weak (L' := [.unset, .unset, .unset, .val (.int v3), .unset]) ⟨rfl, trivial⟩ (ok10_118 l Z a0 hw n0 n v3 s _ h)
  ·
    refine WP.icmpN d10_85 (XT.ii_gt_f hc1) ?_
    refine WP.iload d10_88 rfl ?_
    refine WP.bipush (10 : Int32) d10_90 rfl ?_
    rcases ite_e h with ⟨hc2, h⟩ | ⟨hc2, h⟩
    ·
      refine WP.icmpN d10_92 (XT.ii_ge_f hc2) ?_
      refine WP.aloadN d10_95 rfl ?_
      refine WP.getfield (i := 0) (j := 13) d10_96 (hw _ m_20) rfl rfl rfl ?_
      refine WP.iload d10_99 rfl ?_
      obtain ⟨x3, hx3, h⟩ := Option.bind_eq_some_iff.mp h
      refine WP.iaload (i := 6) d10_101 rfl hx3 ?_
      rcases ite_e h with ⟨hc4, h⟩ | ⟨hc4, h⟩
      ·
        refine WP.ifY (pc' := 112) d10_102 (XT.i0_eq_t hc4) (by decide) rfl ?_
        exact WP.weak (L' := [.val (.ref 0), .unset, .val (.int v2), .val (.int v3), .val (.int v4)]) ⟨rfl, rfl, rfl, rfl, trivial⟩ (ok10_112 l Z a0 hw n0 _ hk82 n v2 v3 v4 s _ h)
      ·
        refine WP.ifN d10_102 (XT.i0_eq_f hc4) ?_
        refine WP.iloadN d10_105 rfl ?_
        refine WP.iconst (1 : Int32) d10_106 rfl ?_
        refine WP.iload d10_107 rfl ?_
        refine WP.ishl d10_109 ?_
        refine WP.ior d10_110 ?_
        obtain ⟨x5, ex5, h⟩ := lt_e h
        refine WP.istoreN (L' := [.val (.ref 0), .unset, .val (.int v2), .val (.int x5), .val (.int v4)]) d10_111 (leb rfl) (by subst ex5; rfl) ?_
        exact WP.weak (L' := [.val (.ref 0), .unset, .val (.int v2), .val (.int x5), .val (.int v4)]) ⟨rfl, rfl, rfl, rfl, trivial⟩ (ok10_112 l Z a0 hw n0 _ hk82 n v2 x5 v4 s _ h)
    ·
      refine WP.icmpY (pc' := 118) d10_92 (XT.ii_ge_t hc2) (by decide) rfl ?_
      exact WP.weak (L' := [.unset, .unset, .unset, .val (.int v3), .unset]) ⟨rfl, trivial⟩ (ok10_118 l Z a0 hw n0 n v3 s _ h)
def f_minimalPolyOfCoset_82 : Nat → Int32 → Int32 → Int32 → St → Option (Int32 × St)
  | 0 => fun _ _ _ _ => none
  | n + 1 => g_minimalPolyOfCoset_82 (f_minimalPolyOfCoset_82 n) n
theorem ok10_82 (l : Launch) (Z : State) (a0 : Array Value) (hw : HW a0 Z) (n0 : Nat) : ∀ (n : Nat) (v2 : Int32) (v3 : Int32) (v4 : Int32) (s : St) (r : Int32 × St), f_minimalPolyOfCoset_82 n v2 v3 v4 s = some r → W10 l Z n0 (P10 r) 0 0 82 [.val (.ref 0), .unset, .val (.int v2), .val (.int v3), .val (.int v4)] [] (Hb 0 s)
  | 0, v2, v3, v4, s, r, h => nomatch (show none = some r from h)
  | n + 1, v2, v3, v4, s, r, h => okg10_82 l Z a0 hw n0 _ (ok10_82 l Z a0 hw n0 n) n v2 v3 v4 s r h
def g_minimalPolyOfCoset_32 (k32 : Int32 → Int32 → Int32 → St → Option (Int32 × St)) (n : Nat) (v1 : Int32) (v2 : Int32) (v3 : Int32) (s : St) : Option (Int32 × St) :=
  if v3 < (gI s 0) then
    if ((XT.ushr v1 v3) &&& (1 : Int32)) = 0 then
      f_minimalPolyOfCoset_71 k32 n v1 v2 v3 s
    else
      if v2 < (9 : Int32) then
        (f_alphaPow v3 s).bind fun c4 =>
        (f_multiplyByLinear n c4 v2 s).bind fun c5 =>
        lt (v2 + (1 : Int32)) fun x6 =>
        f_minimalPolyOfCoset_71 k32 n v1 x6 v3 c5
      else
        f_minimalPolyOfCoset_71 k32 n v1 v2 v3 s
  else
    f_minimalPolyOfCoset_82 n v2 (0 : Int32) (0 : Int32) s
set_option maxRecDepth 65536 in
set_option maxHeartbeats 4000000 in
theorem okg10_32 (l : Launch) (Z : State) (a0 : Array Value) (hw : HW a0 Z) (n0 : Nat) (k32 : Int32 → Int32 → Int32 → St → Option (Int32 × St)) (hk32 : ∀ (v1 : Int32) (v2 : Int32) (v3 : Int32) (s : St) (r : Int32 × St), k32 v1 v2 v3 s = some r → W10 l Z n0 (P10 r) 0 0 32 [.val (.ref 0), .val (.int v1), .val (.int v2), .val (.int v3), .unset] [] (Hb 0 s)) (n : Nat) (v1 : Int32) (v2 : Int32) (v3 : Int32) (s : St) (r : Int32 × St) (h : g_minimalPolyOfCoset_32 k32 n v1 v2 v3 s = some r) : W10 l Z n0 (P10 r) 0 0 32 [.val (.ref 0), .val (.int v1), .val (.int v2), .val (.int v3), .unset] [] (Hb 0 s) := by
  unfold g_minimalPolyOfCoset_32 at h
  refine WP.iloadN d10_32 rfl ?_
  refine WP.aloadN d10_33 rfl ?_
  refine WP.getfield (i := 0) (j := 0) d10_34 (hw _ m_30) rfl rfl rfl ?_
  rcases ite_e h with ⟨hc1, h⟩ | ⟨hc1, h⟩
  ·
    refine WP.icmpN d10_37 (XT.ii_ge_f hc1) ?_
    refine WP.iloadN d10_40 rfl ?_
    refine WP.iloadN d10_41 rfl ?_
    refine WP.iushr d10_42 ?_
    refine WP.iconst (1 : Int32) d10_43 rfl ?_
    refine WP.iand d10_44 ?_
    rcases ite_e h with ⟨hc2, h⟩ | ⟨hc2, h⟩
    ·
      refine WP.ifY (pc' := 71) d10_45 (XT.i0_eq_t hc2) (by decide) rfl ?_
      exact WP.weak (L' := [.val (.ref 0), .val (.int v1), .val (.int v2), .val (.int v3), .unset]) ⟨rfl, rfl, rfl, rfl, trivial⟩ (ok10_71 l Z a0 hw n0 _ hk32 n v1 v2 v3 s _ h)
    ·
      refine WP.ifN d10_45 (XT.i0_eq_f hc2) ?_
      refine WP.iloadN d10_48 rfl ?_
      refine WP.bipush (9 : Int32) d10_49 rfl ?_
      rcases ite_e h with ⟨hc3, h⟩ | ⟨hc3, h⟩
      ·
        refine WP.icmpN d10_51 (XT.ii_ge_f hc3) ?_
        refine WP.aloadN d10_54 rfl ?_
        refine WP.iloadN d10_55 rfl ?_
        obtain ⟨c4, hc4, h⟩ := Option.bind_eq_some_iff.mp h
        refine WP.callP (i := 0) (y := y11) (as := [.int v3]) (S := []) d10_56 (hw _ m_70) (hw _ m_72) (hw _ m_1) (hw _ m_71) (hw _ m_73) (hw _ m_2) hy11 rfl (ok11 l Z a0 hw v3 s _ hc4) rfl (lenOf pd11 rfl) (leb rfl) (leb rfl) (leb rfl) (leb rfl) ?_
        rintro _ _ ⟨rfl, rfl⟩
        show W10 l Z n0 (P10 r) 0 0 59 [.val (.ref 0), .val (.int v1), .val (.int v2), .val (.int v3), .unset] [.int c4] (Hb 0 s)
        refine WP.istore (L' := [.val (.ref 0), .val (.int v1), .val (.int v2), .val (.int v3), .val (.int c4)]) d10_59 (leb rfl) rfl ?_
        refine WP.aloadN d10_61 rfl ?_
        refine WP.iload d10_62 rfl ?_
        refine WP.iloadN d10_64 rfl ?_
        obtain ⟨c5, hc5, h⟩ := Option.bind_eq_some_iff.mp h
        refine WP.callP (i := 0) (y := y12) (as := [.int c4, .int v2]) (S := []) d10_65 (hw _ m_74) (hw _ m_76) (hw _ m_1) (hw _ m_75) (hw _ m_77) (hw _ m_2) hy12 rfl (ok12 l Z a0 hw n c4 v2 s _ hc5) rfl (lenOf pd12 rfl) (leb rfl) (leb rfl) (leb rfl) (leb rfl) ?_
        rintro _ _ ⟨rfl, rfl⟩
        show W10 l Z n0 (P10 r) 0 0 68 [.val (.ref 0), .val (.int v1), .val (.int v2), .val (.int v3), .val (.int c4)] [] (Hb 0 c5)
        obtain ⟨x6, ex6, h⟩ := lt_e h
        refine WP.iinc (L' := [.val (.ref 0), .val (.int v1), .val (.int x6), .val (.int v3), .val (.int c4)]) (1 : Int32) d10_68 rfl rfl (by subst ex6; rfl) ?_
        exact WP.weak (L' := [.val (.ref 0), .val (.int v1), .val (.int x6), .val (.int v3), .unset]) ⟨rfl, rfl, rfl, rfl, trivial⟩ (ok10_71 l Z a0 hw n0 _ hk32 n v1 x6 v3 c5 _ h)
      ·
        refine WP.icmpY (pc' := 71) d10_51 (XT.ii_ge_t hc3) (by decide) rfl ?_
        exact WP.weak (L' := [.val (.ref 0), .val (.int v1), .val (.int v2), .val (.int v3), .unset]) ⟨rfl, rfl, rfl, rfl, trivial⟩ (ok10_71 l Z a0 hw n0 _ hk32 n v1 v2 v3 s _ h)
  ·
    refine WP.icmpY (pc' := 77) d10_37 (XT.ii_ge_t hc1) (by decide) rfl ?_
    refine WP.iconst (0 : Int32) d10_77 rfl ?_
    refine WP.istoreN (L' := [.val (.ref 0), .val (.int v1), .val (.int v2), .val (.int (0 : Int32)), .unset]) d10_78 (leb rfl) rfl ?_
    refine WP.iconst (0 : Int32) d10_79 rfl ?_
    refine WP.istore (L' := [.val (.ref 0), .val (.int v1), .val (.int v2), .val (.int (0 : Int32)), .val (.int (0 : Int32))]) d10_80 (leb rfl) rfl ?_
    exact WP.weak (L' := [.val (.ref 0), .unset, .val (.int v2), .val (.int (0 : Int32)), .val (.int (0 : Int32))]) ⟨rfl, rfl, rfl, rfl, trivial⟩ (ok10_82 l Z a0 hw n0 n v2 (0 : Int32) (0 : Int32) s _ h)
def f_minimalPolyOfCoset_32 : Nat → Int32 → Int32 → Int32 → St → Option (Int32 × St)
  | 0 => fun _ _ _ _ => none
  | n + 1 => g_minimalPolyOfCoset_32 (f_minimalPolyOfCoset_32 n) n
theorem ok10_32 (l : Launch) (Z : State) (a0 : Array Value) (hw : HW a0 Z) (n0 : Nat) : ∀ (n : Nat) (v1 : Int32) (v2 : Int32) (v3 : Int32) (s : St) (r : Int32 × St), f_minimalPolyOfCoset_32 n v1 v2 v3 s = some r → W10 l Z n0 (P10 r) 0 0 32 [.val (.ref 0), .val (.int v1), .val (.int v2), .val (.int v3), .unset] [] (Hb 0 s)
  | 0, v1, v2, v3, s, r, h => nomatch (show none = some r from h)
  | n + 1, v1, v2, v3, s, r, h => okg10_32 l Z a0 hw n0 _ (ok10_32 l Z a0 hw n0 n) n v1 v2 v3 s r h
def g_minimalPolyOfCoset_2 (k2 : Int32 → Int32 → St → Option (Int32 × St)) (n : Nat) (v1 : Int32) (v2 : Int32) (s : St) : Option (Int32 × St) :=
  if v2 < (10 : Int32) then
    (wrA s 5 v2 (0 : Int32)).bind fun s2 =>
    lt (v2 + (1 : Int32)) fun x3 =>
    k2 v1 x3 s2
  else
    (wrA s 5 (0 : Int32) (1 : Int32)).bind fun s4 =>
    f_minimalPolyOfCoset_32 n v1 (0 : Int32) (0 : Int32) s4
set_option maxRecDepth 65536 in
set_option maxHeartbeats 4000000 in
theorem okg10_2 (l : Launch) (Z : State) (a0 : Array Value) (hw : HW a0 Z) (n0 : Nat) (k2 : Int32 → Int32 → St → Option (Int32 × St)) (hk2 : ∀ (v1 : Int32) (v2 : Int32) (s : St) (r : Int32 × St), k2 v1 v2 s = some r → W10 l Z n0 (P10 r) 0 0 2 [.val (.ref 0), .val (.int v1), .val (.int v2), .unset, .unset] [] (Hb 0 s)) (n : Nat) (v1 : Int32) (v2 : Int32) (s : St) (r : Int32 × St) (h : g_minimalPolyOfCoset_2 k2 n v1 v2 s = some r) : W10 l Z n0 (P10 r) 0 0 2 [.val (.ref 0), .val (.int v1), .val (.int v2), .unset, .unset] [] (Hb 0 s) := by
  unfold g_minimalPolyOfCoset_2 at h
  refine WP.iloadN d10_2 rfl ?_
  refine WP.bipush (10 : Int32) d10_3 rfl ?_
  rcases ite_e h with ⟨hc1, h⟩ | ⟨hc1, h⟩
  ·
    refine WP.icmpN d10_5 (XT.ii_ge_f hc1) ?_
    refine WP.aloadN d10_8 rfl ?_
    refine WP.getfield (i := 0) (j := 13) d10_9 (hw _ m_20) rfl rfl rfl ?_
    refine WP.iloadN d10_12 rfl ?_
    refine WP.iconst (0 : Int32) d10_13 rfl ?_
    obtain ⟨s2, hs2, h⟩ := Option.bind_eq_some_iff.mp h
    obtain ⟨ys2, gs2, es2⟩ := wrA_e hs2
    refine WP.iastore (i := 6) (xs := gA s 5) (H' := (Hb 0 s2)) d10_14 rfl (leb rfl) gs2 (by subst es2; rfl) ?_
    obtain ⟨x3, ex3, h⟩ := lt_e h
    refine WP.iinc (L' := [.val (.ref 0), .val (.int v1), .val (.int x3), .unset, .unset]) (1 : Int32) d10_15 rfl rfl (by subst ex3; rfl) ?_
    refine WP.goto (pc' := 2) d10_18 (by decide) rfl ?_
    exact WP.weak (L' := [.val (.ref 0), .val (.int v1), .val (.int x3), .unset, .unset]) ⟨rfl, rfl, rfl, trivial⟩ (hk2 v1 x3 s2 _ h)
  ·
    refine WP.icmpY (pc' := 21) d10_5 (XT.ii_ge_t hc1) (by decide) rfl ?_
    refine WP.aloadN d10_21 rfl ?_
    refine WP.getfield (i := 0) (j := 13) d10_22 (hw _ m_20) rfl rfl rfl ?_
    refine WP.iconst (0 : Int32) d10_25 rfl ?_
    refine WP.iconst (1 : Int32) d10_26 rfl ?_
    obtain ⟨s4, hs4, h⟩ := Option.bind_eq_some_iff.mp h
    obtain ⟨ys4, gs4, es4⟩ := wrA_e hs4
    refine WP.iastore (i := 6) (xs := gA s 5) (H' := (Hb 0 s4)) d10_27 rfl (leb rfl) gs4 (by subst es4; rfl) ?_
    refine WP.iconst (0 : Int32) d10_28 rfl ?_
    refine WP.istoreN (L' := [.val (.ref 0), .val (.int v1), .val (.int (0 : Int32)), .unset, .unset]) d10_29 (leb rfl) rfl ?_
    refine WP.iconst (0 : Int32) d10_30 rfl ?_
    refine WP.istoreN (L' := [.val (.ref 0), .val (.int v1), .val (.int (0 : Int32)), .val (.int (0 : Int32)), .unset]) d10_31 (leb rfl) rfl ?_
    exact WP.weak (L' := [.val (.ref 0), .val (.int v1), .val (.int (0 : Int32)), .val (.int (0 : Int32)), .unset]) ⟨rfl, rfl, rfl, rfl, trivial⟩ (ok10_32 l Z a0 hw n0 n v1 (0 : Int32) (0 : Int32) s4 _ h)
def f_minimalPolyOfCoset_2 : Nat → Int32 → Int32 → St → Option (Int32 × St)
  | 0 => fun _ _ _ => none
  | n + 1 => g_minimalPolyOfCoset_2 (f_minimalPolyOfCoset_2 n) n
theorem ok10_2 (l : Launch) (Z : State) (a0 : Array Value) (hw : HW a0 Z) (n0 : Nat) : ∀ (n : Nat) (v1 : Int32) (v2 : Int32) (s : St) (r : Int32 × St), f_minimalPolyOfCoset_2 n v1 v2 s = some r → W10 l Z n0 (P10 r) 0 0 2 [.val (.ref 0), .val (.int v1), .val (.int v2), .unset, .unset] [] (Hb 0 s)
  | 0, v1, v2, s, r, h => nomatch (show none = some r from h)
  | n + 1, v1, v2, s, r, h => okg10_2 l Z a0 hw n0 _ (ok10_2 l Z a0 hw n0 n) n v1 v2 s r h
def f_minimalPolyOfCoset (n : Nat) (p1 : Int32) (s : St) : Option (Int32 × St) :=
  f_minimalPolyOfCoset_2 n p1 (0 : Int32) s
set_option maxRecDepth 65536 in
set_option maxHeartbeats 4000000 in
theorem ok10 (l : Launch) (Z : State) (a0 : Array Value) (hw : HW a0 Z) (n : Nat) (p1 : Int32) (s : St) (r : Int32 × St) (h : f_minimalPolyOfCoset n p1 s = some r) : CS l Z CN lay y10 prog_1_method_25_code 5 (some FieldType.int) R10 0 [.ref 0, .int p1] (Hb 0 s) (P10 r) := by
  refine CS.of_wp pn_cls (leb rfl) fun n0 => ?_
  show W10 l Z n0 (P10 r) 0 0 0 [.val (.ref 0), .val (.int p1), .unset, .unset, .unset] [] (Hb 0 s)
  unfold f_minimalPolyOfCoset at h
  refine WP.iconst (0 : Int32) d10_0 rfl ?_
  refine WP.istoreN (L' := [.val (.ref 0), .val (.int p1), .val (.int (0 : Int32)), .unset, .unset]) d10_1 (leb rfl) rfl ?_
  exact WP.weak (L' := [.val (.ref 0), .val (.int p1), .val (.int (0 : Int32)), .unset, .unset]) ⟨rfl, rfl, rfl, trivial⟩ (ok10_2 l Z a0 hw n0 n p1 (0 : Int32) s _ h)
theorem d9_0 : dc prog_1_method_24_code 0 (.iconst 0) 1 := by decide +kernel
theorem d9_1 : dc prog_1_method_24_code 1 (.istore_n 1) 1 := by decide +kernel
theorem d9_2 : dc prog_1_method_24_code 2 (.iload_n 1) 1 := by decide +kernel
theorem d9_3 : dc prog_1_method_24_code 3 (.bipush 32) 2 := by decide +kernel
theorem d9_5 : dc prog_1_method_24_code 5 (.if_icmp .ge 16) 3 := by decide +kernel
theorem d9_8 : dc prog_1_method_24_code 8 (.aload_n 0) 1 := by decide +kernel
theorem d9_9 : dc prog_1_method_24_code 9 (.getfield 22) 3 := by decide +kernel
theorem d9_12 : dc prog_1_method_24_code 12 (.iload_n 1) 1 := by decide +kernel
theorem d9_13 : dc prog_1_method_24_code 13 (.iconst 0) 1 := by decide +kernel
theorem d9_14 : dc prog_1_method_24_code 14 (.iastore) 1 := by decide +kernel
theorem d9_15 : dc prog_1_method_24_code 15 (.iinc 1 1) 3 := by decide +kernel
theorem d9_18 : dc prog_1_method_24_code 18 (.goto (-16)) 3 := by decide +kernel
theorem d9_21 : dc prog_1_method_24_code 21 (.iconst 0) 1 := by decide +kernel
theorem d9_22 : dc prog_1_method_24_code 22 (.istore_n 1) 1 := by decide +kernel
theorem d9_23 : dc prog_1_method_24_code 23 (.iload_n 1) 1 := by decide +kernel
theorem d9_24 : dc prog_1_method_24_code 24 (.aload_n 0) 1 := by decide +kernel
theorem d9_25 : dc prog_1_method_24_code 25 (.getfield 32) 3 := by decide +kernel
theorem d9_28 : dc prog_1_method_24_code 28 (.if_icmp .ge 61) 3 := by decide +kernel
theorem d9_31 : dc prog_1_method_24_code 31 (.aload_n 0) 1 := by decide +kernel
theorem d9_32 : dc prog_1_method_24_code 32 (.getfield 19) 3 := by decide +kernel
theorem d9_35 : dc prog_1_method_24_code 35 (.iload_n 1) 1 := by decide +kernel
theorem d9_36 : dc prog_1_method_24_code 36 (.iaload) 1 := by decide +kernel
theorem d9_37 : dc prog_1_method_24_code 37 (.istore_n 2) 1 := by decide +kernel
theorem d9_38 : dc prog_1_method_24_code 38 (.iload_n 2) 1 := by decide +kernel
theorem d9_39 : dc prog_1_method_24_code 39 (.iload_n 1) 1 := by decide +kernel
theorem d9_40 : dc prog_1_method_24_code 40 (.if_icmp .ne 22) 3 := by decide +kernel
theorem d9_43 : dc prog_1_method_24_code 43 (.aload_n 0) 1 := by decide +kernel
theorem d9_44 : dc prog_1_method_24_code 44 (.getfield 22) 3 := by decide +kernel
theorem d9_47 : dc prog_1_method_24_code 47 (.iload_n 1) 1 := by decide +kernel
theorem d9_48 : dc prog_1_method_24_code 48 (.aload_n 0) 1 := by decide +kernel
theorem d9_49 : dc prog_1_method_24_code 49 (.aload_n 0) 1 := by decide +kernel
theorem d9_50 : dc prog_1_method_24_code 50 (.getfield 16) 3 := by decide +kernel
theorem d9_53 : dc prog_1_method_24_code 53 (.iload_n 1) 1 := by decide +kernel
theorem d9_54 : dc prog_1_method_24_code 54 (.iaload) 1 := by decide +kernel
theorem d9_55 : dc prog_1_method_24_code 55 (.invokevirtual 111) 3 := by decide +kernel
theorem d9_58 : dc prog_1_method_24_code 58 (.iastore) 1 := by decide +kernel
theorem d9_59 : dc prog_1_method_24_code 59 (.goto 24) 3 := by decide +kernel
theorem d9_62 : dc prog_1_method_24_code 62 (.iload_n 2) 1 := by decide +kernel
theorem d9_63 : dc prog_1_method_24_code 63 (.ifCond .lt 20) 3 := by decide +kernel
theorem d9_66 : dc prog_1_method_24_code 66 (.iload_n 2) 1 := by decide +kernel
theorem d9_67 : dc prog_1_method_24_code 67 (.iload_n 1) 1 := by decide +kernel
theorem d9_68 : dc prog_1_method_24_code 68 (.if_icmp .ge 15) 3 := by decide +kernel
theorem d9_71 : dc prog_1_method_24_code 71 (.aload_n 0) 1 := by decide +kernel
theorem d9_72 : dc prog_1_method_24_code 72 (.getfield 22) 3 := by decide +kernel
theorem d9_75 : dc prog_1_method_24_code 75 (.iload_n 1) 1 := by decide +kernel
theorem d9_76 : dc prog_1_method_24_code 76 (.aload_n 0) 1 := by decide +kernel
theorem d9_77 : dc prog_1_method_24_code 77 (.getfield 22) 3 := by decide +kernel
theorem d9_80 : dc prog_1_method_24_code 80 (.iload_n 2) 1 := by decide +kernel
theorem d9_81 : dc prog_1_method_24_code 81 (.iaload) 1 := by decide +kernel
theorem d9_82 : dc prog_1_method_24_code 82 (.iastore) 1 := by decide +kernel
theorem d9_83 : dc prog_1_method_24_code 83 (.iinc 1 1) 3 := by decide +kernel
theorem d9_86 : dc prog_1_method_24_code 86 (.goto (-63)) 3 := by decide +kernel
theorem d9_89 : dc prog_1_method_24_code 89 (.return_) 1 := by decide +kernel
abbrev y9 : MethodName := ⟨"CyclicCodeLab", "buildMinimalPolys", "()V"⟩
theorem hy9 : y9.cls ≠ "java/lang/invoke/MethodHandle" ∧ y9.cls ≠ "java/lang/invoke/VarHandle" := by decide
theorem pd9 : parseMethodDescriptor y9.desc = some ⟨[], none⟩ := by decide +kernel
abbrev R9 : Room := { frames := 3, cells := 0, slots := 0, locals := 51 }
abbrev P9 (r : St) : Option Value → List OwnC → Prop := fun v H' => v = none ∧ H' = (Hb 0 r)
abbrev W9 (l : Launch) (Z : State) (n0 : Nat) (Q : Option Value → List OwnC → Prop) (k n pc : Nat) (L : List Slot) (S : List Value) (H : List OwnC) : Prop := WP l Z CN lay "CyclicCodeLab" "buildMinimalPolys" prog_1_method_24_code 3 (none) R9 n0 0 Q k n pc L S H
def f_buildMinimalPolys_83 (k23 : Int32 → St → Option (St)) (n : Nat) (v1 : Int32) (s : St) : Option (St) :=
  lt (v1 + (1 : Int32)) fun x1 =>
  k23 x1 s
set_option maxRecDepth 65536 in
set_option maxHeartbeats 4000000 in
theorem ok9_83 (l : Launch) (Z : State) (a0 : Array Value) (hw : HW a0 Z) (n0 : Nat) (k23 : Int32 → St → Option (St)) (hk23 : ∀ (v1 : Int32) (s : St) (r : St), k23 v1 s = some r → W9 l Z n0 (P9 r) 0 0 23 [.val (.ref 0), .val (.int v1), .unset] [] (Hb 0 s)) (n : Nat) (v1 : Int32) (s : St) (r : St) (h : f_buildMinimalPolys_83 k23 n v1 s = some r) : W9 l Z n0 (P9 r) 0 0 83 [.val (.ref 0), .val (.int v1), .unset] [] (Hb 0 s) := by
  unfold f_buildMinimalPolys_83 at h
  obtain ⟨x1, ex1, h⟩ := lt_e h
  refine WP.iinc (L' := [.val (.ref 0), .val (.int x1), .unset]) (1 : Int32) d9_83 rfl rfl (by subst ex1; rfl) ?_
  refine WP.goto (pc' := 23) d9_86 (by decide) rfl ?_
  exact WP.weak (L' := [.val (.ref 0), .val (.int x1), .unset]) ⟨rfl, rfl, trivial⟩ (hk23 x1 s _ h)
def g_buildMinimalPolys_23 (k23 : Int32 → St → Option (St)) (n : Nat) (v1 : Int32) (s : St) : Option (St) :=
  if v1 < (gI s 0) then
    (rd (gA s 3) v1).bind fun x2 =>
    if x2 = v1 then
      (rd (gA s 2) v1).bind fun x4 =>
      (f_minimalPolyOfCoset n x4 s).bind fun c5 =>
      (wrA c5.2 4 v1 c5.1).bind fun s6 =>
      f_buildMinimalPolys_83 k23 n v1 s6
    else
      if x2 < 0 then
        f_buildMinimalPolys_83 k23 n v1 s
      else
        if x2 < v1 then
          (rd (gA s 4) x2).bind fun x9 =>
          (wrA s 4 v1 x9).bind fun s10 =>
          f_buildMinimalPolys_83 k23 n v1 s10
        else
          f_buildMinimalPolys_83 k23 n v1 s
  else
    some s
set_option maxRecDepth 65536 in
set_option maxHeartbeats 4000000 in
theorem okg9_23 (l : Launch) (Z : State) (a0 : Array Value) (hw : HW a0 Z) (n0 : Nat) (k23 : Int32 → St → Option (St)) (hk23 : ∀ (v1 : Int32) (s : St) (r : St), k23 v1 s = some r → W9 l Z n0 (P9 r) 0 0 23 [.val (.ref 0), .val (.int v1), .unset] [] (Hb 0 s)) (n : Nat) (v1 : Int32) (s : St) (r : St) (h : g_buildMinimalPolys_23 k23 n v1 s = some r) : W9 l Z n0 (P9 r) 0 0 23 [.val (.ref 0), .val (.int v1), .unset] [] (Hb 0 s) := by
  unfold g_buildMinimalPolys_23 at h
  refine WP.iloadN d9_23 rfl ?_
  refine WP.aloadN d9_24 rfl ?_
  refine WP.getfield (i := 0) (j := 0) d9_25 (hw _ m_30) rfl rfl rfl ?_
  rcases ite_e h with ⟨hc1, h⟩ | ⟨hc1, h⟩
  ·
    refine WP.icmpN d9_28 (XT.ii_ge_f hc1) ?_
    refine WP.aloadN d9_31 rfl ?_
    refine WP.getfield (i := 0) (j := 11) d9_32 (hw _ m_16) rfl rfl rfl ?_
    refine WP.iloadN d9_35 rfl ?_
    obtain ⟨x2, hx2, h⟩ := Option.bind_eq_some_iff.mp h
    refine WP.iaload (i := 4) d9_36 rfl hx2 ?_
    refine WP.istoreN (L' := [.val (.ref 0), .val (.int v1), .val (.int x2)]) d9_37 (leb rfl) rfl ?_
    refine WP.iloadN d9_38 rfl ?_
    refine WP.iloadN d9_39 rfl ?_
    rcases ite_e h with ⟨hc3, h⟩ | ⟨hc3, h⟩
    ·
      refine WP.icmpN d9_40 (XT.ii_ne_f hc3) ?_
      refine WP.aloadN d9_43 rfl ?_
      refine WP.getfield (i := 0) (j := 12) d9_44 (hw _ m_18) rfl rfl rfl ?_
      refine WP.iloadN d9_47 rfl ?_
      refine WP.aloadN d9_48 rfl ?_
      refine WP.aloadN d9_49 rfl ?_
      refine WP.getfield (i := 0) (j := 10) d9_50 (hw _ m_14) rfl rfl rfl ?_
      refine WP.iloadN d9_53 rfl ?_
      obtain ⟨x4, hx4, h⟩ := Option.bind_eq_some_iff.mp h
      refine WP.iaload (i := 3) d9_54 rfl hx4 ?_
      obtain ⟨c5, hc5, h⟩ := Option.bind_eq_some_iff.mp h
      refine WP.callP (i := 0) (y := y10) (as := [.int x4]) (S := [.int v1, .ref 5]) d9_55 (hw _ m_66) (hw _ m_68) (hw _ m_1) (hw _ m_67) (hw _ m_69) (hw _ m_2) hy10 rfl (ok10 l Z a0 hw n x4 s _ hc5) rfl (lenOf pd10 rfl) (leb rfl) (leb rfl) (leb rfl) (leb rfl) ?_
      rintro _ _ ⟨rfl, rfl⟩
      show W9 l Z n0 (P9 r) 0 0 58 [.val (.ref 0), .val (.int v1), .val (.int x2)] [.int c5.1, .int v1, .ref 5] (Hb 0 c5.2)
      obtain ⟨s6, hs6, h⟩ := Option.bind_eq_some_iff.mp h
      obtain ⟨ys6, gs6, es6⟩ := wrA_e hs6
      refine WP.iastore (i := 5) (xs := gA c5.2 4) (H' := (Hb 0 s6)) d9_58 rfl (leb rfl) gs6 (by subst es6; rfl) ?_
      refine WP.goto (pc' := 83) d9_59 (by decide) rfl ?_
      exact WP.weak (L' := [.val (.ref 0), .val (.int v1), .unset]) ⟨rfl, rfl, trivial⟩ (ok9_83 l Z a0 hw n0 _ hk23 n v1 s6 _ h)
    ·
      refine WP.icmpY (pc' := 62) d9_40 (XT.ii_ne_t hc3) (by decide) rfl ?_
      refine WP.iloadN d9_62 rfl ?_
      rcases ite_e h with ⟨hc7, h⟩ | ⟨hc7, h⟩
      ·
        refine WP.ifY (pc' := 83) d9_63 (XT.i0_lt_t hc7) (by decide) rfl ?_
        exact WP.weak (L' := [.val (.ref 0), .val (.int v1), .unset]) ⟨rfl, rfl, trivial⟩ (ok9_83 l Z a0 hw n0 _ hk23 n v1 s _ h)
      ·
        refine WP.ifN d9_63 (XT.i0_lt_f hc7) ?_
        refine WP.iloadN d9_66 rfl ?_
        refine WP.iloadN d9_67 rfl ?_
        rcases ite_e h with ⟨hc8, h⟩ | ⟨hc8, h⟩
        ·
          refine WP.icmpN d9_68 (XT.ii_ge_f hc8) ?_
          refine WP.aloadN d9_71 rfl ?_
          refine WP.getfield (i := 0) (j := 12) d9_72 (hw _ m_18) rfl rfl rfl ?_
          refine WP.iloadN d9_75 rfl ?_
          refine WP.aloadN d9_76 rfl ?_
          refine WP.getfield (i := 0) (j := 12) d9_77 (hw _ m_18) rfl rfl rfl ?_
          refine WP.iloadN d9_80 rfl ?_
          obtain ⟨x9, hx9, h⟩ := Option.bind_eq_some_iff.mp h
          refine WP.iaload (i := 5) d9_81 rfl hx9 ?_
          obtain ⟨s10, hs10, h⟩ := Option.bind_eq_some_iff.mp h
          obtain ⟨ys10, gs10, es10⟩ := wrA_e hs10
          refine WP.iastore (i := 5) (xs := gA s 4) (H' := (Hb 0 s10)) d9_82 rfl (leb rfl) gs10 (by subst es10; rfl) ?_
          exact WP.weak (L' := [.val (.ref 0), .val (.int v1), .unset]) ⟨rfl, rfl, trivial⟩ (ok9_83 l Z a0 hw n0 _ hk23 n v1 s10 _ h)
        ·
          refine WP.icmpY (pc' := 83) d9_68 (XT.ii_ge_t hc8) (by decide) rfl ?_
          exact WP.weak (L' := [.val (.ref 0), .val (.int v1), .unset]) ⟨rfl, rfl, trivial⟩ (ok9_83 l Z a0 hw n0 _ hk23 n v1 s _ h)
  ·
    refine WP.icmpY (pc' := 89) d9_28 (XT.ii_ge_t hc1) (by decide) rfl ?_
    cases h
    exact WP.vreturn d9_89 rfl (leb rfl) (leb rfl) ⟨rfl, rfl⟩
def f_buildMinimalPolys_23 : Nat → Int32 → St → Option (St)
  | 0 => fun _ _ => none
  | n + 1 => g_buildMinimalPolys_23 (f_buildMinimalPolys_23 n) n
theorem ok9_23 (l : Launch) (Z : State) (a0 : Array Value) (hw : HW a0 Z) (n0 : Nat) : ∀ (n : Nat) (v1 : Int32) (s : St) (r : St), f_buildMinimalPolys_23 n v1 s = some r → W9 l Z n0 (P9 r) 0 0 23 [.val (.ref 0), .val (.int v1), .unset] [] (Hb 0 s)
  | 0, v1, s, r, h => nomatch (show none = some r from h)
  | n + 1, v1, s, r, h => okg9_23 l Z a0 hw n0 _ (ok9_23 l Z a0 hw n0 n) n v1 s r h
def g_buildMinimalPolys_2 (k2 : Int32 → St → Option (St)) (n : Nat) (v1 : Int32) (s : St) : Option (St) :=
  if v1 < (32 : Int32) then
    (wrA s 4 v1 (0 : Int32)).bind fun s2 =>
    lt (v1 + (1 : Int32)) fun x3 =>
    k2 x3 s2
  else
    f_buildMinimalPolys_23 n (0 : Int32) s
set_option maxRecDepth 65536 in
set_option maxHeartbeats 4000000 in
theorem okg9_2 (l : Launch) (Z : State) (a0 : Array Value) (hw : HW a0 Z) (n0 : Nat) (k2 : Int32 → St → Option (St)) (hk2 : ∀ (v1 : Int32) (s : St) (r : St), k2 v1 s = some r → W9 l Z n0 (P9 r) 0 0 2 [.val (.ref 0), .val (.int v1), .unset] [] (Hb 0 s)) (n : Nat) (v1 : Int32) (s : St) (r : St) (h : g_buildMinimalPolys_2 k2 n v1 s = some r) : W9 l Z n0 (P9 r) 0 0 2 [.val (.ref 0), .val (.int v1), .unset] [] (Hb 0 s) := by
  unfold g_buildMinimalPolys_2 at h
  refine WP.iloadN d9_2 rfl ?_
  refine WP.bipush (32 : Int32) d9_3 rfl ?_
  rcases ite_e h with ⟨hc1, h⟩ | ⟨hc1, h⟩
  ·
    refine WP.icmpN d9_5 (XT.ii_ge_f hc1) ?_
    refine WP.aloadN d9_8 rfl ?_
    refine WP.getfield (i := 0) (j := 12) d9_9 (hw _ m_18) rfl rfl rfl ?_
    refine WP.iloadN d9_12 rfl ?_
    refine WP.iconst (0 : Int32) d9_13 rfl ?_
    obtain ⟨s2, hs2, h⟩ := Option.bind_eq_some_iff.mp h
    obtain ⟨ys2, gs2, es2⟩ := wrA_e hs2
    refine WP.iastore (i := 5) (xs := gA s 4) (H' := (Hb 0 s2)) d9_14 rfl (leb rfl) gs2 (by subst es2; rfl) ?_
    obtain ⟨x3, ex3, h⟩ := lt_e h
    refine WP.iinc (L' := [.val (.ref 0), .val (.int x3), .unset]) (1 : Int32) d9_15 rfl rfl (by subst ex3; rfl) ?_
    refine WP.goto (pc' := 2) d9_18 (by decide) rfl ?_
    exact WP.weak (L' := [.val (.ref 0), .val (.int x3), .unset]) ⟨rfl, rfl, trivial⟩ (hk2 x3 s2 _ h)
  ·
    refine WP.icmpY (pc' := 21) d9_5 (XT.ii_ge_t hc1) (by decide) rfl ?_
    refine WP.iconst (0 : Int32) d9_21 rfl ?_
    refine WP.istoreN (L' := [.val (.ref 0), .val (.int (0 : Int32)), .unset]) d9_22 (leb rfl) rfl ?_
    exact WP.weak (L' := [.val (.ref 0), .val (.int (0 : Int32)), .unset]) ⟨rfl, rfl, trivial⟩ (ok9_23 l Z a0 hw n0 n (0 : Int32) s _ h)
def f_buildMinimalPolys_2 : Nat → Int32 → St → Option (St)
  | 0 => fun _ _ => none
  | n + 1 => g_buildMinimalPolys_2 (f_buildMinimalPolys_2 n) n
theorem ok9_2 (l : Launch) (Z : State) (a0 : Array Value) (hw : HW a0 Z) (n0 : Nat) : ∀ (n : Nat) (v1 : Int32) (s : St) (r : St), f_buildMinimalPolys_2 n v1 s = some r → W9 l Z n0 (P9 r) 0 0 2 [.val (.ref 0), .val (.int v1), .unset] [] (Hb 0 s)
  | 0, v1, s, r, h => nomatch (show none = some r from h)
  | n + 1, v1, s, r, h => okg9_2 l Z a0 hw n0 _ (ok9_2 l Z a0 hw n0 n) n v1 s r h
def f_buildMinimalPolys (n : Nat) (s : St) : Option (St) :=
  f_buildMinimalPolys_2 n (0 : Int32) s
set_option maxRecDepth 65536 in
set_option maxHeartbeats 4000000 in
theorem ok9 (l : Launch) (Z : State) (a0 : Array Value) (hw : HW a0 Z) (n : Nat) (s : St) (r : St) (h : f_buildMinimalPolys n s = some r) : CS l Z CN lay y9 prog_1_method_24_code 3 (none) R9 0 [.ref 0] (Hb 0 s) (P9 r) := by
  refine CS.of_wp pn_cls (leb rfl) fun n0 => ?_
  show W9 l Z n0 (P9 r) 0 0 0 [.val (.ref 0), .unset, .unset] [] (Hb 0 s)
  unfold f_buildMinimalPolys at h
  refine WP.iconst (0 : Int32) d9_0 rfl ?_
  refine WP.istoreN (L' := [.val (.ref 0), .val (.int (0 : Int32)), .unset]) d9_1 (leb rfl) rfl ?_
  exact WP.weak (L' := [.val (.ref 0), .val (.int (0 : Int32)), .unset]) ⟨rfl, rfl, trivial⟩ (ok9_2 l Z a0 hw n0 n (0 : Int32) s _ h)
theorem d15_0 : dc prog_1_method_40_code 0 (.iconst 0) 1 := by decide +kernel
theorem d15_1 : dc prog_1_method_40_code 1 (.istore_n 2) 1 := by decide +kernel
theorem d15_2 : dc prog_1_method_40_code 2 (.iload_n 1) 1 := by decide +kernel
theorem d15_3 : dc prog_1_method_40_code 3 (.istore_n 3) 1 := by decide +kernel
theorem d15_4 : dc prog_1_method_40_code 4 (.iconst 0) 1 := by decide +kernel
theorem d15_5 : dc prog_1_method_40_code 5 (.istore 4) 2 := by decide +kernel
theorem d15_7 : dc prog_1_method_40_code 7 (.iload 4) 2 := by decide +kernel
theorem d15_9 : dc prog_1_method_40_code 9 (.bipush 32) 2 := by decide +kernel
theorem d15_11 : dc prog_1_method_40_code 11 (.if_icmp .ge 22) 3 := by decide +kernel
theorem d15_14 : dc prog_1_method_40_code 14 (.iload_n 3) 1 := by decide +kernel
theorem d15_15 : dc prog_1_method_40_code 15 (.ifCond .eq 18) 3 := by decide +kernel
theorem d15_18 : dc prog_1_method_40_code 18 (.iload_n 3) 1 := by decide +kernel
theorem d15_19 : dc prog_1_method_40_code 19 (.iload_n 3) 1 := by decide +kernel
theorem d15_20 : dc prog_1_method_40_code 20 (.iconst 1) 1 := by decide +kernel
theorem d15_21 : dc prog_1_method_40_code 21 (.isub) 1 := by decide +kernel
theorem d15_22 : dc prog_1_method_40_code 22 (.iand) 1 := by decide +kernel
theorem d15_23 : dc prog_1_method_40_code 23 (.istore_n 3) 1 := by decide +kernel
theorem d15_24 : dc prog_1_method_40_code 24 (.iinc 2 1) 3 := by decide +kernel
theorem d15_27 : dc prog_1_method_40_code 27 (.iinc 4 1) 3 := by decide +kernel
theorem d15_30 : dc prog_1_method_40_code 30 (.goto (-23)) 3 := by decide +kernel
theorem d15_33 : dc prog_1_method_40_code 33 (.iload_n 2) 1 := by decide +kernel
theorem d15_34 : dc prog_1_method_40_code 34 (.ireturn) 1 := by decide +kernel
abbrev y15 : MethodName := ⟨"CyclicCodeLab", "popcount", "(I)I"⟩
theorem hy15 : y15.cls ≠ "java/lang/invoke/MethodHandle" ∧ y15.cls ≠ "java/lang/invoke/VarHandle" := by decide
theorem pd15 : parseMethodDescriptor y15.desc = some ⟨[.int], some .int⟩ := by decide +kernel
abbrev R15 : Room := { frames := 0, cells := 0, slots := 0, locals := 0 }
abbrev P15 (s : St) (r : Int32) : Option Value → List OwnC → Prop := fun v H' => v = some (.int r) ∧ H' = (Hb 0 s)
abbrev W15 (l : Launch) (Z : State) (n0 : Nat) (Q : Option Value → List OwnC → Prop) (k n pc : Nat) (L : List Slot) (S : List Value) (H : List OwnC) : Prop := WP l Z CN lay "CyclicCodeLab" "popcount" prog_1_method_40_code 5 (some FieldType.int) R15 n0 0 Q k n pc L S H
def f_popcount_33 (n : Nat) (v2 : Int32) (s : St) : Option (Int32) :=
  some v2
set_option maxRecDepth 65536 in
set_option maxHeartbeats 4000000 in
theorem ok15_33 (l : Launch) (Z : State) (a0 : Array Value) (hw : HW a0 Z) (n0 : Nat) (n : Nat) (v2 : Int32) (s : St) (r : Int32) (h : f_popcount_33 n v2 s = some r) : W15 l Z n0 (P15 s r) 0 0 33 [.unset, .unset, .val (.int v2), .unset, .unset] [] (Hb 0 s) := by
  unfold f_popcount_33 at h
  refine WP.iloadN d15_33 rfl ?_
  cases h
  exact WP.ireturn d15_34 rfl (leb rfl) (leb rfl) ⟨rfl, rfl⟩
def g_popcount_7 (k7 : Int32 → Int32 → Int32 → St → Option (Int32)) (n : Nat) (v2 : Int32) (v3 : Int32) (v4 : Int32) (s : St) : Option (Int32) :=
  if v4 < (32 : Int32) then
    if v3 = 0 then
      f_popcount_33 n v2 s
    else
      lt (v3 &&& (v3 - (1 : Int32))) fun x3 =>
      lt (v2 + (1 : Int32)) fun x4 =>
      lt (v4 + (1 : Int32)) fun x5 =>
      k7 x4 x3 x5 s
  else
    f_popcount_33 n v2 s
set_option maxRecDepth 65536 in
set_option maxHeartbeats 4000000 in
theorem okg15_7 (l : Launch) (Z : State) (a0 : Array Value) (hw : HW a0 Z) (n0 : Nat) (k7 : Int32 → Int32 → Int32 → St → Option (Int32)) (hk7 : ∀ (v2 : Int32) (v3 : Int32) (v4 : Int32) (s : St) (r : Int32), k7 v2 v3 v4 s = some r → W15 l Z n0 (P15 s r) 0 0 7 [.unset, .unset, .val (.int v2), .val (.int v3), .val (.int v4)] [] (Hb 0 s)) (n : Nat) (v2 : Int32) (v3 : Int32) (v4 : Int32) (s : St) (r : Int32) (h : g_popcount_7 k7 n v2 v3 v4 s = some r) : W15 l Z n0 (P15 s r) 0 0 7 [.unset, .unset, .val (.int v2), .val (.int v3), .val (.int v4)] [] (Hb 0 s) := by
  unfold g_popcount_7 at h
  refine WP.iload d15_7 rfl ?_
  refine WP.bipush (32 : Int32) d15_9 rfl ?_
  rcases ite_e h with ⟨hc1, h⟩ | ⟨hc1, h⟩
  ·
    refine WP.icmpN d15_11 (XT.ii_ge_f hc1) ?_
    refine WP.iloadN d15_14 rfl ?_
    rcases ite_e h with ⟨hc2, h⟩ | ⟨hc2, h⟩
    ·
      refine WP.ifY (pc' := 33) d15_15 (XT.i0_eq_t hc2) (by decide) rfl ?_
      exact WP.weak (L' := [.unset, .unset, .val (.int v2), .unset, .unset]) ⟨rfl, trivial⟩ (ok15_33 l Z a0 hw n0 n v2 s _ h)
    ·
      refine WP.ifN d15_15 (XT.i0_eq_f hc2) ?_
      refine WP.iloadN d15_18 rfl ?_
      refine WP.iloadN d15_19 rfl ?_
      refine WP.iconst (1 : Int32) d15_20 rfl ?_
      refine WP.isub d15_21 ?_
      refine WP.iand d15_22 ?_
      obtain ⟨x3, ex3, h⟩ := lt_e h
      refine WP.istoreN (L' := [.unset, .unset, .val (.int v2), .val (.int x3), .val (.int v4)]) d15_23 (leb rfl) (by subst ex3; rfl) ?_
      obtain ⟨x4, ex4, h⟩ := lt_e h
      refine WP.iinc (L' := [.unset, .unset, .val (.int x4), .val (.int x3), .val (.int v4)]) (1 : Int32) d15_24 rfl rfl (by subst ex4; rfl) ?_
      obtain ⟨x5, ex5, h⟩ := lt_e h
      refine WP.iinc (L' := [.unset, .unset, .val (.int x4), .val (.int x3), .val (.int x5)]) (1 : Int32) d15_27 rfl rfl (by subst ex5; rfl) ?_
      refine WP.goto (pc' := 7) d15_30 (by decide) rfl ?_
      exact WP.weak (L' := [.unset, .unset, .val (.int x4), .val (.int x3), .val (.int x5)]) ⟨rfl, rfl, rfl, trivial⟩ (hk7 x4 x3 x5 s _ h)
  ·
    refine WP.icmpY (pc' := 33) d15_11 (XT.ii_ge_t hc1) (by decide) rfl ?_
    exact WP.weak (L' := [.unset, .unset, .val (.int v2), .unset, .unset]) ⟨rfl, trivial⟩ (ok15_33 l Z a0 hw n0 n v2 s _ h)
def f_popcount_7 : Nat → Int32 → Int32 → Int32 → St → Option (Int32)
  | 0 => fun _ _ _ _ => none
  | n + 1 => g_popcount_7 (f_popcount_7 n) n
theorem ok15_7 (l : Launch) (Z : State) (a0 : Array Value) (hw : HW a0 Z) (n0 : Nat) : ∀ (n : Nat) (v2 : Int32) (v3 : Int32) (v4 : Int32) (s : St) (r : Int32), f_popcount_7 n v2 v3 v4 s = some r → W15 l Z n0 (P15 s r) 0 0 7 [.unset, .unset, .val (.int v2), .val (.int v3), .val (.int v4)] [] (Hb 0 s)
  | 0, v2, v3, v4, s, r, h => nomatch (show none = some r from h)
  | n + 1, v2, v3, v4, s, r, h => okg15_7 l Z a0 hw n0 _ (ok15_7 l Z a0 hw n0 n) n v2 v3 v4 s r h
def f_popcount (n : Nat) (p1 : Int32) (s : St) : Option (Int32) :=
  f_popcount_7 n (0 : Int32) p1 (0 : Int32) s
set_option maxRecDepth 65536 in
set_option maxHeartbeats 4000000 in
theorem ok15 (l : Launch) (Z : State) (a0 : Array Value) (hw : HW a0 Z) (n : Nat) (p1 : Int32) (s : St) (r : Int32) (h : f_popcount n p1 s = some r) : CS l Z CN lay y15 prog_1_method_40_code 5 (some FieldType.int) R15 0 [.ref 0, .int p1] (Hb 0 s) (P15 s r) := by
  refine CS.of_wp pn_cls (leb rfl) fun n0 => ?_
  show W15 l Z n0 (P15 s r) 0 0 0 [.val (.ref 0), .val (.int p1), .unset, .unset, .unset] [] (Hb 0 s)
  unfold f_popcount at h
  refine WP.iconst (0 : Int32) d15_0 rfl ?_
  refine WP.istoreN (L' := [.val (.ref 0), .val (.int p1), .val (.int (0 : Int32)), .unset, .unset]) d15_1 (leb rfl) rfl ?_
  refine WP.iloadN d15_2 rfl ?_
  refine WP.istoreN (L' := [.val (.ref 0), .val (.int p1), .val (.int (0 : Int32)), .val (.int p1), .unset]) d15_3 (leb rfl) rfl ?_
  refine WP.iconst (0 : Int32) d15_4 rfl ?_
  refine WP.istore (L' := [.val (.ref 0), .val (.int p1), .val (.int (0 : Int32)), .val (.int p1), .val (.int (0 : Int32))]) d15_5 (leb rfl) rfl ?_
  exact WP.weak (L' := [.unset, .unset, .val (.int (0 : Int32)), .val (.int p1), .val (.int (0 : Int32))]) ⟨rfl, rfl, rfl, trivial⟩ (ok15_7 l Z a0 hw n0 n (0 : Int32) p1 (0 : Int32) s _ h)
theorem d17_0 : dc prog_1_method_38_code 0 (.aload_n 0) 1 := by decide +kernel
theorem d17_1 : dc prog_1_method_38_code 1 (.getfield 42) 3 := by decide +kernel
theorem d17_4 : dc prog_1_method_38_code 4 (.iload_n 1) 1 := by decide +kernel
theorem d17_5 : dc prog_1_method_38_code 5 (.iushr) 1 := by decide +kernel
theorem d17_6 : dc prog_1_method_38_code 6 (.iconst 1) 1 := by decide +kernel
theorem d17_7 : dc prog_1_method_38_code 7 (.iand) 1 := by decide +kernel
theorem d17_8 : dc prog_1_method_38_code 8 (.ifCond .eq 7) 3 := by decide +kernel
theorem d17_11 : dc prog_1_method_38_code 11 (.iconst 1) 1 := by decide +kernel
theorem d17_12 : dc prog_1_method_38_code 12 (.goto 4) 3 := by decide +kernel
theorem d17_15 : dc prog_1_method_38_code 15 (.iconst 0) 1 := by decide +kernel
theorem d17_16 : dc prog_1_method_38_code 16 (.ireturn) 1 := by decide +kernel
abbrev y17 : MethodName := ⟨"CyclicCodeLab", "inZ", "(I)Z"⟩
theorem hy17 : y17.cls ≠ "java/lang/invoke/MethodHandle" ∧ y17.cls ≠ "java/lang/invoke/VarHandle" := by decide
theorem pd17 : parseMethodDescriptor y17.desc = some ⟨[.int], some .boolean⟩ := by decide +kernel
abbrev R17 : Room := { frames := 0, cells := 0, slots := 0, locals := 0 }
abbrev P17 (s : St) (r : Int32) : Option Value → List OwnC → Prop := fun v H' => v = some (.int r) ∧ H' = (Hb 0 s)
abbrev W17 (l : Launch) (Z : State) (n0 : Nat) (Q : Option Value → List OwnC → Prop) (k n pc : Nat) (L : List Slot) (S : List Value) (H : List OwnC) : Prop := WP l Z CN lay "CyclicCodeLab" "inZ" prog_1_method_38_code 2 (some FieldType.boolean) R17 n0 0 Q k n pc L S H
def f_inZ_16 (t0 : Int32) (s : St) : Option (Int32) :=
  some (t0 &&& 1)
set_option maxRecDepth 65536 in
set_option maxHeartbeats 4000000 in
theorem ok17_16 (l : Launch) (Z : State) (a0 : Array Value) (hw : HW a0 Z) (n0 : Nat) (t0 : Int32) (s : St) (r : Int32) (h : f_inZ_16 t0 s = some r) : W17 l Z n0 (P17 s r) 0 0 16 [.unset, .unset] [.int t0] (Hb 0 s) := by
  unfold f_inZ_16 at h
  cases h
  exact WP.zreturn d17_16 rfl (leb rfl) (leb rfl) ⟨rfl, rfl⟩
def f_inZ (p1 : Int32) (s : St) : Option (Int32) :=
  if ((XT.ushr (gI s 4) p1) &&& (1 : Int32)) = 0 then
    f_inZ_16 (0 : Int32) s
  else
    f_inZ_16 (1 : Int32) s
set_option maxRecDepth 65536 in
set_option maxHeartbeats 4000000 in
theorem ok17 (l : Launch) (Z : State) (a0 : Array Value) (hw : HW a0 Z) (p1 : Int32) (s : St) (r : Int32) (h : f_inZ p1 s = some r) : CS l Z CN lay y17 prog_1_method_38_code 2 (some FieldType.boolean) R17 0 [.ref 0, .int p1] (Hb 0 s) (P17 s r) := by
  refine CS.of_wp pn_cls (leb rfl) fun n0 => ?_
  show W17 l Z n0 (P17 s r) 0 0 0 [.val (.ref 0), .val (.int p1)] [] (Hb 0 s)
  unfold f_inZ at h
  refine WP.aloadN d17_0 rfl ?_
  refine WP.getfield (i := 0) (j := 4) d17_1 (hw _ m_82) rfl rfl rfl ?_
  refine WP.iloadN d17_4 rfl ?_
  refine WP.iushr d17_5 ?_
  refine WP.iconst (1 : Int32) d17_6 rfl ?_
  refine WP.iand d17_7 ?_
  rcases ite_e h with ⟨hc1, h⟩ | ⟨hc1, h⟩
  ·
    refine WP.ifY (pc' := 15) d17_8 (XT.i0_eq_t hc1) (by decide) rfl ?_
    refine WP.iconst (0 : Int32) d17_15 rfl ?_
    exact WP.weak (L' := [.unset, .unset]) trivial (ok17_16 l Z a0 hw n0 (0 : Int32) s _ h)
  ·
    refine WP.ifN d17_8 (XT.i0_eq_f hc1) ?_
    refine WP.iconst (1 : Int32) d17_11 rfl ?_
    refine WP.goto (pc' := 16) d17_12 (by decide) rfl ?_
    exact WP.weak (L' := [.unset, .unset]) trivial (ok17_16 l Z a0 hw n0 (1 : Int32) s _ h)
theorem d40_0 : dc prog_1_method_35_code 0 (.iconst 0) 1 := by decide +kernel
theorem d40_1 : dc prog_1_method_35_code 1 (.istore_n 3) 1 := by decide +kernel
theorem d40_2 : dc prog_1_method_35_code 2 (.iconst 0) 1 := by decide +kernel
theorem d40_3 : dc prog_1_method_35_code 3 (.istore 4) 2 := by decide +kernel
theorem d40_5 : dc prog_1_method_35_code 5 (.iload 4) 2 := by decide +kernel
theorem d40_7 : dc prog_1_method_35_code 7 (.bipush 32) 2 := by decide +kernel
theorem d40_9 : dc prog_1_method_35_code 9 (.if_icmp .ge 25) 3 := by decide +kernel
theorem d40_12 : dc prog_1_method_35_code 12 (.iload_n 2) 1 := by decide +kernel
theorem d40_13 : dc prog_1_method_35_code 13 (.iload 4) 2 := by decide +kernel
theorem d40_15 : dc prog_1_method_35_code 15 (.iushr) 1 := by decide +kernel
theorem d40_16 : dc prog_1_method_35_code 16 (.iconst 1) 1 := by decide +kernel
theorem d40_17 : dc prog_1_method_35_code 17 (.iand) 1 := by decide +kernel
theorem d40_18 : dc prog_1_method_35_code 18 (.ifCond .eq 10) 3 := by decide +kernel
theorem d40_21 : dc prog_1_method_35_code 21 (.iload_n 3) 1 := by decide +kernel
theorem d40_22 : dc prog_1_method_35_code 22 (.iload_n 1) 1 := by decide +kernel
theorem d40_23 : dc prog_1_method_35_code 23 (.iload 4) 2 := by decide +kernel
theorem d40_25 : dc prog_1_method_35_code 25 (.ishl) 1 := by decide +kernel
theorem d40_26 : dc prog_1_method_35_code 26 (.ixor) 1 := by decide +kernel
theorem d40_27 : dc prog_1_method_35_code 27 (.istore_n 3) 1 := by decide +kernel
theorem d40_28 : dc prog_1_method_35_code 28 (.iinc 4 1) 3 := by decide +kernel
theorem d40_31 : dc prog_1_method_35_code 31 (.goto (-26)) 3 := by decide +kernel
theorem d40_34 : dc prog_1_method_35_code 34 (.iload_n 3) 1 := by decide +kernel
theorem d40_35 : dc prog_1_method_35_code 35 (.ireturn) 1 := by decide +kernel
abbrev y40 : MethodName := ⟨"CyclicCodeLab", "clmul", "(II)I"⟩
theorem hy40 : y40.cls ≠ "java/lang/invoke/MethodHandle" ∧ y40.cls ≠ "java/lang/invoke/VarHandle" := by decide
theorem pd40 : parseMethodDescriptor y40.desc = some ⟨[.int, .int], some .int⟩ := by decide +kernel
abbrev R40 : Room := { frames := 0, cells := 0, slots := 0, locals := 0 }
abbrev P40 (s : St) (r : Int32) : Option Value → List OwnC → Prop := fun v H' => v = some (.int r) ∧ H' = (Hb 0 s)
abbrev W40 (l : Launch) (Z : State) (n0 : Nat) (Q : Option Value → List OwnC → Prop) (k n pc : Nat) (L : List Slot) (S : List Value) (H : List OwnC) : Prop := WP l Z CN lay "CyclicCodeLab" "clmul" prog_1_method_35_code 5 (some FieldType.int) R40 n0 0 Q k n pc L S H
def f_clmul_28 (k5 : Int32 → Int32 → Int32 → Int32 → St → Option (Int32)) (n : Nat) (v1 : Int32) (v2 : Int32) (v3 : Int32) (v4 : Int32) (s : St) : Option (Int32) :=
  lt (v4 + (1 : Int32)) fun x1 =>
  k5 v1 v2 v3 x1 s
set_option maxRecDepth 65536 in
set_option maxHeartbeats 4000000 in
theorem ok40_28 (l : Launch) (Z : State) (a0 : Array Value) (hw : HW a0 Z) (n0 : Nat) (k5 : Int32 → Int32 → Int32 → Int32 → St → Option (Int32)) (hk5 : ∀ (v1 : Int32) (v2 : Int32) (v3 : Int32) (v4 : Int32) (s : St) (r : Int32), k5 v1 v2 v3 v4 s = some r → W40 l Z n0 (P40 s r) 0 0 5 [.unset, .val (.int v1), .val (.int v2), .val (.int v3), .val (.int v4)] [] (Hb 0 s)) (n : Nat) (v1 : Int32) (v2 : Int32) (v3 : Int32) (v4 : Int32) (s : St) (r : Int32) (h : f_clmul_28 k5 n v1 v2 v3 v4 s = some r) : W40 l Z n0 (P40 s r) 0 0 28 [.unset, .val (.int v1), .val (.int v2), .val (.int v3), .val (.int v4)] [] (Hb 0 s) := by
  unfold f_clmul_28 at h
  obtain ⟨x1, ex1, h⟩ := lt_e h
  refine WP.iinc (L' := [.unset, .val (.int v1), .val (.int v2), .val (.int v3), .val (.int x1)]) (1 : Int32) d40_28 rfl rfl (by subst ex1; rfl) ?_
  refine WP.goto (pc' := 5) d40_31 (by decide) rfl ?_
  exact WP.weak (L' := [.unset, .val (.int v1), .val (.int v2), .val (.int v3), .val (.int x1)]) ⟨rfl, rfl, rfl, rfl, trivial⟩ (hk5 v1 v2 v3 x1 s _ h)
def g_clmul_5 (k5 : Int32 → Int32 → Int32 → Int32 → St → Option (Int32)) (n : Nat) (v1 : Int32) (v2 : Int32) (v3 : Int32) (v4 : Int32) (s : St) : Option (Int32) :=
  if v4 < (32 : Int32) then
    if ((XT.ushr v2 v4) &&& (1 : Int32)) = 0 then
      f_clmul_28 k5 n v1 v2 v3 v4 s
    else
      lt (v3 ^^^ (v1 <<< (v4 &&& 31))) fun x3 =>
      f_clmul_28 k5 n v1 v2 x3 v4 s
  else
    some v3
set_option maxRecDepth 65536 in
set_option maxHeartbeats 4000000 in
theorem okg40_5 (l : Launch) (Z : State) (a0 : Array Value) (hw : HW a0 Z) (n0 : Nat) (k5 : Int32 → Int32 → Int32 → Int32 → St → Option (Int32)) (hk5 : ∀ (v1 : Int32) (v2 : Int32) (v3 : Int32) (v4 : Int32) (s : St) (r : Int32), k5 v1 v2 v3 v4 s = some r → W40 l Z n0 (P40 s r) 0 0 5 [.unset, .val (.int v1), .val (.int v2), .val (.int v3), .val (.int v4)] [] (Hb 0 s)) (n : Nat) (v1 : Int32) (v2 : Int32) (v3 : Int32) (v4 : Int32) (s : St) (r : Int32) (h : g_clmul_5 k5 n v1 v2 v3 v4 s = some r) : W40 l Z n0 (P40 s r) 0 0 5 [.unset, .val (.int v1), .val (.int v2), .val (.int v3), .val (.int v4)] [] (Hb 0 s) := by
  unfold g_clmul_5 at h
  refine WP.iload d40_5 rfl ?_
  refine WP.bipush (32 : Int32) d40_7 rfl ?_
  rcases ite_e h with ⟨hc1, h⟩ | ⟨hc1, h⟩
  ·
    refine WP.icmpN d40_9 (XT.ii_ge_f hc1) ?_
    refine WP.iloadN d40_12 rfl ?_
    refine WP.iload d40_13 rfl ?_
    refine WP.iushr d40_15 ?_
    refine WP.iconst (1 : Int32) d40_16 rfl ?_
    refine WP.iand d40_17 ?_
    rcases ite_e h with ⟨hc2, h⟩ | ⟨hc2, h⟩
    ·
      refine WP.ifY (pc' := 28) d40_18 (XT.i0_eq_t hc2) (by decide) rfl ?_
      exact WP.weak (L' := [.unset, .val (.int v1), .val (.int v2), .val (.int v3), .val (.int v4)]) ⟨rfl, rfl, rfl, rfl, trivial⟩ (ok40_28 l Z a0 hw n0 _ hk5 n v1 v2 v3 v4 s _ h)
    ·
      refine WP.ifN d40_18 (XT.i0_eq_f hc2) ?_
      refine WP.iloadN d40_21 rfl ?_
      refine WP.iloadN d40_22 rfl ?_
      refine WP.iload d40_23 rfl ?_
      refine WP.ishl d40_25 ?_
      refine WP.ixor d40_26 ?_
      obtain ⟨x3, ex3, h⟩ := lt_e h
      refine WP.istoreN (L' := [.unset, .val (.int v1), .val (.int v2), .val (.int x3), .val (.int v4)]) d40_27 (leb rfl) (by subst ex3; rfl) ?_
      exact WP.weak (L' := [.unset, .val (.int v1), .val (.int v2), .val (.int x3), .val (.int v4)]) ⟨rfl, rfl, rfl, rfl, trivial⟩ (ok40_28 l Z a0 hw n0 _ hk5 n v1 v2 x3 v4 s _ h)
  ·
    refine WP.icmpY (pc' := 34) d40_9 (XT.ii_ge_t hc1) (by decide) rfl ?_
    refine WP.iloadN d40_34 rfl ?_
    cases h
    exact WP.ireturn d40_35 rfl (leb rfl) (leb rfl) ⟨rfl, rfl⟩
def f_clmul_5 : Nat → Int32 → Int32 → Int32 → Int32 → St → Option (Int32)
  | 0 => fun _ _ _ _ _ => none
  | n + 1 => g_clmul_5 (f_clmul_5 n) n
theorem ok40_5 (l : Launch) (Z : State) (a0 : Array Value) (hw : HW a0 Z) (n0 : Nat) : ∀ (n : Nat) (v1 : Int32) (v2 : Int32) (v3 : Int32) (v4 : Int32) (s : St) (r : Int32), f_clmul_5 n v1 v2 v3 v4 s = some r → W40 l Z n0 (P40 s r) 0 0 5 [.unset, .val (.int v1), .val (.int v2), .val (.int v3), .val (.int v4)] [] (Hb 0 s)
  | 0, v1, v2, v3, v4, s, r, h => nomatch (show none = some r from h)
  | n + 1, v1, v2, v3, v4, s, r, h => okg40_5 l Z a0 hw n0 _ (ok40_5 l Z a0 hw n0 n) n v1 v2 v3 v4 s r h
def f_clmul (n : Nat) (p1 : Int32) (p2 : Int32) (s : St) : Option (Int32) :=
  f_clmul_5 n p1 p2 (0 : Int32) (0 : Int32) s
set_option maxRecDepth 65536 in
set_option maxHeartbeats 4000000 in
theorem ok40 (l : Launch) (Z : State) (a0 : Array Value) (hw : HW a0 Z) (n : Nat) (p1 : Int32) (p2 : Int32) (s : St) (r : Int32) (h : f_clmul n p1 p2 s = some r) : CS l Z CN lay y40 prog_1_method_35_code 5 (some FieldType.int) R40 0 [.ref 0, .int p1, .int p2] (Hb 0 s) (P40 s r) := by
  refine CS.of_wp pn_cls (leb rfl) fun n0 => ?_
  show W40 l Z n0 (P40 s r) 0 0 0 [.val (.ref 0), .val (.int p1), .val (.int p2), .unset, .unset] [] (Hb 0 s)
  unfold f_clmul at h
  refine WP.iconst (0 : Int32) d40_0 rfl ?_
  refine WP.istoreN (L' := [.val (.ref 0), .val (.int p1), .val (.int p2), .val (.int (0 : Int32)), .unset]) d40_1 (leb rfl) rfl ?_
  refine WP.iconst (0 : Int32) d40_2 rfl ?_
  refine WP.istore (L' := [.val (.ref 0), .val (.int p1), .val (.int p2), .val (.int (0 : Int32)), .val (.int (0 : Int32))]) d40_3 (leb rfl) rfl ?_
  exact WP.weak (L' := [.unset, .val (.int p1), .val (.int p2), .val (.int (0 : Int32)), .val (.int (0 : Int32))]) ⟨rfl, rfl, rfl, rfl, trivial⟩ (ok40_5 l Z a0 hw n0 n p1 p2 (0 : Int32) (0 : Int32) s _ h)
theorem d16_0 : dc prog_1_method_30_code 0 (.iconst 1) 1 := by decide +kernel
theorem d16_1 : dc prog_1_method_30_code 1 (.istore_n 1) 1 := by decide +kernel
theorem d16_2 : dc prog_1_method_30_code 2 (.iconst 0) 1 := by decide +kernel
theorem d16_3 : dc prog_1_method_30_code 3 (.istore_n 2) 1 := by decide +kernel
theorem d16_4 : dc prog_1_method_30_code 4 (.iload_n 2) 1 := by decide +kernel
theorem d16_5 : dc prog_1_method_30_code 5 (.aload_n 0) 1 := by decide +kernel
theorem d16_6 : dc prog_1_method_30_code 6 (.getfield 32) 3 := by decide +kernel
theorem d16_9 : dc prog_1_method_30_code 9 (.if_icmp .ge 39) 3 := by decide +kernel
theorem d16_12 : dc prog_1_method_30_code 12 (.aload_n 0) 1 := by decide +kernel
theorem d16_13 : dc prog_1_method_30_code 13 (.iload_n 2) 1 := by decide +kernel
theorem d16_14 : dc prog_1_method_30_code 14 (.invokevirtual 48) 3 := by decide +kernel
theorem d16_17 : dc prog_1_method_30_code 17 (.ifCond .eq 25) 3 := by decide +kernel
theorem d16_20 : dc prog_1_method_30_code 20 (.aload_n 0) 1 := by decide +kernel
theorem d16_21 : dc prog_1_method_30_code 21 (.getfield 19) 3 := by decide +kernel
theorem d16_24 : dc prog_1_method_30_code 24 (.iload_n 2) 1 := by decide +kernel
theorem d16_25 : dc prog_1_method_30_code 25 (.iaload) 1 := by decide +kernel
theorem d16_26 : dc prog_1_method_30_code 26 (.iload_n 2) 1 := by decide +kernel
theorem d16_27 : dc prog_1_method_30_code 27 (.if_icmp .ne 15) 3 := by decide +kernel
theorem d16_30 : dc prog_1_method_30_code 30 (.aload_n 0) 1 := by decide +kernel
theorem d16_31 : dc prog_1_method_30_code 31 (.iload_n 1) 1 := by decide +kernel
theorem d16_32 : dc prog_1_method_30_code 32 (.aload_n 0) 1 := by decide +kernel
theorem d16_33 : dc prog_1_method_30_code 33 (.getfield 22) 3 := by decide +kernel
theorem d16_36 : dc prog_1_method_30_code 36 (.iload_n 2) 1 := by decide +kernel
theorem d16_37 : dc prog_1_method_30_code 37 (.iaload) 1 := by decide +kernel
theorem d16_38 : dc prog_1_method_30_code 38 (.invokevirtual 130) 3 := by decide +kernel
theorem d16_41 : dc prog_1_method_30_code 41 (.istore_n 1) 1 := by decide +kernel
theorem d16_42 : dc prog_1_method_30_code 42 (.iinc 2 1) 3 := by decide +kernel
theorem d16_45 : dc prog_1_method_30_code 45 (.goto (-41)) 3 := by decide +kernel
theorem d16_48 : dc prog_1_method_30_code 48 (.iload_n 1) 1 := by decide +kernel
theorem d16_49 : dc prog_1_method_30_code 49 (.ireturn) 1 := by decide +kernel
abbrev y16 : MethodName := ⟨"CyclicCodeLab", "computeGenerator", "()I"⟩
theorem hy16 : y16.cls ≠ "java/lang/invoke/MethodHandle" ∧ y16.cls ≠ "java/lang/invoke/VarHandle" := by decide
theorem pd16 : parseMethodDescriptor y16.desc = some ⟨[], some .int⟩ := by decide +kernel
abbrev R16 : Room := { frames := 1, cells := 0, slots := 0, locals := 16 }
abbrev P16 (s : St) (r : Int32) : Option Value → List OwnC → Prop := fun v H' => v = some (.int r) ∧ H' = (Hb 0 s)
abbrev W16 (l : Launch) (Z : State) (n0 : Nat) (Q : Option Value → List OwnC → Prop) (k n pc : Nat) (L : List Slot) (S : List Value) (H : List OwnC) : Prop := WP l Z CN lay "CyclicCodeLab" "computeGenerator" prog_1_method_30_code 3 (some FieldType.int) R16 n0 0 Q k n pc L S H
def f_computeGenerator_42 (k4 : Int32 → Int32 → St → Option (Int32)) (n : Nat) (v1 : Int32) (v2 : Int32) (s : St) : Option (Int32) :=
  lt (v2 + (1 : Int32)) fun x1 =>
  k4 v1 x1 s
set_option maxRecDepth 65536 in
set_option maxHeartbeats 4000000 in
theorem ok16_42 (l : Launch) (Z : State) (a0 : Array Value) (hw : HW a0 Z) (n0 : Nat) (k4 : Int32 → Int32 → St → Option (Int32)) (hk4 : ∀ (v1 : Int32) (v2 : Int32) (s : St) (r : Int32), k4 v1 v2 s = some r → W16 l Z n0 (P16 s r) 0 0 4 [.val (.ref 0), .val (.int v1), .val (.int v2)] [] (Hb 0 s)) (n : Nat) (v1 : Int32) (v2 : Int32) (s : St) (r : Int32) (h : f_computeGenerator_42 k4 n v1 v2 s = some r) : W16 l Z n0 (P16 s r) 0 0 42 [.val (.ref 0), .val (.int v1), .val (.int v2)] [] (Hb 0 s) := by
  unfold f_computeGenerator_42 at h
  obtain ⟨x1, ex1, h⟩ := lt_e h
  refine WP.iinc (L' := [.val (.ref 0), .val (.int v1), .val (.int x1)]) (1 : Int32) d16_42 rfl rfl (by subst ex1; rfl) ?_
  refine WP.goto (pc' := 4) d16_45 (by decide) rfl ?_
  exact WP.weak (L' := [.val (.ref 0), .val (.int v1), .val (.int x1)]) ⟨rfl, rfl, rfl, trivial⟩ (hk4 v1 x1 s _ h)
def g_computeGenerator_4 (k4 : Int32 → Int32 → St → Option (Int32)) (n : Nat) (v1 : Int32) (v2 : Int32) (s : St) : Option (Int32) :=
  if v2 < (gI s 0) then
    (f_inZ v2 s).bind fun c2 =>
    if c2 = 0 then
      f_computeGenerator_42 k4 n v1 v2 s
    else
      (rd (gA s 3) v2).bind fun x4 =>
      if x4 = v2 then
        (rd (gA s 4) v2).bind fun x6 =>
        (f_clmul n v1 x6 s).bind fun c7 =>
        f_computeGenerator_42 k4 n c7 v2 s
      else
        f_computeGenerator_42 k4 n v1 v2 s
  else
    some v1
set_option maxRecDepth 65536 in
set_option maxHeartbeats 4000000 in
theorem okg16_4 (l : Launch) (Z : State) (a0 : Array Value) (hw : HW a0 Z) (n0 : Nat) (k4 : Int32 → Int32 → St → Option (Int32)) (hk4 : ∀ (v1 : Int32) (v2 : Int32) (s : St) (r : Int32), k4 v1 v2 s = some r → W16 l Z n0 (P16 s r) 0 0 4 [.val (.ref 0), .val (.int v1), .val (.int v2)] [] (Hb 0 s)) (n : Nat) (v1 : Int32) (v2 : Int32) (s : St) (r : Int32) (h : g_computeGenerator_4 k4 n v1 v2 s = some r) : W16 l Z n0 (P16 s r) 0 0 4 [.val (.ref 0), .val (.int v1), .val (.int v2)] [] (Hb 0 s) := by
  unfold g_computeGenerator_4 at h
  refine WP.iloadN d16_4 rfl ?_
  refine WP.aloadN d16_5 rfl ?_
  refine WP.getfield (i := 0) (j := 0) d16_6 (hw _ m_30) rfl rfl rfl ?_
  rcases ite_e h with ⟨hc1, h⟩ | ⟨hc1, h⟩
  ·
    refine WP.icmpN d16_9 (XT.ii_ge_f hc1) ?_
    refine WP.aloadN d16_12 rfl ?_
    refine WP.iloadN d16_13 rfl ?_
    obtain ⟨c2, hc2, h⟩ := Option.bind_eq_some_iff.mp h
    refine WP.callP (i := 0) (y := y17) (as := [.int v2]) (S := []) d16_14 (hw _ m_98) (hw _ m_100) (hw _ m_1) (hw _ m_99) (hw _ m_101) (hw _ m_2) hy17 rfl (ok17 l Z a0 hw v2 s _ hc2) rfl (lenOf pd17 rfl) (leb rfl) (leb rfl) (leb rfl) (leb rfl) ?_
    rintro _ _ ⟨rfl, rfl⟩
    show W16 l Z n0 (P16 s r) 0 0 17 [.val (.ref 0), .val (.int v1), .val (.int v2)] [.int c2] (Hb 0 s)
    rcases ite_e h with ⟨hc3, h⟩ | ⟨hc3, h⟩
    ·
      refine WP.ifY (pc' := 42) d16_17 (XT.i0_eq_t hc3) (by decide) rfl ?_
      exact WP.weak (L' := [.val (.ref 0), .val (.int v1), .val (.int v2)]) ⟨rfl, rfl, rfl, trivial⟩ (ok16_42 l Z a0 hw n0 _ hk4 n v1 v2 s _ h)
    ·
      refine WP.ifN d16_17 (XT.i0_eq_f hc3) ?_
      refine WP.aloadN d16_20 rfl ?_
      refine WP.getfield (i := 0) (j := 11) d16_21 (hw _ m_16) rfl rfl rfl ?_
      refine WP.iloadN d16_24 rfl ?_
      obtain ⟨x4, hx4, h⟩ := Option.bind_eq_some_iff.mp h
      refine WP.iaload (i := 4) d16_25 rfl hx4 ?_
      refine WP.iloadN d16_26 rfl ?_
      rcases ite_e h with ⟨hc5, h⟩ | ⟨hc5, h⟩
      ·
        refine WP.icmpN d16_27 (XT.ii_ne_f hc5) ?_
        refine WP.aloadN d16_30 rfl ?_
        refine WP.iloadN d16_31 rfl ?_
        refine WP.aloadN d16_32 rfl ?_
        refine WP.getfield (i := 0) (j := 12) d16_33 (hw _ m_18) rfl rfl rfl ?_
        refine WP.iloadN d16_36 rfl ?_
        obtain ⟨x6, hx6, h⟩ := Option.bind_eq_some_iff.mp h
        refine WP.iaload (i := 5) d16_37 rfl hx6 ?_
        obtain ⟨c7, hc7, h⟩ := Option.bind_eq_some_iff.mp h
        refine WP.callP (i := 0) (y := y40) (as := [.int v1, .int x6]) (S := []) d16_38 (hw _ m_204) (hw _ m_206) (hw _ m_1) (hw _ m_205) (hw _ m_207) (hw _ m_2) hy40 rfl (ok40 l Z a0 hw n v1 x6 s _ hc7) rfl (lenOf pd40 rfl) (leb rfl) (leb rfl) (leb rfl) (leb rfl) ?_
        rintro _ _ ⟨rfl, rfl⟩
        show W16 l Z n0 (P16 s r) 0 0 41 [.val (.ref 0), .val (.int v1), .val (.int v2)] [.int c7] (Hb 0 s)
        refine WP.istoreN (L' := [.val (.ref 0), .val (.int c7), .val (.int v2)]) d16_41 (leb rfl) rfl ?_
        exact WP.weak (L' := [.val (.ref 0), .val (.int c7), .val (.int v2)]) ⟨rfl, rfl, rfl, trivial⟩ (ok16_42 l Z a0 hw n0 _ hk4 n c7 v2 s _ h)
      ·
        refine WP.icmpY (pc' := 42) d16_27 (XT.ii_ne_t hc5) (by decide) rfl ?_
        exact WP.weak (L' := [.val (.ref 0), .val (.int v1), .val (.int v2)]) ⟨rfl, rfl, rfl, trivial⟩ (ok16_42 l Z a0 hw n0 _ hk4 n v1 v2 s _ h)
  ·
    refine WP.icmpY (pc' := 48) d16_9 (XT.ii_ge_t hc1) (by decide) rfl ?_
    refine WP.iloadN d16_48 rfl ?_
    cases h
    exact WP.ireturn d16_49 rfl (leb rfl) (leb rfl) ⟨rfl, rfl⟩
def f_computeGenerator_4 : Nat → Int32 → Int32 → St → Option (Int32)
  | 0 => fun _ _ _ => none
  | n + 1 => g_computeGenerator_4 (f_computeGenerator_4 n) n
theorem ok16_4 (l : Launch) (Z : State) (a0 : Array Value) (hw : HW a0 Z) (n0 : Nat) : ∀ (n : Nat) (v1 : Int32) (v2 : Int32) (s : St) (r : Int32), f_computeGenerator_4 n v1 v2 s = some r → W16 l Z n0 (P16 s r) 0 0 4 [.val (.ref 0), .val (.int v1), .val (.int v2)] [] (Hb 0 s)
  | 0, v1, v2, s, r, h => nomatch (show none = some r from h)
  | n + 1, v1, v2, s, r, h => okg16_4 l Z a0 hw n0 _ (ok16_4 l Z a0 hw n0 n) n v1 v2 s r h
def f_computeGenerator (n : Nat) (s : St) : Option (Int32) :=
  f_computeGenerator_4 n (1 : Int32) (0 : Int32) s
set_option maxRecDepth 65536 in
set_option maxHeartbeats 4000000 in
theorem ok16 (l : Launch) (Z : State) (a0 : Array Value) (hw : HW a0 Z) (n : Nat) (s : St) (r : Int32) (h : f_computeGenerator n s = some r) : CS l Z CN lay y16 prog_1_method_30_code 3 (some FieldType.int) R16 0 [.ref 0] (Hb 0 s) (P16 s r) := by
  refine CS.of_wp pn_cls (leb rfl) fun n0 => ?_
  show W16 l Z n0 (P16 s r) 0 0 0 [.val (.ref 0), .unset, .unset] [] (Hb 0 s)
  unfold f_computeGenerator at h
  refine WP.iconst (1 : Int32) d16_0 rfl ?_
  refine WP.istoreN (L' := [.val (.ref 0), .val (.int (1 : Int32)), .unset]) d16_1 (leb rfl) rfl ?_
  refine WP.iconst (0 : Int32) d16_2 rfl ?_
  refine WP.istoreN (L' := [.val (.ref 0), .val (.int (1 : Int32)), .val (.int (0 : Int32))]) d16_3 (leb rfl) rfl ?_
  exact WP.weak (L' := [.val (.ref 0), .val (.int (1 : Int32)), .val (.int (0 : Int32))]) ⟨rfl, rfl, rfl, trivial⟩ (ok16_4 l Z a0 hw n0 n (1 : Int32) (0 : Int32) s _ h)
theorem d18_0 : dc prog_1_method_31_code 0 (.aload_n 0) 1 := by decide +kernel
theorem d18_1 : dc prog_1_method_31_code 1 (.getfield 42) 3 := by decide +kernel
theorem d18_4 : dc prog_1_method_31_code 4 (.aload_n 0) 1 := by decide +kernel
theorem d18_5 : dc prog_1_method_31_code 5 (.getfield 77) 3 := by decide +kernel
theorem d18_8 : dc prog_1_method_31_code 8 (.if_icmp .ne 8) 3 := by decide +kernel
theorem d18_11 : dc prog_1_method_31_code 11 (.aload_n 0) 1 := by decide +kernel
theorem d18_12 : dc prog_1_method_31_code 12 (.getfield 32) 3 := by decide +kernel
theorem d18_15 : dc prog_1_method_31_code 15 (.ireturn) 1 := by decide +kernel
theorem d18_16 : dc prog_1_method_31_code 16 (.iconst 0) 1 := by decide +kernel
theorem d18_17 : dc prog_1_method_31_code 17 (.istore_n 1) 1 := by decide +kernel
theorem d18_18 : dc prog_1_method_31_code 18 (.iconst 0) 1 := by decide +kernel
theorem d18_19 : dc prog_1_method_31_code 19 (.istore_n 2) 1 := by decide +kernel
theorem d18_20 : dc prog_1_method_31_code 20 (.iload_n 2) 1 := by decide +kernel
theorem d18_21 : dc prog_1_method_31_code 21 (.aload_n 0) 1 := by decide +kernel
theorem d18_22 : dc prog_1_method_31_code 22 (.getfield 32) 3 := by decide +kernel
theorem d18_25 : dc prog_1_method_31_code 25 (.if_icmp .ge 47) 3 := by decide +kernel
theorem d18_28 : dc prog_1_method_31_code 28 (.iconst 0) 1 := by decide +kernel
theorem d18_29 : dc prog_1_method_31_code 29 (.istore_n 3) 1 := by decide +kernel
theorem d18_30 : dc prog_1_method_31_code 30 (.iload_n 3) 1 := by decide +kernel
theorem d18_31 : dc prog_1_method_31_code 31 (.aload_n 0) 1 := by decide +kernel
theorem d18_32 : dc prog_1_method_31_code 32 (.getfield 32) 3 := by decide +kernel
theorem d18_35 : dc prog_1_method_31_code 35 (.if_icmp .ge 24) 3 := by decide +kernel
theorem d18_38 : dc prog_1_method_31_code 38 (.aload_n 0) 1 := by decide +kernel
theorem d18_39 : dc prog_1_method_31_code 39 (.iload_n 2) 1 := by decide +kernel
theorem d18_40 : dc prog_1_method_31_code 40 (.iload_n 3) 1 := by decide +kernel
theorem d18_41 : dc prog_1_method_31_code 41 (.iadd) 1 := by decide +kernel
theorem d18_42 : dc prog_1_method_31_code 42 (.aload_n 0) 1 := by decide +kernel
theorem d18_43 : dc prog_1_method_31_code 43 (.getfield 32) 3 := by decide +kernel
theorem d18_46 : dc prog_1_method_31_code 46 (.irem) 1 := by decide +kernel
theorem d18_47 : dc prog_1_method_31_code 47 (.invokevirtual 48) 3 := by decide +kernel
theorem d18_50 : dc prog_1_method_31_code 50 (.ifCond .eq 9) 3 := by decide +kernel
theorem d18_53 : dc prog_1_method_31_code 53 (.iinc 3 1) 3 := by decide +kernel
theorem d18_56 : dc prog_1_method_31_code 56 (.goto (-26)) 3 := by decide +kernel
theorem d18_59 : dc prog_1_method_31_code 59 (.iload_n 3) 1 := by decide +kernel
theorem d18_60 : dc prog_1_method_31_code 60 (.iload_n 1) 1 := by decide +kernel
theorem d18_61 : dc prog_1_method_31_code 61 (.if_icmp .le 5) 3 := by decide +kernel
theorem d18_64 : dc prog_1_method_31_code 64 (.iload_n 3) 1 := by decide +kernel
theorem d18_65 : dc prog_1_method_31_code 65 (.istore_n 1) 1 := by decide +kernel
theorem d18_66 : dc prog_1_method_31_code 66 (.iinc 2 1) 3 := by decide +kernel
theorem d18_69 : dc prog_1_method_31_code 69 (.goto (-49)) 3 := by decide +kernel
theorem d18_72 : dc prog_1_method_31_code 72 (.iload_n 1) 1 := by decide +kernel
theorem d18_73 : dc prog_1_method_31_code 73 (.ireturn) 1 := by decide +kernel
abbrev y18 : MethodName := ⟨"CyclicCodeLab", "computeRunLength", "()I"⟩
theorem hy18 : y18.cls ≠ "java/lang/invoke/MethodHandle" ∧ y18.cls ≠ "java/lang/invoke/VarHandle" := by decide
theorem pd18 : parseMethodDescriptor y18.desc = some ⟨[], some .int⟩ := by decide +kernel
abbrev R18 : Room := { frames := 1, cells := 0, slots := 0, locals := 13 }
abbrev P18 (s : St) (r : Int32) : Option Value → List OwnC → Prop := fun v H' => v = some (.int r) ∧ H' = (Hb 0 s)
abbrev W18 (l : Launch) (Z : State) (n0 : Nat) (Q : Option Value → List OwnC → Prop) (k n pc : Nat) (L : List Slot) (S : List Value) (H : List OwnC) : Prop := WP l Z CN lay "CyclicCodeLab" "computeRunLength" prog_1_method_31_code 4 (some FieldType.int) R18 n0 0 Q k n pc L S H
def f_computeRunLength_66 (k20 : Int32 → Int32 → St → Option (Int32)) (n : Nat) (v1 : Int32) (v2 : Int32) (s : St) : Option (Int32) :=
  lt (v2 + (1 : Int32)) fun x1 =>
  k20 v1 x1 s
set_option maxRecDepth 65536 in
set_option maxHeartbeats 4000000 in
theorem ok18_66 (l : Launch) (Z : State) (a0 : Array Value) (hw : HW a0 Z) (n0 : Nat) (k20 : Int32 → Int32 → St → Option (Int32)) (hk20 : ∀ (v1 : Int32) (v2 : Int32) (s : St) (r : Int32), k20 v1 v2 s = some r → W18 l Z n0 (P18 s r) 0 0 20 [.val (.ref 0), .val (.int v1), .val (.int v2), .unset] [] (Hb 0 s)) (n : Nat) (v1 : Int32) (v2 : Int32) (s : St) (r : Int32) (h : f_computeRunLength_66 k20 n v1 v2 s = some r) : W18 l Z n0 (P18 s r) 0 0 66 [.val (.ref 0), .val (.int v1), .val (.int v2), .unset] [] (Hb 0 s) := by
  unfold f_computeRunLength_66 at h
  obtain ⟨x1, ex1, h⟩ := lt_e h
  refine WP.iinc (L' := [.val (.ref 0), .val (.int v1), .val (.int x1), .unset]) (1 : Int32) d18_66 rfl rfl (by subst ex1; rfl) ?_
  refine WP.goto (pc' := 20) d18_69 (by decide) rfl ?_
  exact WP.weak (L' := [.val (.ref 0), .val (.int v1), .val (.int x1), .unset]) ⟨rfl, rfl, rfl, trivial⟩ (hk20 v1 x1 s _ h)
def f_computeRunLength_59 (k20 : Int32 → Int32 → St → Option (Int32)) (n : Nat) (v1 : Int32) (v2 : Int32) (v3 : Int32) (s : St) : Option (Int32) :=
  if v1 < v3 then
    f_computeRunLength_66 k20 n v3 v2 s
  else
    f_computeRunLength_66 k20 n v1 v2 s
set_option maxRecDepth 65536 in
set_option maxHeartbeats 4000000 in
theorem ok18_59 (l : Launch) (Z : State) (a0 : Array Value) (hw : HW a0 Z) (n0 : Nat) (k20 : Int32 → Int32 → St → Option (Int32)) (hk20 : ∀ (v1 : Int32) (v2 : Int32) (s : St) (r : Int32), k20 v1 v2 s = some r → W18 l Z n0 (P18 s r) 0 0 20 [.val (.ref 0), .val (.int v1), .val (.int v2), .unset] [] (Hb 0 s)) (n : Nat) (v1 : Int32) (v2 : Int32) (v3 : Int32) (s : St) (r : Int32) (h : f_computeRunLength_59 k20 n v1 v2 v3 s = some r) : W18 l Z n0 (P18 s r) 0 0 59 [.val (.ref 0), .val (.int v1), .val (.int v2), .val (.int v3)] [] (Hb 0 s) := by
  unfold f_computeRunLength_59 at h
  refine WP.iloadN d18_59 rfl ?_
  refine WP.iloadN d18_60 rfl ?_
  rcases ite_e h with ⟨hc1, h⟩ | ⟨hc1, h⟩
  ·
    refine WP.icmpN d18_61 (XT.ii_le_f hc1) ?_
    refine WP.iloadN d18_64 rfl ?_
    refine WP.istoreN (L' := [.val (.ref 0), .val (.int v3), .val (.int v2), .val (.int v3)]) d18_65 (leb rfl) rfl ?_
    exact WP.weak (L' := [.val (.ref 0), .val (.int v3), .val (.int v2), .unset]) ⟨rfl, rfl, rfl, trivial⟩ (ok18_66 l Z a0 hw n0 _ hk20 n v3 v2 s _ h)
  ·
    refine WP.icmpY (pc' := 66) d18_61 (XT.ii_le_t hc1) (by decide) rfl ?_
    exact WP.weak (L' := [.val (.ref 0), .val (.int v1), .val (.int v2), .unset]) ⟨rfl, rfl, rfl, trivial⟩ (ok18_66 l Z a0 hw n0 _ hk20 n v1 v2 s _ h)
def g_computeRunLength_30 (k20 : Int32 → Int32 → St → Option (Int32)) (k30 : Int32 → Int32 → Int32 → St → Option (Int32)) (n : Nat) (v1 : Int32) (v2 : Int32) (v3 : Int32) (s : St) : Option (Int32) :=
  if v3 < (gI s 0) then
    if gI s 0 = 0 then none else
    (f_inZ ((v2 + v3) % (gI s 0)) s).bind fun c3 =>
    if c3 = 0 then
      f_computeRunLength_59 k20 n v1 v2 v3 s
    else
      lt (v3 + (1 : Int32)) fun x5 =>
      k30 v1 v2 x5 s
  else
    f_computeRunLength_59 k20 n v1 v2 v3 s
set_option maxRecDepth 65536 in
set_option maxHeartbeats 4000000 in
theorem okg18_30 (l : Launch) (Z : State) (a0 : Array Value) (hw : HW a0 Z) (n0 : Nat) (k20 : Int32 → Int32 → St → Option (Int32)) (hk20 : ∀ (v1 : Int32) (v2 : Int32) (s : St) (r : Int32), k20 v1 v2 s = some r → W18 l Z n0 (P18 s r) 0 0 20 [.val (.ref 0), .val (.int v1), .val (.int v2), .unset] [] (Hb 0 s)) (k30 : Int32 → Int32 → Int32 → St → Option (Int32)) (hk30 : ∀ (v1 : Int32) (v2 : Int32) (v3 : Int32) (s : St) (r : Int32), k30 v1 v2 v3 s = some r → W18 l Z n0 (P18 s r) 0 0 30 [.val (.ref 0), .val (.int v1), .val (.int v2), .val (.int v3)] [] (Hb 0 s)) (n : Nat) (v1 : Int32) (v2 : Int32) (v3 : Int32) (s : St) (r : Int32) (h : g_computeRunLength_30 k20 k30 n v1 v2 v3 s = some r) : W18 l Z n0 (P18 s r) 0 0 30 [.val (.ref 0), .val (.int v1), .val (.int v2), .val (.int v3)] [] (Hb 0 s) := by
  unfold g_computeRunLength_30 at h
  refine WP.iloadN d18_30 rfl ?_
  refine WP.aloadN d18_31 rfl ?_
  refine WP.getfield (i := 0) (j := 0) d18_32 (hw _ m_30) rfl rfl rfl ?_
  rcases ite_e h with ⟨hc1, h⟩ | ⟨hc1, h⟩
  ·
    refine WP.icmpN d18_35 (XT.ii_ge_f hc1) ?_
    refine WP.aloadN d18_38 rfl ?_
    refine WP.iloadN d18_39 rfl ?_
    refine WP.iloadN d18_40 rfl ?_
    refine WP.iadd d18_41 ?_
    refine WP.aloadN d18_42 rfl ?_
    refine WP.getfield (i := 0) (j := 0) d18_43 (hw _ m_30) rfl rfl rfl ?_
    obtain ⟨hz2, h⟩ := nz_e h
    refine WP.irem d18_46 hz2 ?_
    obtain ⟨c3, hc3, h⟩ := Option.bind_eq_some_iff.mp h
    refine WP.callP (i := 0) (y := y17) (as := [.int ((v2 + v3) % (gI s 0))]) (S := []) d18_47 (hw _ m_98) (hw _ m_100) (hw _ m_1) (hw _ m_99) (hw _ m_101) (hw _ m_2) hy17 rfl (ok17 l Z a0 hw ((v2 + v3) % (gI s 0)) s _ hc3) rfl (lenOf pd17 rfl) (leb rfl) (leb rfl) (leb rfl) (leb rfl) ?_
    rintro _ _ ⟨rfl, rfl⟩
    show W18 l Z n0 (P18 s r) 0 0 50 [.val (.ref 0), .val (.int v1), .val (.int v2), .val (.int v3)] [.int c3] (Hb 0 s)
    rcases ite_e h with ⟨hc4, h⟩ | ⟨hc4, h⟩
    ·
      refine WP.ifY (pc' := 59) d18_50 (XT.i0_eq_t hc4) (by decide) rfl ?_
      exact WP.weak (L' := [.val (.ref 0), .val (.int v1), .val (.int v2), .val (.int v3)]) ⟨rfl, rfl, rfl, rfl, trivial⟩ (ok18_59 l Z a0 hw n0 _ hk20 n v1 v2 v3 s _ h)
    ·
      refine WP.ifN d18_50 (XT.i0_eq_f hc4) ?_
      obtain ⟨x5, ex5, h⟩ := lt_e h
      refine WP.iinc (L' := [.val (.ref 0), .val (.int v1), .val (.int v2), .val (.int x5)]) (1 : Int32) d18_53 rfl rfl (by subst ex5; rfl) ?_
      refine WP.goto (pc' := 30) d18_56 (by decide) rfl ?_
      exact WP.weak (L' := [.val (.ref 0), .val (.int v1), .val (.int v2), .val (.int x5)]) ⟨rfl, rfl, rfl, rfl, trivial⟩ (hk30 v1 v2 x5 s _ h)
  ·
    refine WP.icmpY (pc' := 59) d18_35 (XT.ii_ge_t hc1) (by decide) rfl ?_
    exact WP.weak (L' := [.val (.ref 0), .val (.int v1), .val (.int v2), .val (.int v3)]) ⟨rfl, rfl, rfl, rfl, trivial⟩ (ok18_59 l Z a0 hw n0 _ hk20 n v1 v2 v3 s _ h)
def f_computeRunLength_30 (k20 : Int32 → Int32 → St → Option (Int32)) : Nat → Int32 → Int32 → Int32 → St → Option (Int32)
  | 0 => fun _ _ _ _ => none
  | n + 1 => g_computeRunLength_30 k20 (f_computeRunLength_30 k20 n) n
theorem ok18_30 (l : Launch) (Z : State) (a0 : Array Value) (hw : HW a0 Z) (n0 : Nat) (k20 : Int32 → Int32 → St → Option (Int32)) (hk20 : ∀ (v1 : Int32) (v2 : Int32) (s : St) (r : Int32), k20 v1 v2 s = some r → W18 l Z n0 (P18 s r) 0 0 20 [.val (.ref 0), .val (.int v1), .val (.int v2), .unset] [] (Hb 0 s)) : ∀ (n : Nat) (v1 : Int32) (v2 : Int32) (v3 : Int32) (s : St) (r : Int32), f_computeRunLength_30 k20 n v1 v2 v3 s = some r → W18 l Z n0 (P18 s r) 0 0 30 [.val (.ref 0), .val (.int v1), .val (.int v2), .val (.int v3)] [] (Hb 0 s)
  | 0, v1, v2, v3, s, r, h => nomatch (show none = some r from h)
  | n + 1, v1, v2, v3, s, r, h => okg18_30 l Z a0 hw n0 _ hk20 _ (ok18_30 l Z a0 hw n0 k20 hk20 n) n v1 v2 v3 s r h
def g_computeRunLength_20 (k20 : Int32 → Int32 → St → Option (Int32)) (n : Nat) (v1 : Int32) (v2 : Int32) (s : St) : Option (Int32) :=
  if v2 < (gI s 0) then
    f_computeRunLength_30 k20 n v1 v2 (0 : Int32) s
  else
    some v1
set_option maxRecDepth 65536 in
set_option maxHeartbeats 4000000 in
theorem okg18_20 (l : Launch) (Z : State) (a0 : Array Value) (hw : HW a0 Z) (n0 : Nat) (k20 : Int32 → Int32 → St → Option (Int32)) (hk20 : ∀ (v1 : Int32) (v2 : Int32) (s : St) (r : Int32), k20 v1 v2 s = some r → W18 l Z n0 (P18 s r) 0 0 20 [.val (.ref 0), .val (.int v1), .val (.int v2), .unset] [] (Hb 0 s)) (n : Nat) (v1 : Int32) (v2 : Int32) (s : St) (r : Int32) (h : g_computeRunLength_20 k20 n v1 v2 s = some r) : W18 l Z n0 (P18 s r) 0 0 20 [.val (.ref 0), .val (.int v1), .val (.int v2), .unset] [] (Hb 0 s) := by
  unfold g_computeRunLength_20 at h
  refine WP.iloadN d18_20 rfl ?_
  refine WP.aloadN d18_21 rfl ?_
  refine WP.getfield (i := 0) (j := 0) d18_22 (hw _ m_30) rfl rfl rfl ?_
  rcases ite_e h with ⟨hc1, h⟩ | ⟨hc1, h⟩
  ·
    refine WP.icmpN d18_25 (XT.ii_ge_f hc1) ?_
    refine WP.iconst (0 : Int32) d18_28 rfl ?_
    refine WP.istoreN (L' := [.val (.ref 0), .val (.int v1), .val (.int v2), .val (.int (0 : Int32))]) d18_29 (leb rfl) rfl ?_
    exact WP.weak (L' := [.val (.ref 0), .val (.int v1), .val (.int v2), .val (.int (0 : Int32))]) ⟨rfl, rfl, rfl, rfl, trivial⟩ (ok18_30 l Z a0 hw n0 _ hk20 n v1 v2 (0 : Int32) s _ h)
  ·
    refine WP.icmpY (pc' := 72) d18_25 (XT.ii_ge_t hc1) (by decide) rfl ?_
    refine WP.iloadN d18_72 rfl ?_
    cases h
    exact WP.ireturn d18_73 rfl (leb rfl) (leb rfl) ⟨rfl, rfl⟩
def f_computeRunLength_20 : Nat → Int32 → Int32 → St → Option (Int32)
  | 0 => fun _ _ _ => none
  | n + 1 => g_computeRunLength_20 (f_computeRunLength_20 n) n
theorem ok18_20 (l : Launch) (Z : State) (a0 : Array Value) (hw : HW a0 Z) (n0 : Nat) : ∀ (n : Nat) (v1 : Int32) (v2 : Int32) (s : St) (r : Int32), f_computeRunLength_20 n v1 v2 s = some r → W18 l Z n0 (P18 s r) 0 0 20 [.val (.ref 0), .val (.int v1), .val (.int v2), .unset] [] (Hb 0 s)
  | 0, v1, v2, s, r, h => nomatch (show none = some r from h)
  | n + 1, v1, v2, s, r, h => okg18_20 l Z a0 hw n0 _ (ok18_20 l Z a0 hw n0 n) n v1 v2 s r h
def f_computeRunLength (n : Nat) (s : St) : Option (Int32) :=
  if (gI s 4) = (gI s 3) then
    some (gI s 0)
  else
    f_computeRunLength_20 n (0 : Int32) (0 : Int32) s
set_option maxRecDepth 65536 in
set_option maxHeartbeats 4000000 in
theorem ok18 (l : Launch) (Z : State) (a0 : Array Value) (hw : HW a0 Z) (n : Nat) (s : St) (r : Int32) (h : f_computeRunLength n s = some r) : CS l Z CN lay y18 prog_1_method_31_code 4 (some FieldType.int) R18 0 [.ref 0] (Hb 0 s) (P18 s r) := by
  refine CS.of_wp pn_cls (leb rfl) fun n0 => ?_
  show W18 l Z n0 (P18 s r) 0 0 0 [.val (.ref 0), .unset, .unset, .unset] [] (Hb 0 s)
  unfold f_computeRunLength at h
  refine WP.aloadN d18_0 rfl ?_
  refine WP.getfield (i := 0) (j := 4) d18_1 (hw _ m_82) rfl rfl rfl ?_
  refine WP.aloadN d18_4 rfl ?_
  refine WP.getfield (i := 0) (j := 3) d18_5 (hw _ m_40) rfl rfl rfl ?_
  rcases ite_e h with ⟨hc1, h⟩ | ⟨hc1, h⟩
  ·
    refine WP.icmpN d18_8 (XT.ii_ne_f hc1) ?_
    refine WP.aloadN d18_11 rfl ?_
    refine WP.getfield (i := 0) (j := 0) d18_12 (hw _ m_30) rfl rfl rfl ?_
    cases h
    exact WP.ireturn d18_15 rfl (leb rfl) (leb rfl) ⟨rfl, rfl⟩
  ·
    refine WP.icmpY (pc' := 16) d18_8 (XT.ii_ne_t hc1) (by decide) rfl ?_
    refine WP.iconst (0 : Int32) d18_16 rfl ?_
    refine WP.istoreN (L' := [.val (.ref 0), .val (.int (0 : Int32)), .unset, .unset]) d18_17 (leb rfl) rfl ?_
    refine WP.iconst (0 : Int32) d18_18 rfl ?_
    refine WP.istoreN (L' := [.val (.ref 0), .val (.int (0 : Int32)), .val (.int (0 : Int32)), .unset]) d18_19 (leb rfl) rfl ?_
    exact WP.weak (L' := [.val (.ref 0), .val (.int (0 : Int32)), .val (.int (0 : Int32)), .unset]) ⟨rfl, rfl, rfl, trivial⟩ (ok18_20 l Z a0 hw n0 n (0 : Int32) (0 : Int32) s _ h)
theorem d14_0 : dc prog_1_method_29_code 0 (.aload_n 0) 1 := by decide +kernel
theorem d14_1 : dc prog_1_method_29_code 1 (.aload_n 0) 1 := by decide +kernel
theorem d14_2 : dc prog_1_method_29_code 2 (.aload_n 0) 1 := by decide +kernel
theorem d14_3 : dc prog_1_method_29_code 3 (.getfield 42) 3 := by decide +kernel
theorem d14_6 : dc prog_1_method_29_code 6 (.invokevirtual 84) 3 := by decide +kernel
theorem d14_9 : dc prog_1_method_29_code 9 (.putfield 54) 3 := by decide +kernel
theorem d14_12 : dc prog_1_method_29_code 12 (.aload_n 0) 1 := by decide +kernel
theorem d14_13 : dc prog_1_method_29_code 13 (.aload_n 0) 1 := by decide +kernel
theorem d14_14 : dc prog_1_method_29_code 14 (.invokevirtual 124) 3 := by decide +kernel
theorem d14_17 : dc prog_1_method_29_code 17 (.putfield 51) 3 := by decide +kernel
theorem d14_20 : dc prog_1_method_29_code 20 (.aload_n 0) 1 := by decide +kernel
theorem d14_21 : dc prog_1_method_29_code 21 (.aload_n 0) 1 := by decide +kernel
theorem d14_22 : dc prog_1_method_29_code 22 (.invokevirtual 127) 3 := by decide +kernel
theorem d14_25 : dc prog_1_method_29_code 25 (.putfield 57) 3 := by decide +kernel
theorem d14_28 : dc prog_1_method_29_code 28 (.return_) 1 := by decide +kernel
abbrev y14 : MethodName := ⟨"CyclicCodeLab", "refresh", "()V"⟩
theorem hy14 : y14.cls ≠ "java/lang/invoke/MethodHandle" ∧ y14.cls ≠ "java/lang/invoke/VarHandle" := by decide
theorem pd14 : parseMethodDescriptor y14.desc = some ⟨[], none⟩ := by decide +kernel
abbrev R14 : Room := { frames := 2, cells := 0, slots := 0, locals := 31 }
abbrev P14 (r : St) : Option Value → List OwnC → Prop := fun v H' => v = none ∧ H' = (Hb 0 r)
abbrev W14 (l : Launch) (Z : State) (n0 : Nat) (Q : Option Value → List OwnC → Prop) (k n pc : Nat) (L : List Slot) (S : List Value) (H : List OwnC) : Prop := WP l Z CN lay "CyclicCodeLab" "refresh" prog_1_method_29_code 1 (none) R14 n0 0 Q k n pc L S H
def f_refresh (n : Nat) (s : St) : Option (St) :=
  (f_popcount n (gI s 4) s).bind fun c1 =>
  lt (sI s 6 c1) fun s2 =>
  (f_computeGenerator n s2).bind fun c3 =>
  lt (sI s2 5 c3) fun s4 =>
  (f_computeRunLength n s4).bind fun c5 =>
  lt (sI s4 7 c5) fun s6 =>
  some s6
set_option maxRecDepth 65536 in
set_option maxHeartbeats 4000000 in
theorem ok14 (l : Launch) (Z : State) (a0 : Array Value) (hw : HW a0 Z) (n : Nat) (s : St) (r : St) (h : f_refresh n s = some r) : CS l Z CN lay y14 prog_1_method_29_code 1 (none) R14 0 [.ref 0] (Hb 0 s) (P14 r) := by
  refine CS.of_wp pn_cls (leb rfl) fun n0 => ?_
  show W14 l Z n0 (P14 r) 0 0 0 [.val (.ref 0)] [] (Hb 0 s)
  unfold f_refresh at h
  refine WP.aloadN d14_0 rfl ?_
  refine WP.aloadN d14_1 rfl ?_
  refine WP.aloadN d14_2 rfl ?_
  refine WP.getfield (i := 0) (j := 4) d14_3 (hw _ m_82) rfl rfl rfl ?_
  obtain ⟨c1, hc1, h⟩ := Option.bind_eq_some_iff.mp h
  refine WP.callP (i := 0) (y := y15) (as := [.int (gI s 4)]) (S := [.ref 0]) d14_6 (hw _ m_88) (hw _ m_90) (hw _ m_1) (hw _ m_89) (hw _ m_91) (hw _ m_2) hy15 rfl (ok15 l Z a0 hw n (gI s 4) s _ hc1) rfl (lenOf pd15 rfl) (leb rfl) (leb rfl) (leb rfl) (leb rfl) ?_
  rintro _ _ ⟨rfl, rfl⟩
  show W14 l Z n0 (P14 r) 0 0 9 [.val (.ref 0)] [.int c1, .ref 0] (Hb 0 s)
  obtain ⟨s2, es2, h⟩ := lt_e h
  refine WP.putI (i := 0) (j := 6) (H' := (Hb 0 s2)) d14_9 (hw _ m_92) (Or.inl (hw _ m_93)) (hw _ m_1) (hlay hw) rfl rfl rfl (leb rfl) (by subst es2; rfl) ?_
  refine WP.aloadN d14_12 rfl ?_
  refine WP.aloadN d14_13 rfl ?_
  obtain ⟨c3, hc3, h⟩ := Option.bind_eq_some_iff.mp h
  refine WP.callP (i := 0) (y := y16) (as := []) (S := [.ref 0]) d14_14 (hw _ m_94) (hw _ m_96) (hw _ m_1) (hw _ m_95) (hw _ m_97) (hw _ m_2) hy16 rfl (ok16 l Z a0 hw n s2 _ hc3) rfl (lenOf pd16 rfl) (leb rfl) (leb rfl) (leb rfl) (leb rfl) ?_
  rintro _ _ ⟨rfl, rfl⟩
  show W14 l Z n0 (P14 r) 0 0 17 [.val (.ref 0)] [.int c3, .ref 0] (Hb 0 s2)
  obtain ⟨s4, es4, h⟩ := lt_e h
  refine WP.putI (i := 0) (j := 5) (H' := (Hb 0 s4)) d14_17 (hw _ m_102) (Or.inl (hw _ m_103)) (hw _ m_1) (hlay hw) rfl rfl rfl (leb rfl) (by subst es4; rfl) ?_
  refine WP.aloadN d14_20 rfl ?_
  refine WP.aloadN d14_21 rfl ?_
  obtain ⟨c5, hc5, h⟩ := Option.bind_eq_some_iff.mp h
  refine WP.callP (i := 0) (y := y18) (as := []) (S := [.ref 0]) d14_22 (hw _ m_104) (hw _ m_106) (hw _ m_1) (hw _ m_105) (hw _ m_107) (hw _ m_2) hy18 rfl (ok18 l Z a0 hw n s4 _ hc5) rfl (lenOf pd18 rfl) (leb rfl) (leb rfl) (leb rfl) (leb rfl) ?_
  rintro _ _ ⟨rfl, rfl⟩
  show W14 l Z n0 (P14 r) 0 0 25 [.val (.ref 0)] [.int c5, .ref 0] (Hb 0 s4)
  obtain ⟨s6, es6, h⟩ := lt_e h
  refine WP.putI (i := 0) (j := 7) (H' := (Hb 0 s6)) d14_25 (hw _ m_108) (Or.inl (hw _ m_109)) (hw _ m_1) (hlay hw) rfl rfl rfl (leb rfl) (by subst es6; rfl) ?_
  cases h
  exact WP.vreturn d14_28 rfl (leb rfl) (leb rfl) ⟨rfl, rfl⟩
theorem d1_0 : dc prog_1_method_18_code 0 (.aload_n 0) 1 := by decide +kernel
theorem d1_1 : dc prog_1_method_18_code 1 (.iload_n 1) 1 := by decide +kernel
theorem d1_2 : dc prog_1_method_18_code 2 (.invokevirtual 87) 3 := by decide +kernel
theorem d1_5 : dc prog_1_method_18_code 5 (.istore_n 2) 1 := by decide +kernel
theorem d1_6 : dc prog_1_method_18_code 6 (.iload_n 2) 1 := by decide +kernel
theorem d1_7 : dc prog_1_method_18_code 7 (.ifCond .ne 5) 3 := by decide +kernel
theorem d1_10 : dc prog_1_method_18_code 10 (.iconst 0) 1 := by decide +kernel
theorem d1_11 : dc prog_1_method_18_code 11 (.ireturn) 1 := by decide +kernel
theorem d1_12 : dc prog_1_method_18_code 12 (.aload_n 0) 1 := by decide +kernel
theorem d1_13 : dc prog_1_method_18_code 13 (.iload_n 1) 1 := by decide +kernel
theorem d1_14 : dc prog_1_method_18_code 14 (.putfield 32) 3 := by decide +kernel
theorem d1_17 : dc prog_1_method_18_code 17 (.aload_n 0) 1 := by decide +kernel
theorem d1_18 : dc prog_1_method_18_code 18 (.iload_n 2) 1 := by decide +kernel
theorem d1_19 : dc prog_1_method_18_code 19 (.putfield 36) 3 := by decide +kernel
theorem d1_22 : dc prog_1_method_18_code 22 (.aload_n 0) 1 := by decide +kernel
theorem d1_23 : dc prog_1_method_18_code 23 (.iconst 1) 1 := by decide +kernel
theorem d1_24 : dc prog_1_method_18_code 24 (.iload_n 2) 1 := by decide +kernel
theorem d1_25 : dc prog_1_method_18_code 25 (.ishl) 1 := by decide +kernel
theorem d1_26 : dc prog_1_method_18_code 26 (.iconst 1) 1 := by decide +kernel
theorem d1_27 : dc prog_1_method_18_code 27 (.isub) 1 := by decide +kernel
theorem d1_28 : dc prog_1_method_18_code 28 (.putfield 90) 3 := by decide +kernel
theorem d1_31 : dc prog_1_method_18_code 31 (.aload_n 0) 1 := by decide +kernel
theorem d1_32 : dc prog_1_method_18_code 32 (.aload_n 0) 1 := by decide +kernel
theorem d1_33 : dc prog_1_method_18_code 33 (.iload_n 1) 1 := by decide +kernel
theorem d1_34 : dc prog_1_method_18_code 34 (.invokevirtual 71) 3 := by decide +kernel
theorem d1_37 : dc prog_1_method_18_code 37 (.putfield 77) 3 := by decide +kernel
theorem d1_40 : dc prog_1_method_18_code 40 (.aload_n 0) 1 := by decide +kernel
theorem d1_41 : dc prog_1_method_18_code 41 (.invokevirtual 93) 3 := by decide +kernel
theorem d1_44 : dc prog_1_method_18_code 44 (.aload_n 0) 1 := by decide +kernel
theorem d1_45 : dc prog_1_method_18_code 45 (.invokevirtual 96) 3 := by decide +kernel
theorem d1_48 : dc prog_1_method_18_code 48 (.aload_n 0) 1 := by decide +kernel
theorem d1_49 : dc prog_1_method_18_code 49 (.invokevirtual 99) 3 := by decide +kernel
theorem d1_52 : dc prog_1_method_18_code 52 (.aload_n 0) 1 := by decide +kernel
theorem d1_53 : dc prog_1_method_18_code 53 (.iconst 0) 1 := by decide +kernel
theorem d1_54 : dc prog_1_method_18_code 54 (.putfield 42) 3 := by decide +kernel
theorem d1_57 : dc prog_1_method_18_code 57 (.aload_n 0) 1 := by decide +kernel
theorem d1_58 : dc prog_1_method_18_code 58 (.invokevirtual 45) 3 := by decide +kernel
theorem d1_61 : dc prog_1_method_18_code 61 (.iconst 1) 1 := by decide +kernel
theorem d1_62 : dc prog_1_method_18_code 62 (.ireturn) 1 := by decide +kernel
abbrev y1 : MethodName := ⟨"CyclicCodeLab", "configure", "(I)Z"⟩
theorem hy1 : y1.cls ≠ "java/lang/invoke/MethodHandle" ∧ y1.cls ≠ "java/lang/invoke/VarHandle" := by decide
theorem pd1 : parseMethodDescriptor y1.desc = some ⟨[.int], some .boolean⟩ := by decide +kernel
abbrev R1 : Room := { frames := 4, cells := 0, slots := 0, locals := 65 }
abbrev P1 (r : Int32 × St) : Option Value → List OwnC → Prop := fun v H' => v = some (.int r.1) ∧ H' = (Hb 0 r.2)
abbrev W1 (l : Launch) (Z : State) (n0 : Nat) (Q : Option Value → List OwnC → Prop) (k n pc : Nat) (L : List Slot) (S : List Value) (H : List OwnC) : Prop := WP l Z CN lay "CyclicCodeLab" "configure" prog_1_method_18_code 3 (some FieldType.boolean) R1 n0 0 Q k n pc L S H
def f_configure (n : Nat) (p1 : Int32) (s : St) : Option (Int32 × St) :=
  (f_degreeFor p1 s).bind fun c1 =>
  if c1 = 0 then
    some ((0 : Int32), s)
  else
    lt (sI s 0 p1) fun s3 =>
    lt (sI s3 1 c1) fun s4 =>
    lt (sI s4 2 (((1 : Int32) <<< (c1 &&& 31)) - (1 : Int32))) fun s5 =>
    (f_lowMask p1 s5).bind fun c6 =>
    lt (sI s5 3 c6) fun s7 =>
    (f_buildField n s7).bind fun c8 =>
    (f_buildCosets n c8).bind fun c9 =>
    (f_buildMinimalPolys n c9).bind fun c10 =>
    lt (sI c10 4 (0 : Int32)) fun s11 =>
    (f_refresh n s11).bind fun c12 =>
    some ((1 : Int32), c12)
set_option maxRecDepth 65536 in
set_option maxHeartbeats 4000000 in
theorem ok1 (l : Launch) (Z : State) (a0 : Array Value) (hw : HW a0 Z) (n : Nat) (p1 : Int32) (s : St) (r : Int32 × St) (h : f_configure n p1 s = some r) : CS l Z CN lay y1 prog_1_method_18_code 3 (some FieldType.boolean) R1 0 [.ref 0, .int p1] (Hb 0 s) (P1 r) := by
  refine CS.of_wp pn_cls (leb rfl) fun n0 => ?_
  show W1 l Z n0 (P1 r) 0 0 0 [.val (.ref 0), .val (.int p1), .unset] [] (Hb 0 s)
  unfold f_configure at h
  refine WP.aloadN d1_0 rfl ?_
  refine WP.iloadN d1_1 rfl ?_
  obtain ⟨c1, hc1, h⟩ := Option.bind_eq_some_iff.mp h
  refine WP.callP (i := 0) (y := y2) (as := [.int p1]) (S := []) d1_2 (hw _ m_26) (hw _ m_28) (hw _ m_1) (hw _ m_27) (hw _ m_29) (hw _ m_2) hy2 rfl (ok2 l Z a0 hw p1 s _ hc1) rfl (lenOf pd2 rfl) (leb rfl) (leb rfl) (leb rfl) (leb rfl) ?_
  rintro _ _ ⟨rfl, rfl⟩
  show W1 l Z n0 (P1 r) 0 0 5 [.val (.ref 0), .val (.int p1), .unset] [.int c1] (Hb 0 s)
  refine WP.istoreN (L' := [.val (.ref 0), .val (.int p1), .val (.int c1)]) d1_5 (leb rfl) rfl ?_
  refine WP.iloadN d1_6 rfl ?_
  rcases ite_e h with ⟨hc2, h⟩ | ⟨hc2, h⟩
  ·
    refine WP.ifN d1_7 (XT.i0_ne_f hc2) ?_
    refine WP.iconst (0 : Int32) d1_10 rfl ?_
    cases h
    exact WP.zreturn d1_11 rfl (leb rfl) (leb rfl) ⟨rfl, rfl⟩
  ·
    refine WP.ifY (pc' := 12) d1_7 (XT.i0_ne_t hc2) (by decide) rfl ?_
    refine WP.aloadN d1_12 rfl ?_
    refine WP.iloadN d1_13 rfl ?_
    obtain ⟨s3, es3, h⟩ := lt_e h
    refine WP.putI (i := 0) (j := 0) (H' := (Hb 0 s3)) d1_14 (hw _ m_30) (Or.inl (hw _ m_31)) (hw _ m_1) (hlay hw) rfl rfl rfl (leb rfl) (by subst es3; rfl) ?_
    refine WP.aloadN d1_17 rfl ?_
    refine WP.iloadN d1_18 rfl ?_
    obtain ⟨s4, es4, h⟩ := lt_e h
    refine WP.putI (i := 0) (j := 1) (H' := (Hb 0 s4)) d1_19 (hw _ m_32) (Or.inl (hw _ m_33)) (hw _ m_1) (hlay hw) rfl rfl rfl (leb rfl) (by subst es4; rfl) ?_
    refine WP.aloadN d1_22 rfl ?_
    refine WP.iconst (1 : Int32) d1_23 rfl ?_
    refine WP.iloadN d1_24 rfl ?_
    refine WP.ishl d1_25 ?_
    refine WP.iconst (1 : Int32) d1_26 rfl ?_
    refine WP.isub d1_27 ?_
    obtain ⟨s5, es5, h⟩ := lt_e h
    refine WP.putI (i := 0) (j := 2) (H' := (Hb 0 s5)) d1_28 (hw _ m_34) (Or.inl (hw _ m_35)) (hw _ m_1) (hlay hw) rfl rfl rfl (leb rfl) (by subst es5; rfl) ?_
    refine WP.aloadN d1_31 rfl ?_
    refine WP.aloadN d1_32 rfl ?_
    refine WP.iloadN d1_33 rfl ?_
    obtain ⟨c6, hc6, h⟩ := Option.bind_eq_some_iff.mp h
    refine WP.callP (i := 0) (y := y3) (as := [.int p1]) (S := [.ref 0]) d1_34 (hw _ m_36) (hw _ m_38) (hw _ m_1) (hw _ m_37) (hw _ m_39) (hw _ m_2) hy3 rfl (ok3 l Z a0 hw p1 s5 _ hc6) rfl (lenOf pd3 rfl) (leb rfl) (leb rfl) (leb rfl) (leb rfl) ?_
    rintro _ _ ⟨rfl, rfl⟩
    show W1 l Z n0 (P1 r) 0 0 37 [.val (.ref 0), .val (.int p1), .val (.int c1)] [.int c6, .ref 0] (Hb 0 s5)
    obtain ⟨s7, es7, h⟩ := lt_e h
    refine WP.putI (i := 0) (j := 3) (H' := (Hb 0 s7)) d1_37 (hw _ m_40) (Or.inl (hw _ m_41)) (hw _ m_1) (hlay hw) rfl rfl rfl (leb rfl) (by subst es7; rfl) ?_
    refine WP.aloadN d1_40 rfl ?_
    obtain ⟨c8, hc8, h⟩ := Option.bind_eq_some_iff.mp h
    refine WP.callP (i := 0) (y := y4) (as := []) (S := []) d1_41 (hw _ m_42) (hw _ m_44) (hw _ m_1) (hw _ m_43) (hw _ m_45) (hw _ m_2) hy4 rfl (ok4 l Z a0 hw n s7 _ hc8) rfl (lenOf pd4 rfl) (leb rfl) (leb rfl) (leb rfl) (leb rfl) ?_
    rintro _ _ ⟨rfl, rfl⟩
    show W1 l Z n0 (P1 r) 0 0 44 [.val (.ref 0), .val (.int p1), .val (.int c1)] [] (Hb 0 c8)
    refine WP.aloadN d1_44 rfl ?_
    obtain ⟨c9, hc9, h⟩ := Option.bind_eq_some_iff.mp h
    refine WP.callP (i := 0) (y := y6) (as := []) (S := []) d1_45 (hw _ m_50) (hw _ m_52) (hw _ m_1) (hw _ m_51) (hw _ m_53) (hw _ m_2) hy6 rfl (ok6 l Z a0 hw n c8 _ hc9) rfl (lenOf pd6 rfl) (leb rfl) (leb rfl) (leb rfl) (leb rfl) ?_
    rintro _ _ ⟨rfl, rfl⟩
    show W1 l Z n0 (P1 r) 0 0 48 [.val (.ref 0), .val (.int p1), .val (.int c1)] [] (Hb 0 c9)
    refine WP.aloadN d1_48 rfl ?_
    obtain ⟨c10, hc10, h⟩ := Option.bind_eq_some_iff.mp h
    refine WP.callP (i := 0) (y := y9) (as := []) (S := []) d1_49 (hw _ m_62) (hw _ m_64) (hw _ m_1) (hw _ m_63) (hw _ m_65) (hw _ m_2) hy9 rfl (ok9 l Z a0 hw n c9 _ hc10) rfl (lenOf pd9 rfl) (leb rfl) (leb rfl) (leb rfl) (leb rfl) ?_
    rintro _ _ ⟨rfl, rfl⟩
    show W1 l Z n0 (P1 r) 0 0 52 [.val (.ref 0), .val (.int p1), .val (.int c1)] [] (Hb 0 c10)
    refine WP.aloadN d1_52 rfl ?_
    refine WP.iconst (0 : Int32) d1_53 rfl ?_
    obtain ⟨s11, es11, h⟩ := lt_e h
    refine WP.putI (i := 0) (j := 4) (H' := (Hb 0 s11)) d1_54 (hw _ m_82) (Or.inl (hw _ m_83)) (hw _ m_1) (hlay hw) rfl rfl rfl (leb rfl) (by subst es11; rfl) ?_
    refine WP.aloadN d1_57 rfl ?_
    obtain ⟨c12, hc12, h⟩ := Option.bind_eq_some_iff.mp h
    refine WP.callP (i := 0) (y := y14) (as := []) (S := []) d1_58 (hw _ m_84) (hw _ m_86) (hw _ m_1) (hw _ m_85) (hw _ m_87) (hw _ m_2) hy14 rfl (ok14 l Z a0 hw n s11 _ hc12) rfl (lenOf pd14 rfl) (leb rfl) (leb rfl) (leb rfl) (leb rfl) ?_
    rintro _ _ ⟨rfl, rfl⟩
    show W1 l Z n0 (P1 r) 0 0 61 [.val (.ref 0), .val (.int p1), .val (.int c1)] [] (Hb 0 c12)
    refine WP.iconst (1 : Int32) d1_61 rfl ?_
    cases h
    exact WP.zreturn d1_62 rfl (leb rfl) (leb rfl) ⟨rfl, rfl⟩
theorem d0_0 : dc prog_1_method_1_code 0 (.aload_n 0) 1 := by decide +kernel
theorem d0_1 : dc prog_1_method_1_code 1 (.invokespecial 1) 3 := by decide +kernel
theorem d0_4 : dc prog_1_method_1_code 4 (.aload_n 0) 1 := by decide +kernel
theorem d0_5 : dc prog_1_method_1_code 5 (.sipush 256) 3 := by decide +kernel
theorem d0_8 : dc prog_1_method_1_code 8 (.newarray .int) 2 := by decide +kernel
theorem d0_10 : dc prog_1_method_1_code 10 (.putfield 7) 3 := by decide +kernel
theorem d0_13 : dc prog_1_method_1_code 13 (.aload_n 0) 1 := by decide +kernel
theorem d0_14 : dc prog_1_method_1_code 14 (.sipush 256) 3 := by decide +kernel
theorem d0_17 : dc prog_1_method_1_code 17 (.newarray .int) 2 := by decide +kernel
theorem d0_19 : dc prog_1_method_1_code 19 (.putfield 13) 3 := by decide +kernel
theorem d0_22 : dc prog_1_method_1_code 22 (.aload_n 0) 1 := by decide +kernel
theorem d0_23 : dc prog_1_method_1_code 23 (.bipush 32) 2 := by decide +kernel
theorem d0_25 : dc prog_1_method_1_code 25 (.newarray .int) 2 := by decide +kernel
theorem d0_27 : dc prog_1_method_1_code 27 (.putfield 16) 3 := by decide +kernel
theorem d0_30 : dc prog_1_method_1_code 30 (.aload_n 0) 1 := by decide +kernel
theorem d0_31 : dc prog_1_method_1_code 31 (.bipush 32) 2 := by decide +kernel
theorem d0_33 : dc prog_1_method_1_code 33 (.newarray .int) 2 := by decide +kernel
theorem d0_35 : dc prog_1_method_1_code 35 (.putfield 19) 3 := by decide +kernel
theorem d0_38 : dc prog_1_method_1_code 38 (.aload_n 0) 1 := by decide +kernel
theorem d0_39 : dc prog_1_method_1_code 39 (.bipush 32) 2 := by decide +kernel
theorem d0_41 : dc prog_1_method_1_code 41 (.newarray .int) 2 := by decide +kernel
theorem d0_43 : dc prog_1_method_1_code 43 (.putfield 22) 3 := by decide +kernel
theorem d0_46 : dc prog_1_method_1_code 46 (.aload_n 0) 1 := by decide +kernel
theorem d0_47 : dc prog_1_method_1_code 47 (.bipush 10) 2 := by decide +kernel
theorem d0_49 : dc prog_1_method_1_code 49 (.newarray .int) 2 := by decide +kernel
theorem d0_51 : dc prog_1_method_1_code 51 (.putfield 25) 3 := by decide +kernel
theorem d0_54 : dc prog_1_method_1_code 54 (.aload_n 0) 1 := by decide +kernel
theorem d0_55 : dc prog_1_method_1_code 55 (.bipush 7) 2 := by decide +kernel
theorem d0_57 : dc prog_1_method_1_code 57 (.invokevirtual 28) 3 := by decide +kernel
theorem d0_60 : dc prog_1_method_1_code 60 (.pop) 1 := by decide +kernel
theorem d0_61 : dc prog_1_method_1_code 61 (.return_) 1 := by decide +kernel
abbrev y0 : MethodName := ⟨"CyclicCodeLab", "<init>", "()V"⟩
theorem hy0 : y0.cls ≠ "java/lang/invoke/MethodHandle" ∧ y0.cls ≠ "java/lang/invoke/VarHandle" := by decide
theorem pd0 : parseMethodDescriptor y0.desc = some ⟨[], none⟩ := by decide +kernel
abbrev R0 : Room := { frames := 5, cells := 6, slots := 618, locals := 79 }
abbrev P0 (r : St) : Option Value → List OwnC → Prop := fun v H' => v = none ∧ H' = (Hb 0 r)
abbrev W0 (l : Launch) (Z : State) (n0 : Nat) (Q : Option Value → List OwnC → Prop) (k n pc : Nat) (L : List Slot) (S : List Value) (H : List OwnC) : Prop := WP l Z CN lay "CyclicCodeLab" "<init>" prog_1_method_1_code 1 (none) R0 n0 0 Q k n pc L S H
def f_init (n : Nat) : Option (St) :=
  lt (st0) fun s1 =>
  (f_configure n (7 : Int32) s1).bind fun c2 =>
  some c2.2
set_option maxRecDepth 65536 in
set_option maxHeartbeats 4000000 in
theorem ok0 (l : Launch) (Z : State) (a0 : Array Value) (hw : HW a0 Z) (n : Nat) (r : St) (h : f_init n = some r) : CS l Z CN lay y0 prog_1_method_1_code 1 (none) R0 0 [.ref 0] [cO vs0] (P0 r) := by
  refine CS.of_wp pn_cls (leb rfl) fun n0 => ?_
  show W0 l Z n0 (P0 r) 0 0 0 [.val (.ref 0)] [] [cO vs0]
  unfold f_init at h
  refine WP.aloadN d0_0 rfl ?_
  refine WP.initO d0_1 (hw _ m_6) (hw _ m_7) (hw _ m_8) (leb rfl) (leb rfl) ?_
  refine WP.aloadN d0_4 rfl ?_
  refine WP.sipush (256 : Int32) d0_5 rfl ?_
  refine WP.newarray d0_8 (hw _ m_9) (by decide) (leb rfl) (leb rfl) (leb rfl) (Or.inl ⟨rfl, rfl⟩) ?_
  show W0 l Z n0 (P0 r) 1 256 10 [.val (.ref 0)] [.ref 1, .ref 0] ([cO [.int (0 : Int32), .int (0 : Int32), .int (0 : Int32), .int (0 : Int32), .int (0 : Int32), .int (0 : Int32), .int (0 : Int32), .int (0 : Int32), .null, .null, .null, .null, .null, .null], cI (List.replicate 256 0)] : List OwnC)
  refine WP.putR (ty := .array .int) (i := 0) (j := 8) (H' := ([cO [.int (0 : Int32), .int (0 : Int32), .int (0 : Int32), .int (0 : Int32), .int (0 : Int32), .int (0 : Int32), .int (0 : Int32), .int (0 : Int32), .ref 1, .null, .null, .null, .null, .null], cI (List.replicate 256 0)] : List OwnC)) d0_10 (hw _ m_10) (Or.inl (hw _ m_11)) (hw _ m_1) (hlay hw) (by decide) (fun _ => rfl) (fun _ => rfl) rfl rfl rfl (leb rfl) rfl ?_
  refine WP.aloadN d0_13 rfl ?_
  refine WP.sipush (256 : Int32) d0_14 rfl ?_
  refine WP.newarray d0_17 (hw _ m_9) (by decide) (leb rfl) (leb rfl) (leb rfl) (Or.inl ⟨rfl, rfl⟩) ?_
  show W0 l Z n0 (P0 r) 2 512 19 [.val (.ref 0)] [.ref 2, .ref 0] ([cO [.int (0 : Int32), .int (0 : Int32), .int (0 : Int32), .int (0 : Int32), .int (0 : Int32), .int (0 : Int32), .int (0 : Int32), .int (0 : Int32), .ref 1, .null, .null, .null, .null, .null], cI (List.replicate 256 0), cI (List.replicate 256 0)] : List OwnC)
  refine WP.putR (ty := .array .int) (i := 0) (j := 9) (H' := ([cO [.int (0 : Int32), .int (0 : Int32), .int (0 : Int32), .int (0 : Int32), .int (0 : Int32), .int (0 : Int32), .int (0 : Int32), .int (0 : Int32), .ref 1, .ref 2, .null, .null, .null, .null], cI (List.replicate 256 0), cI (List.replicate 256 0)] : List OwnC)) d0_19 (hw _ m_12) (Or.inl (hw _ m_13)) (hw _ m_1) (hlay hw) (by decide) (fun _ => rfl) (fun _ => rfl) rfl rfl rfl (leb rfl) rfl ?_
  refine WP.aloadN d0_22 rfl ?_
  refine WP.bipush (32 : Int32) d0_23 rfl ?_
  refine WP.newarray d0_25 (hw _ m_9) (by decide) (leb rfl) (leb rfl) (leb rfl) (Or.inl ⟨rfl, rfl⟩) ?_
  show W0 l Z n0 (P0 r) 3 544 27 [.val (.ref 0)] [.ref 3, .ref 0] ([cO [.int (0 : Int32), .int (0 : Int32), .int (0 : Int32), .int (0 : Int32), .int (0 : Int32), .int (0 : Int32), .int (0 : Int32), .int (0 : Int32), .ref 1, .ref 2, .null, .null, .null, .null], cI (List.replicate 256 0), cI (List.replicate 256 0), cI (List.replicate 32 0)] : List OwnC)
  refine WP.putR (ty := .array .int) (i := 0) (j := 10) (H' := ([cO [.int (0 : Int32), .int (0 : Int32), .int (0 : Int32), .int (0 : Int32), .int (0 : Int32), .int (0 : Int32), .int (0 : Int32), .int (0 : Int32), .ref 1, .ref 2, .ref 3, .null, .null, .null], cI (List.replicate 256 0), cI (List.replicate 256 0), cI (List.replicate 32 0)] : List OwnC)) d0_27 (hw _ m_14) (Or.inl (hw _ m_15)) (hw _ m_1) (hlay hw) (by decide) (fun _ => rfl) (fun _ => rfl) rfl rfl rfl (leb rfl) rfl ?_
  refine WP.aloadN d0_30 rfl ?_
  refine WP.bipush (32 : Int32) d0_31 rfl ?_
  refine WP.newarray d0_33 (hw _ m_9) (by decide) (leb rfl) (leb rfl) (leb rfl) (Or.inl ⟨rfl, rfl⟩) ?_
  show W0 l Z n0 (P0 r) 4 576 35 [.val (.ref 0)] [.ref 4, .ref 0] ([cO [.int (0 : Int32), .int (0 : Int32), .int (0 : Int32), .int (0 : Int32), .int (0 : Int32), .int (0 : Int32), .int (0 : Int32), .int (0 : Int32), .ref 1, .ref 2, .ref 3, .null, .null, .null], cI (List.replicate 256 0), cI (List.replicate 256 0), cI (List.replicate 32 0), cI (List.replicate 32 0)] : List OwnC)
  refine WP.putR (ty := .array .int) (i := 0) (j := 11) (H' := ([cO [.int (0 : Int32), .int (0 : Int32), .int (0 : Int32), .int (0 : Int32), .int (0 : Int32), .int (0 : Int32), .int (0 : Int32), .int (0 : Int32), .ref 1, .ref 2, .ref 3, .ref 4, .null, .null], cI (List.replicate 256 0), cI (List.replicate 256 0), cI (List.replicate 32 0), cI (List.replicate 32 0)] : List OwnC)) d0_35 (hw _ m_16) (Or.inl (hw _ m_17)) (hw _ m_1) (hlay hw) (by decide) (fun _ => rfl) (fun _ => rfl) rfl rfl rfl (leb rfl) rfl ?_
  refine WP.aloadN d0_38 rfl ?_
  refine WP.bipush (32 : Int32) d0_39 rfl ?_
  refine WP.newarray d0_41 (hw _ m_9) (by decide) (leb rfl) (leb rfl) (leb rfl) (Or.inl ⟨rfl, rfl⟩) ?_
  show W0 l Z n0 (P0 r) 5 608 43 [.val (.ref 0)] [.ref 5, .ref 0] ([cO [.int (0 : Int32), .int (0 : Int32), .int (0 : Int32), .int (0 : Int32), .int (0 : Int32), .int (0 : Int32), .int (0 : Int32), .int (0 : Int32), .ref 1, .ref 2, .ref 3, .ref 4, .null, .null], cI (List.replicate 256 0), cI (List.replicate 256 0), cI (List.replicate 32 0), cI (List.replicate 32 0), cI (List.replicate 32 0)] : List OwnC)
  refine WP.putR (ty := .array .int) (i := 0) (j := 12) (H' := ([cO [.int (0 : Int32), .int (0 : Int32), .int (0 : Int32), .int (0 : Int32), .int (0 : Int32), .int (0 : Int32), .int (0 : Int32), .int (0 : Int32), .ref 1, .ref 2, .ref 3, .ref 4, .ref 5, .null], cI (List.replicate 256 0), cI (List.replicate 256 0), cI (List.replicate 32 0), cI (List.replicate 32 0), cI (List.replicate 32 0)] : List OwnC)) d0_43 (hw _ m_18) (Or.inl (hw _ m_19)) (hw _ m_1) (hlay hw) (by decide) (fun _ => rfl) (fun _ => rfl) rfl rfl rfl (leb rfl) rfl ?_
  refine WP.aloadN d0_46 rfl ?_
  refine WP.bipush (10 : Int32) d0_47 rfl ?_
  refine WP.newarray d0_49 (hw _ m_9) (by decide) (leb rfl) (leb rfl) (leb rfl) (Or.inl ⟨rfl, rfl⟩) ?_
  show W0 l Z n0 (P0 r) 6 618 51 [.val (.ref 0)] [.ref 6, .ref 0] ([cO [.int (0 : Int32), .int (0 : Int32), .int (0 : Int32), .int (0 : Int32), .int (0 : Int32), .int (0 : Int32), .int (0 : Int32), .int (0 : Int32), .ref 1, .ref 2, .ref 3, .ref 4, .ref 5, .null], cI (List.replicate 256 0), cI (List.replicate 256 0), cI (List.replicate 32 0), cI (List.replicate 32 0), cI (List.replicate 32 0), cI (List.replicate 10 0)] : List OwnC)
  obtain ⟨s1, es1, h⟩ := lt_e h
  refine WP.putR (ty := .array .int) (i := 0) (j := 13) (H' := (Hb 0 s1)) d0_51 (hw _ m_20) (Or.inl (hw _ m_21)) (hw _ m_1) (hlay hw) (by decide) (fun _ => rfl) (fun _ => rfl) rfl rfl rfl (leb rfl) (by subst es1; rfl) ?_
  refine WP.aloadN d0_54 rfl ?_
  refine WP.bipush (7 : Int32) d0_55 rfl ?_
  obtain ⟨c2, hc2, h⟩ := Option.bind_eq_some_iff.mp h
  refine WP.callP (i := 0) (y := y1) (as := [.int (7 : Int32)]) (S := []) d0_57 (hw _ m_22) (hw _ m_24) (hw _ m_1) (hw _ m_23) (hw _ m_25) (hw _ m_2) hy1 rfl (ok1 l Z a0 hw n (7 : Int32) s1 _ hc2) rfl (lenOf pd1 rfl) (leb rfl) (leb rfl) (leb rfl) (leb rfl) ?_
  rintro _ _ ⟨rfl, rfl⟩
  show W0 l Z n0 (P0 r) 6 618 60 [.val (.ref 0)] [.int c2.1] (Hb 0 c2.2)
  refine WP.pop d0_60 rfl ?_
  cases h
  exact WP.vreturn d0_61 rfl (leb rfl) (leb rfl) ⟨rfl, rfl⟩
theorem d20_0 : dc prog_1_method_3_code 0 (.aload_n 0) 1 := by decide +kernel
theorem d20_1 : dc prog_1_method_3_code 1 (.getfield 32) 3 := by decide +kernel
theorem d20_4 : dc prog_1_method_3_code 4 (.ireturn) 1 := by decide +kernel
abbrev y20 : MethodName := ⟨"CyclicCodeLab", "length", "()I"⟩
theorem hy20 : y20.cls ≠ "java/lang/invoke/MethodHandle" ∧ y20.cls ≠ "java/lang/invoke/VarHandle" := by decide
theorem pd20 : parseMethodDescriptor y20.desc = some ⟨[], some .int⟩ := by decide +kernel
abbrev R20 : Room := { frames := 0, cells := 0, slots := 0, locals := 0 }
abbrev P20 (s : St) (r : Int32) : Option Value → List OwnC → Prop := fun v H' => v = some (.int r) ∧ H' = (Hb 0 s)
abbrev W20 (l : Launch) (Z : State) (n0 : Nat) (Q : Option Value → List OwnC → Prop) (k n pc : Nat) (L : List Slot) (S : List Value) (H : List OwnC) : Prop := WP l Z CN lay "CyclicCodeLab" "length" prog_1_method_3_code 1 (some FieldType.int) R20 n0 0 Q k n pc L S H
def f_length (s : St) : Option (Int32) :=
  some (gI s 0)
set_option maxRecDepth 65536 in
set_option maxHeartbeats 4000000 in
theorem ok20 (l : Launch) (Z : State) (a0 : Array Value) (hw : HW a0 Z) (s : St) (r : Int32) (h : f_length s = some r) : CS l Z CN lay y20 prog_1_method_3_code 1 (some FieldType.int) R20 0 [.ref 0] (Hb 0 s) (P20 s r) := by
  refine CS.of_wp pn_cls (leb rfl) fun n0 => ?_
  show W20 l Z n0 (P20 s r) 0 0 0 [.val (.ref 0)] [] (Hb 0 s)
  unfold f_length at h
  refine WP.aloadN d20_0 rfl ?_
  refine WP.getfield (i := 0) (j := 0) d20_1 (hw _ m_30) rfl rfl rfl ?_
  cases h
  exact WP.ireturn d20_4 rfl (leb rfl) (leb rfl) ⟨rfl, rfl⟩
theorem d21_0 : dc prog_1_method_11_code 0 (.aload_n 0) 1 := by decide +kernel
theorem d21_1 : dc prog_1_method_11_code 1 (.getfield 32) 3 := by decide +kernel
theorem d21_4 : dc prog_1_method_11_code 4 (.aload_n 0) 1 := by decide +kernel
theorem d21_5 : dc prog_1_method_11_code 5 (.getfield 54) 3 := by decide +kernel
theorem d21_8 : dc prog_1_method_11_code 8 (.isub) 1 := by decide +kernel
theorem d21_9 : dc prog_1_method_11_code 9 (.ireturn) 1 := by decide +kernel
abbrev y21 : MethodName := ⟨"CyclicCodeLab", "dimension", "()I"⟩
theorem hy21 : y21.cls ≠ "java/lang/invoke/MethodHandle" ∧ y21.cls ≠ "java/lang/invoke/VarHandle" := by decide
theorem pd21 : parseMethodDescriptor y21.desc = some ⟨[], some .int⟩ := by decide +kernel
abbrev R21 : Room := { frames := 0, cells := 0, slots := 0, locals := 0 }
abbrev P21 (s : St) (r : Int32) : Option Value → List OwnC → Prop := fun v H' => v = some (.int r) ∧ H' = (Hb 0 s)
abbrev W21 (l : Launch) (Z : State) (n0 : Nat) (Q : Option Value → List OwnC → Prop) (k n pc : Nat) (L : List Slot) (S : List Value) (H : List OwnC) : Prop := WP l Z CN lay "CyclicCodeLab" "dimension" prog_1_method_11_code 1 (some FieldType.int) R21 n0 0 Q k n pc L S H
def f_dimension (s : St) : Option (Int32) :=
  some ((gI s 0) - (gI s 6))
set_option maxRecDepth 65536 in
set_option maxHeartbeats 4000000 in
theorem ok21 (l : Launch) (Z : State) (a0 : Array Value) (hw : HW a0 Z) (s : St) (r : Int32) (h : f_dimension s = some r) : CS l Z CN lay y21 prog_1_method_11_code 1 (some FieldType.int) R21 0 [.ref 0] (Hb 0 s) (P21 s r) := by
  refine CS.of_wp pn_cls (leb rfl) fun n0 => ?_
  show W21 l Z n0 (P21 s r) 0 0 0 [.val (.ref 0)] [] (Hb 0 s)
  unfold f_dimension at h
  refine WP.aloadN d21_0 rfl ?_
  refine WP.getfield (i := 0) (j := 0) d21_1 (hw _ m_30) rfl rfl rfl ?_
  refine WP.aloadN d21_4 rfl ?_
  refine WP.getfield (i := 0) (j := 6) d21_5 (hw _ m_92) rfl rfl rfl ?_
  refine WP.isub d21_8 ?_
  cases h
  exact WP.ireturn d21_9 rfl (leb rfl) (leb rfl) ⟨rfl, rfl⟩
theorem d22_0 : dc prog_1_method_10_code 0 (.aload_n 0) 1 := by decide +kernel
theorem d22_1 : dc prog_1_method_10_code 1 (.getfield 51) 3 := by decide +kernel
theorem d22_4 : dc prog_1_method_10_code 4 (.ireturn) 1 := by decide +kernel
abbrev y22 : MethodName := ⟨"CyclicCodeLab", "generator", "()I"⟩
theorem hy22 : y22.cls ≠ "java/lang/invoke/MethodHandle" ∧ y22.cls ≠ "java/lang/invoke/VarHandle" := by decide
theorem pd22 : parseMethodDescriptor y22.desc = some ⟨[], some .int⟩ := by decide +kernel
abbrev R22 : Room := { frames := 0, cells := 0, slots := 0, locals := 0 }
abbrev P22 (s : St) (r : Int32) : Option Value → List OwnC → Prop := fun v H' => v = some (.int r) ∧ H' = (Hb 0 s)
abbrev W22 (l : Launch) (Z : State) (n0 : Nat) (Q : Option Value → List OwnC → Prop) (k n pc : Nat) (L : List Slot) (S : List Value) (H : List OwnC) : Prop := WP l Z CN lay "CyclicCodeLab" "generator" prog_1_method_10_code 1 (some FieldType.int) R22 n0 0 Q k n pc L S H
def f_generator (s : St) : Option (Int32) :=
  some (gI s 5)
set_option maxRecDepth 65536 in
set_option maxHeartbeats 4000000 in
theorem ok22 (l : Launch) (Z : State) (a0 : Array Value) (hw : HW a0 Z) (s : St) (r : Int32) (h : f_generator s = some r) : CS l Z CN lay y22 prog_1_method_10_code 1 (some FieldType.int) R22 0 [.ref 0] (Hb 0 s) (P22 s r) := by
  refine CS.of_wp pn_cls (leb rfl) fun n0 => ?_
  show W22 l Z n0 (P22 s r) 0 0 0 [.val (.ref 0)] [] (Hb 0 s)
  unfold f_generator at h
  refine WP.aloadN d22_0 rfl ?_
  refine WP.getfield (i := 0) (j := 5) d22_1 (hw _ m_102) rfl rfl rfl ?_
  cases h
  exact WP.ireturn d22_4 rfl (leb rfl) (leb rfl) ⟨rfl, rfl⟩
theorem d23_0 : dc method_5_code 0 (.iconst (-1)) 1 := by decide +kernel
theorem d23_1 : dc method_5_code 1 (.istore_n 2) 1 := by decide +kernel
theorem d23_2 : dc method_5_code 2 (.iconst 0) 1 := by decide +kernel
theorem d23_3 : dc method_5_code 3 (.istore_n 3) 1 := by decide +kernel
theorem d23_4 : dc method_5_code 4 (.iload_n 3) 1 := by decide +kernel
theorem d23_5 : dc method_5_code 5 (.bipush 64) 2 := by decide +kernel
theorem d23_7 : dc method_5_code 7 (.if_icmp .ge 21) 3 := by decide +kernel
theorem d23_10 : dc method_5_code 10 (.lload_n 0) 1 := by decide +kernel
theorem d23_11 : dc method_5_code 11 (.iload_n 3) 1 := by decide +kernel
theorem d23_12 : dc method_5_code 12 (.lushr) 1 := by decide +kernel
theorem d23_13 : dc method_5_code 13 (.lconst 1) 1 := by decide +kernel
theorem d23_14 : dc method_5_code 14 (.land) 1 := by decide +kernel
theorem d23_15 : dc method_5_code 15 (.lconst 0) 1 := by decide +kernel
theorem d23_16 : dc method_5_code 16 (.lcmp) 1 := by decide +kernel
theorem d23_17 : dc method_5_code 17 (.ifCond .eq 5) 3 := by decide +kernel
theorem d23_20 : dc method_5_code 20 (.iload_n 3) 1 := by decide +kernel
theorem d23_21 : dc method_5_code 21 (.istore_n 2) 1 := by decide +kernel
theorem d23_22 : dc method_5_code 22 (.iinc 3 1) 3 := by decide +kernel
theorem d23_25 : dc method_5_code 25 (.goto (-21)) 3 := by decide +kernel
theorem d23_28 : dc method_5_code 28 (.iload_n 2) 1 := by decide +kernel
theorem d23_29 : dc method_5_code 29 (.ireturn) 1 := by decide +kernel
abbrev y23 : MethodName := ⟨"CyclicCodeLabOwnLaw", "deg", "(J)I"⟩
theorem hy23 : y23.cls ≠ "java/lang/invoke/MethodHandle" ∧ y23.cls ≠ "java/lang/invoke/VarHandle" := by decide
theorem pd23 : parseMethodDescriptor y23.desc = some ⟨[.long], some .int⟩ := by decide +kernel
abbrev R23 : Room := { frames := 0, cells := 0, slots := 0, locals := 0 }
abbrev P23 (r : Int32) : Option Value → List OwnC → Prop := fun v H' => v = some (.int r) ∧ H' = ([] : List OwnC)
abbrev W23 (l : Launch) (Z : State) (n0 : Nat) (Q : Option Value → List OwnC → Prop) (k n pc : Nat) (L : List Slot) (S : List Value) (H : List OwnC) : Prop := WP l Z CN lay "CyclicCodeLabOwnLaw" "deg" method_5_code 4 (some FieldType.int) R23 n0 0 Q k n pc L S H
def f_L_deg_22 (k4 : Int64 → Int32 → Int32 → Option (Int32)) (n : Nat) (v0 : Int64) (v2 : Int32) (v3 : Int32) : Option (Int32) :=
  lt (v3 + (1 : Int32)) fun x1 =>
  k4 v0 v2 x1
set_option maxRecDepth 65536 in
set_option maxHeartbeats 4000000 in
theorem ok23_22 (l : Launch) (Z : State) (a0 : Array Value) (hw : HW a0 Z) (n0 : Nat) (k4 : Int64 → Int32 → Int32 → Option (Int32)) (hk4 : ∀ (v0 : Int64) (v2 : Int32) (v3 : Int32) (r : Int32), k4 v0 v2 v3 = some r → W23 l Z n0 (P23 r) 0 0 4 [.val (.long v0), .second, .val (.int v2), .val (.int v3)] [] ([] : List OwnC)) (n : Nat) (v0 : Int64) (v2 : Int32) (v3 : Int32) (r : Int32) (h : f_L_deg_22 k4 n v0 v2 v3 = some r) : W23 l Z n0 (P23 r) 0 0 22 [.val (.long v0), .second, .val (.int v2), .val (.int v3)] [] ([] : List OwnC) := by
  unfold f_L_deg_22 at h
  obtain ⟨x1, ex1, h⟩ := lt_e h
  refine WP.iinc (L' := [.val (.long v0), .second, .val (.int v2), .val (.int x1)]) (1 : Int32) d23_22 rfl rfl (by subst ex1; rfl) ?_
  refine WP.goto (pc' := 4) d23_25 (by decide) rfl ?_
  exact WP.weak (L' := [.val (.long v0), .second, .val (.int v2), .val (.int x1)]) ⟨rfl, rfl, rfl, rfl, trivial⟩ (hk4 v0 v2 x1 _ h)
def g_L_deg_4 (k4 : Int64 → Int32 → Int32 → Option (Int32)) (n : Nat) (v0 : Int64) (v2 : Int32) (v3 : Int32) : Option (Int32) :=
  if v3 < (64 : Int32) then
    if ((XT.ushrL v0 v3) &&& (1 : Int64)) = (0 : Int64) then
      f_L_deg_22 k4 n v0 v2 v3
    else
      f_L_deg_22 k4 n v0 v3 v3
  else
    some v2
set_option maxRecDepth 65536 in
set_option maxHeartbeats 4000000 in
theorem okg23_4 (l : Launch) (Z : State) (a0 : Array Value) (hw : HW a0 Z) (n0 : Nat) (k4 : Int64 → Int32 → Int32 → Option (Int32)) (hk4 : ∀ (v0 : Int64) (v2 : Int32) (v3 : Int32) (r : Int32), k4 v0 v2 v3 = some r → W23 l Z n0 (P23 r) 0 0 4 [.val (.long v0), .second, .val (.int v2), .val (.int v3)] [] ([] : List OwnC)) (n : Nat) (v0 : Int64) (v2 : Int32) (v3 : Int32) (r : Int32) (h : g_L_deg_4 k4 n v0 v2 v3 = some r) : W23 l Z n0 (P23 r) 0 0 4 [.val (.long v0), .second, .val (.int v2), .val (.int v3)] [] ([] : List OwnC) := by
  unfold g_L_deg_4 at h
  refine WP.iloadN d23_4 rfl ?_
  refine WP.bipush (64 : Int32) d23_5 rfl ?_
  rcases ite_e h with ⟨hc1, h⟩ | ⟨hc1, h⟩
  ·
    refine WP.icmpN d23_7 (XT.ii_ge_f hc1) ?_
    refine WP.lloadN d23_10 rfl ?_
    refine WP.iloadN d23_11 rfl ?_
    refine WP.lushr d23_12 ?_
    refine WP.lconst (1 : Int64) d23_13 rfl ?_
    refine WP.land d23_14 ?_
    refine WP.lconst (0 : Int64) d23_15 rfl ?_
    refine WP.lcmp d23_16 ?_
    rcases ite_e h with ⟨hc2, h⟩ | ⟨hc2, h⟩
    ·
      refine WP.ifY (pc' := 22) d23_17 (XT.ll_eq_t hc2) (by decide) rfl ?_
      exact WP.weak (L' := [.val (.long v0), .second, .val (.int v2), .val (.int v3)]) ⟨rfl, rfl, rfl, rfl, trivial⟩ (ok23_22 l Z a0 hw n0 _ hk4 n v0 v2 v3 _ h)
    ·
      refine WP.ifN d23_17 (XT.ll_eq_f hc2) ?_
      refine WP.iloadN d23_20 rfl ?_
      refine WP.istoreN (L' := [.val (.long v0), .second, .val (.int v3), .val (.int v3)]) d23_21 (leb rfl) rfl ?_
      exact WP.weak (L' := [.val (.long v0), .second, .val (.int v3), .val (.int v3)]) ⟨rfl, rfl, rfl, rfl, trivial⟩ (ok23_22 l Z a0 hw n0 _ hk4 n v0 v3 v3 _ h)
  ·
    refine WP.icmpY (pc' := 28) d23_7 (XT.ii_ge_t hc1) (by decide) rfl ?_
    refine WP.iloadN d23_28 rfl ?_
    cases h
    exact WP.ireturn d23_29 rfl (leb rfl) (leb rfl) ⟨rfl, rfl⟩
def f_L_deg_4 : Nat → Int64 → Int32 → Int32 → Option (Int32)
  | 0 => fun _ _ _ => none
  | n + 1 => g_L_deg_4 (f_L_deg_4 n) n
theorem ok23_4 (l : Launch) (Z : State) (a0 : Array Value) (hw : HW a0 Z) (n0 : Nat) : ∀ (n : Nat) (v0 : Int64) (v2 : Int32) (v3 : Int32) (r : Int32), f_L_deg_4 n v0 v2 v3 = some r → W23 l Z n0 (P23 r) 0 0 4 [.val (.long v0), .second, .val (.int v2), .val (.int v3)] [] ([] : List OwnC)
  | 0, v0, v2, v3, r, h => nomatch (show none = some r from h)
  | n + 1, v0, v2, v3, r, h => okg23_4 l Z a0 hw n0 _ (ok23_4 l Z a0 hw n0 n) n v0 v2 v3 r h
def f_L_deg (n : Nat) (p0 : Int64) : Option (Int32) :=
  f_L_deg_4 n p0 (-1 : Int32) (0 : Int32)
set_option maxRecDepth 65536 in
set_option maxHeartbeats 4000000 in
theorem ok23 (l : Launch) (Z : State) (a0 : Array Value) (hw : HW a0 Z) (n : Nat) (p0 : Int64) (r : Int32) (h : f_L_deg n p0 = some r) : CS l Z CN lay y23 method_5_code 4 (some FieldType.int) R23 0 [.long p0] ([] : List OwnC) (P23 r) := by
  refine CS.of_wp pn_law (leb rfl) fun n0 => ?_
  show W23 l Z n0 (P23 r) 0 0 0 [.val (.long p0), .second, .unset, .unset] [] ([] : List OwnC)
  unfold f_L_deg at h
  refine WP.iconst (-1 : Int32) d23_0 rfl ?_
  refine WP.istoreN (L' := [.val (.long p0), .second, .val (.int (-1 : Int32)), .unset]) d23_1 (leb rfl) rfl ?_
  refine WP.iconst (0 : Int32) d23_2 rfl ?_
  refine WP.istoreN (L' := [.val (.long p0), .second, .val (.int (-1 : Int32)), .val (.int (0 : Int32))]) d23_3 (leb rfl) rfl ?_
  exact WP.weak (L' := [.val (.long p0), .second, .val (.int (-1 : Int32)), .val (.int (0 : Int32))]) ⟨rfl, rfl, rfl, rfl, trivial⟩ (ok23_4 l Z a0 hw n0 n p0 (-1 : Int32) (0 : Int32) _ h)
theorem d24_0 : dc method_6_code 0 (.lload_n 2) 1 := by decide +kernel
theorem d24_1 : dc method_6_code 1 (.invokestatic 8) 3 := by decide +kernel
theorem d24_4 : dc method_6_code 4 (.istore 4) 2 := by decide +kernel
theorem d24_6 : dc method_6_code 6 (.iconst 0) 1 := by decide +kernel
theorem d24_7 : dc method_6_code 7 (.istore 5) 2 := by decide +kernel
theorem d24_9 : dc method_6_code 9 (.iload 5) 2 := by decide +kernel
theorem d24_11 : dc method_6_code 11 (.bipush 64) 2 := by decide +kernel
theorem d24_13 : dc method_6_code 13 (.if_icmp .ge 35) 3 := by decide +kernel
theorem d24_16 : dc method_6_code 16 (.lload_n 0) 1 := by decide +kernel
theorem d24_17 : dc method_6_code 17 (.invokestatic 8) 3 := by decide +kernel
theorem d24_20 : dc method_6_code 20 (.istore 6) 2 := by decide +kernel
theorem d24_22 : dc method_6_code 22 (.iload 6) 2 := by decide +kernel
theorem d24_24 : dc method_6_code 24 (.iload 4) 2 := by decide +kernel
theorem d24_26 : dc method_6_code 26 (.if_icmp .ge 6) 3 := by decide +kernel
theorem d24_29 : dc method_6_code 29 (.goto 19) 3 := by decide +kernel
theorem d24_32 : dc method_6_code 32 (.lload_n 0) 1 := by decide +kernel
theorem d24_33 : dc method_6_code 33 (.lload_n 2) 1 := by decide +kernel
theorem d24_34 : dc method_6_code 34 (.iload 6) 2 := by decide +kernel
theorem d24_36 : dc method_6_code 36 (.iload 4) 2 := by decide +kernel
theorem d24_38 : dc method_6_code 38 (.isub) 1 := by decide +kernel
theorem d24_39 : dc method_6_code 39 (.lshl) 1 := by decide +kernel
theorem d24_40 : dc method_6_code 40 (.lxor) 1 := by decide +kernel
theorem d24_41 : dc method_6_code 41 (.lstore_n 0) 1 := by decide +kernel
theorem d24_42 : dc method_6_code 42 (.iinc 5 1) 3 := by decide +kernel
theorem d24_45 : dc method_6_code 45 (.goto (-36)) 3 := by decide +kernel
theorem d24_48 : dc method_6_code 48 (.lload_n 0) 1 := by decide +kernel
theorem d24_49 : dc method_6_code 49 (.lreturn) 1 := by decide +kernel
abbrev y24 : MethodName := ⟨"CyclicCodeLabOwnLaw", "pmod", "(JJ)J"⟩
theorem hy24 : y24.cls ≠ "java/lang/invoke/MethodHandle" ∧ y24.cls ≠ "java/lang/invoke/VarHandle" := by decide
theorem pd24 : parseMethodDescriptor y24.desc = some ⟨[.long, .long], some .long⟩ := by decide +kernel
abbrev R24 : Room := { frames := 1, cells := 0, slots := 0, locals := 15 }
abbrev P24 (r : Int64) : Option Value → List OwnC → Prop := fun v H' => v = some (.long r) ∧ H' = ([] : List OwnC)
abbrev W24 (l : Launch) (Z : State) (n0 : Nat) (Q : Option Value → List OwnC → Prop) (k n pc : Nat) (L : List Slot) (S : List Value) (H : List OwnC) : Prop := WP l Z CN lay "CyclicCodeLabOwnLaw" "pmod" method_6_code 7 (some FieldType.long) R24 n0 0 Q k n pc L S H
def f_L_pmod_48 (n : Nat) (v0 : Int64) : Option (Int64) :=
  some v0
set_option maxRecDepth 65536 in
set_option maxHeartbeats 4000000 in
theorem ok24_48 (l : Launch) (Z : State) (a0 : Array Value) (hw : HW a0 Z) (n0 : Nat) (n : Nat) (v0 : Int64) (r : Int64) (h : f_L_pmod_48 n v0 = some r) : W24 l Z n0 (P24 r) 0 0 48 [.val (.long v0), .second, .unset, .unset, .unset, .unset, .unset] [] ([] : List OwnC) := by
  unfold f_L_pmod_48 at h
  refine WP.lloadN d24_48 rfl ?_
  cases h
  exact WP.lreturn d24_49 rfl (leb rfl) (leb rfl) ⟨rfl, rfl⟩
def g_L_pmod_9 (k9 : Int64 → Int64 → Int32 → Int32 → Option (Int64)) (n : Nat) (v0 : Int64) (v2 : Int64) (v4 : Int32) (v5 : Int32) : Option (Int64) :=
  if v5 < (64 : Int32) then
    (f_L_deg n v0).bind fun c2 =>
    if c2 < v4 then
      f_L_pmod_48 n v0
    else
      lt (v0 ^^^ (v2 <<< ((c2 - v4).toInt64 &&& 63))) fun x4 =>
      lt (v5 + (1 : Int32)) fun x5 =>
      k9 x4 v2 v4 x5
  else
    f_L_pmod_48 n v0
set_option maxRecDepth 65536 in
set_option maxHeartbeats 4000000 in
theorem okg24_9 (l : Launch) (Z : State) (a0 : Array Value) (hw : HW a0 Z) (n0 : Nat) (k9 : Int64 → Int64 → Int32 → Int32 → Option (Int64)) (hk9 : ∀ (v0 : Int64) (v2 : Int64) (v4 : Int32) (v5 : Int32) (r : Int64), k9 v0 v2 v4 v5 = some r → W24 l Z n0 (P24 r) 0 0 9 [.val (.long v0), .second, .val (.long v2), .second, .val (.int v4), .val (.int v5), .unset] [] ([] : List OwnC)) (n : Nat) (v0 : Int64) (v2 : Int64) (v4 : Int32) (v5 : Int32) (r : Int64) (h : g_L_pmod_9 k9 n v0 v2 v4 v5 = some r) : W24 l Z n0 (P24 r) 0 0 9 [.val (.long v0), .second, .val (.long v2), .second, .val (.int v4), .val (.int v5), .unset] [] ([] : List OwnC) := by
  unfold g_L_pmod_9 at h
  refine WP.iload d24_9 rfl ?_
  refine WP.bipush (64 : Int32) d24_11 rfl ?_
  rcases ite_e h with ⟨hc1, h⟩ | ⟨hc1, h⟩
  ·
    refine WP.icmpN d24_13 (XT.ii_ge_f hc1) ?_
    refine WP.lloadN d24_16 rfl ?_
    obtain ⟨c2, hc2, h⟩ := Option.bind_eq_some_iff.mp h
    refine WP.callS (y := y23) (as := [.long v0]) (S := []) d24_17 (hw _ m_130) (hw _ m_131) (hw _ m_112) (hw _ m_132) hy23 (ok23 l Z a0 hw n v0 _ hc2) rfl (lenOf pd23 rfl) (leb rfl) (leb rfl) (leb rfl) (leb rfl) ?_
    rintro _ _ ⟨rfl, rfl⟩
    show W24 l Z n0 (P24 r) 0 0 20 [.val (.long v0), .second, .val (.long v2), .second, .val (.int v4), .val (.int v5), .unset] [.int c2] ([] : List OwnC)
    refine WP.istore (L' := [.val (.long v0), .second, .val (.long v2), .second, .val (.int v4), .val (.int v5), .val (.int c2)]) d24_20 (leb rfl) rfl ?_
    refine WP.iload d24_22 rfl ?_
    refine WP.iload d24_24 rfl ?_
    rcases ite_e h with ⟨hc3, h⟩ | ⟨hc3, h⟩
    ·
      refine WP.icmpN d24_26 (XT.ii_ge_f hc3) ?_
      refine WP.goto (pc' := 48) d24_29 (by decide) rfl ?_
      exact WP.weak (L' := [.val (.long v0), .second, .unset, .unset, .unset, .unset, .unset]) ⟨rfl, rfl, trivial⟩ (ok24_48 l Z a0 hw n0 n v0 _ h)
    ·
      refine WP.icmpY (pc' := 32) d24_26 (XT.ii_ge_t hc3) (by decide) rfl ?_
      refine WP.lloadN d24_32 rfl ?_
      refine WP.lloadN d24_33 rfl ?_
      refine WP.iload d24_34 rfl ?_
      refine WP.iload d24_36 rfl ?_
      refine WP.isub d24_38 ?_
      refine WP.lshl d24_39 ?_
      refine WP.lxor d24_40 ?_
      obtain ⟨x4, ex4, h⟩ := lt_e h
      refine WP.lstoreN (L' := [.val (.long x4), .second, .val (.long v2), .second, .val (.int v4), .val (.int v5), .val (.int c2)]) d24_41 (leb rfl) (by subst ex4; rfl) ?_
      obtain ⟨x5, ex5, h⟩ := lt_e h
      refine WP.iinc (L' := [.val (.long x4), .second, .val (.long v2), .second, .val (.int v4), .val (.int x5), .val (.int c2)]) (1 : Int32) d24_42 rfl rfl (by subst ex5; rfl) ?_
      refine WP.goto (pc' := 9) d24_45 (by decide) rfl ?_
      exact WP.weak (L' := [.val (.long x4), .second, .val (.long v2), .second, .val (.int v4), .val (.int x5), .unset]) ⟨rfl, rfl, rfl, rfl, rfl, rfl, trivial⟩ (hk9 x4 v2 v4 x5 _ h)
  ·
    refine WP.icmpY (pc' := 48) d24_13 (XT.ii_ge_t hc1) (by decide) rfl ?_
    exact WP.weak (L' := [.val (.long v0), .second, .unset, .unset, .unset, .unset, .unset]) ⟨rfl, rfl, trivial⟩ (ok24_48 l Z a0 hw n0 n v0 _ h)
def f_L_pmod_9 : Nat → Int64 → Int64 → Int32 → Int32 → Option (Int64)
  | 0 => fun _ _ _ _ => none
  | n + 1 => g_L_pmod_9 (f_L_pmod_9 n) n
theorem ok24_9 (l : Launch) (Z : State) (a0 : Array Value) (hw : HW a0 Z) (n0 : Nat) : ∀ (n : Nat) (v0 : Int64) (v2 : Int64) (v4 : Int32) (v5 : Int32) (r : Int64), f_L_pmod_9 n v0 v2 v4 v5 = some r → W24 l Z n0 (P24 r) 0 0 9 [.val (.long v0), .second, .val (.long v2), .second, .val (.int v4), .val (.int v5), .unset] [] ([] : List OwnC)
  | 0, v0, v2, v4, v5, r, h => nomatch (show none = some r from h)
  | n + 1, v0, v2, v4, v5, r, h => okg24_9 l Z a0 hw n0 _ (ok24_9 l Z a0 hw n0 n) n v0 v2 v4 v5 r h
def f_L_pmod (n : Nat) (p0 : Int64) (p1 : Int64) : Option (Int64) :=
  (f_L_deg n p1).bind fun c1 =>
  f_L_pmod_9 n p0 p1 c1 (0 : Int32)
set_option maxRecDepth 65536 in
set_option maxHeartbeats 4000000 in
theorem ok24 (l : Launch) (Z : State) (a0 : Array Value) (hw : HW a0 Z) (n : Nat) (p0 : Int64) (p1 : Int64) (r : Int64) (h : f_L_pmod n p0 p1 = some r) : CS l Z CN lay y24 method_6_code 7 (some FieldType.long) R24 0 [.long p0, .long p1] ([] : List OwnC) (P24 r) := by
  refine CS.of_wp pn_law (leb rfl) fun n0 => ?_
  show W24 l Z n0 (P24 r) 0 0 0 [.val (.long p0), .second, .val (.long p1), .second, .unset, .unset, .unset] [] ([] : List OwnC)
  unfold f_L_pmod at h
  refine WP.lloadN d24_0 rfl ?_
  obtain ⟨c1, hc1, h⟩ := Option.bind_eq_some_iff.mp h
  refine WP.callS (y := y23) (as := [.long p1]) (S := []) d24_1 (hw _ m_130) (hw _ m_131) (hw _ m_112) (hw _ m_132) hy23 (ok23 l Z a0 hw n p1 _ hc1) rfl (lenOf pd23 rfl) (leb rfl) (leb rfl) (leb rfl) (leb rfl) ?_
  rintro _ _ ⟨rfl, rfl⟩
  show W24 l Z n0 (P24 r) 0 0 4 [.val (.long p0), .second, .val (.long p1), .second, .unset, .unset, .unset] [.int c1] ([] : List OwnC)
  refine WP.istore (L' := [.val (.long p0), .second, .val (.long p1), .second, .val (.int c1), .unset, .unset]) d24_4 (leb rfl) rfl ?_
  refine WP.iconst (0 : Int32) d24_6 rfl ?_
  refine WP.istore (L' := [.val (.long p0), .second, .val (.long p1), .second, .val (.int c1), .val (.int (0 : Int32)), .unset]) d24_7 (leb rfl) rfl ?_
  exact WP.weak (L' := [.val (.long p0), .second, .val (.long p1), .second, .val (.int c1), .val (.int (0 : Int32)), .unset]) ⟨rfl, rfl, rfl, rfl, rfl, rfl, trivial⟩ (ok24_9 l Z a0 hw n0 n p0 p1 c1 (0 : Int32) _ h)
theorem d27_0 : dc prog_1_method_42_code 0 (.iconst 0) 1 := by decide +kernel
theorem d27_1 : dc prog_1_method_42_code 1 (.istore_n 2) 1 := by decide +kernel
theorem d27_2 : dc prog_1_method_42_code 2 (.iload_n 2) 1 := by decide +kernel
theorem d27_3 : dc prog_1_method_42_code 3 (.bipush 32) 2 := by decide +kernel
theorem d27_5 : dc prog_1_method_42_code 5 (.if_icmp .ge 19) 3 := by decide +kernel
theorem d27_8 : dc prog_1_method_42_code 8 (.iload_n 1) 1 := by decide +kernel
theorem d27_9 : dc prog_1_method_42_code 9 (.iload_n 2) 1 := by decide +kernel
theorem d27_10 : dc prog_1_method_42_code 10 (.iushr) 1 := by decide +kernel
theorem d27_11 : dc prog_1_method_42_code 11 (.iconst 1) 1 := by decide +kernel
theorem d27_12 : dc prog_1_method_42_code 12 (.iand) 1 := by decide +kernel
theorem d27_13 : dc prog_1_method_42_code 13 (.ifCond .eq 5) 3 := by decide +kernel
theorem d27_16 : dc prog_1_method_42_code 16 (.iload_n 2) 1 := by decide +kernel
theorem d27_17 : dc prog_1_method_42_code 17 (.ireturn) 1 := by decide +kernel
theorem d27_18 : dc prog_1_method_42_code 18 (.iinc 2 1) 3 := by decide +kernel
theorem d27_21 : dc prog_1_method_42_code 21 (.goto (-19)) 3 := by decide +kernel
theorem d27_24 : dc prog_1_method_42_code 24 (.bipush 32) 2 := by decide +kernel
theorem d27_26 : dc prog_1_method_42_code 26 (.ireturn) 1 := by decide +kernel
abbrev y27 : MethodName := ⟨"CyclicCodeLab", "trailingZeros", "(I)I"⟩
theorem hy27 : y27.cls ≠ "java/lang/invoke/MethodHandle" ∧ y27.cls ≠ "java/lang/invoke/VarHandle" := by decide
theorem pd27 : parseMethodDescriptor y27.desc = some ⟨[.int], some .int⟩ := by decide +kernel
abbrev R27 : Room := { frames := 0, cells := 0, slots := 0, locals := 0 }
abbrev P27 (s : St) (r : Int32) : Option Value → List OwnC → Prop := fun v H' => v = some (.int r) ∧ H' = (Hb 0 s)
abbrev W27 (l : Launch) (Z : State) (n0 : Nat) (Q : Option Value → List OwnC → Prop) (k n pc : Nat) (L : List Slot) (S : List Value) (H : List OwnC) : Prop := WP l Z CN lay "CyclicCodeLab" "trailingZeros" prog_1_method_42_code 3 (some FieldType.int) R27 n0 0 Q k n pc L S H
def g_trailingZeros_2 (k2 : Int32 → Int32 → St → Option (Int32)) (n : Nat) (v1 : Int32) (v2 : Int32) (s : St) : Option (Int32) :=
  if v2 < (32 : Int32) then
    if ((XT.ushr v1 v2) &&& (1 : Int32)) = 0 then
      lt (v2 + (1 : Int32)) fun x3 =>
      k2 v1 x3 s
    else
      some v2
  else
    some (32 : Int32)
set_option maxRecDepth 65536 in
set_option maxHeartbeats 4000000 in
theorem okg27_2 (l : Launch) (Z : State) (a0 : Array Value) (hw : HW a0 Z) (n0 : Nat) (k2 : Int32 → Int32 → St → Option (Int32)) (hk2 : ∀ (v1 : Int32) (v2 : Int32) (s : St) (r : Int32), k2 v1 v2 s = some r → W27 l Z n0 (P27 s r) 0 0 2 [.unset, .val (.int v1), .val (.int v2)] [] (Hb 0 s)) (n : Nat) (v1 : Int32) (v2 : Int32) (s : St) (r : Int32) (h : g_trailingZeros_2 k2 n v1 v2 s = some r) : W27 l Z n0 (P27 s r) 0 0 2 [.unset, .val (.int v1), .val (.int v2)] [] (Hb 0 s) := by
  unfold g_trailingZeros_2 at h
  refine WP.iloadN d27_2 rfl ?_
  refine WP.bipush (32 : Int32) d27_3 rfl ?_
  rcases ite_e h with ⟨hc1, h⟩ | ⟨hc1, h⟩
  ·
    refine WP.icmpN d27_5 (XT.ii_ge_f hc1) ?_
    refine WP.iloadN d27_8 rfl ?_
    refine WP.iloadN d27_9 rfl ?_
    refine WP.iushr d27_10 ?_
    refine WP.iconst (1 : Int32) d27_11 rfl ?_
    refine WP.iand d27_12 ?_
    rcases ite_e h with ⟨hc2, h⟩ | ⟨hc2, h⟩
    ·
      refine WP.ifY (pc' := 18) d27_13 (XT.i0_eq_t hc2) (by decide) rfl ?_
      obtain ⟨x3, ex3, h⟩ := lt_e h
      refine WP.iinc (L' := [.unset, .val (.int v1), .val (.int x3)]) (1 : Int32) d27_18 rfl rfl (by subst ex3; rfl) ?_
      refine WP.goto (pc' := 2) d27_21 (by decide) rfl ?_
      exact WP.weak (L' := [.unset, .val (.int v1), .val (.int x3)]) ⟨rfl, rfl, trivial⟩ (hk2 v1 x3 s _ h)
    ·
      refine WP.ifN d27_13 (XT.i0_eq_f hc2) ?_
      refine WP.iloadN d27_16 rfl ?_
      cases h
      exact WP.ireturn d27_17 rfl (leb rfl) (leb rfl) ⟨rfl, rfl⟩
  ·
    refine WP.icmpY (pc' := 24) d27_5 (XT.ii_ge_t hc1) (by decide) rfl ?_
    refine WP.bipush (32 : Int32) d27_24 rfl ?_
    cases h
    exact WP.ireturn d27_26 rfl (leb rfl) (leb rfl) ⟨rfl, rfl⟩
def f_trailingZeros_2 : Nat → Int32 → Int32 → St → Option (Int32)
  | 0 => fun _ _ _ => none
  | n + 1 => g_trailingZeros_2 (f_trailingZeros_2 n) n
theorem ok27_2 (l : Launch) (Z : State) (a0 : Array Value) (hw : HW a0 Z) (n0 : Nat) : ∀ (n : Nat) (v1 : Int32) (v2 : Int32) (s : St) (r : Int32), f_trailingZeros_2 n v1 v2 s = some r → W27 l Z n0 (P27 s r) 0 0 2 [.unset, .val (.int v1), .val (.int v2)] [] (Hb 0 s)
  | 0, v1, v2, s, r, h => nomatch (show none = some r from h)
  | n + 1, v1, v2, s, r, h => okg27_2 l Z a0 hw n0 _ (ok27_2 l Z a0 hw n0 n) n v1 v2 s r h
def f_trailingZeros (n : Nat) (p1 : Int32) (s : St) : Option (Int32) :=
  f_trailingZeros_2 n p1 (0 : Int32) s
set_option maxRecDepth 65536 in
set_option maxHeartbeats 4000000 in
theorem ok27 (l : Launch) (Z : State) (a0 : Array Value) (hw : HW a0 Z) (n : Nat) (p1 : Int32) (s : St) (r : Int32) (h : f_trailingZeros n p1 s = some r) : CS l Z CN lay y27 prog_1_method_42_code 3 (some FieldType.int) R27 0 [.ref 0, .int p1] (Hb 0 s) (P27 s r) := by
  refine CS.of_wp pn_cls (leb rfl) fun n0 => ?_
  show W27 l Z n0 (P27 s r) 0 0 0 [.val (.ref 0), .val (.int p1), .unset] [] (Hb 0 s)
  unfold f_trailingZeros at h
  refine WP.iconst (0 : Int32) d27_0 rfl ?_
  refine WP.istoreN (L' := [.val (.ref 0), .val (.int p1), .val (.int (0 : Int32))]) d27_1 (leb rfl) rfl ?_
  exact WP.weak (L' := [.unset, .val (.int p1), .val (.int (0 : Int32))]) ⟨rfl, rfl, trivial⟩ (ok27_2 l Z a0 hw n0 n p1 (0 : Int32) s _ h)
theorem d26_0 : dc prog_1_method_33_code 0 (.aload_n 0) 1 := by decide +kernel
theorem d26_1 : dc prog_1_method_33_code 1 (.getfield 32) 3 := by decide +kernel
theorem d26_4 : dc prog_1_method_33_code 4 (.iconst 1) 1 := by decide +kernel
theorem d26_5 : dc prog_1_method_33_code 5 (.iadd) 1 := by decide +kernel
theorem d26_6 : dc prog_1_method_33_code 6 (.istore_n 2) 1 := by decide +kernel
theorem d26_7 : dc prog_1_method_33_code 7 (.iconst 0) 1 := by decide +kernel
theorem d26_8 : dc prog_1_method_33_code 8 (.istore_n 3) 1 := by decide +kernel
theorem d26_9 : dc prog_1_method_33_code 9 (.iconst 1) 1 := by decide +kernel
theorem d26_10 : dc prog_1_method_33_code 10 (.iload_n 1) 1 := by decide +kernel
theorem d26_11 : dc prog_1_method_33_code 11 (.ishl) 1 := by decide +kernel
theorem d26_12 : dc prog_1_method_33_code 12 (.istore 4) 2 := by decide +kernel
theorem d26_14 : dc prog_1_method_33_code 14 (.iconst 1) 1 := by decide +kernel
theorem d26_15 : dc prog_1_method_33_code 15 (.istore 5) 2 := by decide +kernel
theorem d26_17 : dc prog_1_method_33_code 17 (.iload 5) 2 := by decide +kernel
theorem d26_19 : dc prog_1_method_33_code 19 (.iload 4) 2 := by decide +kernel
theorem d26_21 : dc prog_1_method_33_code 21 (.if_icmp .ge 48) 3 := by decide +kernel
theorem d26_24 : dc prog_1_method_33_code 24 (.aload_n 0) 1 := by decide +kernel
theorem d26_25 : dc prog_1_method_33_code 25 (.iload 5) 2 := by decide +kernel
theorem d26_27 : dc prog_1_method_33_code 27 (.invokevirtual 133) 3 := by decide +kernel
theorem d26_30 : dc prog_1_method_33_code 30 (.istore 6) 2 := by decide +kernel
theorem d26_32 : dc prog_1_method_33_code 32 (.iload_n 3) 1 := by decide +kernel
theorem d26_33 : dc prog_1_method_33_code 33 (.aload_n 0) 1 := by decide +kernel
theorem d26_34 : dc prog_1_method_33_code 34 (.getfield 51) 3 := by decide +kernel
theorem d26_37 : dc prog_1_method_33_code 37 (.iload 6) 2 := by decide +kernel
theorem d26_39 : dc prog_1_method_33_code 39 (.ishl) 1 := by decide +kernel
theorem d26_40 : dc prog_1_method_33_code 40 (.ixor) 1 := by decide +kernel
theorem d26_41 : dc prog_1_method_33_code 41 (.istore_n 3) 1 := by decide +kernel
theorem d26_42 : dc prog_1_method_33_code 42 (.aload_n 0) 1 := by decide +kernel
theorem d26_43 : dc prog_1_method_33_code 43 (.iload_n 3) 1 := by decide +kernel
theorem d26_44 : dc prog_1_method_33_code 44 (.invokevirtual 84) 3 := by decide +kernel
theorem d26_47 : dc prog_1_method_33_code 47 (.istore 7) 2 := by decide +kernel
theorem d26_49 : dc prog_1_method_33_code 49 (.iload 7) 2 := by decide +kernel
theorem d26_51 : dc prog_1_method_33_code 51 (.ifCond .le 12) 3 := by decide +kernel
theorem d26_54 : dc prog_1_method_33_code 54 (.iload 7) 2 := by decide +kernel
theorem d26_56 : dc prog_1_method_33_code 56 (.iload_n 2) 1 := by decide +kernel
theorem d26_57 : dc prog_1_method_33_code 57 (.if_icmp .ge 6) 3 := by decide +kernel
theorem d26_60 : dc prog_1_method_33_code 60 (.iload 7) 2 := by decide +kernel
theorem d26_62 : dc prog_1_method_33_code 62 (.istore_n 2) 1 := by decide +kernel
theorem d26_63 : dc prog_1_method_33_code 63 (.iinc 5 1) 3 := by decide +kernel
theorem d26_66 : dc prog_1_method_33_code 66 (.goto (-49)) 3 := by decide +kernel
theorem d26_69 : dc prog_1_method_33_code 69 (.iload_n 2) 1 := by decide +kernel
theorem d26_70 : dc prog_1_method_33_code 70 (.ireturn) 1 := by decide +kernel
abbrev y26 : MethodName := ⟨"CyclicCodeLab", "enumerateMinWeight", "(I)I"⟩
theorem hy26 : y26.cls ≠ "java/lang/invoke/MethodHandle" ∧ y26.cls ≠ "java/lang/invoke/VarHandle" := by decide
theorem pd26 : parseMethodDescriptor y26.desc = some ⟨[.int], some .int⟩ := by decide +kernel
abbrev R26 : Room := { frames := 1, cells := 0, slots := 0, locals := 16 }
abbrev P26 (s : St) (r : Int32) : Option Value → List OwnC → Prop := fun v H' => v = some (.int r) ∧ H' = (Hb 0 s)
abbrev W26 (l : Launch) (Z : State) (n0 : Nat) (Q : Option Value → List OwnC → Prop) (k n pc : Nat) (L : List Slot) (S : List Value) (H : List OwnC) : Prop := WP l Z CN lay "CyclicCodeLab" "enumerateMinWeight" prog_1_method_33_code 8 (some FieldType.int) R26 n0 0 Q k n pc L S H
def f_enumerateMinWeight_63 (k17 : Int32 → Int32 → Int32 → Int32 → St → Option (Int32)) (n : Nat) (v2 : Int32) (v3 : Int32) (v4 : Int32) (v5 : Int32) (s : St) : Option (Int32) :=
  lt (v5 + (1 : Int32)) fun x1 =>
  k17 v2 v3 v4 x1 s
set_option maxRecDepth 65536 in
set_option maxHeartbeats 4000000 in
theorem ok26_63 (l : Launch) (Z : State) (a0 : Array Value) (hw : HW a0 Z) (n0 : Nat) (k17 : Int32 → Int32 → Int32 → Int32 → St → Option (Int32)) (hk17 : ∀ (v2 : Int32) (v3 : Int32) (v4 : Int32) (v5 : Int32) (s : St) (r : Int32), k17 v2 v3 v4 v5 s = some r → W26 l Z n0 (P26 s r) 0 0 17 [.val (.ref 0), .unset, .val (.int v2), .val (.int v3), .val (.int v4), .val (.int v5), .unset, .unset] [] (Hb 0 s)) (n : Nat) (v2 : Int32) (v3 : Int32) (v4 : Int32) (v5 : Int32) (s : St) (r : Int32) (h : f_enumerateMinWeight_63 k17 n v2 v3 v4 v5 s = some r) : W26 l Z n0 (P26 s r) 0 0 63 [.val (.ref 0), .unset, .val (.int v2), .val (.int v3), .val (.int v4), .val (.int v5), .unset, .unset] [] (Hb 0 s) := by
  unfold f_enumerateMinWeight_63 at h
  obtain ⟨x1, ex1, h⟩ := lt_e h
  refine WP.iinc (L' := [.val (.ref 0), .unset, .val (.int v2), .val (.int v3), .val (.int v4), .val (.int x1), .unset, .unset]) (1 : Int32) d26_63 rfl rfl (by subst ex1; rfl) ?_
  refine WP.goto (pc' := 17) d26_66 (by decide) rfl ?_
  exact WP.weak (L' := [.val (.ref 0), .unset, .val (.int v2), .val (.int v3), .val (.int v4), .val (.int x1), .unset, .unset]) ⟨rfl, rfl, rfl, rfl, rfl, trivial⟩ (hk17 v2 v3 v4 x1 s _ h)
def g_enumerateMinWeight_17 (k17 : Int32 → Int32 → Int32 → Int32 → St → Option (Int32)) (n : Nat) (v2 : Int32) (v3 : Int32) (v4 : Int32) (v5 : Int32) (s : St) : Option (Int32) :=
  if v5 < v4 then
    (f_trailingZeros n v5 s).bind fun c2 =>
    lt (v3 ^^^ ((gI s 5) <<< (c2 &&& 31))) fun x3 =>
    (f_popcount n x3 s).bind fun c4 =>
    if 0 < c4 then
      if c4 < v2 then
        f_enumerateMinWeight_63 k17 n c4 x3 v4 v5 s
      else
        f_enumerateMinWeight_63 k17 n v2 x3 v4 v5 s
    else
      f_enumerateMinWeight_63 k17 n v2 x3 v4 v5 s
  else
    some v2
set_option maxRecDepth 65536 in
set_option maxHeartbeats 4000000 in
theorem okg26_17 (l : Launch) (Z : State) (a0 : Array Value) (hw : HW a0 Z) (n0 : Nat) (k17 : Int32 → Int32 → Int32 → Int32 → St → Option (Int32)) (hk17 : ∀ (v2 : Int32) (v3 : Int32) (v4 : Int32) (v5 : Int32) (s : St) (r : Int32), k17 v2 v3 v4 v5 s = some r → W26 l Z n0 (P26 s r) 0 0 17 [.val (.ref 0), .unset, .val (.int v2), .val (.int v3), .val (.int v4), .val (.int v5), .unset, .unset] [] (Hb 0 s)) (n : Nat) (v2 : Int32) (v3 : Int32) (v4 : Int32) (v5 : Int32) (s : St) (r : Int32) (h : g_enumerateMinWeight_17 k17 n v2 v3 v4 v5 s = some r) : W26 l Z n0 (P26 s r) 0 0 17 [.val (.ref 0), .unset, .val (.int v2), .val (.int v3), .val (.int v4), .val (.int v5), .unset, .unset] [] (Hb 0 s) := by
  unfold g_enumerateMinWeight_17 at h
  refine WP.iload d26_17 rfl ?_
  refine WP.iload d26_19 rfl ?_
  rcases ite_e h with ⟨hc1, h⟩ | ⟨hc1, h⟩
  ·
    refine WP.icmpN d26_21 (XT.ii_ge_f hc1) ?_
    refine WP.aloadN d26_24 rfl ?_
    refine WP.iload d26_25 rfl ?_
    obtain ⟨c2, hc2, h⟩ := Option.bind_eq_some_iff.mp h
    refine WP.callP (i := 0) (y := y27) (as := [.int v5]) (S := []) d26_27 (hw _ m_146) (hw _ m_148) (hw _ m_1) (hw _ m_147) (hw _ m_149) (hw _ m_2) hy27 rfl (ok27 l Z a0 hw n v5 s _ hc2) rfl (lenOf pd27 rfl) (leb rfl) (leb rfl) (leb rfl) (leb rfl) ?_
    rintro _ _ ⟨rfl, rfl⟩
    show W26 l Z n0 (P26 s r) 0 0 30 [.val (.ref 0), .unset, .val (.int v2), .val (.int v3), .val (.int v4), .val (.int v5), .unset, .unset] [.int c2] (Hb 0 s)
    refine WP.istore (L' := [.val (.ref 0), .unset, .val (.int v2), .val (.int v3), .val (.int v4), .val (.int v5), .val (.int c2), .unset]) d26_30 (leb rfl) rfl ?_
    refine WP.iloadN d26_32 rfl ?_
    refine WP.aloadN d26_33 rfl ?_
    refine WP.getfield (i := 0) (j := 5) d26_34 (hw _ m_102) rfl rfl rfl ?_
    refine WP.iload d26_37 rfl ?_
    refine WP.ishl d26_39 ?_
    refine WP.ixor d26_40 ?_
    obtain ⟨x3, ex3, h⟩ := lt_e h
    refine WP.istoreN (L' := [.val (.ref 0), .unset, .val (.int v2), .val (.int x3), .val (.int v4), .val (.int v5), .val (.int c2), .unset]) d26_41 (leb rfl) (by subst ex3; rfl) ?_
    refine WP.aloadN d26_42 rfl ?_
    refine WP.iloadN d26_43 rfl ?_
    obtain ⟨c4, hc4, h⟩ := Option.bind_eq_some_iff.mp h
    refine WP.callP (i := 0) (y := y15) (as := [.int x3]) (S := []) d26_44 (hw _ m_88) (hw _ m_90) (hw _ m_1) (hw _ m_89) (hw _ m_91) (hw _ m_2) hy15 rfl (ok15 l Z a0 hw n x3 s _ hc4) rfl (lenOf pd15 rfl) (leb rfl) (leb rfl) (leb rfl) (leb rfl) ?_
    rintro _ _ ⟨rfl, rfl⟩
    show W26 l Z n0 (P26 s r) 0 0 47 [.val (.ref 0), .unset, .val (.int v2), .val (.int x3), .val (.int v4), .val (.int v5), .val (.int c2), .unset] [.int c4] (Hb 0 s)
    refine WP.istore (L' := [.val (.ref 0), .unset, .val (.int v2), .val (.int x3), .val (.int v4), .val (.int v5), .val (.int c2), .val (.int c4)]) d26_47 (leb rfl) rfl ?_
    refine WP.iload d26_49 rfl ?_
    rcases ite_e h with ⟨hc5, h⟩ | ⟨hc5, h⟩
    ·
      refine WP.ifN d26_51 (XT.i0_le_f hc5) ?_
      refine WP.iload d26_54 rfl ?_
      refine WP.iloadN d26_56 rfl ?_
      rcases ite_e h with ⟨hc6, h⟩ | ⟨hc6, h⟩
      ·
        refine WP.icmpN d26_57 (XT.ii_ge_f hc6) ?_
        refine WP.iload d26_60 rfl ?_
        refine WP.istoreN (L' := [.val (.ref 0), .unset, .val (.int c4), .val (.int x3), .val (.int v4), .val (.int v5), .val (.int c2), .val (.int c4)]) d26_62 (leb rfl) rfl ?_
        exact WP.weak (L' := [.val (.ref 0), .unset, .val (.int c4), .val (.int x3), .val (.int v4), .val (.int v5), .unset, .unset]) ⟨rfl, rfl, rfl, rfl, rfl, trivial⟩ (ok26_63 l Z a0 hw n0 _ hk17 n c4 x3 v4 v5 s _ h)
      ·
        refine WP.icmpY (pc' := 63) d26_57 (XT.ii_ge_t hc6) (by decide) rfl ?_
        exact WP.weak (L' := [.val (.ref 0), .unset, .val (.int v2), .val (.int x3), .val (.int v4), .val (.int v5), .unset, .unset]) ⟨rfl, rfl, rfl, rfl, rfl, trivial⟩ (ok26_63 l Z a0 hw n0 _ hk17 n v2 x3 v4 v5 s _ h)
    ·
      refine WP.ifY (pc' := 63) d26_51 (XT.i0_le_t hc5) (by decide) rfl ?_
      exact WP.weak (L' := [.val (.ref 0), .unset, .val (.int v2), .val (.int x3), .val (.int v4), .val (.int v5), .unset, .unset]) ⟨rfl, rfl, rfl, rfl, rfl, trivial⟩ (ok26_63 l Z a0 hw n0 _ hk17 n v2 x3 v4 v5 s _ h)
  ·
    refine WP.icmpY (pc' := 69) d26_21 (XT.ii_ge_t hc1) (by decide) rfl ?_
    refine WP.iloadN d26_69 rfl ?_
    cases h
    exact WP.ireturn d26_70 rfl (leb rfl) (leb rfl) ⟨rfl, rfl⟩
def f_enumerateMinWeight_17 : Nat → Int32 → Int32 → Int32 → Int32 → St → Option (Int32)
  | 0 => fun _ _ _ _ _ => none
  | n + 1 => g_enumerateMinWeight_17 (f_enumerateMinWeight_17 n) n
theorem ok26_17 (l : Launch) (Z : State) (a0 : Array Value) (hw : HW a0 Z) (n0 : Nat) : ∀ (n : Nat) (v2 : Int32) (v3 : Int32) (v4 : Int32) (v5 : Int32) (s : St) (r : Int32), f_enumerateMinWeight_17 n v2 v3 v4 v5 s = some r → W26 l Z n0 (P26 s r) 0 0 17 [.val (.ref 0), .unset, .val (.int v2), .val (.int v3), .val (.int v4), .val (.int v5), .unset, .unset] [] (Hb 0 s)
  | 0, v2, v3, v4, v5, s, r, h => nomatch (show none = some r from h)
  | n + 1, v2, v3, v4, v5, s, r, h => okg26_17 l Z a0 hw n0 _ (ok26_17 l Z a0 hw n0 n) n v2 v3 v4 v5 s r h
def f_enumerateMinWeight (n : Nat) (p1 : Int32) (s : St) : Option (Int32) :=
  lt ((gI s 0) + (1 : Int32)) fun x1 =>
  lt ((1 : Int32) <<< (p1 &&& 31)) fun x2 =>
  f_enumerateMinWeight_17 n x1 (0 : Int32) x2 (1 : Int32) s
set_option maxRecDepth 65536 in
set_option maxHeartbeats 4000000 in
theorem ok26 (l : Launch) (Z : State) (a0 : Array Value) (hw : HW a0 Z) (n : Nat) (p1 : Int32) (s : St) (r : Int32) (h : f_enumerateMinWeight n p1 s = some r) : CS l Z CN lay y26 prog_1_method_33_code 8 (some FieldType.int) R26 0 [.ref 0, .int p1] (Hb 0 s) (P26 s r) := by
  refine CS.of_wp pn_cls (leb rfl) fun n0 => ?_
  show W26 l Z n0 (P26 s r) 0 0 0 [.val (.ref 0), .val (.int p1), .unset, .unset, .unset, .unset, .unset, .unset] [] (Hb 0 s)
  unfold f_enumerateMinWeight at h
  refine WP.aloadN d26_0 rfl ?_
  refine WP.getfield (i := 0) (j := 0) d26_1 (hw _ m_30) rfl rfl rfl ?_
  refine WP.iconst (1 : Int32) d26_4 rfl ?_
  refine WP.iadd d26_5 ?_
  obtain ⟨x1, ex1, h⟩ := lt_e h
  refine WP.istoreN (L' := [.val (.ref 0), .val (.int p1), .val (.int x1), .unset, .unset, .unset, .unset, .unset]) d26_6 (leb rfl) (by subst ex1; rfl) ?_
  refine WP.iconst (0 : Int32) d26_7 rfl ?_
  refine WP.istoreN (L' := [.val (.ref 0), .val (.int p1), .val (.int x1), .val (.int (0 : Int32)), .unset, .unset, .unset, .unset]) d26_8 (leb rfl) rfl ?_
  refine WP.iconst (1 : Int32) d26_9 rfl ?_
  refine WP.iloadN d26_10 rfl ?_
  refine WP.ishl d26_11 ?_
  obtain ⟨x2, ex2, h⟩ := lt_e h
  refine WP.istore (L' := [.val (.ref 0), .val (.int p1), .val (.int x1), .val (.int (0 : Int32)), .val (.int x2), .unset, .unset, .unset]) d26_12 (leb rfl) (by subst ex2; rfl) ?_
  refine WP.iconst (1 : Int32) d26_14 rfl ?_
  refine WP.istore (L' := [.val (.ref 0), .val (.int p1), .val (.int x1), .val (.int (0 : Int32)), .val (.int x2), .val (.int (1 : Int32)), .unset, .unset]) d26_15 (leb rfl) rfl ?_
  exact WP.weak (L' := [.val (.ref 0), .unset, .val (.int x1), .val (.int (0 : Int32)), .val (.int x2), .val (.int (1 : Int32)), .unset, .unset]) ⟨rfl, rfl, rfl, rfl, rfl, trivial⟩ (ok26_17 l Z a0 hw n0 n x1 (0 : Int32) x2 (1 : Int32) s _ h)
theorem d25_0 : dc prog_1_method_13_code 0 (.aload_n 0) 1 := by decide +kernel
theorem d25_1 : dc prog_1_method_13_code 1 (.invokevirtual 60) 3 := by decide +kernel
theorem d25_4 : dc prog_1_method_13_code 4 (.istore_n 1) 1 := by decide +kernel
theorem d25_5 : dc prog_1_method_13_code 5 (.iload_n 1) 1 := by decide +kernel
theorem d25_6 : dc prog_1_method_13_code 6 (.bipush 10) 2 := by decide +kernel
theorem d25_8 : dc prog_1_method_13_code 8 (.if_icmp .le 5) 3 := by decide +kernel
theorem d25_11 : dc prog_1_method_13_code 11 (.iconst (-1)) 1 := by decide +kernel
theorem d25_12 : dc prog_1_method_13_code 12 (.ireturn) 1 := by decide +kernel
theorem d25_13 : dc prog_1_method_13_code 13 (.iload_n 1) 1 := by decide +kernel
theorem d25_14 : dc prog_1_method_13_code 14 (.ifCond .ne 10) 3 := by decide +kernel
theorem d25_17 : dc prog_1_method_13_code 17 (.aload_n 0) 1 := by decide +kernel
theorem d25_18 : dc prog_1_method_13_code 18 (.getfield 32) 3 := by decide +kernel
theorem d25_21 : dc prog_1_method_13_code 21 (.iconst 1) 1 := by decide +kernel
theorem d25_22 : dc prog_1_method_13_code 22 (.iadd) 1 := by decide +kernel
theorem d25_23 : dc prog_1_method_13_code 23 (.ireturn) 1 := by decide +kernel
theorem d25_24 : dc prog_1_method_13_code 24 (.aload_n 0) 1 := by decide +kernel
theorem d25_25 : dc prog_1_method_13_code 25 (.iload_n 1) 1 := by decide +kernel
theorem d25_26 : dc prog_1_method_13_code 26 (.invokevirtual 64) 3 := by decide +kernel
theorem d25_29 : dc prog_1_method_13_code 29 (.ireturn) 1 := by decide +kernel
abbrev y25 : MethodName := ⟨"CyclicCodeLab", "minDistance", "()I"⟩
theorem hy25 : y25.cls ≠ "java/lang/invoke/MethodHandle" ∧ y25.cls ≠ "java/lang/invoke/VarHandle" := by decide
theorem pd25 : parseMethodDescriptor y25.desc = some ⟨[], some .int⟩ := by decide +kernel
abbrev R25 : Room := { frames := 2, cells := 0, slots := 0, locals := 35 }
abbrev P25 (s : St) (r : Int32) : Option Value → List OwnC → Prop := fun v H' => v = some (.int r) ∧ H' = (Hb 0 s)
abbrev W25 (l : Launch) (Z : State) (n0 : Nat) (Q : Option Value → List OwnC → Prop) (k n pc : Nat) (L : List Slot) (S : List Value) (H : List OwnC) : Prop := WP l Z CN lay "CyclicCodeLab" "minDistance" prog_1_method_13_code 2 (some FieldType.int) R25 n0 0 Q k n pc L S H
def f_minDistance (n : Nat) (s : St) : Option (Int32) :=
  (f_dimension s).bind fun c1 =>
  if (10 : Int32) < c1 then
    some (-1 : Int32)
  else
    if c1 = 0 then
      some ((gI s 0) + (1 : Int32))
    else
      (f_enumerateMinWeight n c1 s).bind fun c4 =>
      some c4
set_option maxRecDepth 65536 in
set_option maxHeartbeats 4000000 in
theorem ok25 (l : Launch) (Z : State) (a0 : Array Value) (hw : HW a0 Z) (n : Nat) (s : St) (r : Int32) (h : f_minDistance n s = some r) : CS l Z CN lay y25 prog_1_method_13_code 2 (some FieldType.int) R25 0 [.ref 0] (Hb 0 s) (P25 s r) := by
  refine CS.of_wp pn_cls (leb rfl) fun n0 => ?_
  show W25 l Z n0 (P25 s r) 0 0 0 [.val (.ref 0), .unset] [] (Hb 0 s)
  unfold f_minDistance at h
  refine WP.aloadN d25_0 rfl ?_
  obtain ⟨c1, hc1, h⟩ := Option.bind_eq_some_iff.mp h
  refine WP.callV (i := 0) (y := y21) (as := []) (S := []) d25_1 (hw _ m_141) (hw _ m_120) (hw _ m_122) (hw _ m_121) (hw _ m_123) (hw _ m_2) hy21 rfl (ok21 l Z a0 hw s _ hc1) rfl (lenOf pd21 rfl) (leb rfl) (leb rfl) (leb rfl) (leb rfl) ?_
  rintro _ _ ⟨rfl, rfl⟩
  show W25 l Z n0 (P25 s r) 0 0 4 [.val (.ref 0), .unset] [.int c1] (Hb 0 s)
  refine WP.istoreN (L' := [.val (.ref 0), .val (.int c1)]) d25_4 (leb rfl) rfl ?_
  refine WP.iloadN d25_5 rfl ?_
  refine WP.bipush (10 : Int32) d25_6 rfl ?_
  rcases ite_e h with ⟨hc2, h⟩ | ⟨hc2, h⟩
  ·
    refine WP.icmpN d25_8 (XT.ii_le_f hc2) ?_
    refine WP.iconst (-1 : Int32) d25_11 rfl ?_
    cases h
    exact WP.ireturn d25_12 rfl (leb rfl) (leb rfl) ⟨rfl, rfl⟩
  ·
    refine WP.icmpY (pc' := 13) d25_8 (XT.ii_le_t hc2) (by decide) rfl ?_
    refine WP.iloadN d25_13 rfl ?_
    rcases ite_e h with ⟨hc3, h⟩ | ⟨hc3, h⟩
    ·
      refine WP.ifN d25_14 (XT.i0_ne_f hc3) ?_
      refine WP.aloadN d25_17 rfl ?_
      refine WP.getfield (i := 0) (j := 0) d25_18 (hw _ m_30) rfl rfl rfl ?_
      refine WP.iconst (1 : Int32) d25_21 rfl ?_
      refine WP.iadd d25_22 ?_
      cases h
      exact WP.ireturn d25_23 rfl (leb rfl) (leb rfl) ⟨rfl, rfl⟩
    ·
      refine WP.ifY (pc' := 24) d25_14 (XT.i0_ne_t hc3) (by decide) rfl ?_
      refine WP.aloadN d25_24 rfl ?_
      refine WP.iloadN d25_25 rfl ?_
      obtain ⟨c4, hc4, h⟩ := Option.bind_eq_some_iff.mp h
      refine WP.callP (i := 0) (y := y26) (as := [.int c1]) (S := []) d25_26 (hw _ m_142) (hw _ m_144) (hw _ m_1) (hw _ m_143) (hw _ m_145) (hw _ m_2) hy26 rfl (ok26 l Z a0 hw n c1 s _ hc4) rfl (lenOf pd26 rfl) (leb rfl) (leb rfl) (leb rfl) (leb rfl) ?_
      rintro _ _ ⟨rfl, rfl⟩
      show W25 l Z n0 (P25 s r) 0 0 29 [.val (.ref 0), .val (.int c1)] [.int c4] (Hb 0 s)
      cases h
      exact WP.ireturn d25_29 rfl (leb rfl) (leb rfl) ⟨rfl, rfl⟩
theorem d28_0 : dc prog_1_method_12_code 0 (.aload_n 0) 1 := by decide +kernel
theorem d28_1 : dc prog_1_method_12_code 1 (.getfield 57) 3 := by decide +kernel
theorem d28_4 : dc prog_1_method_12_code 4 (.iconst 1) 1 := by decide +kernel
theorem d28_5 : dc prog_1_method_12_code 5 (.iadd) 1 := by decide +kernel
theorem d28_6 : dc prog_1_method_12_code 6 (.ireturn) 1 := by decide +kernel
abbrev y28 : MethodName := ⟨"CyclicCodeLab", "designedDistance", "()I"⟩
theorem hy28 : y28.cls ≠ "java/lang/invoke/MethodHandle" ∧ y28.cls ≠ "java/lang/invoke/VarHandle" := by decide
theorem pd28 : parseMethodDescriptor y28.desc = some ⟨[], some .int⟩ := by decide +kernel
abbrev R28 : Room := { frames := 0, cells := 0, slots := 0, locals := 0 }
abbrev P28 (s : St) (r : Int32) : Option Value → List OwnC → Prop := fun v H' => v = some (.int r) ∧ H' = (Hb 0 s)
abbrev W28 (l : Launch) (Z : State) (n0 : Nat) (Q : Option Value → List OwnC → Prop) (k n pc : Nat) (L : List Slot) (S : List Value) (H : List OwnC) : Prop := WP l Z CN lay "CyclicCodeLab" "designedDistance" prog_1_method_12_code 1 (some FieldType.int) R28 n0 0 Q k n pc L S H
def f_designedDistance (s : St) : Option (Int32) :=
  some ((gI s 7) + (1 : Int32))
set_option maxRecDepth 65536 in
set_option maxHeartbeats 4000000 in
theorem ok28 (l : Launch) (Z : State) (a0 : Array Value) (hw : HW a0 Z) (s : St) (r : Int32) (h : f_designedDistance s = some r) : CS l Z CN lay y28 prog_1_method_12_code 1 (some FieldType.int) R28 0 [.ref 0] (Hb 0 s) (P28 s r) := by
  refine CS.of_wp pn_cls (leb rfl) fun n0 => ?_
  show W28 l Z n0 (P28 s r) 0 0 0 [.val (.ref 0)] [] (Hb 0 s)
  unfold f_designedDistance at h
  refine WP.aloadN d28_0 rfl ?_
  refine WP.getfield (i := 0) (j := 7) d28_1 (hw _ m_108) rfl rfl rfl ?_
  refine WP.iconst (1 : Int32) d28_4 rfl ?_
  refine WP.iadd d28_5 ?_
  cases h
  exact WP.ireturn d28_6 rfl (leb rfl) (leb rfl) ⟨rfl, rfl⟩
theorem d30_0 : dc prog_1_method_32_code 0 (.aload_n 0) 1 := by decide +kernel
theorem d30_1 : dc prog_1_method_32_code 1 (.getfield 57) 3 := by decide +kernel
theorem d30_4 : dc prog_1_method_32_code 4 (.iconst 2) 1 := by decide +kernel
theorem d30_5 : dc prog_1_method_32_code 5 (.idiv) 1 := by decide +kernel
theorem d30_6 : dc prog_1_method_32_code 6 (.ireturn) 1 := by decide +kernel
abbrev y30 : MethodName := ⟨"CyclicCodeLab", "radius", "()I"⟩
theorem hy30 : y30.cls ≠ "java/lang/invoke/MethodHandle" ∧ y30.cls ≠ "java/lang/invoke/VarHandle" := by decide
theorem pd30 : parseMethodDescriptor y30.desc = some ⟨[], some .int⟩ := by decide +kernel
abbrev R30 : Room := { frames := 0, cells := 0, slots := 0, locals := 0 }
abbrev P30 (s : St) (r : Int32) : Option Value → List OwnC → Prop := fun v H' => v = some (.int r) ∧ H' = (Hb 0 s)
abbrev W30 (l : Launch) (Z : State) (n0 : Nat) (Q : Option Value → List OwnC → Prop) (k n pc : Nat) (L : List Slot) (S : List Value) (H : List OwnC) : Prop := WP l Z CN lay "CyclicCodeLab" "radius" prog_1_method_32_code 1 (some FieldType.int) R30 n0 0 Q k n pc L S H
def f_radius (s : St) : Option (Int32) :=
  some ((gI s 7) / (2 : Int32))
set_option maxRecDepth 65536 in
set_option maxHeartbeats 4000000 in
theorem ok30 (l : Launch) (Z : State) (a0 : Array Value) (hw : HW a0 Z) (s : St) (r : Int32) (h : f_radius s = some r) : CS l Z CN lay y30 prog_1_method_32_code 1 (some FieldType.int) R30 0 [.ref 0] (Hb 0 s) (P30 s r) := by
  refine CS.of_wp pn_cls (leb rfl) fun n0 => ?_
  show W30 l Z n0 (P30 s r) 0 0 0 [.val (.ref 0)] [] (Hb 0 s)
  unfold f_radius at h
  refine WP.aloadN d30_0 rfl ?_
  refine WP.getfield (i := 0) (j := 7) d30_1 (hw _ m_108) rfl rfl rfl ?_
  refine WP.iconst (2 : Int32) d30_4 rfl ?_
  refine WP.idiv d30_5 (by decide) ?_
  cases h
  exact WP.ireturn d30_6 rfl (leb rfl) (leb rfl) ⟨rfl, rfl⟩
theorem d29_0 : dc prog_1_method_14_code 0 (.aload_n 0) 1 := by decide +kernel
theorem d29_1 : dc prog_1_method_14_code 1 (.invokevirtual 68) 3 := by decide +kernel
theorem d29_4 : dc prog_1_method_14_code 4 (.istore_n 1) 1 := by decide +kernel
theorem d29_5 : dc prog_1_method_14_code 5 (.aload_n 0) 1 := by decide +kernel
theorem d29_6 : dc prog_1_method_14_code 6 (.invokevirtual 60) 3 := by decide +kernel
theorem d29_9 : dc prog_1_method_14_code 9 (.istore_n 2) 1 := by decide +kernel
theorem d29_10 : dc prog_1_method_14_code 10 (.iload_n 1) 1 := by decide +kernel
theorem d29_11 : dc prog_1_method_14_code 11 (.istore_n 3) 1 := by decide +kernel
theorem d29_12 : dc prog_1_method_14_code 12 (.iload_n 3) 1 := by decide +kernel
theorem d29_13 : dc prog_1_method_14_code 13 (.iconst 1) 1 := by decide +kernel
theorem d29_14 : dc prog_1_method_14_code 14 (.if_icmp .lt 23) 3 := by decide +kernel
theorem d29_17 : dc prog_1_method_14_code 17 (.aload_n 0) 1 := by decide +kernel
theorem d29_18 : dc prog_1_method_14_code 18 (.getfield 32) 3 := by decide +kernel
theorem d29_21 : dc prog_1_method_14_code 21 (.iconst 1) 1 := by decide +kernel
theorem d29_22 : dc prog_1_method_14_code 22 (.isub) 1 := by decide +kernel
theorem d29_23 : dc prog_1_method_14_code 23 (.iload_n 3) 1 := by decide +kernel
theorem d29_24 : dc prog_1_method_14_code 24 (.idiv) 1 := by decide +kernel
theorem d29_25 : dc prog_1_method_14_code 25 (.iload_n 2) 1 := by decide +kernel
theorem d29_26 : dc prog_1_method_14_code 26 (.if_icmp .lt 5) 3 := by decide +kernel
theorem d29_29 : dc prog_1_method_14_code 29 (.iload_n 3) 1 := by decide +kernel
theorem d29_30 : dc prog_1_method_14_code 30 (.ireturn) 1 := by decide +kernel
theorem d29_31 : dc prog_1_method_14_code 31 (.iinc 3 (-1)) 3 := by decide +kernel
theorem d29_34 : dc prog_1_method_14_code 34 (.goto (-22)) 3 := by decide +kernel
theorem d29_37 : dc prog_1_method_14_code 37 (.iconst 0) 1 := by decide +kernel
theorem d29_38 : dc prog_1_method_14_code 38 (.ireturn) 1 := by decide +kernel
abbrev y29 : MethodName := ⟨"CyclicCodeLab", "trappingCapability", "()I"⟩
theorem hy29 : y29.cls ≠ "java/lang/invoke/MethodHandle" ∧ y29.cls ≠ "java/lang/invoke/VarHandle" := by decide
theorem pd29 : parseMethodDescriptor y29.desc = some ⟨[], some .int⟩ := by decide +kernel
abbrev R29 : Room := { frames := 1, cells := 0, slots := 0, locals := 12 }
abbrev P29 (s : St) (r : Int32) : Option Value → List OwnC → Prop := fun v H' => v = some (.int r) ∧ H' = (Hb 0 s)
abbrev W29 (l : Launch) (Z : State) (n0 : Nat) (Q : Option Value → List OwnC → Prop) (k n pc : Nat) (L : List Slot) (S : List Value) (H : List OwnC) : Prop := WP l Z CN lay "CyclicCodeLab" "trappingCapability" prog_1_method_14_code 4 (some FieldType.int) R29 n0 0 Q k n pc L S H
def g_trappingCapability_12 (k12 : Int32 → Int32 → St → Option (Int32)) (n : Nat) (v2 : Int32) (v3 : Int32) (s : St) : Option (Int32) :=
  if v3 < (1 : Int32) then
    some (0 : Int32)
  else
    if v3 = 0 then none else
    if (((gI s 0) - (1 : Int32)) / v3) < v2 then
      lt (v3 + (-1 : Int32)) fun x4 =>
      k12 v2 x4 s
    else
      some v3
set_option maxRecDepth 65536 in
set_option maxHeartbeats 4000000 in
theorem okg29_12 (l : Launch) (Z : State) (a0 : Array Value) (hw : HW a0 Z) (n0 : Nat) (k12 : Int32 → Int32 → St → Option (Int32)) (hk12 : ∀ (v2 : Int32) (v3 : Int32) (s : St) (r : Int32), k12 v2 v3 s = some r → W29 l Z n0 (P29 s r) 0 0 12 [.val (.ref 0), .unset, .val (.int v2), .val (.int v3)] [] (Hb 0 s)) (n : Nat) (v2 : Int32) (v3 : Int32) (s : St) (r : Int32) (h : g_trappingCapability_12 k12 n v2 v3 s = some r) : W29 l Z n0 (P29 s r) 0 0 12 [.val (.ref 0), .unset, .val (.int v2), .val (.int v3)] [] (Hb 0 s) := by
  unfold g_trappingCapability_12 at h
  refine WP.iloadN d29_12 rfl ?_
  refine WP.iconst (1 : Int32) d29_13 rfl ?_
  rcases ite_e h with ⟨hc1, h⟩ | ⟨hc1, h⟩
  ·
    refine WP.icmpY (pc' := 37) d29_14 (XT.ii_lt_t hc1) (by decide) rfl ?_
    refine WP.iconst (0 : Int32) d29_37 rfl ?_
    cases h
    exact WP.ireturn d29_38 rfl (leb rfl) (leb rfl) ⟨rfl, rfl⟩
  ·
    refine WP.icmpN d29_14 (XT.ii_lt_f hc1) ?_
    refine WP.aloadN d29_17 rfl ?_
    refine WP.getfield (i := 0) (j := 0) d29_18 (hw _ m_30) rfl rfl rfl ?_
    refine WP.iconst (1 : Int32) d29_21 rfl ?_
    refine WP.isub d29_22 ?_
    refine WP.iloadN d29_23 rfl ?_
    obtain ⟨hz2, h⟩ := nz_e h
    refine WP.idiv d29_24 hz2 ?_
    refine WP.iloadN d29_25 rfl ?_
    rcases ite_e h with ⟨hc3, h⟩ | ⟨hc3, h⟩
    ·
      refine WP.icmpY (pc' := 31) d29_26 (XT.ii_lt_t hc3) (by decide) rfl ?_
      obtain ⟨x4, ex4, h⟩ := lt_e h
      refine WP.iinc (L' := [.val (.ref 0), .unset, .val (.int v2), .val (.int x4)]) (-1 : Int32) d29_31 rfl rfl (by subst ex4; rfl) ?_
      refine WP.goto (pc' := 12) d29_34 (by decide) rfl ?_
      exact WP.weak (L' := [.val (.ref 0), .unset, .val (.int v2), .val (.int x4)]) ⟨rfl, rfl, rfl, trivial⟩ (hk12 v2 x4 s _ h)
    ·
      refine WP.icmpN d29_26 (XT.ii_lt_f hc3) ?_
      refine WP.iloadN d29_29 rfl ?_
      cases h
      exact WP.ireturn d29_30 rfl (leb rfl) (leb rfl) ⟨rfl, rfl⟩
def f_trappingCapability_12 : Nat → Int32 → Int32 → St → Option (Int32)
  | 0 => fun _ _ _ => none
  | n + 1 => g_trappingCapability_12 (f_trappingCapability_12 n) n
theorem ok29_12 (l : Launch) (Z : State) (a0 : Array Value) (hw : HW a0 Z) (n0 : Nat) : ∀ (n : Nat) (v2 : Int32) (v3 : Int32) (s : St) (r : Int32), f_trappingCapability_12 n v2 v3 s = some r → W29 l Z n0 (P29 s r) 0 0 12 [.val (.ref 0), .unset, .val (.int v2), .val (.int v3)] [] (Hb 0 s)
  | 0, v2, v3, s, r, h => nomatch (show none = some r from h)
  | n + 1, v2, v3, s, r, h => okg29_12 l Z a0 hw n0 _ (ok29_12 l Z a0 hw n0 n) n v2 v3 s r h
def f_trappingCapability (n : Nat) (s : St) : Option (Int32) :=
  (f_radius s).bind fun c1 =>
  (f_dimension s).bind fun c2 =>
  f_trappingCapability_12 n c2 c1 s
set_option maxRecDepth 65536 in
set_option maxHeartbeats 4000000 in
theorem ok29 (l : Launch) (Z : State) (a0 : Array Value) (hw : HW a0 Z) (n : Nat) (s : St) (r : Int32) (h : f_trappingCapability n s = some r) : CS l Z CN lay y29 prog_1_method_14_code 4 (some FieldType.int) R29 0 [.ref 0] (Hb 0 s) (P29 s r) := by
  refine CS.of_wp pn_cls (leb rfl) fun n0 => ?_
  show W29 l Z n0 (P29 s r) 0 0 0 [.val (.ref 0), .unset, .unset, .unset] [] (Hb 0 s)
  unfold f_trappingCapability at h
  refine WP.aloadN d29_0 rfl ?_
  obtain ⟨c1, hc1, h⟩ := Option.bind_eq_some_iff.mp h
  refine WP.callP (i := 0) (y := y30) (as := []) (S := []) d29_1 (hw _ m_160) (hw _ m_162) (hw _ m_1) (hw _ m_161) (hw _ m_163) (hw _ m_2) hy30 rfl (ok30 l Z a0 hw s _ hc1) rfl (lenOf pd30 rfl) (leb rfl) (leb rfl) (leb rfl) (leb rfl) ?_
  rintro _ _ ⟨rfl, rfl⟩
  show W29 l Z n0 (P29 s r) 0 0 4 [.val (.ref 0), .unset, .unset, .unset] [.int c1] (Hb 0 s)
  refine WP.istoreN (L' := [.val (.ref 0), .val (.int c1), .unset, .unset]) d29_4 (leb rfl) rfl ?_
  refine WP.aloadN d29_5 rfl ?_
  obtain ⟨c2, hc2, h⟩ := Option.bind_eq_some_iff.mp h
  refine WP.callV (i := 0) (y := y21) (as := []) (S := []) d29_6 (hw _ m_141) (hw _ m_120) (hw _ m_122) (hw _ m_121) (hw _ m_123) (hw _ m_2) hy21 rfl (ok21 l Z a0 hw s _ hc2) rfl (lenOf pd21 rfl) (leb rfl) (leb rfl) (leb rfl) (leb rfl) ?_
  rintro _ _ ⟨rfl, rfl⟩
  show W29 l Z n0 (P29 s r) 0 0 9 [.val (.ref 0), .val (.int c1), .unset, .unset] [.int c2] (Hb 0 s)
  refine WP.istoreN (L' := [.val (.ref 0), .val (.int c1), .val (.int c2), .unset]) d29_9 (leb rfl) rfl ?_
  refine WP.iloadN d29_10 rfl ?_
  refine WP.istoreN (L' := [.val (.ref 0), .val (.int c1), .val (.int c2), .val (.int c1)]) d29_11 (leb rfl) rfl ?_
  exact WP.weak (L' := [.val (.ref 0), .unset, .val (.int c2), .val (.int c1)]) ⟨rfl, rfl, rfl, trivial⟩ (ok29_12 l Z a0 hw n0 n c2 c1 s _ h)
theorem d31_0 : dc method_2_code 0 (.iload_n 1) 1 := by decide +kernel
theorem d31_1 : dc method_2_code 1 (.aload_n 0) 1 := by decide +kernel
theorem d31_2 : dc method_2_code 2 (.arraylength) 1 := by decide +kernel
theorem d31_3 : dc method_2_code 3 (.if_icmp .ge 9) 3 := by decide +kernel
theorem d31_6 : dc method_2_code 6 (.aload_n 0) 1 := by decide +kernel
theorem d31_7 : dc method_2_code 7 (.iload_n 1) 1 := by decide +kernel
theorem d31_8 : dc method_2_code 8 (.iaload) 1 := by decide +kernel
theorem d31_9 : dc method_2_code 9 (.goto 4) 3 := by decide +kernel
theorem d31_12 : dc method_2_code 12 (.iconst 0) 1 := by decide +kernel
theorem d31_13 : dc method_2_code 13 (.ireturn) 1 := by decide +kernel
abbrev y31 : MethodName := ⟨"CyclicCodeLabOwnLaw", "cell", "([II)I"⟩
theorem hy31 : y31.cls ≠ "java/lang/invoke/MethodHandle" ∧ y31.cls ≠ "java/lang/invoke/VarHandle" := by decide
theorem pd31 : parseMethodDescriptor y31.desc = some ⟨[.array .int, .int], some .int⟩ := by decide +kernel
abbrev R31 : Room := { frames := 0, cells := 0, slots := 0, locals := 0 }
abbrev P31 (a : List Int32) (r : Int32) : Option Value → List OwnC → Prop := fun v H' => v = some (.int r) ∧ H' = ([cI a])
abbrev W31 (l : Launch) (Z : State) (n0 : Nat) (Q : Option Value → List OwnC → Prop) (k n pc : Nat) (L : List Slot) (S : List Value) (H : List OwnC) : Prop := WP l Z CN lay "CyclicCodeLabOwnLaw" "cell" method_2_code 2 (some FieldType.int) R31 n0 1 Q k n pc L S H
def f_L_cell_13 (t0 : Int32) (a : List Int32) : Option (Int32) :=
  some t0
set_option maxRecDepth 65536 in
set_option maxHeartbeats 4000000 in
theorem ok31_13 (l : Launch) (Z : State) (a0 : Array Value) (hw : HW a0 Z) (n0 : Nat) (t0 : Int32) (a : List Int32) (r : Int32) (h : f_L_cell_13 t0 a = some r) : W31 l Z n0 (P31 a r) 0 0 13 [.unset, .unset] [.int t0] ([cI a]) := by
  unfold f_L_cell_13 at h
  cases h
  exact WP.ireturn d31_13 rfl (leb rfl) (leb rfl) ⟨rfl, rfl⟩
def f_L_cell (p1 : Int32) (a : List Int32) : Option (Int32) :=
  if p1 < a.length.toInt32 then
    (rd a p1).bind fun x2 =>
    f_L_cell_13 x2 a
  else
    f_L_cell_13 (0 : Int32) a
set_option maxRecDepth 65536 in
set_option maxHeartbeats 4000000 in
theorem ok31 (l : Launch) (Z : State) (a0 : Array Value) (hw : HW a0 Z) (p1 : Int32) (a : List Int32) (r : Int32) (h : f_L_cell p1 a = some r) : CS l Z CN lay y31 method_2_code 2 (some FieldType.int) R31 1 [.ref 0, .int p1] ([cI a]) (P31 a r) := by
  refine CS.of_wp pn_law (leb rfl) fun n0 => ?_
  show W31 l Z n0 (P31 a r) 0 0 0 [.val (.ref 0), .val (.int p1)] [] ([cI a])
  unfold f_L_cell at h
  refine WP.iloadN d31_0 rfl ?_
  refine WP.aloadN d31_1 rfl ?_
  refine WP.arraylength (i := 0) (xs := a) d31_2 rfl ?_
  rcases ite_e h with ⟨hc1, h⟩ | ⟨hc1, h⟩
  ·
    refine WP.icmpN d31_3 (XT.ii_ge_f hc1) ?_
    refine WP.aloadN d31_6 rfl ?_
    refine WP.iloadN d31_7 rfl ?_
    obtain ⟨x2, hx2, h⟩ := Option.bind_eq_some_iff.mp h
    refine WP.iaload (i := 0) d31_8 rfl hx2 ?_
    refine WP.goto (pc' := 13) d31_9 (by decide) rfl ?_
    exact WP.weak (L' := [.unset, .unset]) trivial (ok31_13 l Z a0 hw n0 x2 a _ h)
  ·
    refine WP.icmpY (pc' := 12) d31_3 (XT.ii_ge_t hc1) (by decide) rfl ?_
    refine WP.iconst (0 : Int32) d31_12 rfl ?_
    exact WP.weak (L' := [.unset, .unset]) trivial (ok31_13 l Z a0 hw n0 (0 : Int32) a _ h)
theorem d33_0 : dc prog_1_method_34_code 0 (.iload_n 1) 1 := by decide +kernel
theorem d33_1 : dc prog_1_method_34_code 1 (.istore_n 2) 1 := by decide +kernel
theorem d33_2 : dc prog_1_method_34_code 2 (.aload_n 0) 1 := by decide +kernel
theorem d33_3 : dc prog_1_method_34_code 3 (.getfield 32) 3 := by decide +kernel
theorem d33_6 : dc prog_1_method_34_code 6 (.iconst 1) 1 := by decide +kernel
theorem d33_7 : dc prog_1_method_34_code 7 (.isub) 1 := by decide +kernel
theorem d33_8 : dc prog_1_method_34_code 8 (.istore_n 3) 1 := by decide +kernel
theorem d33_9 : dc prog_1_method_34_code 9 (.iload_n 3) 1 := by decide +kernel
theorem d33_10 : dc prog_1_method_34_code 10 (.aload_n 0) 1 := by decide +kernel
theorem d33_11 : dc prog_1_method_34_code 11 (.getfield 54) 3 := by decide +kernel
theorem d33_14 : dc prog_1_method_34_code 14 (.if_icmp .lt 31) 3 := by decide +kernel
theorem d33_17 : dc prog_1_method_34_code 17 (.iload_n 2) 1 := by decide +kernel
theorem d33_18 : dc prog_1_method_34_code 18 (.iload_n 3) 1 := by decide +kernel
theorem d33_19 : dc prog_1_method_34_code 19 (.iushr) 1 := by decide +kernel
theorem d33_20 : dc prog_1_method_34_code 20 (.iconst 1) 1 := by decide +kernel
theorem d33_21 : dc prog_1_method_34_code 21 (.iand) 1 := by decide +kernel
theorem d33_22 : dc prog_1_method_34_code 22 (.ifCond .eq 17) 3 := by decide +kernel
theorem d33_25 : dc prog_1_method_34_code 25 (.iload_n 2) 1 := by decide +kernel
theorem d33_26 : dc prog_1_method_34_code 26 (.aload_n 0) 1 := by decide +kernel
theorem d33_27 : dc prog_1_method_34_code 27 (.getfield 51) 3 := by decide +kernel
theorem d33_30 : dc prog_1_method_34_code 30 (.iload_n 3) 1 := by decide +kernel
theorem d33_31 : dc prog_1_method_34_code 31 (.aload_n 0) 1 := by decide +kernel
theorem d33_32 : dc prog_1_method_34_code 32 (.getfield 54) 3 := by decide +kernel
theorem d33_35 : dc prog_1_method_34_code 35 (.isub) 1 := by decide +kernel
theorem d33_36 : dc prog_1_method_34_code 36 (.ishl) 1 := by decide +kernel
theorem d33_37 : dc prog_1_method_34_code 37 (.ixor) 1 := by decide +kernel
theorem d33_38 : dc prog_1_method_34_code 38 (.istore_n 2) 1 := by decide +kernel
theorem d33_39 : dc prog_1_method_34_code 39 (.iinc 3 (-1)) 3 := by decide +kernel
theorem d33_42 : dc prog_1_method_34_code 42 (.goto (-33)) 3 := by decide +kernel
theorem d33_45 : dc prog_1_method_34_code 45 (.iload_n 2) 1 := by decide +kernel
theorem d33_46 : dc prog_1_method_34_code 46 (.ireturn) 1 := by decide +kernel
abbrev y33 : MethodName := ⟨"CyclicCodeLab", "polyMod", "(I)I"⟩
theorem hy33 : y33.cls ≠ "java/lang/invoke/MethodHandle" ∧ y33.cls ≠ "java/lang/invoke/VarHandle" := by decide
theorem pd33 : parseMethodDescriptor y33.desc = some ⟨[.int], some .int⟩ := by decide +kernel
abbrev R33 : Room := { frames := 0, cells := 0, slots := 0, locals := 0 }
abbrev P33 (s : St) (r : Int32) : Option Value → List OwnC → Prop := fun v H' => v = some (.int r) ∧ H' = (Hb 0 s)
abbrev W33 (l : Launch) (Z : State) (n0 : Nat) (Q : Option Value → List OwnC → Prop) (k n pc : Nat) (L : List Slot) (S : List Value) (H : List OwnC) : Prop := WP l Z CN lay "CyclicCodeLab" "polyMod" prog_1_method_34_code 4 (some FieldType.int) R33 n0 0 Q k n pc L S H
def f_polyMod_39 (k9 : Int32 → Int32 → St → Option (Int32)) (n : Nat) (v2 : Int32) (v3 : Int32) (s : St) : Option (Int32) :=
  lt (v3 + (-1 : Int32)) fun x1 =>
  k9 v2 x1 s
set_option maxRecDepth 65536 in
set_option maxHeartbeats 4000000 in
theorem ok33_39 (l : Launch) (Z : State) (a0 : Array Value) (hw : HW a0 Z) (n0 : Nat) (k9 : Int32 → Int32 → St → Option (Int32)) (hk9 : ∀ (v2 : Int32) (v3 : Int32) (s : St) (r : Int32), k9 v2 v3 s = some r → W33 l Z n0 (P33 s r) 0 0 9 [.val (.ref 0), .unset, .val (.int v2), .val (.int v3)] [] (Hb 0 s)) (n : Nat) (v2 : Int32) (v3 : Int32) (s : St) (r : Int32) (h : f_polyMod_39 k9 n v2 v3 s = some r) : W33 l Z n0 (P33 s r) 0 0 39 [.val (.ref 0), .unset, .val (.int v2), .val (.int v3)] [] (Hb 0 s) := by
  unfold f_polyMod_39 at h
  obtain ⟨x1, ex1, h⟩ := lt_e h
  refine WP.iinc (L' := [.val (.ref 0), .unset, .val (.int v2), .val (.int x1)]) (-1 : Int32) d33_39 rfl rfl (by subst ex1; rfl) ?_
  refine WP.goto (pc' := 9) d33_42 (by decide) rfl ?_
  exact WP.weak (L' := [.val (.ref 0), .unset, .val (.int v2), .val (.int x1)]) ⟨rfl, rfl, rfl, trivial⟩ (hk9 v2 x1 s _ h)
def g_polyMod_9 (k9 : Int32 → Int32 → St → Option (Int32)) (n : Nat) (v2 : Int32) (v3 : Int32) (s : St) : Option (Int32) :=
  if v3 < (gI s 6) then
    some v2
  else
    if ((XT.ushr v2 v3) &&& (1 : Int32)) = 0 then
      f_polyMod_39 k9 n v2 v3 s
    else
      lt (v2 ^^^ ((gI s 5) <<< ((v3 - (gI s 6)) &&& 31))) fun x3 =>
      f_polyMod_39 k9 n x3 v3 s
set_option maxRecDepth 65536 in
set_option maxHeartbeats 4000000 in
theorem okg33_9 (l : Launch) (Z : State) (a0 : Array Value) (hw : HW a0 Z) (n0 : Nat) (k9 : Int32 → Int32 → St → Option (Int32)) (hk9 : ∀ (v2 : Int32) (v3 : Int32) (s : St) (r : Int32), k9 v2 v3 s = some r → W33 l Z n0 (P33 s r) 0 0 9 [.val (.ref 0), .unset, .val (.int v2), .val (.int v3)] [] (Hb 0 s)) (n : Nat) (v2 : Int32) (v3 : Int32) (s : St) (r : Int32) (h : g_polyMod_9 k9 n v2 v3 s = some r) : W33 l Z n0 (P33 s r) 0 0 9 [.val (.ref 0), .unset, .val (.int v2), .val (.int v3)] [] (Hb 0 s) := by
  unfold g_polyMod_9 at h
  refine WP.iloadN d33_9 rfl ?_
  refine WP.aloadN d33_10 rfl ?_
  refine WP.getfield (i := 0) (j := 6) d33_11 (hw _ m_92) rfl rfl rfl ?_
  rcases ite_e h with ⟨hc1, h⟩ | ⟨hc1, h⟩
  ·
    refine WP.icmpY (pc' := 45) d33_14 (XT.ii_lt_t hc1) (by decide) rfl ?_
    refine WP.iloadN d33_45 rfl ?_
    cases h
    exact WP.ireturn d33_46 rfl (leb rfl) (leb rfl) ⟨rfl, rfl⟩
  ·
    refine WP.icmpN d33_14 (XT.ii_lt_f hc1) ?_
    refine WP.iloadN d33_17 rfl ?_
    refine WP.iloadN d33_18 rfl ?_
    refine WP.iushr d33_19 ?_
    refine WP.iconst (1 : Int32) d33_20 rfl ?_
    refine WP.iand d33_21 ?_
    rcases ite_e h with ⟨hc2, h⟩ | ⟨hc2, h⟩
    ·
      refine WP.ifY (pc' := 39) d33_22 (XT.i0_eq_t hc2) (by decide) rfl ?_
      exact WP.weak (L' := [.val (.ref 0), .unset, .val (.int v2), .val (.int v3)]) ⟨rfl, rfl, rfl, trivial⟩ (ok33_39 l Z a0 hw n0 _ hk9 n v2 v3 s _ h)
    ·
      refine WP.ifN d33_22 (XT.i0_eq_f hc2) ?_
      refine WP.iloadN d33_25 rfl ?_
      refine WP.aloadN d33_26 rfl ?_
      refine WP.getfield (i := 0) (j := 5) d33_27 (hw _ m_102) rfl rfl rfl ?_
      refine WP.iloadN d33_30 rfl ?_
      refine WP.aloadN d33_31 rfl ?_
      refine WP.getfield (i := 0) (j := 6) d33_32 (hw _ m_92) rfl rfl rfl ?_
      refine WP.isub d33_35 ?_
      refine WP.ishl d33_36 ?_
      refine WP.ixor d33_37 ?_
      obtain ⟨x3, ex3, h⟩ := lt_e h
      refine WP.istoreN (L' := [.val (.ref 0), .unset, .val (.int x3), .val (.int v3)]) d33_38 (leb rfl) (by subst ex3; rfl) ?_
      exact WP.weak (L' := [.val (.ref 0), .unset, .val (.int x3), .val (.int v3)]) ⟨rfl, rfl, rfl, trivial⟩ (ok33_39 l Z a0 hw n0 _ hk9 n x3 v3 s _ h)
def f_polyMod_9 : Nat → Int32 → Int32 → St → Option (Int32)
  | 0 => fun _ _ _ => none
  | n + 1 => g_polyMod_9 (f_polyMod_9 n) n
theorem ok33_9 (l : Launch) (Z : State) (a0 : Array Value) (hw : HW a0 Z) (n0 : Nat) : ∀ (n : Nat) (v2 : Int32) (v3 : Int32) (s : St) (r : Int32), f_polyMod_9 n v2 v3 s = some r → W33 l Z n0 (P33 s r) 0 0 9 [.val (.ref 0), .unset, .val (.int v2), .val (.int v3)] [] (Hb 0 s)
  | 0, v2, v3, s, r, h => nomatch (show none = some r from h)
  | n + 1, v2, v3, s, r, h => okg33_9 l Z a0 hw n0 _ (ok33_9 l Z a0 hw n0 n) n v2 v3 s r h
def f_polyMod (n : Nat) (p1 : Int32) (s : St) : Option (Int32) :=
  lt ((gI s 0) - (1 : Int32)) fun x1 =>
  f_polyMod_9 n p1 x1 s
set_option maxRecDepth 65536 in
set_option maxHeartbeats 4000000 in
theorem ok33 (l : Launch) (Z : State) (a0 : Array Value) (hw : HW a0 Z) (n : Nat) (p1 : Int32) (s : St) (r : Int32) (h : f_polyMod n p1 s = some r) : CS l Z CN lay y33 prog_1_method_34_code 4 (some FieldType.int) R33 0 [.ref 0, .int p1] (Hb 0 s) (P33 s r) := by
  refine CS.of_wp pn_cls (leb rfl) fun n0 => ?_
  show W33 l Z n0 (P33 s r) 0 0 0 [.val (.ref 0), .val (.int p1), .unset, .unset] [] (Hb 0 s)
  unfold f_polyMod at h
  refine WP.iloadN d33_0 rfl ?_
  refine WP.istoreN (L' := [.val (.ref 0), .val (.int p1), .val (.int p1), .unset]) d33_1 (leb rfl) rfl ?_
  refine WP.aloadN d33_2 rfl ?_
  refine WP.getfield (i := 0) (j := 0) d33_3 (hw _ m_30) rfl rfl rfl ?_
  refine WP.iconst (1 : Int32) d33_6 rfl ?_
  refine WP.isub d33_7 ?_
  obtain ⟨x1, ex1, h⟩ := lt_e h
  refine WP.istoreN (L' := [.val (.ref 0), .val (.int p1), .val (.int p1), .val (.int x1)]) d33_8 (leb rfl) (by subst ex1; rfl) ?_
  exact WP.weak (L' := [.val (.ref 0), .unset, .val (.int p1), .val (.int x1)]) ⟨rfl, rfl, rfl, trivial⟩ (ok33_9 l Z a0 hw n0 n p1 x1 s _ h)
theorem d32_0 : dc prog_1_method_15_code 0 (.aload_n 0) 1 := by decide +kernel
theorem d32_1 : dc prog_1_method_15_code 1 (.invokevirtual 60) 3 := by decide +kernel
theorem d32_4 : dc prog_1_method_15_code 4 (.istore_n 2) 1 := by decide +kernel
theorem d32_5 : dc prog_1_method_15_code 5 (.iload_n 1) 1 := by decide +kernel
theorem d32_6 : dc prog_1_method_15_code 6 (.aload_n 0) 1 := by decide +kernel
theorem d32_7 : dc prog_1_method_15_code 7 (.iload_n 2) 1 := by decide +kernel
theorem d32_8 : dc prog_1_method_15_code 8 (.invokevirtual 71) 3 := by decide +kernel
theorem d32_11 : dc prog_1_method_15_code 11 (.iand) 1 := by decide +kernel
theorem d32_12 : dc prog_1_method_15_code 12 (.aload_n 0) 1 := by decide +kernel
theorem d32_13 : dc prog_1_method_15_code 13 (.getfield 32) 3 := by decide +kernel
theorem d32_16 : dc prog_1_method_15_code 16 (.iload_n 2) 1 := by decide +kernel
theorem d32_17 : dc prog_1_method_15_code 17 (.isub) 1 := by decide +kernel
theorem d32_18 : dc prog_1_method_15_code 18 (.ishl) 1 := by decide +kernel
theorem d32_19 : dc prog_1_method_15_code 19 (.istore_n 3) 1 := by decide +kernel
theorem d32_20 : dc prog_1_method_15_code 20 (.iload_n 2) 1 := by decide +kernel
theorem d32_21 : dc prog_1_method_15_code 21 (.ifCond .ne 5) 3 := by decide +kernel
theorem d32_24 : dc prog_1_method_15_code 24 (.iconst 0) 1 := by decide +kernel
theorem d32_25 : dc prog_1_method_15_code 25 (.istore_n 3) 1 := by decide +kernel
theorem d32_26 : dc prog_1_method_15_code 26 (.aload_n 0) 1 := by decide +kernel
theorem d32_27 : dc prog_1_method_15_code 27 (.iload_n 3) 1 := by decide +kernel
theorem d32_28 : dc prog_1_method_15_code 28 (.invokevirtual 74) 3 := by decide +kernel
theorem d32_31 : dc prog_1_method_15_code 31 (.istore 4) 2 := by decide +kernel
theorem d32_33 : dc prog_1_method_15_code 33 (.iload_n 3) 1 := by decide +kernel
theorem d32_34 : dc prog_1_method_15_code 34 (.iload 4) 2 := by decide +kernel
theorem d32_36 : dc prog_1_method_15_code 36 (.ixor) 1 := by decide +kernel
theorem d32_37 : dc prog_1_method_15_code 37 (.ireturn) 1 := by decide +kernel
abbrev y32 : MethodName := ⟨"CyclicCodeLab", "encode", "(I)I"⟩
theorem hy32 : y32.cls ≠ "java/lang/invoke/MethodHandle" ∧ y32.cls ≠ "java/lang/invoke/VarHandle" := by decide
theorem pd32 : parseMethodDescriptor y32.desc = some ⟨[.int], some .int⟩ := by decide +kernel
abbrev R32 : Room := { frames := 1, cells := 0, slots := 0, locals := 15 }
abbrev P32 (s : St) (r : Int32) : Option Value → List OwnC → Prop := fun v H' => v = some (.int r) ∧ H' = (Hb 0 s)
abbrev W32 (l : Launch) (Z : State) (n0 : Nat) (Q : Option Value → List OwnC → Prop) (k n pc : Nat) (L : List Slot) (S : List Value) (H : List OwnC) : Prop := WP l Z CN lay "CyclicCodeLab" "encode" prog_1_method_15_code 5 (some FieldType.int) R32 n0 0 Q k n pc L S H
def f_encode_26 (n : Nat) (v3 : Int32) (s : St) : Option (Int32) :=
  (f_polyMod n v3 s).bind fun c1 =>
  some (v3 ^^^ c1)
set_option maxRecDepth 65536 in
set_option maxHeartbeats 4000000 in
theorem ok32_26 (l : Launch) (Z : State) (a0 : Array Value) (hw : HW a0 Z) (n0 : Nat) (n : Nat) (v3 : Int32) (s : St) (r : Int32) (h : f_encode_26 n v3 s = some r) : W32 l Z n0 (P32 s r) 0 0 26 [.val (.ref 0), .unset, .unset, .val (.int v3), .unset] [] (Hb 0 s) := by
  unfold f_encode_26 at h
  refine WP.aloadN d32_26 rfl ?_
  refine WP.iloadN d32_27 rfl ?_
  obtain ⟨c1, hc1, h⟩ := Option.bind_eq_some_iff.mp h
  refine WP.callP (i := 0) (y := y33) (as := [.int v3]) (S := []) d32_28 (hw _ m_172) (hw _ m_174) (hw _ m_1) (hw _ m_173) (hw _ m_175) (hw _ m_2) hy33 rfl (ok33 l Z a0 hw n v3 s _ hc1) rfl (lenOf pd33 rfl) (leb rfl) (leb rfl) (leb rfl) (leb rfl) ?_
  rintro _ _ ⟨rfl, rfl⟩
  show W32 l Z n0 (P32 s r) 0 0 31 [.val (.ref 0), .unset, .unset, .val (.int v3), .unset] [.int c1] (Hb 0 s)
  refine WP.istore (L' := [.val (.ref 0), .unset, .unset, .val (.int v3), .val (.int c1)]) d32_31 (leb rfl) rfl ?_
  refine WP.iloadN d32_33 rfl ?_
  refine WP.iload d32_34 rfl ?_
  refine WP.ixor d32_36 ?_
  cases h
  exact WP.ireturn d32_37 rfl (leb rfl) (leb rfl) ⟨rfl, rfl⟩
def f_encode (n : Nat) (p1 : Int32) (s : St) : Option (Int32) :=
  (f_dimension s).bind fun c1 =>
  (f_lowMask c1 s).bind fun c2 =>
  lt ((p1 &&& c2) <<< (((gI s 0) - c1) &&& 31)) fun x3 =>
  if c1 = 0 then
    f_encode_26 n (0 : Int32) s
  else
    f_encode_26 n x3 s
set_option maxRecDepth 65536 in
set_option maxHeartbeats 4000000 in
theorem ok32 (l : Launch) (Z : State) (a0 : Array Value) (hw : HW a0 Z) (n : Nat) (p1 : Int32) (s : St) (r : Int32) (h : f_encode n p1 s = some r) : CS l Z CN lay y32 prog_1_method_15_code 5 (some FieldType.int) R32 0 [.ref 0, .int p1] (Hb 0 s) (P32 s r) := by
  refine CS.of_wp pn_cls (leb rfl) fun n0 => ?_
  show W32 l Z n0 (P32 s r) 0 0 0 [.val (.ref 0), .val (.int p1), .unset, .unset, .unset] [] (Hb 0 s)
  unfold f_encode at h
  refine WP.aloadN d32_0 rfl ?_
  obtain ⟨c1, hc1, h⟩ := Option.bind_eq_some_iff.mp h
  refine WP.callV (i := 0) (y := y21) (as := []) (S := []) d32_1 (hw _ m_141) (hw _ m_120) (hw _ m_122) (hw _ m_121) (hw _ m_123) (hw _ m_2) hy21 rfl (ok21 l Z a0 hw s _ hc1) rfl (lenOf pd21 rfl) (leb rfl) (leb rfl) (leb rfl) (leb rfl) ?_
  rintro _ _ ⟨rfl, rfl⟩
  show W32 l Z n0 (P32 s r) 0 0 4 [.val (.ref 0), .val (.int p1), .unset, .unset, .unset] [.int c1] (Hb 0 s)
  refine WP.istoreN (L' := [.val (.ref 0), .val (.int p1), .val (.int c1), .unset, .unset]) d32_4 (leb rfl) rfl ?_
  refine WP.iloadN d32_5 rfl ?_
  refine WP.aloadN d32_6 rfl ?_
  refine WP.iloadN d32_7 rfl ?_
  obtain ⟨c2, hc2, h⟩ := Option.bind_eq_some_iff.mp h
  refine WP.callP (i := 0) (y := y3) (as := [.int c1]) (S := [.int p1]) d32_8 (hw _ m_36) (hw _ m_38) (hw _ m_1) (hw _ m_37) (hw _ m_39) (hw _ m_2) hy3 rfl (ok3 l Z a0 hw c1 s _ hc2) rfl (lenOf pd3 rfl) (leb rfl) (leb rfl) (leb rfl) (leb rfl) ?_
  rintro _ _ ⟨rfl, rfl⟩
  show W32 l Z n0 (P32 s r) 0 0 11 [.val (.ref 0), .val (.int p1), .val (.int c1), .unset, .unset] [.int c2, .int p1] (Hb 0 s)
  refine WP.iand d32_11 ?_
  refine WP.aloadN d32_12 rfl ?_
  refine WP.getfield (i := 0) (j := 0) d32_13 (hw _ m_30) rfl rfl rfl ?_
  refine WP.iloadN d32_16 rfl ?_
  refine WP.isub d32_17 ?_
  refine WP.ishl d32_18 ?_
  obtain ⟨x3, ex3, h⟩ := lt_e h
  refine WP.istoreN (L' := [.val (.ref 0), .val (.int p1), .val (.int c1), .val (.int x3), .unset]) d32_19 (leb rfl) (by subst ex3; rfl) ?_
  refine WP.iloadN d32_20 rfl ?_
  rcases ite_e h with ⟨hc4, h⟩ | ⟨hc4, h⟩
  ·
    refine WP.ifN d32_21 (XT.i0_ne_f hc4) ?_
    refine WP.iconst (0 : Int32) d32_24 rfl ?_
    refine WP.istoreN (L' := [.val (.ref 0), .val (.int p1), .val (.int c1), .val (.int (0 : Int32)), .unset]) d32_25 (leb rfl) rfl ?_
    exact WP.weak (L' := [.val (.ref 0), .unset, .unset, .val (.int (0 : Int32)), .unset]) ⟨rfl, rfl, trivial⟩ (ok32_26 l Z a0 hw n0 n (0 : Int32) s _ h)
  ·
    refine WP.ifY (pc' := 26) d32_21 (XT.i0_ne_t hc4) (by decide) rfl ?_
    exact WP.weak (L' := [.val (.ref 0), .unset, .unset, .val (.int x3), .unset]) ⟨rfl, rfl, trivial⟩ (ok32_26 l Z a0 hw n0 n x3 s _ h)
theorem d34_0 : dc prog_1_method_16_code 0 (.iload_n 1) 1 := by decide +kernel
theorem d34_1 : dc prog_1_method_16_code 1 (.aload_n 0) 1 := by decide +kernel
theorem d34_2 : dc prog_1_method_16_code 2 (.getfield 77) 3 := by decide +kernel
theorem d34_5 : dc prog_1_method_16_code 5 (.iand) 1 := by decide +kernel
theorem d34_6 : dc prog_1_method_16_code 6 (.istore_n 2) 1 := by decide +kernel
theorem d34_7 : dc prog_1_method_16_code 7 (.aload_n 0) 1 := by decide +kernel
theorem d34_8 : dc prog_1_method_16_code 8 (.iload_n 2) 1 := by decide +kernel
theorem d34_9 : dc prog_1_method_16_code 9 (.invokevirtual 74) 3 := by decide +kernel
theorem d34_12 : dc prog_1_method_16_code 12 (.ireturn) 1 := by decide +kernel
abbrev y34 : MethodName := ⟨"CyclicCodeLab", "syndrome", "(I)I"⟩
theorem hy34 : y34.cls ≠ "java/lang/invoke/MethodHandle" ∧ y34.cls ≠ "java/lang/invoke/VarHandle" := by decide
theorem pd34 : parseMethodDescriptor y34.desc = some ⟨[.int], some .int⟩ := by decide +kernel
abbrev R34 : Room := { frames := 1, cells := 0, slots := 0, locals := 15 }
abbrev P34 (s : St) (r : Int32) : Option Value → List OwnC → Prop := fun v H' => v = some (.int r) ∧ H' = (Hb 0 s)
abbrev W34 (l : Launch) (Z : State) (n0 : Nat) (Q : Option Value → List OwnC → Prop) (k n pc : Nat) (L : List Slot) (S : List Value) (H : List OwnC) : Prop := WP l Z CN lay "CyclicCodeLab" "syndrome" prog_1_method_16_code 3 (some FieldType.int) R34 n0 0 Q k n pc L S H
def f_syndrome (n : Nat) (p1 : Int32) (s : St) : Option (Int32) :=
  lt (p1 &&& (gI s 3)) fun x1 =>
  (f_polyMod n x1 s).bind fun c2 =>
  some c2
set_option maxRecDepth 65536 in
set_option maxHeartbeats 4000000 in
theorem ok34 (l : Launch) (Z : State) (a0 : Array Value) (hw : HW a0 Z) (n : Nat) (p1 : Int32) (s : St) (r : Int32) (h : f_syndrome n p1 s = some r) : CS l Z CN lay y34 prog_1_method_16_code 3 (some FieldType.int) R34 0 [.ref 0, .int p1] (Hb 0 s) (P34 s r) := by
  refine CS.of_wp pn_cls (leb rfl) fun n0 => ?_
  show W34 l Z n0 (P34 s r) 0 0 0 [.val (.ref 0), .val (.int p1), .unset] [] (Hb 0 s)
  unfold f_syndrome at h
  refine WP.iloadN d34_0 rfl ?_
  refine WP.aloadN d34_1 rfl ?_
  refine WP.getfield (i := 0) (j := 3) d34_2 (hw _ m_40) rfl rfl rfl ?_
  refine WP.iand d34_5 ?_
  obtain ⟨x1, ex1, h⟩ := lt_e h
  refine WP.istoreN (L' := [.val (.ref 0), .val (.int p1), .val (.int x1)]) d34_6 (leb rfl) (by subst ex1; rfl) ?_
  refine WP.aloadN d34_7 rfl ?_
  refine WP.iloadN d34_8 rfl ?_
  obtain ⟨c2, hc2, h⟩ := Option.bind_eq_some_iff.mp h
  refine WP.callP (i := 0) (y := y33) (as := [.int x1]) (S := []) d34_9 (hw _ m_172) (hw _ m_174) (hw _ m_1) (hw _ m_173) (hw _ m_175) (hw _ m_2) hy33 rfl (ok33 l Z a0 hw n x1 s _ hc2) rfl (lenOf pd33 rfl) (leb rfl) (leb rfl) (leb rfl) (leb rfl) ?_
  rintro _ _ ⟨rfl, rfl⟩
  show W34 l Z n0 (P34 s r) 0 0 12 [.val (.ref 0), .val (.int p1), .val (.int x1)] [.int c2] (Hb 0 s)
  cases h
  exact WP.ireturn d34_12 rfl (leb rfl) (leb rfl) ⟨rfl, rfl⟩
theorem d35_0 : dc method_3_code 0 (.iload_n 0) 1 := by decide +kernel
theorem d35_1 : dc method_3_code 1 (.ldc 7) 2 := by decide +kernel
theorem d35_3 : dc method_3_code 3 (.iand) 1 := by decide +kernel
theorem d35_4 : dc method_3_code 4 (.ireturn) 1 := by decide +kernel
abbrev y35 : MethodName := ⟨"CyclicCodeLabOwnLaw", "nonneg", "(I)I"⟩
theorem hy35 : y35.cls ≠ "java/lang/invoke/MethodHandle" ∧ y35.cls ≠ "java/lang/invoke/VarHandle" := by decide
theorem pd35 : parseMethodDescriptor y35.desc = some ⟨[.int], some .int⟩ := by decide +kernel
abbrev R35 : Room := { frames := 0, cells := 0, slots := 0, locals := 0 }
abbrev P35 (r : Int32) : Option Value → List OwnC → Prop := fun v H' => v = some (.int r) ∧ H' = ([] : List OwnC)
abbrev W35 (l : Launch) (Z : State) (n0 : Nat) (Q : Option Value → List OwnC → Prop) (k n pc : Nat) (L : List Slot) (S : List Value) (H : List OwnC) : Prop := WP l Z CN lay "CyclicCodeLabOwnLaw" "nonneg" method_3_code 1 (some FieldType.int) R35 n0 0 Q k n pc L S H
def f_L_nonneg (p0 : Int32) : Option (Int32) :=
  some (p0 &&& (2147483647 : Int32))
set_option maxRecDepth 65536 in
set_option maxHeartbeats 4000000 in
theorem ok35 (l : Launch) (Z : State) (a0 : Array Value) (hw : HW a0 Z) (p0 : Int32) (r : Int32) (h : f_L_nonneg p0 = some r) : CS l Z CN lay y35 method_3_code 1 (some FieldType.int) R35 0 [.int p0] ([] : List OwnC) (P35 r) := by
  refine CS.of_wp pn_law (leb rfl) fun n0 => ?_
  show W35 l Z n0 (P35 r) 0 0 0 [.val (.int p0)] [] ([] : List OwnC)
  unfold f_L_nonneg at h
  refine WP.iloadN d35_0 rfl ?_
  refine WP.ldc d35_1 (hw _ m_184) ?_
  refine WP.iand d35_3 ?_
  cases h
  exact WP.ireturn d35_4 rfl (leb rfl) (leb rfl) ⟨rfl, rfl⟩
theorem d37_0 : dc prog_1_method_36_code 0 (.iload_n 2) 1 := by decide +kernel
theorem d37_1 : dc prog_1_method_36_code 1 (.ifCond .le 11) 3 := by decide +kernel
theorem d37_4 : dc prog_1_method_36_code 4 (.iload_n 2) 1 := by decide +kernel
theorem d37_5 : dc prog_1_method_36_code 5 (.aload_n 0) 1 := by decide +kernel
theorem d37_6 : dc prog_1_method_36_code 6 (.getfield 32) 3 := by decide +kernel
theorem d37_9 : dc prog_1_method_36_code 9 (.if_icmp .lt 10) 3 := by decide +kernel
theorem d37_12 : dc prog_1_method_36_code 12 (.iload_n 1) 1 := by decide +kernel
theorem d37_13 : dc prog_1_method_36_code 13 (.aload_n 0) 1 := by decide +kernel
theorem d37_14 : dc prog_1_method_36_code 14 (.getfield 77) 3 := by decide +kernel
theorem d37_17 : dc prog_1_method_36_code 17 (.iand) 1 := by decide +kernel
theorem d37_18 : dc prog_1_method_36_code 18 (.ireturn) 1 := by decide +kernel
theorem d37_19 : dc prog_1_method_36_code 19 (.iload_n 1) 1 := by decide +kernel
theorem d37_20 : dc prog_1_method_36_code 20 (.iload_n 2) 1 := by decide +kernel
theorem d37_21 : dc prog_1_method_36_code 21 (.ishl) 1 := by decide +kernel
theorem d37_22 : dc prog_1_method_36_code 22 (.iload_n 1) 1 := by decide +kernel
theorem d37_23 : dc prog_1_method_36_code 23 (.aload_n 0) 1 := by decide +kernel
theorem d37_24 : dc prog_1_method_36_code 24 (.getfield 32) 3 := by decide +kernel
theorem d37_27 : dc prog_1_method_36_code 27 (.iload_n 2) 1 := by decide +kernel
theorem d37_28 : dc prog_1_method_36_code 28 (.isub) 1 := by decide +kernel
theorem d37_29 : dc prog_1_method_36_code 29 (.iushr) 1 := by decide +kernel
theorem d37_30 : dc prog_1_method_36_code 30 (.ior) 1 := by decide +kernel
theorem d37_31 : dc prog_1_method_36_code 31 (.istore_n 3) 1 := by decide +kernel
theorem d37_32 : dc prog_1_method_36_code 32 (.iload_n 3) 1 := by decide +kernel
theorem d37_33 : dc prog_1_method_36_code 33 (.aload_n 0) 1 := by decide +kernel
theorem d37_34 : dc prog_1_method_36_code 34 (.getfield 77) 3 := by decide +kernel
theorem d37_37 : dc prog_1_method_36_code 37 (.iand) 1 := by decide +kernel
theorem d37_38 : dc prog_1_method_36_code 38 (.ireturn) 1 := by decide +kernel
abbrev y37 : MethodName := ⟨"CyclicCodeLab", "rotate", "(II)I"⟩
theorem hy37 : y37.cls ≠ "java/lang/invoke/MethodHandle" ∧ y37.cls ≠ "java/lang/invoke/VarHandle" := by decide
theorem pd37 : parseMethodDescriptor y37.desc = some ⟨[.int, .int], some .int⟩ := by decide +kernel
abbrev R37 : Room := { frames := 0, cells := 0, slots := 0, locals := 0 }
abbrev P37 (s : St) (r : Int32) : Option Value → List OwnC → Prop := fun v H' => v = some (.int r) ∧ H' = (Hb 0 s)
abbrev W37 (l : Launch) (Z : State) (n0 : Nat) (Q : Option Value → List OwnC → Prop) (k n pc : Nat) (L : List Slot) (S : List Value) (H : List OwnC) : Prop := WP l Z CN lay "CyclicCodeLab" "rotate" prog_1_method_36_code 4 (some FieldType.int) R37 n0 0 Q k n pc L S H
def f_rotate_12 (v1 : Int32) (s : St) : Option (Int32) :=
  some (v1 &&& (gI s 3))
set_option maxRecDepth 65536 in
set_option maxHeartbeats 4000000 in
theorem ok37_12 (l : Launch) (Z : State) (a0 : Array Value) (hw : HW a0 Z) (n0 : Nat) (v1 : Int32) (s : St) (r : Int32) (h : f_rotate_12 v1 s = some r) : W37 l Z n0 (P37 s r) 0 0 12 [.val (.ref 0), .val (.int v1), .unset, .unset] [] (Hb 0 s) := by
  unfold f_rotate_12 at h
  refine WP.iloadN d37_12 rfl ?_
  refine WP.aloadN d37_13 rfl ?_
  refine WP.getfield (i := 0) (j := 3) d37_14 (hw _ m_40) rfl rfl rfl ?_
  refine WP.iand d37_17 ?_
  cases h
  exact WP.ireturn d37_18 rfl (leb rfl) (leb rfl) ⟨rfl, rfl⟩
def f_rotate (p1 : Int32) (p2 : Int32) (s : St) : Option (Int32) :=
  if 0 < p2 then
    if p2 < (gI s 0) then
      lt ((p1 <<< (p2 &&& 31)) ||| (XT.ushr p1 ((gI s 0) - p2))) fun x3 =>
      some (x3 &&& (gI s 3))
    else
      f_rotate_12 p1 s
  else
    f_rotate_12 p1 s
set_option maxRecDepth 65536 in
set_option maxHeartbeats 4000000 in
theorem ok37 (l : Launch) (Z : State) (a0 : Array Value) (hw : HW a0 Z) (p1 : Int32) (p2 : Int32) (s : St) (r : Int32) (h : f_rotate p1 p2 s = some r) : CS l Z CN lay y37 prog_1_method_36_code 4 (some FieldType.int) R37 0 [.ref 0, .int p1, .int p2] (Hb 0 s) (P37 s r) := by
  refine CS.of_wp pn_cls (leb rfl) fun n0 => ?_
  show W37 l Z n0 (P37 s r) 0 0 0 [.val (.ref 0), .val (.int p1), .val (.int p2), .unset] [] (Hb 0 s)
  unfold f_rotate at h
  refine WP.iloadN d37_0 rfl ?_
  rcases ite_e h with ⟨hc1, h⟩ | ⟨hc1, h⟩
  ·
    refine WP.ifN d37_1 (XT.i0_le_f hc1) ?_
    refine WP.iloadN d37_4 rfl ?_
    refine WP.aloadN d37_5 rfl ?_
    refine WP.getfield (i := 0) (j := 0) d37_6 (hw _ m_30) rfl rfl rfl ?_
    rcases ite_e h with ⟨hc2, h⟩ | ⟨hc2, h⟩
    ·
      refine WP.icmpY (pc' := 19) d37_9 (XT.ii_lt_t hc2) (by decide) rfl ?_
      refine WP.iloadN d37_19 rfl ?_
      refine WP.iloadN d37_20 rfl ?_
      refine WP.ishl d37_21 ?_
      refine WP.iloadN d37_22 rfl ?_
      refine WP.aloadN d37_23 rfl ?_
      refine WP.getfield (i := 0) (j := 0) d37_24 (hw _ m_30) rfl rfl rfl ?_
      refine WP.iloadN d37_27 rfl ?_
      refine WP.isub d37_28 ?_
      refine WP.iushr d37_29 ?_
      refine WP.ior d37_30 ?_
      obtain ⟨x3, ex3, h⟩ := lt_e h
      refine WP.istoreN (L' := [.val (.ref 0), .val (.int p1), .val (.int p2), .val (.int x3)]) d37_31 (leb rfl) (by subst ex3; rfl) ?_
      refine WP.iloadN d37_32 rfl ?_
      refine WP.aloadN d37_33 rfl ?_
      refine WP.getfield (i := 0) (j := 3) d37_34 (hw _ m_40) rfl rfl rfl ?_
      refine WP.iand d37_37 ?_
      cases h
      exact WP.ireturn d37_38 rfl (leb rfl) (leb rfl) ⟨rfl, rfl⟩
    ·
      refine WP.icmpN d37_9 (XT.ii_lt_f hc2) ?_
      exact WP.weak (L' := [.val (.ref 0), .val (.int p1), .unset, .unset]) ⟨rfl, rfl, trivial⟩ (ok37_12 l Z a0 hw n0 p1 s _ h)
  ·
    refine WP.ifY (pc' := 12) d37_1 (XT.i0_le_t hc1) (by decide) rfl ?_
    exact WP.weak (L' := [.val (.ref 0), .val (.int p1), .unset, .unset]) ⟨rfl, rfl, trivial⟩ (ok37_12 l Z a0 hw n0 p1 s _ h)
theorem d36_0 : dc prog_1_method_17_code 0 (.iload_n 1) 1 := by decide +kernel
theorem d36_1 : dc prog_1_method_17_code 1 (.aload_n 0) 1 := by decide +kernel
theorem d36_2 : dc prog_1_method_17_code 2 (.getfield 77) 3 := by decide +kernel
theorem d36_5 : dc prog_1_method_17_code 5 (.iand) 1 := by decide +kernel
theorem d36_6 : dc prog_1_method_17_code 6 (.istore_n 2) 1 := by decide +kernel
theorem d36_7 : dc prog_1_method_17_code 7 (.aload_n 0) 1 := by decide +kernel
theorem d36_8 : dc prog_1_method_17_code 8 (.invokevirtual 68) 3 := by decide +kernel
theorem d36_11 : dc prog_1_method_17_code 11 (.istore_n 3) 1 := by decide +kernel
theorem d36_12 : dc prog_1_method_17_code 12 (.iconst 0) 1 := by decide +kernel
theorem d36_13 : dc prog_1_method_17_code 13 (.istore 4) 2 := by decide +kernel
theorem d36_15 : dc prog_1_method_17_code 15 (.iload 4) 2 := by decide +kernel
theorem d36_17 : dc prog_1_method_17_code 17 (.aload_n 0) 1 := by decide +kernel
theorem d36_18 : dc prog_1_method_17_code 18 (.getfield 32) 3 := by decide +kernel
theorem d36_21 : dc prog_1_method_17_code 21 (.if_icmp .ge 56) 3 := by decide +kernel
theorem d36_24 : dc prog_1_method_17_code 24 (.aload_n 0) 1 := by decide +kernel
theorem d36_25 : dc prog_1_method_17_code 25 (.iload_n 2) 1 := by decide +kernel
theorem d36_26 : dc prog_1_method_17_code 26 (.iload 4) 2 := by decide +kernel
theorem d36_28 : dc prog_1_method_17_code 28 (.invokevirtual 80) 3 := by decide +kernel
theorem d36_31 : dc prog_1_method_17_code 31 (.istore 5) 2 := by decide +kernel
theorem d36_33 : dc prog_1_method_17_code 33 (.aload_n 0) 1 := by decide +kernel
theorem d36_34 : dc prog_1_method_17_code 34 (.iload 5) 2 := by decide +kernel
theorem d36_36 : dc prog_1_method_17_code 36 (.invokevirtual 74) 3 := by decide +kernel
theorem d36_39 : dc prog_1_method_17_code 39 (.istore 6) 2 := by decide +kernel
theorem d36_41 : dc prog_1_method_17_code 41 (.aload_n 0) 1 := by decide +kernel
theorem d36_42 : dc prog_1_method_17_code 42 (.iload 6) 2 := by decide +kernel
theorem d36_44 : dc prog_1_method_17_code 44 (.invokevirtual 84) 3 := by decide +kernel
theorem d36_47 : dc prog_1_method_17_code 47 (.iload_n 3) 1 := by decide +kernel
theorem d36_48 : dc prog_1_method_17_code 48 (.if_icmp .gt 23) 3 := by decide +kernel
theorem d36_51 : dc prog_1_method_17_code 51 (.aload_n 0) 1 := by decide +kernel
theorem d36_52 : dc prog_1_method_17_code 52 (.iload 6) 2 := by decide +kernel
theorem d36_54 : dc prog_1_method_17_code 54 (.aload_n 0) 1 := by decide +kernel
theorem d36_55 : dc prog_1_method_17_code 55 (.getfield 32) 3 := by decide +kernel
theorem d36_58 : dc prog_1_method_17_code 58 (.iload 4) 2 := by decide +kernel
theorem d36_60 : dc prog_1_method_17_code 60 (.isub) 1 := by decide +kernel
theorem d36_61 : dc prog_1_method_17_code 61 (.invokevirtual 80) 3 := by decide +kernel
theorem d36_64 : dc prog_1_method_17_code 64 (.istore 7) 2 := by decide +kernel
theorem d36_66 : dc prog_1_method_17_code 66 (.iload_n 2) 1 := by decide +kernel
theorem d36_67 : dc prog_1_method_17_code 67 (.iload 7) 2 := by decide +kernel
theorem d36_69 : dc prog_1_method_17_code 69 (.ixor) 1 := by decide +kernel
theorem d36_70 : dc prog_1_method_17_code 70 (.ireturn) 1 := by decide +kernel
theorem d36_71 : dc prog_1_method_17_code 71 (.iinc 4 1) 3 := by decide +kernel
theorem d36_74 : dc prog_1_method_17_code 74 (.goto (-59)) 3 := by decide +kernel
theorem d36_77 : dc prog_1_method_17_code 77 (.iconst (-1)) 1 := by decide +kernel
theorem d36_78 : dc prog_1_method_17_code 78 (.ireturn) 1 := by decide +kernel
abbrev y36 : MethodName := ⟨"CyclicCodeLab", "decode", "(I)I"⟩
theorem hy36 : y36.cls ≠ "java/lang/invoke/MethodHandle" ∧ y36.cls ≠ "java/lang/invoke/VarHandle" := by decide
theorem pd36 : parseMethodDescriptor y36.desc = some ⟨[.int], some .int⟩ := by decide +kernel
abbrev R36 : Room := { frames := 1, cells := 0, slots := 0, locals := 16 }
abbrev P36 (s : St) (r : Int32) : Option Value → List OwnC → Prop := fun v H' => v = some (.int r) ∧ H' = (Hb 0 s)
abbrev W36 (l : Launch) (Z : State) (n0 : Nat) (Q : Option Value → List OwnC → Prop) (k n pc : Nat) (L : List Slot) (S : List Value) (H : List OwnC) : Prop := WP l Z CN lay "CyclicCodeLab" "decode" prog_1_method_17_code 8 (some FieldType.int) R36 n0 0 Q k n pc L S H
def g_decode_15 (k15 : Int32 → Int32 → Int32 → St → Option (Int32)) (n : Nat) (v2 : Int32) (v3 : Int32) (v4 : Int32) (s : St) : Option (Int32) :=
  if v4 < (gI s 0) then
    (f_rotate v2 v4 s).bind fun c2 =>
    (f_polyMod n c2 s).bind fun c3 =>
    (f_popcount n c3 s).bind fun c4 =>
    if v3 < c4 then
      lt (v4 + (1 : Int32)) fun x6 =>
      k15 v2 v3 x6 s
    else
      (f_rotate c3 ((gI s 0) - v4) s).bind fun c7 =>
      some (v2 ^^^ c7)
  else
    some (-1 : Int32)
set_option maxRecDepth 65536 in
set_option maxHeartbeats 4000000 in
theorem okg36_15 (l : Launch) (Z : State) (a0 : Array Value) (hw : HW a0 Z) (n0 : Nat) (k15 : Int32 → Int32 → Int32 → St → Option (Int32)) (hk15 : ∀ (v2 : Int32) (v3 : Int32) (v4 : Int32) (s : St) (r : Int32), k15 v2 v3 v4 s = some r → W36 l Z n0 (P36 s r) 0 0 15 [.val (.ref 0), .unset, .val (.int v2), .val (.int v3), .val (.int v4), .unset, .unset, .unset] [] (Hb 0 s)) (n : Nat) (v2 : Int32) (v3 : Int32) (v4 : Int32) (s : St) (r : Int32) (h : g_decode_15 k15 n v2 v3 v4 s = some r) : W36 l Z n0 (P36 s r) 0 0 15 [.val (.ref 0), .unset, .val (.int v2), .val (.int v3), .val (.int v4), .unset, .unset, .unset] [] (Hb 0 s) := by
  unfold g_decode_15 at h
  refine WP.iload d36_15 rfl ?_
  refine WP.aloadN d36_17 rfl ?_
  refine WP.getfield (i := 0) (j := 0) d36_18 (hw _ m_30) rfl rfl rfl ?_
  rcases ite_e h with ⟨hc1, h⟩ | ⟨hc1, h⟩
  ·
    refine WP.icmpN d36_21 (XT.ii_ge_f hc1) ?_
    refine WP.aloadN d36_24 rfl ?_
    refine WP.iloadN d36_25 rfl ?_
    refine WP.iload d36_26 rfl ?_
    obtain ⟨c2, hc2, h⟩ := Option.bind_eq_some_iff.mp h
    refine WP.callP (i := 0) (y := y37) (as := [.int v2, .int v4]) (S := []) d36_28 (hw _ m_190) (hw _ m_192) (hw _ m_1) (hw _ m_191) (hw _ m_193) (hw _ m_2) hy37 rfl (ok37 l Z a0 hw v2 v4 s _ hc2) rfl (lenOf pd37 rfl) (leb rfl) (leb rfl) (leb rfl) (leb rfl) ?_
    rintro _ _ ⟨rfl, rfl⟩
    show W36 l Z n0 (P36 s r) 0 0 31 [.val (.ref 0), .unset, .val (.int v2), .val (.int v3), .val (.int v4), .unset, .unset, .unset] [.int c2] (Hb 0 s)
    refine WP.istore (L' := [.val (.ref 0), .unset, .val (.int v2), .val (.int v3), .val (.int v4), .val (.int c2), .unset, .unset]) d36_31 (leb rfl) rfl ?_
    refine WP.aloadN d36_33 rfl ?_
    refine WP.iload d36_34 rfl ?_
    obtain ⟨c3, hc3, h⟩ := Option.bind_eq_some_iff.mp h
    refine WP.callP (i := 0) (y := y33) (as := [.int c2]) (S := []) d36_36 (hw _ m_172) (hw _ m_174) (hw _ m_1) (hw _ m_173) (hw _ m_175) (hw _ m_2) hy33 rfl (ok33 l Z a0 hw n c2 s _ hc3) rfl (lenOf pd33 rfl) (leb rfl) (leb rfl) (leb rfl) (leb rfl) ?_
    rintro _ _ ⟨rfl, rfl⟩
    show W36 l Z n0 (P36 s r) 0 0 39 [.val (.ref 0), .unset, .val (.int v2), .val (.int v3), .val (.int v4), .val (.int c2), .unset, .unset] [.int c3] (Hb 0 s)
    refine WP.istore (L' := [.val (.ref 0), .unset, .val (.int v2), .val (.int v3), .val (.int v4), .val (.int c2), .val (.int c3), .unset]) d36_39 (leb rfl) rfl ?_
    refine WP.aloadN d36_41 rfl ?_
    refine WP.iload d36_42 rfl ?_
    obtain ⟨c4, hc4, h⟩ := Option.bind_eq_some_iff.mp h
    refine WP.callP (i := 0) (y := y15) (as := [.int c3]) (S := []) d36_44 (hw _ m_88) (hw _ m_90) (hw _ m_1) (hw _ m_89) (hw _ m_91) (hw _ m_2) hy15 rfl (ok15 l Z a0 hw n c3 s _ hc4) rfl (lenOf pd15 rfl) (leb rfl) (leb rfl) (leb rfl) (leb rfl) ?_
    rintro _ _ ⟨rfl, rfl⟩
    show W36 l Z n0 (P36 s r) 0 0 47 [.val (.ref 0), .unset, .val (.int v2), .val (.int v3), .val (.int v4), .val (.int c2), .val (.int c3), .unset] [.int c4] (Hb 0 s)
    refine WP.iloadN d36_47 rfl ?_
    rcases ite_e h with ⟨hc5, h⟩ | ⟨hc5, h⟩
    ·
      refine WP.icmpY (pc' := 71) d36_48 (XT.ii_gt_t hc5) (by decide) rfl ?_
      obtain ⟨x6, ex6, h⟩ := lt_e h
      refine WP.iinc (L' := [.val (.ref 0), .unset, .val (.int v2), .val (.int v3), .val (.int x6), .val (.int c2), .val (.int c3), .unset]) (1 : Int32) d36_71 rfl rfl (by subst ex6; rfl) ?_
      refine WP.goto (pc' := 15) d36_74 (by decide) rfl ?_
      exact WP.weak (L' := [.val (.ref 0), .unset, .val (.int v2), .val (.int v3), .val (.int x6), .unset, .unset, .unset]) ⟨rfl, rfl, rfl, rfl, trivial⟩ (hk15 v2 v3 x6 s _ h)
    ·
      refine WP.icmpN d36_48 (XT.ii_gt_f hc5) ?_
      refine WP.aloadN d36_51 rfl ?_
      refine WP.iload d36_52 rfl ?_
      refine WP.aloadN d36_54 rfl ?_
      refine WP.getfield (i := 0) (j := 0) d36_55 (hw _ m_30) rfl rfl rfl ?_
      refine WP.iload d36_58 rfl ?_
      refine WP.isub d36_60 ?_
      obtain ⟨c7, hc7, h⟩ := Option.bind_eq_some_iff.mp h
      refine WP.callP (i := 0) (y := y37) (as := [.int c3, .int ((gI s 0) - v4)]) (S := []) d36_61 (hw _ m_190) (hw _ m_192) (hw _ m_1) (hw _ m_191) (hw _ m_193) (hw _ m_2) hy37 rfl (ok37 l Z a0 hw c3 ((gI s 0) - v4) s _ hc7) rfl (lenOf pd37 rfl) (leb rfl) (leb rfl) (leb rfl) (leb rfl) ?_
      rintro _ _ ⟨rfl, rfl⟩
      show W36 l Z n0 (P36 s r) 0 0 64 [.val (.ref 0), .unset, .val (.int v2), .val (.int v3), .val (.int v4), .val (.int c2), .val (.int c3), .unset] [.int c7] (Hb 0 s)
      refine WP.istore (L' := [.val (.ref 0), .unset, .val (.int v2), .val (.int v3), .val (.int v4), .val (.int c2), .val (.int c3), .val (.int c7)]) d36_64 (leb rfl) rfl ?_
      refine WP.iloadN d36_66 rfl ?_
      refine WP.iload d36_67 rfl ?_
      refine WP.ixor d36_69 ?_
      cases h
      exact WP.ireturn d36_70 rfl (leb rfl) (leb rfl) ⟨rfl, rfl⟩
  ·
    refine WP.icmpY (pc' := 77) d36_21 (XT.ii_ge_t hc1) (by decide) rfl ?_
    refine WP.iconst (-1 : Int32) d36_77 rfl ?_
    cases h
    exact WP.ireturn d36_78 rfl (leb rfl) (leb rfl) ⟨rfl, rfl⟩
def f_decode_15 : Nat → Int32 → Int32 → Int32 → St → Option (Int32)
  | 0 => fun _ _ _ _ => none
  | n + 1 => g_decode_15 (f_decode_15 n) n
theorem ok36_15 (l : Launch) (Z : State) (a0 : Array Value) (hw : HW a0 Z) (n0 : Nat) : ∀ (n : Nat) (v2 : Int32) (v3 : Int32) (v4 : Int32) (s : St) (r : Int32), f_decode_15 n v2 v3 v4 s = some r → W36 l Z n0 (P36 s r) 0 0 15 [.val (.ref 0), .unset, .val (.int v2), .val (.int v3), .val (.int v4), .unset, .unset, .unset] [] (Hb 0 s)
  | 0, v2, v3, v4, s, r, h => nomatch (show none = some r from h)
  | n + 1, v2, v3, v4, s, r, h => okg36_15 l Z a0 hw n0 _ (ok36_15 l Z a0 hw n0 n) n v2 v3 v4 s r h
def f_decode (n : Nat) (p1 : Int32) (s : St) : Option (Int32) :=
  lt (p1 &&& (gI s 3)) fun x1 =>
  (f_radius s).bind fun c2 =>
  f_decode_15 n x1 c2 (0 : Int32) s
set_option maxRecDepth 65536 in
set_option maxHeartbeats 4000000 in
theorem ok36 (l : Launch) (Z : State) (a0 : Array Value) (hw : HW a0 Z) (n : Nat) (p1 : Int32) (s : St) (r : Int32) (h : f_decode n p1 s = some r) : CS l Z CN lay y36 prog_1_method_17_code 8 (some FieldType.int) R36 0 [.ref 0, .int p1] (Hb 0 s) (P36 s r) := by
  refine CS.of_wp pn_cls (leb rfl) fun n0 => ?_
  show W36 l Z n0 (P36 s r) 0 0 0 [.val (.ref 0), .val (.int p1), .unset, .unset, .unset, .unset, .unset, .unset] [] (Hb 0 s)
  unfold f_decode at h
  refine WP.iloadN d36_0 rfl ?_
  refine WP.aloadN d36_1 rfl ?_
  refine WP.getfield (i := 0) (j := 3) d36_2 (hw _ m_40) rfl rfl rfl ?_
  refine WP.iand d36_5 ?_
  obtain ⟨x1, ex1, h⟩ := lt_e h
  refine WP.istoreN (L' := [.val (.ref 0), .val (.int p1), .val (.int x1), .unset, .unset, .unset, .unset, .unset]) d36_6 (leb rfl) (by subst ex1; rfl) ?_
  refine WP.aloadN d36_7 rfl ?_
  obtain ⟨c2, hc2, h⟩ := Option.bind_eq_some_iff.mp h
  refine WP.callP (i := 0) (y := y30) (as := []) (S := []) d36_8 (hw _ m_160) (hw _ m_162) (hw _ m_1) (hw _ m_161) (hw _ m_163) (hw _ m_2) hy30 rfl (ok30 l Z a0 hw s _ hc2) rfl (lenOf pd30 rfl) (leb rfl) (leb rfl) (leb rfl) (leb rfl) ?_
  rintro _ _ ⟨rfl, rfl⟩
  show W36 l Z n0 (P36 s r) 0 0 11 [.val (.ref 0), .val (.int p1), .val (.int x1), .unset, .unset, .unset, .unset, .unset] [.int c2] (Hb 0 s)
  refine WP.istoreN (L' := [.val (.ref 0), .val (.int p1), .val (.int x1), .val (.int c2), .unset, .unset, .unset, .unset]) d36_11 (leb rfl) rfl ?_
  refine WP.iconst (0 : Int32) d36_12 rfl ?_
  refine WP.istore (L' := [.val (.ref 0), .val (.int p1), .val (.int x1), .val (.int c2), .val (.int (0 : Int32)), .unset, .unset, .unset]) d36_13 (leb rfl) rfl ?_
  exact WP.weak (L' := [.val (.ref 0), .unset, .val (.int x1), .val (.int c2), .val (.int (0 : Int32)), .unset, .unset, .unset]) ⟨rfl, rfl, rfl, rfl, trivial⟩ (ok36_15 l Z a0 hw n0 n x1 c2 (0 : Int32) s _ h)
def fr0_f : List Nat := [1, 2, 3, 4, 5, 6, 7]
theorem fr0_c (x0 : List Int32) (x1 : St) : fr0_f.map (fun i => ([cI x0] ++ Hb 1 x1)[i]?) = (Hb 0 x1).map (fun c => some (rnC (ro1 fr0_f ([cI x0] ++ Hb 1 x1).length) c)) := rfl
theorem fr0_l (x0 : List Int32) (x1 : St) : ∀ x ∈ fr0_f, x < ([cI x0] ++ Hb 1 x1).length := by show ∀ x ∈ fr0_f, x < 8; decide
theorem fr0_p (x0 : List Int32) (x1 : St) (y1 : St) : patch (ro1 fr0_f ([cI x0] ++ Hb 1 x1).length) fr0_f (Hb 0 y1) ([cI x0] ++ Hb 1 x1) = ([cI x0] ++ Hb 1 y1) := rfl
def fr1_f : List Nat := [0]
theorem fr1_c (x0 : List Int32) (x1 : St) : fr1_f.map (fun i => ([cI x0] ++ Hb 1 x1)[i]?) = ([cI x0]).map (fun c => some (rnC (ro1 fr1_f ([cI x0] ++ Hb 1 x1).length) c)) := rfl
theorem fr1_l (x0 : List Int32) (x1 : St) : ∀ x ∈ fr1_f, x < ([cI x0] ++ Hb 1 x1).length := by show ∀ x ∈ fr1_f, x < 8; decide
theorem fr1_p (x0 : List Int32) (x1 : St) : patch (ro1 fr1_f ([cI x0] ++ Hb 1 x1).length) fr1_f ([cI x0]) ([cI x0] ++ Hb 1 x1) = ([cI x0] ++ Hb 1 x1) := rfl
def fr2_f : List Nat := []
theorem fr2_c (x0 : List Int32) (x1 : St) : fr2_f.map (fun i => ([cI x0] ++ Hb 1 x1)[i]?) = ([] : List OwnC).map (fun c => some (rnC (ro1 fr2_f ([cI x0] ++ Hb 1 x1).length) c)) := rfl
theorem fr2_l (x0 : List Int32) (x1 : St) : ∀ x ∈ fr2_f, x < ([cI x0] ++ Hb 1 x1).length := by show ∀ x ∈ fr2_f, x < 8; decide
theorem fr2_p (x0 : List Int32) (x1 : St) : patch (ro1 fr2_f ([cI x0] ++ Hb 1 x1).length) fr2_f ([] : List OwnC) ([cI x0] ++ Hb 1 x1) = ([cI x0] ++ Hb 1 x1) := rfl
theorem d19_0 : dc method_7_code 0 (.aload_n 0) 1 := by decide +kernel
theorem d19_1 : dc method_7_code 1 (.invokevirtual 14) 3 := by decide +kernel
theorem d19_4 : dc method_7_code 4 (.istore_n 3) 1 := by decide +kernel
theorem d19_5 : dc method_7_code 5 (.aload_n 0) 1 := by decide +kernel
theorem d19_6 : dc method_7_code 6 (.invokevirtual 20) 3 := by decide +kernel
theorem d19_9 : dc method_7_code 9 (.istore 4) 2 := by decide +kernel
theorem d19_11 : dc method_7_code 11 (.iload_n 3) 1 := by decide +kernel
theorem d19_12 : dc method_7_code 12 (.iconst 3) 1 := by decide +kernel
theorem d19_13 : dc method_7_code 13 (.if_icmp .lt 20) 3 := by decide +kernel
theorem d19_16 : dc method_7_code 16 (.iload_n 3) 1 := by decide +kernel
theorem d19_17 : dc method_7_code 17 (.bipush 31) 2 := by decide +kernel
theorem d19_19 : dc method_7_code 19 (.if_icmp .gt 14) 3 := by decide +kernel
theorem d19_22 : dc method_7_code 22 (.iload 4) 2 := by decide +kernel
theorem d19_24 : dc method_7_code 24 (.ifCond .lt 9) 3 := by decide +kernel
theorem d19_27 : dc method_7_code 27 (.iload 4) 2 := by decide +kernel
theorem d19_29 : dc method_7_code 29 (.iload_n 3) 1 := by decide +kernel
theorem d19_30 : dc method_7_code 30 (.if_icmp .le 5) 3 := by decide +kernel
theorem d19_33 : dc method_7_code 33 (.iconst 0) 1 := by decide +kernel
theorem d19_34 : dc method_7_code 34 (.ireturn) 1 := by decide +kernel
theorem d19_35 : dc method_7_code 35 (.aload_n 0) 1 := by decide +kernel
theorem d19_36 : dc method_7_code 36 (.invokevirtual 23) 3 := by decide +kernel
theorem d19_39 : dc method_7_code 39 (.i2l) 1 := by decide +kernel
theorem d19_40 : dc method_7_code 40 (.ldc2_w 26) 3 := by decide +kernel
theorem d19_43 : dc method_7_code 43 (.land) 1 := by decide +kernel
theorem d19_44 : dc method_7_code 44 (.lstore 5) 2 := by decide +kernel
theorem d19_46 : dc method_7_code 46 (.lload 5) 2 := by decide +kernel
theorem d19_48 : dc method_7_code 48 (.lconst 0) 1 := by decide +kernel
theorem d19_49 : dc method_7_code 49 (.lcmp) 1 := by decide +kernel
theorem d19_50 : dc method_7_code 50 (.ifCond .ne 5) 3 := by decide +kernel
theorem d19_53 : dc method_7_code 53 (.iconst 0) 1 := by decide +kernel
theorem d19_54 : dc method_7_code 54 (.ireturn) 1 := by decide +kernel
theorem d19_55 : dc method_7_code 55 (.lload 5) 2 := by decide +kernel
theorem d19_57 : dc method_7_code 57 (.invokestatic 8) 3 := by decide +kernel
theorem d19_60 : dc method_7_code 60 (.iload_n 3) 1 := by decide +kernel
theorem d19_61 : dc method_7_code 61 (.iload 4) 2 := by decide +kernel
theorem d19_63 : dc method_7_code 63 (.isub) 1 := by decide +kernel
theorem d19_64 : dc method_7_code 64 (.if_icmp .eq 5) 3 := by decide +kernel
theorem d19_67 : dc method_7_code 67 (.iconst 0) 1 := by decide +kernel
theorem d19_68 : dc method_7_code 68 (.ireturn) 1 := by decide +kernel
theorem d19_69 : dc method_7_code 69 (.lconst 1) 1 := by decide +kernel
theorem d19_70 : dc method_7_code 70 (.iload_n 3) 1 := by decide +kernel
theorem d19_71 : dc method_7_code 71 (.lshl) 1 := by decide +kernel
theorem d19_72 : dc method_7_code 72 (.lconst 1) 1 := by decide +kernel
theorem d19_73 : dc method_7_code 73 (.lor) 1 := by decide +kernel
theorem d19_74 : dc method_7_code 74 (.lload 5) 2 := by decide +kernel
theorem d19_76 : dc method_7_code 76 (.invokestatic 28) 3 := by decide +kernel
theorem d19_79 : dc method_7_code 79 (.lconst 0) 1 := by decide +kernel
theorem d19_80 : dc method_7_code 80 (.lcmp) 1 := by decide +kernel
theorem d19_81 : dc method_7_code 81 (.ifCond .eq 5) 3 := by decide +kernel
theorem d19_84 : dc method_7_code 84 (.iconst 0) 1 := by decide +kernel
theorem d19_85 : dc method_7_code 85 (.ireturn) 1 := by decide +kernel
theorem d19_86 : dc method_7_code 86 (.aload_n 0) 1 := by decide +kernel
theorem d19_87 : dc method_7_code 87 (.invokevirtual 32) 3 := by decide +kernel
theorem d19_90 : dc method_7_code 90 (.istore 7) 2 := by decide +kernel
theorem d19_92 : dc method_7_code 92 (.iload 7) 2 := by decide +kernel
theorem d19_94 : dc method_7_code 94 (.iconst (-1)) 1 := by decide +kernel
theorem d19_95 : dc method_7_code 95 (.if_icmp .eq 14) 3 := by decide +kernel
theorem d19_98 : dc method_7_code 98 (.iload 7) 2 := by decide +kernel
theorem d19_100 : dc method_7_code 100 (.aload_n 0) 1 := by decide +kernel
theorem d19_101 : dc method_7_code 101 (.invokevirtual 35) 3 := by decide +kernel
theorem d19_104 : dc method_7_code 104 (.if_icmp .ge 5) 3 := by decide +kernel
theorem d19_107 : dc method_7_code 107 (.iconst 0) 1 := by decide +kernel
theorem d19_108 : dc method_7_code 108 (.ireturn) 1 := by decide +kernel
theorem d19_109 : dc method_7_code 109 (.aload_n 0) 1 := by decide +kernel
theorem d19_110 : dc method_7_code 110 (.invokevirtual 38) 3 := by decide +kernel
theorem d19_113 : dc method_7_code 113 (.istore 8) 2 := by decide +kernel
theorem d19_115 : dc method_7_code 115 (.iload 8) 2 := by decide +kernel
theorem d19_117 : dc method_7_code 117 (.ifCond .ge 5) 3 := by decide +kernel
theorem d19_120 : dc method_7_code 120 (.iconst 0) 1 := by decide +kernel
theorem d19_121 : dc method_7_code 121 (.ireturn) 1 := by decide +kernel
theorem d19_122 : dc method_7_code 122 (.iconst 0) 1 := by decide +kernel
theorem d19_123 : dc method_7_code 123 (.istore 9) 2 := by decide +kernel
theorem d19_125 : dc method_7_code 125 (.iload 9) 2 := by decide +kernel
theorem d19_127 : dc method_7_code 127 (.iconst 2) 1 := by decide +kernel
theorem d19_128 : dc method_7_code 128 (.if_icmp .ge 178) 3 := by decide +kernel
theorem d19_131 : dc method_7_code 131 (.iload_n 2) 1 := by decide +kernel
theorem d19_132 : dc method_7_code 132 (.bipush 10) 2 := by decide +kernel
theorem d19_134 : dc method_7_code 134 (.iload 9) 2 := by decide +kernel
theorem d19_136 : dc method_7_code 136 (.imul) 1 := by decide +kernel
theorem d19_137 : dc method_7_code 137 (.iadd) 1 := by decide +kernel
theorem d19_138 : dc method_7_code 138 (.istore 10) 2 := by decide +kernel
theorem d19_140 : dc method_7_code 140 (.iload 9) 2 := by decide +kernel
theorem d19_142 : dc method_7_code 142 (.ifCond .ne 12) 3 := by decide +kernel
theorem d19_145 : dc method_7_code 145 (.aload_n 1) 1 := by decide +kernel
theorem d19_146 : dc method_7_code 146 (.iload 10) 2 := by decide +kernel
theorem d19_148 : dc method_7_code 148 (.invokestatic 41) 3 := by decide +kernel
theorem d19_151 : dc method_7_code 151 (.goto 12) 3 := by decide +kernel
theorem d19_154 : dc method_7_code 154 (.aload_n 1) 1 := by decide +kernel
theorem d19_155 : dc method_7_code 155 (.iload 10) 2 := by decide +kernel
theorem d19_157 : dc method_7_code 157 (.invokestatic 41) 3 := by decide +kernel
theorem d19_160 : dc method_7_code 160 (.ldc 45) 2 := by decide +kernel
theorem d19_162 : dc method_7_code 162 (.imul) 1 := by decide +kernel
theorem d19_163 : dc method_7_code 163 (.istore 11) 2 := by decide +kernel
theorem d19_165 : dc method_7_code 165 (.aload_n 0) 1 := by decide +kernel
theorem d19_166 : dc method_7_code 166 (.iload 11) 2 := by decide +kernel
theorem d19_168 : dc method_7_code 168 (.invokevirtual 46) 3 := by decide +kernel
theorem d19_171 : dc method_7_code 171 (.istore 12) 2 := by decide +kernel
theorem d19_173 : dc method_7_code 173 (.aload_n 0) 1 := by decide +kernel
theorem d19_174 : dc method_7_code 174 (.iload 12) 2 := by decide +kernel
theorem d19_176 : dc method_7_code 176 (.invokevirtual 50) 3 := by decide +kernel
theorem d19_179 : dc method_7_code 179 (.ifCond .eq 5) 3 := by decide +kernel
theorem d19_182 : dc method_7_code 182 (.iconst 0) 1 := by decide +kernel
theorem d19_183 : dc method_7_code 183 (.ireturn) 1 := by decide +kernel
theorem d19_184 : dc method_7_code 184 (.iconst 1) 1 := by decide +kernel
theorem d19_185 : dc method_7_code 185 (.iload 4) 2 := by decide +kernel
theorem d19_187 : dc method_7_code 187 (.ishl) 1 := by decide +kernel
theorem d19_188 : dc method_7_code 188 (.iconst 1) 1 := by decide +kernel
theorem d19_189 : dc method_7_code 189 (.isub) 1 := by decide +kernel
theorem d19_190 : dc method_7_code 190 (.istore 13) 2 := by decide +kernel
theorem d19_192 : dc method_7_code 192 (.iload 4) 2 := by decide +kernel
theorem d19_194 : dc method_7_code 194 (.ifCond .ne 6) 3 := by decide +kernel
theorem d19_197 : dc method_7_code 197 (.iconst 0) 1 := by decide +kernel
theorem d19_198 : dc method_7_code 198 (.istore 13) 2 := by decide +kernel
theorem d19_200 : dc method_7_code 200 (.iload 12) 2 := by decide +kernel
theorem d19_202 : dc method_7_code 202 (.iload_n 3) 1 := by decide +kernel
theorem d19_203 : dc method_7_code 203 (.iload 4) 2 := by decide +kernel
theorem d19_205 : dc method_7_code 205 (.isub) 1 := by decide +kernel
theorem d19_206 : dc method_7_code 206 (.iushr) 1 := by decide +kernel
theorem d19_207 : dc method_7_code 207 (.iload 11) 2 := by decide +kernel
theorem d19_209 : dc method_7_code 209 (.iload 13) 2 := by decide +kernel
theorem d19_211 : dc method_7_code 211 (.iand) 1 := by decide +kernel
theorem d19_212 : dc method_7_code 212 (.if_icmp .eq 5) 3 := by decide +kernel
theorem d19_215 : dc method_7_code 215 (.iconst 0) 1 := by decide +kernel
theorem d19_216 : dc method_7_code 216 (.ireturn) 1 := by decide +kernel
theorem d19_217 : dc method_7_code 217 (.aload_n 1) 1 := by decide +kernel
theorem d19_218 : dc method_7_code 218 (.iload 10) 2 := by decide +kernel
theorem d19_220 : dc method_7_code 220 (.iconst 1) 1 := by decide +kernel
theorem d19_221 : dc method_7_code 221 (.iadd) 1 := by decide +kernel
theorem d19_222 : dc method_7_code 222 (.invokestatic 41) 3 := by decide +kernel
theorem d19_225 : dc method_7_code 225 (.invokestatic 53) 3 := by decide +kernel
theorem d19_228 : dc method_7_code 228 (.iload 8) 2 := by decide +kernel
theorem d19_230 : dc method_7_code 230 (.iconst 1) 1 := by decide +kernel
theorem d19_231 : dc method_7_code 231 (.iadd) 1 := by decide +kernel
theorem d19_232 : dc method_7_code 232 (.irem) 1 := by decide +kernel
theorem d19_233 : dc method_7_code 233 (.istore 14) 2 := by decide +kernel
theorem d19_235 : dc method_7_code 235 (.iconst 0) 1 := by decide +kernel
theorem d19_236 : dc method_7_code 236 (.istore 15) 2 := by decide +kernel
theorem d19_238 : dc method_7_code 238 (.iconst 0) 1 := by decide +kernel
theorem d19_239 : dc method_7_code 239 (.istore 16) 2 := by decide +kernel
theorem d19_241 : dc method_7_code 241 (.iload 16) 2 := by decide +kernel
theorem d19_243 : dc method_7_code 243 (.iload 14) 2 := by decide +kernel
theorem d19_245 : dc method_7_code 245 (.if_icmp .ge 39) 3 := by decide +kernel
theorem d19_248 : dc method_7_code 248 (.iload 16) 2 := by decide +kernel
theorem d19_250 : dc method_7_code 250 (.bipush 32) 2 := by decide +kernel
theorem d19_252 : dc method_7_code 252 (.if_icmp .ge 32) 3 := by decide +kernel
theorem d19_255 : dc method_7_code 255 (.iload 15) 2 := by decide +kernel
theorem d19_257 : dc method_7_code 257 (.iconst 1) 1 := by decide +kernel
theorem d19_258 : dc method_7_code 258 (.aload_n 1) 1 := by decide +kernel
theorem d19_259 : dc method_7_code 259 (.iload 10) 2 := by decide +kernel
theorem d19_261 : dc method_7_code 261 (.iconst 2) 1 := by decide +kernel
theorem d19_262 : dc method_7_code 262 (.iadd) 1 := by decide +kernel
theorem d19_263 : dc method_7_code 263 (.iload 16) 2 := by decide +kernel
theorem d19_265 : dc method_7_code 265 (.iadd) 1 := by decide +kernel
theorem d19_266 : dc method_7_code 266 (.invokestatic 41) 3 := by decide +kernel
theorem d19_269 : dc method_7_code 269 (.invokestatic 53) 3 := by decide +kernel
theorem d19_272 : dc method_7_code 272 (.iload_n 3) 1 := by decide +kernel
theorem d19_273 : dc method_7_code 273 (.irem) 1 := by decide +kernel
theorem d19_274 : dc method_7_code 274 (.ishl) 1 := by decide +kernel
theorem d19_275 : dc method_7_code 275 (.ixor) 1 := by decide +kernel
theorem d19_276 : dc method_7_code 276 (.istore 15) 2 := by decide +kernel
theorem d19_278 : dc method_7_code 278 (.iinc 16 1) 3 := by decide +kernel
theorem d19_281 : dc method_7_code 281 (.goto (-40)) 3 := by decide +kernel
theorem d19_284 : dc method_7_code 284 (.aload_n 0) 1 := by decide +kernel
theorem d19_285 : dc method_7_code 285 (.iload 12) 2 := by decide +kernel
theorem d19_287 : dc method_7_code 287 (.iload 15) 2 := by decide +kernel
theorem d19_289 : dc method_7_code 289 (.ixor) 1 := by decide +kernel
theorem d19_290 : dc method_7_code 290 (.invokevirtual 56) 3 := by decide +kernel
theorem d19_293 : dc method_7_code 293 (.iload 12) 2 := by decide +kernel
theorem d19_295 : dc method_7_code 295 (.if_icmp .eq 5) 3 := by decide +kernel
theorem d19_298 : dc method_7_code 298 (.iconst 0) 1 := by decide +kernel
theorem d19_299 : dc method_7_code 299 (.ireturn) 1 := by decide +kernel
theorem d19_300 : dc method_7_code 300 (.iinc 9 1) 3 := by decide +kernel
theorem d19_303 : dc method_7_code 303 (.goto (-178)) 3 := by decide +kernel
theorem d19_306 : dc method_7_code 306 (.iconst 1) 1 := by decide +kernel
theorem d19_307 : dc method_7_code 307 (.ireturn) 1 := by decide +kernel
abbrev y19 : MethodName := ⟨"CyclicCodeLabOwnLaw", "check", "(LCyclicCodeLab;[II)Z"⟩
theorem hy19 : y19.cls ≠ "java/lang/invoke/MethodHandle" ∧ y19.cls ≠ "java/lang/invoke/VarHandle" := by decide
theorem pd19 : parseMethodDescriptor y19.desc = some ⟨[.object "CyclicCodeLab", .array .int, .int], some .boolean⟩ := by decide +kernel
abbrev R19 : Room := { frames := 3, cells := 0, slots := 0, locals := 48 }
abbrev P19 (a : List Int32) (s : St) (r : Int32) : Option Value → List OwnC → Prop := fun v H' => v = some (.int r) ∧ H' = ([cI a] ++ Hb 1 s)
abbrev W19 (l : Launch) (Z : State) (n0 : Nat) (Q : Option Value → List OwnC → Prop) (k n pc : Nat) (L : List Slot) (S : List Value) (H : List OwnC) : Prop := WP l Z CN lay "CyclicCodeLabOwnLaw" "check" method_7_code 17 (some FieldType.boolean) R19 n0 1 Q k n pc L S H
def f_L_check_33 (n : Nat) (a : List Int32) (s : St) : Option (Int32) :=
  some (0 : Int32)
set_option maxRecDepth 65536 in
set_option maxHeartbeats 4000000 in
theorem ok19_33 (l : Launch) (Z : State) (a0 : Array Value) (hw : HW a0 Z) (n0 : Nat) (n : Nat) (a : List Int32) (s : St) (r : Int32) (h : f_L_check_33 n a s = some r) : W19 l Z n0 (P19 a s r) 0 0 33 [.unset, .unset, .unset, .unset, .unset, .unset, .unset, .unset, .unset, .unset, .unset, .unset, .unset, .unset, .unset, .unset, .unset] [] ([cI a] ++ Hb 1 s) := by
  unfold f_L_check_33 at h
  refine WP.iconst (0 : Int32) d19_33 rfl ?_
  cases h
  exact WP.zreturn d19_34 rfl (leb rfl) (leb rfl) ⟨rfl, rfl⟩
def f_L_check_284 (k125 : Int32 → Int32 → Int32 → Int32 → Int32 → List Int32 → St → Option (Int32)) (n : Nat) (v2 : Int32) (v3 : Int32) (v4 : Int32) (v8 : Int32) (v9 : Int32) (v12 : Int32) (v15 : Int32) (a : List Int32) (s : St) : Option (Int32) :=
  (f_decode n (v12 ^^^ v15) s).bind fun c1 =>
  if c1 = v12 then
    lt (v9 + (1 : Int32)) fun x3 =>
    k125 v2 v3 v4 v8 x3 a s
  else
    some (0 : Int32)
set_option maxRecDepth 65536 in
set_option maxHeartbeats 4000000 in
theorem ok19_284 (l : Launch) (Z : State) (a0 : Array Value) (hw : HW a0 Z) (n0 : Nat) (k125 : Int32 → Int32 → Int32 → Int32 → Int32 → List Int32 → St → Option (Int32)) (hk125 : ∀ (v2 : Int32) (v3 : Int32) (v4 : Int32) (v8 : Int32) (v9 : Int32) (a : List Int32) (s : St) (r : Int32), k125 v2 v3 v4 v8 v9 a s = some r → W19 l Z n0 (P19 a s r) 0 0 125 [.val (.ref 1), .val (.ref 0), .val (.int v2), .val (.int v3), .val (.int v4), .unset, .unset, .unset, .val (.int v8), .val (.int v9), .unset, .unset, .unset, .unset, .unset, .unset, .unset] [] ([cI a] ++ Hb 1 s)) (n : Nat) (v2 : Int32) (v3 : Int32) (v4 : Int32) (v8 : Int32) (v9 : Int32) (v12 : Int32) (v15 : Int32) (a : List Int32) (s : St) (r : Int32) (h : f_L_check_284 k125 n v2 v3 v4 v8 v9 v12 v15 a s = some r) : W19 l Z n0 (P19 a s r) 0 0 284 [.val (.ref 1), .val (.ref 0), .val (.int v2), .val (.int v3), .val (.int v4), .unset, .unset, .unset, .val (.int v8), .val (.int v9), .unset, .unset, .val (.int v12), .unset, .unset, .val (.int v15), .unset] [] ([cI a] ++ Hb 1 s) := by
  unfold f_L_check_284 at h
  refine WP.aloadN d19_284 rfl ?_
  refine WP.iload d19_285 rfl ?_
  refine WP.iload d19_287 rfl ?_
  refine WP.ixor d19_289 ?_
  obtain ⟨c1, hc1, h⟩ := Option.bind_eq_some_iff.mp h
  refine WP.callV (i := 1) (y := y36) (as := [.int (v12 ^^^ v15)]) (S := []) d19_290 (hw _ m_185) (hw _ m_186) (hw _ m_188) (hw _ m_187) (hw _ m_189) (hw _ m_2) hy36 rfl (CS.frame (ro := 1) (H := ([cI a] ++ Hb 1 s)) (as := [.ref 1, .int (v12 ^^^ v15)]) fr0_f (ok36 l Z a0 hw n (v12 ^^^ v15) s _ hc1) rfl (by decide) (fr0_l a s) (fr0_c a s) (by decide) rfl) rfl (lenOf pd36 rfl) (leb rfl) (leb rfl) (leb rfl) (leb rfl) ?_
  rintro _ _ ⟨_, _, ⟨rfl, rfl⟩, rfl, rfl⟩
  rw [fr0_p a s s]
  show W19 l Z n0 (P19 a s r) 0 0 293 [.val (.ref 1), .val (.ref 0), .val (.int v2), .val (.int v3), .val (.int v4), .unset, .unset, .unset, .val (.int v8), .val (.int v9), .unset, .unset, .val (.int v12), .unset, .unset, .val (.int v15), .unset] [.int c1] ([cI a] ++ Hb 1 s)
  refine WP.iload d19_293 rfl ?_
  rcases ite_e h with ⟨hc2, h⟩ | ⟨hc2, h⟩
  ·
    refine WP.icmpY (pc' := 300) d19_295 (XT.ii_eq_t hc2) (by decide) rfl ?_
    obtain ⟨x3, ex3, h⟩ := lt_e h
    refine WP.iinc (L' := [.val (.ref 1), .val (.ref 0), .val (.int v2), .val (.int v3), .val (.int v4), .unset, .unset, .unset, .val (.int v8), .val (.int x3), .unset, .unset, .val (.int v12), .unset, .unset, .val (.int v15), .unset]) (1 : Int32) d19_300 rfl rfl (by subst ex3; rfl) ?_
    refine WP.goto (pc' := 125) d19_303 (by decide) rfl ?_
    exact WP.weak (L' := [.val (.ref 1), .val (.ref 0), .val (.int v2), .val (.int v3), .val (.int v4), .unset, .unset, .unset, .val (.int v8), .val (.int x3), .unset, .unset, .unset, .unset, .unset, .unset, .unset]) ⟨rfl, rfl, rfl, rfl, rfl, rfl, rfl, trivial⟩ (hk125 v2 v3 v4 v8 x3 a s _ h)
  ·
    refine WP.icmpN d19_295 (XT.ii_eq_f hc2) ?_
    refine WP.iconst (0 : Int32) d19_298 rfl ?_
    cases h
    exact WP.zreturn d19_299 rfl (leb rfl) (leb rfl) ⟨rfl, rfl⟩
def g_L_check_241 (k125 : Int32 → Int32 → Int32 → Int32 → Int32 → List Int32 → St → Option (Int32)) (k241 : Int32 → Int32 → Int32 → Int32 → Int32 → Int32 → Int32 → Int32 → Int32 → Int32 → List Int32 → St → Option (Int32)) (n : Nat) (v2 : Int32) (v3 : Int32) (v4 : Int32) (v8 : Int32) (v9 : Int32) (v10 : Int32) (v12 : Int32) (v14 : Int32) (v15 : Int32) (v16 : Int32) (a : List Int32) (s : St) : Option (Int32) :=
  if v16 < v14 then
    if v16 < (32 : Int32) then
      (f_L_cell ((v10 + (2 : Int32)) + v16) a).bind fun c3 =>
      (f_L_nonneg c3).bind fun c4 =>
      if v3 = 0 then none else
      lt (v15 ^^^ ((1 : Int32) <<< ((c4 % v3) &&& 31))) fun x6 =>
      lt (v16 + (1 : Int32)) fun x7 =>
      k241 v2 v3 v4 v8 v9 v10 v12 v14 x6 x7 a s
    else
      f_L_check_284 k125 n v2 v3 v4 v8 v9 v12 v15 a s
  else
    f_L_check_284 k125 n v2 v3 v4 v8 v9 v12 v15 a s
set_option maxRecDepth 65536 in
set_option maxHeartbeats 4000000 in
theorem okg19_241 (l : Launch) (Z : State) (a0 : Array Value) (hw : HW a0 Z) (n0 : Nat) (k125 : Int32 → Int32 → Int32 → Int32 → Int32 → List Int32 → St → Option (Int32)) (hk125 : ∀ (v2 : Int32) (v3 : Int32) (v4 : Int32) (v8 : Int32) (v9 : Int32) (a : List Int32) (s : St) (r : Int32), k125 v2 v3 v4 v8 v9 a s = some r → W19 l Z n0 (P19 a s r) 0 0 125 [.val (.ref 1), .val (.ref 0), .val (.int v2), .val (.int v3), .val (.int v4), .unset, .unset, .unset, .val (.int v8), .val (.int v9), .unset, .unset, .unset, .unset, .unset, .unset, .unset] [] ([cI a] ++ Hb 1 s)) (k241 : Int32 → Int32 → Int32 → Int32 → Int32 → Int32 → Int32 → Int32 → Int32 → Int32 → List Int32 → St → Option (Int32)) (hk241 : ∀ (v2 : Int32) (v3 : Int32) (v4 : Int32) (v8 : Int32) (v9 : Int32) (v10 : Int32) (v12 : Int32) (v14 : Int32) (v15 : Int32) (v16 : Int32) (a : List Int32) (s : St) (r : Int32), k241 v2 v3 v4 v8 v9 v10 v12 v14 v15 v16 a s = some r → W19 l Z n0 (P19 a s r) 0 0 241 [.val (.ref 1), .val (.ref 0), .val (.int v2), .val (.int v3), .val (.int v4), .unset, .unset, .unset, .val (.int v8), .val (.int v9), .val (.int v10), .unset, .val (.int v12), .unset, .val (.int v14), .val (.int v15), .val (.int v16)] [] ([cI a] ++ Hb 1 s)) (n : Nat) (v2 : Int32) (v3 : Int32) (v4 : Int32) (v8 : Int32) (v9 : Int32) (v10 : Int32) (v12 : Int32) (v14 : Int32) (v15 : Int32) (v16 : Int32) (a : List Int32) (s : St) (r : Int32) (h : g_L_check_241 k125 k241 n v2 v3 v4 v8 v9 v10 v12 v14 v15 v16 a s = some r) : W19 l Z n0 (P19 a s r) 0 0 241 [.val (.ref 1), .val (.ref 0), .val (.int v2), .val (.int v3), .val (.int v4), .unset, .unset, .unset, .val (.int v8), .val (.int v9), .val (.int v10), .unset, .val (.int v12), .unset, .val (.int v14), .val (.int v15), .val (.int v16)] [] ([cI a] ++ Hb 1 s) := by
  unfold g_L_check_241 at h
  refine WP.iload d19_241 rfl ?_
  refine WP.iload d19_243 rfl ?_
  rcases ite_e h with ⟨hc1, h⟩ | ⟨hc1, h⟩
  ·
    refine WP.icmpN d19_245 (XT.ii_ge_f hc1) ?_
    refine WP.iload d19_248 rfl ?_
    refine WP.bipush (32 : Int32) d19_250 rfl ?_
    rcases ite_e h with ⟨hc2, h⟩ | ⟨hc2, h⟩
    ·
      refine WP.icmpN d19_252 (XT.ii_ge_f hc2) ?_
      refine WP.iload d19_255 rfl ?_
      refine WP.iconst (1 : Int32) d19_257 rfl ?_
      refine WP.aloadN d19_258 rfl ?_
      refine WP.iload d19_259 rfl ?_
      refine WP.iconst (2 : Int32) d19_261 rfl ?_
      refine WP.iadd d19_262 ?_
      refine WP.iload d19_263 rfl ?_
      refine WP.iadd d19_265 ?_
      obtain ⟨c3, hc3, h⟩ := Option.bind_eq_some_iff.mp h
      refine WP.callS (y := y31) (as := [.ref 0, .int ((v10 + (2 : Int32)) + v16)]) (S := [.int (1 : Int32), .int v15]) d19_266 (hw _ m_164) (hw _ m_165) (hw _ m_112) (hw _ m_166) hy31 (CS.frame (ro := 1) (H := ([cI a] ++ Hb 1 s)) (as := [.ref 0, .int ((v10 + (2 : Int32)) + v16)]) fr1_f (ok31 l Z a0 hw ((v10 + (2 : Int32)) + v16) a _ hc3) rfl (by decide) (fr1_l a s) (fr1_c a s) (by decide) rfl) rfl (lenOf pd31 rfl) (leb rfl) (leb rfl) (leb rfl) (leb rfl) ?_
      rintro _ _ ⟨_, _, ⟨rfl, rfl⟩, rfl, rfl⟩
      rw [fr1_p a s]
      show W19 l Z n0 (P19 a s r) 0 0 269 [.val (.ref 1), .val (.ref 0), .val (.int v2), .val (.int v3), .val (.int v4), .unset, .unset, .unset, .val (.int v8), .val (.int v9), .val (.int v10), .unset, .val (.int v12), .unset, .val (.int v14), .val (.int v15), .val (.int v16)] [.int c3, .int (1 : Int32), .int v15] ([cI a] ++ Hb 1 s)
      obtain ⟨c4, hc4, h⟩ := Option.bind_eq_some_iff.mp h
      refine WP.callS (y := y35) (as := [.int c3]) (S := [.int (1 : Int32), .int v15]) d19_269 (hw _ m_181) (hw _ m_182) (hw _ m_112) (hw _ m_183) hy35 (CS.frame (ro := 1) (H := ([cI a] ++ Hb 1 s)) (as := [.int c3]) fr2_f (ok35 l Z a0 hw c3 _ hc4) rfl (by decide) (fr2_l a s) (fr2_c a s) (by decide) rfl) rfl (lenOf pd35 rfl) (leb rfl) (leb rfl) (leb rfl) (leb rfl) ?_
      rintro _ _ ⟨_, _, ⟨rfl, rfl⟩, rfl, rfl⟩
      rw [fr2_p a s]
      show W19 l Z n0 (P19 a s r) 0 0 272 [.val (.ref 1), .val (.ref 0), .val (.int v2), .val (.int v3), .val (.int v4), .unset, .unset, .unset, .val (.int v8), .val (.int v9), .val (.int v10), .unset, .val (.int v12), .unset, .val (.int v14), .val (.int v15), .val (.int v16)] [.int c4, .int (1 : Int32), .int v15] ([cI a] ++ Hb 1 s)
      refine WP.iloadN d19_272 rfl ?_
      obtain ⟨hz5, h⟩ := nz_e h
      refine WP.irem d19_273 hz5 ?_
      refine WP.ishl d19_274 ?_
      refine WP.ixor d19_275 ?_
      obtain ⟨x6, ex6, h⟩ := lt_e h
      refine WP.istore (L' := [.val (.ref 1), .val (.ref 0), .val (.int v2), .val (.int v3), .val (.int v4), .unset, .unset, .unset, .val (.int v8), .val (.int v9), .val (.int v10), .unset, .val (.int v12), .unset, .val (.int v14), .val (.int x6), .val (.int v16)]) d19_276 (leb rfl) (by subst ex6; rfl) ?_
      obtain ⟨x7, ex7, h⟩ := lt_e h
      refine WP.iinc (L' := [.val (.ref 1), .val (.ref 0), .val (.int v2), .val (.int v3), .val (.int v4), .unset, .unset, .unset, .val (.int v8), .val (.int v9), .val (.int v10), .unset, .val (.int v12), .unset, .val (.int v14), .val (.int x6), .val (.int x7)]) (1 : Int32) d19_278 rfl rfl (by subst ex7; rfl) ?_
      refine WP.goto (pc' := 241) d19_281 (by decide) rfl ?_
      exact WP.weak (L' := [.val (.ref 1), .val (.ref 0), .val (.int v2), .val (.int v3), .val (.int v4), .unset, .unset, .unset, .val (.int v8), .val (.int v9), .val (.int v10), .unset, .val (.int v12), .unset, .val (.int v14), .val (.int x6), .val (.int x7)]) ⟨rfl, rfl, rfl, rfl, rfl, rfl, rfl, rfl, rfl, rfl, rfl, rfl, trivial⟩ (hk241 v2 v3 v4 v8 v9 v10 v12 v14 x6 x7 a s _ h)
    ·
      refine WP.icmpY (pc' := 284) d19_252 (XT.ii_ge_t hc2) (by decide) rfl ?_
      exact WP.weak (L' := [.val (.ref 1), .val (.ref 0), .val (.int v2), .val (.int v3), .val (.int v4), .unset, .unset, .unset, .val (.int v8), .val (.int v9), .unset, .unset, .val (.int v12), .unset, .unset, .val (.int v15), .unset]) ⟨rfl, rfl, rfl, rfl, rfl, rfl, rfl, rfl, rfl, trivial⟩ (ok19_284 l Z a0 hw n0 _ hk125 n v2 v3 v4 v8 v9 v12 v15 a s _ h)
  ·
    refine WP.icmpY (pc' := 284) d19_245 (XT.ii_ge_t hc1) (by decide) rfl ?_
    exact WP.weak (L' := [.val (.ref 1), .val (.ref 0), .val (.int v2), .val (.int v3), .val (.int v4), .unset, .unset, .unset, .val (.int v8), .val (.int v9), .unset, .unset, .val (.int v12), .unset, .unset, .val (.int v15), .unset]) ⟨rfl, rfl, rfl, rfl, rfl, rfl, rfl, rfl, rfl, trivial⟩ (ok19_284 l Z a0 hw n0 _ hk125 n v2 v3 v4 v8 v9 v12 v15 a s _ h)
def f_L_check_241 (k125 : Int32 → Int32 → Int32 → Int32 → Int32 → List Int32 → St → Option (Int32)) : Nat → Int32 → Int32 → Int32 → Int32 → Int32 → Int32 → Int32 → Int32 → Int32 → Int32 → List Int32 → St → Option (Int32)
  | 0 => fun _ _ _ _ _ _ _ _ _ _ _ _ => none
  | n + 1 => g_L_check_241 k125 (f_L_check_241 k125 n) n
theorem ok19_241 (l : Launch) (Z : State) (a0 : Array Value) (hw : HW a0 Z) (n0 : Nat) (k125 : Int32 → Int32 → Int32 → Int32 → Int32 → List Int32 → St → Option (Int32)) (hk125 : ∀ (v2 : Int32) (v3 : Int32) (v4 : Int32) (v8 : Int32) (v9 : Int32) (a : List Int32) (s : St) (r : Int32), k125 v2 v3 v4 v8 v9 a s = some r → W19 l Z n0 (P19 a s r) 0 0 125 [.val (.ref 1), .val (.ref 0), .val (.int v2), .val (.int v3), .val (.int v4), .unset, .unset, .unset, .val (.int v8), .val (.int v9), .unset, .unset, .unset, .unset, .unset, .unset, .unset] [] ([cI a] ++ Hb 1 s)) : ∀ (n : Nat) (v2 : Int32) (v3 : Int32) (v4 : Int32) (v8 : Int32) (v9 : Int32) (v10 : Int32) (v12 : Int32) (v14 : Int32) (v15 : Int32) (v16 : Int32) (a : List Int32) (s : St) (r : Int32), f_L_check_241 k125 n v2 v3 v4 v8 v9 v10 v12 v14 v15 v16 a s = some r → W19 l Z n0 (P19 a s r) 0 0 241 [.val (.ref 1), .val (.ref 0), .val (.int v2), .val (.int v3), .val (.int v4), .unset, .unset, .unset, .val (.int v8), .val (.int v9), .val (.int v10), .unset, .val (.int v12), .unset, .val (.int v14), .val (.int v15), .val (.int v16)] [] ([cI a] ++ Hb 1 s)
  | 0, v2, v3, v4, v8, v9, v10, v12, v14, v15, v16, a, s, r, h => nomatch (show none = some r from h)
  | n + 1, v2, v3, v4, v8, v9, v10, v12, v14, v15, v16, a, s, r, h => okg19_241 l Z a0 hw n0 _ hk125 _ (ok19_241 l Z a0 hw n0 k125 hk125 n) n v2 v3 v4 v8 v9 v10 v12 v14 v15 v16 a s r h
def f_L_check_200 (k125 : Int32 → Int32 → Int32 → Int32 → Int32 → List Int32 → St → Option (Int32)) (n : Nat) (v2 : Int32) (v3 : Int32) (v4 : Int32) (v8 : Int32) (v9 : Int32) (v10 : Int32) (v11 : Int32) (v12 : Int32) (v13 : Int32) (a : List Int32) (s : St) : Option (Int32) :=
  if (XT.ushr v12 (v3 - v4)) = (v11 &&& v13) then
    (f_L_cell (v10 + (1 : Int32)) a).bind fun c2 =>
    (f_L_nonneg c2).bind fun c3 =>
    if v8 + (1 : Int32) = 0 then none else
    lt (c3 % (v8 + (1 : Int32))) fun x5 =>
    f_L_check_241 k125 n v2 v3 v4 v8 v9 v10 v12 x5 (0 : Int32) (0 : Int32) a s
  else
    some (0 : Int32)
set_option maxRecDepth 65536 in
set_option maxHeartbeats 4000000 in
theorem ok19_200 (l : Launch) (Z : State) (a0 : Array Value) (hw : HW a0 Z) (n0 : Nat) (k125 : Int32 → Int32 → Int32 → Int32 → Int32 → List Int32 → St → Option (Int32)) (hk125 : ∀ (v2 : Int32) (v3 : Int32) (v4 : Int32) (v8 : Int32) (v9 : Int32) (a : List Int32) (s : St) (r : Int32), k125 v2 v3 v4 v8 v9 a s = some r → W19 l Z n0 (P19 a s r) 0 0 125 [.val (.ref 1), .val (.ref 0), .val (.int v2), .val (.int v3), .val (.int v4), .unset, .unset, .unset, .val (.int v8), .val (.int v9), .unset, .unset, .unset, .unset, .unset, .unset, .unset] [] ([cI a] ++ Hb 1 s)) (n : Nat) (v2 : Int32) (v3 : Int32) (v4 : Int32) (v8 : Int32) (v9 : Int32) (v10 : Int32) (v11 : Int32) (v12 : Int32) (v13 : Int32) (a : List Int32) (s : St) (r : Int32) (h : f_L_check_200 k125 n v2 v3 v4 v8 v9 v10 v11 v12 v13 a s = some r) : W19 l Z n0 (P19 a s r) 0 0 200 [.val (.ref 1), .val (.ref 0), .val (.int v2), .val (.int v3), .val (.int v4), .unset, .unset, .unset, .val (.int v8), .val (.int v9), .val (.int v10), .val (.int v11), .val (.int v12), .val (.int v13), .unset, .unset, .unset] [] ([cI a] ++ Hb 1 s) := by
  unfold f_L_check_200 at h
  refine WP.iload d19_200 rfl ?_
  refine WP.iloadN d19_202 rfl ?_
  refine WP.iload d19_203 rfl ?_
  refine WP.isub d19_205 ?_
  refine WP.iushr d19_206 ?_
  refine WP.iload d19_207 rfl ?_
  refine WP.iload d19_209 rfl ?_
  refine WP.iand d19_211 ?_
  rcases ite_e h with ⟨hc1, h⟩ | ⟨hc1, h⟩
  ·
    refine WP.icmpY (pc' := 217) d19_212 (XT.ii_eq_t hc1) (by decide) rfl ?_
    refine WP.aloadN d19_217 rfl ?_
    refine WP.iload d19_218 rfl ?_
    refine WP.iconst (1 : Int32) d19_220 rfl ?_
    refine WP.iadd d19_221 ?_
    obtain ⟨c2, hc2, h⟩ := Option.bind_eq_some_iff.mp h
    refine WP.callS (y := y31) (as := [.ref 0, .int (v10 + (1 : Int32))]) (S := []) d19_222 (hw _ m_164) (hw _ m_165) (hw _ m_112) (hw _ m_166) hy31 (CS.frame (ro := 1) (H := ([cI a] ++ Hb 1 s)) (as := [.ref 0, .int (v10 + (1 : Int32))]) fr1_f (ok31 l Z a0 hw (v10 + (1 : Int32)) a _ hc2) rfl (by decide) (fr1_l a s) (fr1_c a s) (by decide) rfl) rfl (lenOf pd31 rfl) (leb rfl) (leb rfl) (leb rfl) (leb rfl) ?_
    rintro _ _ ⟨_, _, ⟨rfl, rfl⟩, rfl, rfl⟩
    rw [fr1_p a s]
    show W19 l Z n0 (P19 a s r) 0 0 225 [.val (.ref 1), .val (.ref 0), .val (.int v2), .val (.int v3), .val (.int v4), .unset, .unset, .unset, .val (.int v8), .val (.int v9), .val (.int v10), .val (.int v11), .val (.int v12), .val (.int v13), .unset, .unset, .unset] [.int c2] ([cI a] ++ Hb 1 s)
    obtain ⟨c3, hc3, h⟩ := Option.bind_eq_some_iff.mp h
    refine WP.callS (y := y35) (as := [.int c2]) (S := []) d19_225 (hw _ m_181) (hw _ m_182) (hw _ m_112) (hw _ m_183) hy35 (CS.frame (ro := 1) (H := ([cI a] ++ Hb 1 s)) (as := [.int c2]) fr2_f (ok35 l Z a0 hw c2 _ hc3) rfl (by decide) (fr2_l a s) (fr2_c a s) (by decide) rfl) rfl (lenOf pd35 rfl) (leb rfl) (leb rfl) (leb rfl) (leb rfl) ?_
    rintro _ _ ⟨_, _, ⟨rfl, rfl⟩, rfl, rfl⟩
    rw [fr2_p a s]
    show W19 l Z n0 (P19 a s r) 0 0 228 [.val (.ref 1), .val (.ref 0), .val (.int v2), .val (.int v3), .val (.int v4), .unset, .unset, .unset, .val (.int v8), .val (.int v9), .val (.int v10), .val (.int v11), .val (.int v12), .val (.int v13), .unset, .unset, .unset] [.int c3] ([cI a] ++ Hb 1 s)
    refine WP.iload d19_228 rfl ?_
    refine WP.iconst (1 : Int32) d19_230 rfl ?_
    refine WP.iadd d19_231 ?_
    obtain ⟨hz4, h⟩ := nz_e h
    refine WP.irem d19_232 hz4 ?_
    obtain ⟨x5, ex5, h⟩ := lt_e h
    refine WP.istore (L' := [.val (.ref 1), .val (.ref 0), .val (.int v2), .val (.int v3), .val (.int v4), .unset, .unset, .unset, .val (.int v8), .val (.int v9), .val (.int v10), .val (.int v11), .val (.int v12), .val (.int v13), .val (.int x5), .unset, .unset]) d19_233 (leb rfl) (by subst ex5; rfl) ?_
    refine WP.iconst (0 : Int32) d19_235 rfl ?_
    refine WP.istore (L' := [.val (.ref 1), .val (.ref 0), .val (.int v2), .val (.int v3), .val (.int v4), .unset, .unset, .unset, .val (.int v8), .val (.int v9), .val (.int v10), .val (.int v11), .val (.int v12), .val (.int v13), .val (.int x5), .val (.int (0 : Int32)), .unset]) d19_236 (leb rfl) rfl ?_
    refine WP.iconst (0 : Int32) d19_238 rfl ?_
    refine WP.istore (L' := [.val (.ref 1), .val (.ref 0), .val (.int v2), .val (.int v3), .val (.int v4), .unset, .unset, .unset, .val (.int v8), .val (.int v9), .val (.int v10), .val (.int v11), .val (.int v12), .val (.int v13), .val (.int x5), .val (.int (0 : Int32)), .val (.int (0 : Int32))]) d19_239 (leb rfl) rfl ?_
    exact WP.weak (L' := [.val (.ref 1), .val (.ref 0), .val (.int v2), .val (.int v3), .val (.int v4), .unset, .unset, .unset, .val (.int v8), .val (.int v9), .val (.int v10), .unset, .val (.int v12), .unset, .val (.int x5), .val (.int (0 : Int32)), .val (.int (0 : Int32))]) ⟨rfl, rfl, rfl, rfl, rfl, rfl, rfl, rfl, rfl, rfl, rfl, rfl, trivial⟩ (ok19_241 l Z a0 hw n0 _ hk125 n v2 v3 v4 v8 v9 v10 v12 x5 (0 : Int32) (0 : Int32) a s _ h)
  ·
    refine WP.icmpN d19_212 (XT.ii_eq_f hc1) ?_
    refine WP.iconst (0 : Int32) d19_215 rfl ?_
    cases h
    exact WP.zreturn d19_216 rfl (leb rfl) (leb rfl) ⟨rfl, rfl⟩
def f_L_check_163 (k125 : Int32 → Int32 → Int32 → Int32 → Int32 → List Int32 → St → Option (Int32)) (n : Nat) (v2 : Int32) (v3 : Int32) (v4 : Int32) (v8 : Int32) (v9 : Int32) (v10 : Int32) (t0 : Int32) (a : List Int32) (s : St) : Option (Int32) :=
  (f_encode n t0 s).bind fun c1 =>
  (f_syndrome n c1 s).bind fun c2 =>
  if c2 = 0 then
    lt (((1 : Int32) <<< (v4 &&& 31)) - (1 : Int32)) fun x4 =>
    if v4 = 0 then
      f_L_check_200 k125 n v2 v3 v4 v8 v9 v10 t0 c1 (0 : Int32) a s
    else
      f_L_check_200 k125 n v2 v3 v4 v8 v9 v10 t0 c1 x4 a s
  else
    some (0 : Int32)
set_option maxRecDepth 65536 in
set_option maxHeartbeats 4000000 in
theorem ok19_163 (l : Launch) (Z : State) (a0 : Array Value) (hw : HW a0 Z) (n0 : Nat) (k125 : Int32 → Int32 → Int32 → Int32 → Int32 → List Int32 → St → Option (Int32)) (hk125 : ∀ (v2 : Int32) (v3 : Int32) (v4 : Int32) (v8 : Int32) (v9 : Int32) (a : List Int32) (s : St) (r : Int32), k125 v2 v3 v4 v8 v9 a s = some r → W19 l Z n0 (P19 a s r) 0 0 125 [.val (.ref 1), .val (.ref 0), .val (.int v2), .val (.int v3), .val (.int v4), .unset, .unset, .unset, .val (.int v8), .val (.int v9), .unset, .unset, .unset, .unset, .unset, .unset, .unset] [] ([cI a] ++ Hb 1 s)) (n : Nat) (v2 : Int32) (v3 : Int32) (v4 : Int32) (v8 : Int32) (v9 : Int32) (v10 : Int32) (t0 : Int32) (a : List Int32) (s : St) (r : Int32) (h : f_L_check_163 k125 n v2 v3 v4 v8 v9 v10 t0 a s = some r) : W19 l Z n0 (P19 a s r) 0 0 163 [.val (.ref 1), .val (.ref 0), .val (.int v2), .val (.int v3), .val (.int v4), .unset, .unset, .unset, .val (.int v8), .val (.int v9), .val (.int v10), .unset, .unset, .unset, .unset, .unset, .unset] [.int t0] ([cI a] ++ Hb 1 s) := by
  unfold f_L_check_163 at h
  refine WP.istore (L' := [.val (.ref 1), .val (.ref 0), .val (.int v2), .val (.int v3), .val (.int v4), .unset, .unset, .unset, .val (.int v8), .val (.int v9), .val (.int v10), .val (.int t0), .unset, .unset, .unset, .unset, .unset]) d19_163 (leb rfl) rfl ?_
  refine WP.aloadN d19_165 rfl ?_
  refine WP.iload d19_166 rfl ?_
  obtain ⟨c1, hc1, h⟩ := Option.bind_eq_some_iff.mp h
  refine WP.callV (i := 1) (y := y32) (as := [.int t0]) (S := []) d19_168 (hw _ m_167) (hw _ m_168) (hw _ m_170) (hw _ m_169) (hw _ m_171) (hw _ m_2) hy32 rfl (CS.frame (ro := 1) (H := ([cI a] ++ Hb 1 s)) (as := [.ref 1, .int t0]) fr0_f (ok32 l Z a0 hw n t0 s _ hc1) rfl (by decide) (fr0_l a s) (fr0_c a s) (by decide) rfl) rfl (lenOf pd32 rfl) (leb rfl) (leb rfl) (leb rfl) (leb rfl) ?_
  rintro _ _ ⟨_, _, ⟨rfl, rfl⟩, rfl, rfl⟩
  rw [fr0_p a s s]
  show W19 l Z n0 (P19 a s r) 0 0 171 [.val (.ref 1), .val (.ref 0), .val (.int v2), .val (.int v3), .val (.int v4), .unset, .unset, .unset, .val (.int v8), .val (.int v9), .val (.int v10), .val (.int t0), .unset, .unset, .unset, .unset, .unset] [.int c1] ([cI a] ++ Hb 1 s)
  refine WP.istore (L' := [.val (.ref 1), .val (.ref 0), .val (.int v2), .val (.int v3), .val (.int v4), .unset, .unset, .unset, .val (.int v8), .val (.int v9), .val (.int v10), .val (.int t0), .val (.int c1), .unset, .unset, .unset, .unset]) d19_171 (leb rfl) rfl ?_
  refine WP.aloadN d19_173 rfl ?_
  refine WP.iload d19_174 rfl ?_
  obtain ⟨c2, hc2, h⟩ := Option.bind_eq_some_iff.mp h
  refine WP.callV (i := 1) (y := y34) (as := [.int c1]) (S := []) d19_176 (hw _ m_176) (hw _ m_177) (hw _ m_179) (hw _ m_178) (hw _ m_180) (hw _ m_2) hy34 rfl (CS.frame (ro := 1) (H := ([cI a] ++ Hb 1 s)) (as := [.ref 1, .int c1]) fr0_f (ok34 l Z a0 hw n c1 s _ hc2) rfl (by decide) (fr0_l a s) (fr0_c a s) (by decide) rfl) rfl (lenOf pd34 rfl) (leb rfl) (leb rfl) (leb rfl) (leb rfl) ?_
  rintro _ _ ⟨_, _, ⟨rfl, rfl⟩, rfl, rfl⟩
  rw [fr0_p a s s]
  show W19 l Z n0 (P19 a s r) 0 0 179 [.val (.ref 1), .val (.ref 0), .val (.int v2), .val (.int v3), .val (.int v4), .unset, .unset, .unset, .val (.int v8), .val (.int v9), .val (.int v10), .val (.int t0), .val (.int c1), .unset, .unset, .unset, .unset] [.int c2] ([cI a] ++ Hb 1 s)
  rcases ite_e h with ⟨hc3, h⟩ | ⟨hc3, h⟩
  ·
    refine WP.ifY (pc' := 184) d19_179 (XT.i0_eq_t hc3) (by decide) rfl ?_
    refine WP.iconst (1 : Int32) d19_184 rfl ?_
    refine WP.iload d19_185 rfl ?_
    refine WP.ishl d19_187 ?_
    refine WP.iconst (1 : Int32) d19_188 rfl ?_
    refine WP.isub d19_189 ?_
    obtain ⟨x4, ex4, h⟩ := lt_e h
    refine WP.istore (L' := [.val (.ref 1), .val (.ref 0), .val (.int v2), .val (.int v3), .val (.int v4), .unset, .unset, .unset, .val (.int v8), .val (.int v9), .val (.int v10), .val (.int t0), .val (.int c1), .val (.int x4), .unset, .unset, .unset]) d19_190 (leb rfl) (by subst ex4; rfl) ?_
    refine WP.iload d19_192 rfl ?_
    rcases ite_e h with ⟨hc5, h⟩ | ⟨hc5, h⟩
    ·
      refine WP.ifN d19_194 (XT.i0_ne_f hc5) ?_
      refine WP.iconst (0 : Int32) d19_197 rfl ?_
      refine WP.istore (L' := [.val (.ref 1), .val (.ref 0), .val (.int v2), .val (.int v3), .val (.int v4), .unset, .unset, .unset, .val (.int v8), .val (.int v9), .val (.int v10), .val (.int t0), .val (.int c1), .val (.int (0 : Int32)), .unset, .unset, .unset]) d19_198 (leb rfl) rfl ?_
      exact WP.weak (L' := [.val (.ref 1), .val (.ref 0), .val (.int v2), .val (.int v3), .val (.int v4), .unset, .unset, .unset, .val (.int v8), .val (.int v9), .val (.int v10), .val (.int t0), .val (.int c1), .val (.int (0 : Int32)), .unset, .unset, .unset]) ⟨rfl, rfl, rfl, rfl, rfl, rfl, rfl, rfl, rfl, rfl, rfl, trivial⟩ (ok19_200 l Z a0 hw n0 _ hk125 n v2 v3 v4 v8 v9 v10 t0 c1 (0 : Int32) a s _ h)
    ·
      refine WP.ifY (pc' := 200) d19_194 (XT.i0_ne_t hc5) (by decide) rfl ?_
      exact WP.weak (L' := [.val (.ref 1), .val (.ref 0), .val (.int v2), .val (.int v3), .val (.int v4), .unset, .unset, .unset, .val (.int v8), .val (.int v9), .val (.int v10), .val (.int t0), .val (.int c1), .val (.int x4), .unset, .unset, .unset]) ⟨rfl, rfl, rfl, rfl, rfl, rfl, rfl, rfl, rfl, rfl, rfl, trivial⟩ (ok19_200 l Z a0 hw n0 _ hk125 n v2 v3 v4 v8 v9 v10 t0 c1 x4 a s _ h)
  ·
    refine WP.ifN d19_179 (XT.i0_eq_f hc3) ?_
    refine WP.iconst (0 : Int32) d19_182 rfl ?_
    cases h
    exact WP.zreturn d19_183 rfl (leb rfl) (leb rfl) ⟨rfl, rfl⟩
def g_L_check_125 (k125 : Int32 → Int32 → Int32 → Int32 → Int32 → List Int32 → St → Option (Int32)) (n : Nat) (v2 : Int32) (v3 : Int32) (v4 : Int32) (v8 : Int32) (v9 : Int32) (a : List Int32) (s : St) : Option (Int32) :=
  if v9 < (2 : Int32) then
    lt (v2 + ((10 : Int32) * v9)) fun x2 =>
    if v9 = 0 then
      (f_L_cell x2 a).bind fun c4 =>
      f_L_check_163 k125 n v2 v3 v4 v8 v9 x2 c4 a s
    else
      (f_L_cell x2 a).bind fun c5 =>
      f_L_check_163 k125 n v2 v3 v4 v8 v9 x2 (c5 * (-1640531535 : Int32)) a s
  else
    some (1 : Int32)
set_option maxRecDepth 65536 in
set_option maxHeartbeats 4000000 in
theorem okg19_125 (l : Launch) (Z : State) (a0 : Array Value) (hw : HW a0 Z) (n0 : Nat) (k125 : Int32 → Int32 → Int32 → Int32 → Int32 → List Int32 → St → Option (Int32)) (hk125 : ∀ (v2 : Int32) (v3 : Int32) (v4 : Int32) (v8 : Int32) (v9 : Int32) (a : List Int32) (s : St) (r : Int32), k125 v2 v3 v4 v8 v9 a s = some r → W19 l Z n0 (P19 a s r) 0 0 125 [.val (.ref 1), .val (.ref 0), .val (.int v2), .val (.int v3), .val (.int v4), .unset, .unset, .unset, .val (.int v8), .val (.int v9), .unset, .unset, .unset, .unset, .unset, .unset, .unset] [] ([cI a] ++ Hb 1 s)) (n : Nat) (v2 : Int32) (v3 : Int32) (v4 : Int32) (v8 : Int32) (v9 : Int32) (a : List Int32) (s : St) (r : Int32) (h : g_L_check_125 k125 n v2 v3 v4 v8 v9 a s = some r) : W19 l Z n0 (P19 a s r) 0 0 125 [.val (.ref 1), .val (.ref 0), .val (.int v2), .val (.int v3), .val (.int v4), .unset, .unset, .unset, .val (.int v8), .val (.int v9), .unset, .unset, .unset, .unset, .unset, .unset, .unset] [] ([cI a] ++ Hb 1 s) := by
  unfold g_L_check_125 at h
  refine WP.iload d19_125 rfl ?_
  refine WP.iconst (2 : Int32) d19_127 rfl ?_
  rcases ite_e h with ⟨hc1, h⟩ | ⟨hc1, h⟩
  ·
    refine WP.icmpN d19_128 (XT.ii_ge_f hc1) ?_
    refine WP.iloadN d19_131 rfl ?_
    refine WP.bipush (10 : Int32) d19_132 rfl ?_
    refine WP.iload d19_134 rfl ?_
    refine WP.imul d19_136 ?_
    refine WP.iadd d19_137 ?_
    obtain ⟨x2, ex2, h⟩ := lt_e h
    refine WP.istore (L' := [.val (.ref 1), .val (.ref 0), .val (.int v2), .val (.int v3), .val (.int v4), .unset, .unset, .unset, .val (.int v8), .val (.int v9), .val (.int x2), .unset, .unset, .unset, .unset, .unset, .unset]) d19_138 (leb rfl) (by subst ex2; rfl) ?_
    refine WP.iload d19_140 rfl ?_
    rcases ite_e h with ⟨hc3, h⟩ | ⟨hc3, h⟩
    ·
      refine WP.ifN d19_142 (XT.i0_ne_f hc3) ?_
      refine WP.aloadN d19_145 rfl ?_
      refine WP.iload d19_146 rfl ?_
      obtain ⟨c4, hc4, h⟩ := Option.bind_eq_some_iff.mp h
      refine WP.callS (y := y31) (as := [.ref 0, .int x2]) (S := []) d19_148 (hw _ m_164) (hw _ m_165) (hw _ m_112) (hw _ m_166) hy31 (CS.frame (ro := 1) (H := ([cI a] ++ Hb 1 s)) (as := [.ref 0, .int x2]) fr1_f (ok31 l Z a0 hw x2 a _ hc4) rfl (by decide) (fr1_l a s) (fr1_c a s) (by decide) rfl) rfl (lenOf pd31 rfl) (leb rfl) (leb rfl) (leb rfl) (leb rfl) ?_
      rintro _ _ ⟨_, _, ⟨rfl, rfl⟩, rfl, rfl⟩
      rw [fr1_p a s]
      show W19 l Z n0 (P19 a s r) 0 0 151 [.val (.ref 1), .val (.ref 0), .val (.int v2), .val (.int v3), .val (.int v4), .unset, .unset, .unset, .val (.int v8), .val (.int v9), .val (.int x2), .unset, .unset, .unset, .unset, .unset, .unset] [.int c4] ([cI a] ++ Hb 1 s)
      refine WP.goto (pc' := 163) d19_151 (by decide) rfl ?_
      exact WP.weak (L' := [.val (.ref 1), .val (.ref 0), .val (.int v2), .val (.int v3), .val (.int v4), .unset, .unset, .unset, .val (.int v8), .val (.int v9), .val (.int x2), .unset, .unset, .unset, .unset, .unset, .unset]) ⟨rfl, rfl, rfl, rfl, rfl, rfl, rfl, rfl, trivial⟩ (ok19_163 l Z a0 hw n0 _ hk125 n v2 v3 v4 v8 v9 x2 c4 a s _ h)
    ·
      refine WP.ifY (pc' := 154) d19_142 (XT.i0_ne_t hc3) (by decide) rfl ?_
      refine WP.aloadN d19_154 rfl ?_
      refine WP.iload d19_155 rfl ?_
      obtain ⟨c5, hc5, h⟩ := Option.bind_eq_some_iff.mp h
      refine WP.callS (y := y31) (as := [.ref 0, .int x2]) (S := []) d19_157 (hw _ m_164) (hw _ m_165) (hw _ m_112) (hw _ m_166) hy31 (CS.frame (ro := 1) (H := ([cI a] ++ Hb 1 s)) (as := [.ref 0, .int x2]) fr1_f (ok31 l Z a0 hw x2 a _ hc5) rfl (by decide) (fr1_l a s) (fr1_c a s) (by decide) rfl) rfl (lenOf pd31 rfl) (leb rfl) (leb rfl) (leb rfl) (leb rfl) ?_
      rintro _ _ ⟨_, _, ⟨rfl, rfl⟩, rfl, rfl⟩
      rw [fr1_p a s]
      show W19 l Z n0 (P19 a s r) 0 0 160 [.val (.ref 1), .val (.ref 0), .val (.int v2), .val (.int v3), .val (.int v4), .unset, .unset, .unset, .val (.int v8), .val (.int v9), .val (.int x2), .unset, .unset, .unset, .unset, .unset, .unset] [.int c5] ([cI a] ++ Hb 1 s)
      refine WP.ldc d19_160 (hw _ m_194) ?_
      refine WP.imul d19_162 ?_
      exact WP.weak (L' := [.val (.ref 1), .val (.ref 0), .val (.int v2), .val (.int v3), .val (.int v4), .unset, .unset, .unset, .val (.int v8), .val (.int v9), .val (.int x2), .unset, .unset, .unset, .unset, .unset, .unset]) ⟨rfl, rfl, rfl, rfl, rfl, rfl, rfl, rfl, trivial⟩ (ok19_163 l Z a0 hw n0 _ hk125 n v2 v3 v4 v8 v9 x2 (c5 * (-1640531535 : Int32)) a s _ h)
  ·
    refine WP.icmpY (pc' := 306) d19_128 (XT.ii_ge_t hc1) (by decide) rfl ?_
    refine WP.iconst (1 : Int32) d19_306 rfl ?_
    cases h
    exact WP.zreturn d19_307 rfl (leb rfl) (leb rfl) ⟨rfl, rfl⟩
def f_L_check_125 : Nat → Int32 → Int32 → Int32 → Int32 → Int32 → List Int32 → St → Option (Int32)
  | 0 => fun _ _ _ _ _ _ _ => none
  | n + 1 => g_L_check_125 (f_L_check_125 n) n
theorem ok19_125 (l : Launch) (Z : State) (a0 : Array Value) (hw : HW a0 Z) (n0 : Nat) : ∀ (n : Nat) (v2 : Int32) (v3 : Int32) (v4 : Int32) (v8 : Int32) (v9 : Int32) (a : List Int32) (s : St) (r : Int32), f_L_check_125 n v2 v3 v4 v8 v9 a s = some r → W19 l Z n0 (P19 a s r) 0 0 125 [.val (.ref 1), .val (.ref 0), .val (.int v2), .val (.int v3), .val (.int v4), .unset, .unset, .unset, .val (.int v8), .val (.int v9), .unset, .unset, .unset, .unset, .unset, .unset, .unset] [] ([cI a] ++ Hb 1 s)
  | 0, v2, v3, v4, v8, v9, a, s, r, h => nomatch (show none = some r from h)
  | n + 1, v2, v3, v4, v8, v9, a, s, r, h => okg19_125 l Z a0 hw n0 _ (ok19_125 l Z a0 hw n0 n) n v2 v3 v4 v8 v9 a s r h
def f_L_check_109 (n : Nat) (v2 : Int32) (v3 : Int32) (v4 : Int32) (a : List Int32) (s : St) : Option (Int32) :=
  (f_trappingCapability n s).bind fun c1 =>
  if c1 < 0 then
    some (0 : Int32)
  else
    f_L_check_125 n v2 v3 v4 c1 (0 : Int32) a s
set_option maxRecDepth 65536 in
set_option maxHeartbeats 4000000 in
theorem ok19_109 (l : Launch) (Z : State) (a0 : Array Value) (hw : HW a0 Z) (n0 : Nat) (n : Nat) (v2 : Int32) (v3 : Int32) (v4 : Int32) (a : List Int32) (s : St) (r : Int32) (h : f_L_check_109 n v2 v3 v4 a s = some r) : W19 l Z n0 (P19 a s r) 0 0 109 [.val (.ref 1), .val (.ref 0), .val (.int v2), .val (.int v3), .val (.int v4), .unset, .unset, .unset, .unset, .unset, .unset, .unset, .unset, .unset, .unset, .unset, .unset] [] ([cI a] ++ Hb 1 s) := by
  unfold f_L_check_109 at h
  refine WP.aloadN d19_109 rfl ?_
  obtain ⟨c1, hc1, h⟩ := Option.bind_eq_some_iff.mp h
  refine WP.callV (i := 1) (y := y29) (as := []) (S := []) d19_110 (hw _ m_155) (hw _ m_156) (hw _ m_158) (hw _ m_157) (hw _ m_159) (hw _ m_2) hy29 rfl (CS.frame (ro := 1) (H := ([cI a] ++ Hb 1 s)) (as := [.ref 1]) fr0_f (ok29 l Z a0 hw n s _ hc1) rfl (by decide) (fr0_l a s) (fr0_c a s) (by decide) rfl) rfl (lenOf pd29 rfl) (leb rfl) (leb rfl) (leb rfl) (leb rfl) ?_
  rintro _ _ ⟨_, _, ⟨rfl, rfl⟩, rfl, rfl⟩
  rw [fr0_p a s s]
  show W19 l Z n0 (P19 a s r) 0 0 113 [.val (.ref 1), .val (.ref 0), .val (.int v2), .val (.int v3), .val (.int v4), .unset, .unset, .unset, .unset, .unset, .unset, .unset, .unset, .unset, .unset, .unset, .unset] [.int c1] ([cI a] ++ Hb 1 s)
  refine WP.istore (L' := [.val (.ref 1), .val (.ref 0), .val (.int v2), .val (.int v3), .val (.int v4), .unset, .unset, .unset, .val (.int c1), .unset, .unset, .unset, .unset, .unset, .unset, .unset, .unset]) d19_113 (leb rfl) rfl ?_
  refine WP.iload d19_115 rfl ?_
  rcases ite_e h with ⟨hc2, h⟩ | ⟨hc2, h⟩
  ·
    refine WP.ifN d19_117 (XT.i0_ge_f hc2) ?_
    refine WP.iconst (0 : Int32) d19_120 rfl ?_
    cases h
    exact WP.zreturn d19_121 rfl (leb rfl) (leb rfl) ⟨rfl, rfl⟩
  ·
    refine WP.ifY (pc' := 122) d19_117 (XT.i0_ge_t hc2) (by decide) rfl ?_
    refine WP.iconst (0 : Int32) d19_122 rfl ?_
    refine WP.istore (L' := [.val (.ref 1), .val (.ref 0), .val (.int v2), .val (.int v3), .val (.int v4), .unset, .unset, .unset, .val (.int c1), .val (.int (0 : Int32)), .unset, .unset, .unset, .unset, .unset, .unset, .unset]) d19_123 (leb rfl) rfl ?_
    exact WP.weak (L' := [.val (.ref 1), .val (.ref 0), .val (.int v2), .val (.int v3), .val (.int v4), .unset, .unset, .unset, .val (.int c1), .val (.int (0 : Int32)), .unset, .unset, .unset, .unset, .unset, .unset, .unset]) ⟨rfl, rfl, rfl, rfl, rfl, rfl, rfl, trivial⟩ (ok19_125 l Z a0 hw n0 n v2 v3 v4 c1 (0 : Int32) a s _ h)
def f_L_check (n : Nat) (p2 : Int32) (a : List Int32) (s : St) : Option (Int32) :=
  (f_length s).bind fun c1 =>
  (f_dimension s).bind fun c2 =>
  if c1 < (3 : Int32) then
    f_L_check_33 n a s
  else
    if (31 : Int32) < c1 then
      f_L_check_33 n a s
    else
      if c2 < 0 then
        f_L_check_33 n a s
      else
        if c1 < c2 then
          f_L_check_33 n a s
        else
          (f_generator s).bind fun c7 =>
          lt (c7.toInt64 &&& (4294967295 : Int64)) fun x8 =>
          if x8 = (0 : Int64) then
            some (0 : Int32)
          else
            (f_L_deg n x8).bind fun c10 =>
            if c10 = (c1 - c2) then
              (f_L_pmod n (((1 : Int64) <<< (c1.toInt64 &&& 63)) ||| (1 : Int64)) x8).bind fun c12 =>
              if c12 = (0 : Int64) then
                (f_minDistance n s).bind fun c14 =>
                if c14 = (-1 : Int32) then
                  f_L_check_109 n p2 c1 c2 a s
                else
                  (f_designedDistance s).bind fun c16 =>
                  if c14 < c16 then
                    some (0 : Int32)
                  else
                    f_L_check_109 n p2 c1 c2 a s
              else
                some (0 : Int32)
            else
              some (0 : Int32)
set_option maxRecDepth 65536 in
set_option maxHeartbeats 4000000 in
theorem ok19 (l : Launch) (Z : State) (a0 : Array Value) (hw : HW a0 Z) (n : Nat) (p2 : Int32) (a : List Int32) (s : St) (r : Int32) (h : f_L_check n p2 a s = some r) : CS l Z CN lay y19 method_7_code 17 (some FieldType.boolean) R19 1 [.ref 1, .ref 0, .int p2] ([cI a] ++ Hb 1 s) (P19 a s r) := by
  refine CS.of_wp pn_law (leb rfl) fun n0 => ?_
  show W19 l Z n0 (P19 a s r) 0 0 0 [.val (.ref 1), .val (.ref 0), .val (.int p2), .unset, .unset, .unset, .unset, .unset, .unset, .unset, .unset, .unset, .unset, .unset, .unset, .unset, .unset] [] ([cI a] ++ Hb 1 s)
  unfold f_L_check at h
  refine WP.aloadN d19_0 rfl ?_
  obtain ⟨c1, hc1, h⟩ := Option.bind_eq_some_iff.mp h
  refine WP.callV (i := 1) (y := y20) (as := []) (S := []) d19_1 (hw _ m_114) (hw _ m_115) (hw _ m_117) (hw _ m_116) (hw _ m_118) (hw _ m_2) hy20 rfl (CS.frame (ro := 1) (H := ([cI a] ++ Hb 1 s)) (as := [.ref 1]) fr0_f (ok20 l Z a0 hw s _ hc1) rfl (by decide) (fr0_l a s) (fr0_c a s) (by decide) rfl) rfl (lenOf pd20 rfl) (leb rfl) (leb rfl) (leb rfl) (leb rfl) ?_
  rintro _ _ ⟨_, _, ⟨rfl, rfl⟩, rfl, rfl⟩
  rw [fr0_p a s s]
  show W19 l Z n0 (P19 a s r) 0 0 4 [.val (.ref 1), .val (.ref 0), .val (.int p2), .unset, .unset, .unset, .unset, .unset, .unset, .unset, .unset, .unset, .unset, .unset, .unset, .unset, .unset] [.int c1] ([cI a] ++ Hb 1 s)
  refine WP.istoreN (L' := [.val (.ref 1), .val (.ref 0), .val (.int p2), .val (.int c1), .unset, .unset, .unset, .unset, .unset, .unset, .unset, .unset, .unset, .unset, .unset, .unset, .unset]) d19_4 (leb rfl) rfl ?_
  refine WP.aloadN d19_5 rfl ?_
  obtain ⟨c2, hc2, h⟩ := Option.bind_eq_some_iff.mp h
  refine WP.callV (i := 1) (y := y21) (as := []) (S := []) d19_6 (hw _ m_119) (hw _ m_120) (hw _ m_122) (hw _ m_121) (hw _ m_123) (hw _ m_2) hy21 rfl (CS.frame (ro := 1) (H := ([cI a] ++ Hb 1 s)) (as := [.ref 1]) fr0_f (ok21 l Z a0 hw s _ hc2) rfl (by decide) (fr0_l a s) (fr0_c a s) (by decide) rfl) rfl (lenOf pd21 rfl) (leb rfl) (leb rfl) (leb rfl) (leb rfl) ?_
  rintro _ _ ⟨_, _, ⟨rfl, rfl⟩, rfl, rfl⟩
  rw [fr0_p a s s]
  show W19 l Z n0 (P19 a s r) 0 0 9 [.val (.ref 1), .val (.ref 0), .val (.int p2), .val (.int c1), .unset, .unset, .unset, .unset, .unset, .unset, .unset, .unset, .unset, .unset, .unset, .unset, .unset] [.int c2] ([cI a] ++ Hb 1 s)
  refine WP.istore (L' := [.val (.ref 1), .val (.ref 0), .val (.int p2), .val (.int c1), .val (.int c2), .unset, .unset, .unset, .unset, .unset, .unset, .unset, .unset, .unset, .unset, .unset, .unset]) d19_9 (leb rfl) rfl ?_
  refine WP.iloadN d19_11 rfl ?_
  refine WP.iconst (3 : Int32) d19_12 rfl ?_
  rcases ite_e h with ⟨hc3, h⟩ | ⟨hc3, h⟩
  ·
    refine WP.icmpY (pc' := 33) d19_13 (XT.ii_lt_t hc3) (by decide) rfl ?_
    exact WP.weak (L' := [.unset, .unset, .unset, .unset, .unset, .unset, .unset, .unset, .unset, .unset, .unset, .unset, .unset, .unset, .unset, .unset, .unset]) trivial (ok19_33 l Z a0 hw n0 n a s _ h)
  ·
    refine WP.icmpN d19_13 (XT.ii_lt_f hc3) ?_
    refine WP.iloadN d19_16 rfl ?_
    refine WP.bipush (31 : Int32) d19_17 rfl ?_
    rcases ite_e h with ⟨hc4, h⟩ | ⟨hc4, h⟩
    ·
      refine WP.icmpY (pc' := 33) d19_19 (XT.ii_gt_t hc4) (by decide) rfl ?_
      exact WP.weak (L' := [.unset, .unset, .unset, .unset, .unset, .unset, .unset, .unset, .unset, .unset, .unset, .unset, .unset, .unset, .unset, .unset, .unset]) trivial (ok19_33 l Z a0 hw n0 n a s _ h)
    ·
      refine WP.icmpN d19_19 (XT.ii_gt_f hc4) ?_
      refine WP.iload d19_22 rfl ?_
      rcases ite_e h with ⟨hc5, h⟩ | ⟨hc5, h⟩
      ·
        refine WP.ifY (pc' := 33) d19_24 (XT.i0_lt_t hc5) (by decide) rfl ?_
        exact WP.weak (L' := [.unset, .unset, .unset, .unset, .unset, .unset, .unset, .unset, .unset, .unset, .unset, .unset, .unset, .unset, .unset, .unset, .unset]) trivial (ok19_33 l Z a0 hw n0 n a s _ h)
      ·
        refine WP.ifN d19_24 (XT.i0_lt_f hc5) ?_
        refine WP.iload d19_27 rfl ?_
        refine WP.iloadN d19_29 rfl ?_
        rcases ite_e h with ⟨hc6, h⟩ | ⟨hc6, h⟩
        ·
          refine WP.icmpN d19_30 (XT.ii_le_f hc6) ?_
          exact WP.weak (L' := [.unset, .unset, .unset, .unset, .unset, .unset, .unset, .unset, .unset, .unset, .unset, .unset, .unset, .unset, .unset, .unset, .unset]) trivial (ok19_33 l Z a0 hw n0 n a s _ h)
        ·
          refine WP.icmpY (pc' := 35) d19_30 (XT.ii_le_t hc6) (by decide) rfl ?_
          refine WP.aloadN d19_35 rfl ?_
          obtain ⟨c7, hc7, h⟩ := Option.bind_eq_some_iff.mp h
          refine WP.callV (i := 1) (y := y22) (as := []) (S := []) d19_36 (hw _ m_124) (hw _ m_125) (hw _ m_127) (hw _ m_126) (hw _ m_128) (hw _ m_2) hy22 rfl (CS.frame (ro := 1) (H := ([cI a] ++ Hb 1 s)) (as := [.ref 1]) fr0_f (ok22 l Z a0 hw s _ hc7) rfl (by decide) (fr0_l a s) (fr0_c a s) (by decide) rfl) rfl (lenOf pd22 rfl) (leb rfl) (leb rfl) (leb rfl) (leb rfl) ?_
          rintro _ _ ⟨_, _, ⟨rfl, rfl⟩, rfl, rfl⟩
          rw [fr0_p a s s]
          show W19 l Z n0 (P19 a s r) 0 0 39 [.val (.ref 1), .val (.ref 0), .val (.int p2), .val (.int c1), .val (.int c2), .unset, .unset, .unset, .unset, .unset, .unset, .unset, .unset, .unset, .unset, .unset, .unset] [.int c7] ([cI a] ++ Hb 1 s)
          refine WP.i2l d19_39 ?_
          refine WP.ldc2 d19_40 (hw _ m_129) ?_
          refine WP.land d19_43 ?_
          obtain ⟨x8, ex8, h⟩ := lt_e h
          refine WP.lstore (L' := [.val (.ref 1), .val (.ref 0), .val (.int p2), .val (.int c1), .val (.int c2), .val (.long x8), .second, .unset, .unset, .unset, .unset, .unset, .unset, .unset, .unset, .unset, .unset]) d19_44 (leb rfl) (by subst ex8; rfl) ?_
          refine WP.lload d19_46 rfl ?_
          refine WP.lconst (0 : Int64) d19_48 rfl ?_
          refine WP.lcmp d19_49 ?_
          rcases ite_e h with ⟨hc9, h⟩ | ⟨hc9, h⟩
          ·
            refine WP.ifN d19_50 (XT.ll_ne_f hc9) ?_
            refine WP.iconst (0 : Int32) d19_53 rfl ?_
            cases h
            exact WP.zreturn d19_54 rfl (leb rfl) (leb rfl) ⟨rfl, rfl⟩
          ·
            refine WP.ifY (pc' := 55) d19_50 (XT.ll_ne_t hc9) (by decide) rfl ?_
            refine WP.lload d19_55 rfl ?_
            obtain ⟨c10, hc10, h⟩ := Option.bind_eq_some_iff.mp h
            refine WP.callS (y := y23) (as := [.long x8]) (S := []) d19_57 (hw _ m_130) (hw _ m_131) (hw _ m_112) (hw _ m_132) hy23 (CS.frame (ro := 1) (H := ([cI a] ++ Hb 1 s)) (as := [.long x8]) fr2_f (ok23 l Z a0 hw n x8 _ hc10) rfl (by decide) (fr2_l a s) (fr2_c a s) (by decide) rfl) rfl (lenOf pd23 rfl) (leb rfl) (leb rfl) (leb rfl) (leb rfl) ?_
            rintro _ _ ⟨_, _, ⟨rfl, rfl⟩, rfl, rfl⟩
            rw [fr2_p a s]
            show W19 l Z n0 (P19 a s r) 0 0 60 [.val (.ref 1), .val (.ref 0), .val (.int p2), .val (.int c1), .val (.int c2), .val (.long x8), .second, .unset, .unset, .unset, .unset, .unset, .unset, .unset, .unset, .unset, .unset] [.int c10] ([cI a] ++ Hb 1 s)
            refine WP.iloadN d19_60 rfl ?_
            refine WP.iload d19_61 rfl ?_
            refine WP.isub d19_63 ?_
            rcases ite_e h with ⟨hc11, h⟩ | ⟨hc11, h⟩
            ·
              refine WP.icmpY (pc' := 69) d19_64 (XT.ii_eq_t hc11) (by decide) rfl ?_
              refine WP.lconst (1 : Int64) d19_69 rfl ?_
              refine WP.iloadN d19_70 rfl ?_
              refine WP.lshl d19_71 ?_
              refine WP.lconst (1 : Int64) d19_72 rfl ?_
              refine WP.lor d19_73 ?_
              refine WP.lload d19_74 rfl ?_
              obtain ⟨c12, hc12, h⟩ := Option.bind_eq_some_iff.mp h
              refine WP.callS (y := y24) (as := [.long (((1 : Int64) <<< (c1.toInt64 &&& 63)) ||| (1 : Int64)), .long x8]) (S := []) d19_76 (hw _ m_133) (hw _ m_134) (hw _ m_112) (hw _ m_135) hy24 (CS.frame (ro := 1) (H := ([cI a] ++ Hb 1 s)) (as := [.long (((1 : Int64) <<< (c1.toInt64 &&& 63)) ||| (1 : Int64)), .long x8]) fr2_f (ok24 l Z a0 hw n (((1 : Int64) <<< (c1.toInt64 &&& 63)) ||| (1 : Int64)) x8 _ hc12) rfl (by decide) (fr2_l a s) (fr2_c a s) (by decide) rfl) rfl (lenOf pd24 rfl) (leb rfl) (leb rfl) (leb rfl) (leb rfl) ?_
              rintro _ _ ⟨_, _, ⟨rfl, rfl⟩, rfl, rfl⟩
              rw [fr2_p a s]
              show W19 l Z n0 (P19 a s r) 0 0 79 [.val (.ref 1), .val (.ref 0), .val (.int p2), .val (.int c1), .val (.int c2), .val (.long x8), .second, .unset, .unset, .unset, .unset, .unset, .unset, .unset, .unset, .unset, .unset] [.long c12] ([cI a] ++ Hb 1 s)
              refine WP.lconst (0 : Int64) d19_79 rfl ?_
              refine WP.lcmp d19_80 ?_
              rcases ite_e h with ⟨hc13, h⟩ | ⟨hc13, h⟩
              ·
                refine WP.ifY (pc' := 86) d19_81 (XT.ll_eq_t hc13) (by decide) rfl ?_
                refine WP.aloadN d19_86 rfl ?_
                obtain ⟨c14, hc14, h⟩ := Option.bind_eq_some_iff.mp h
                refine WP.callV (i := 1) (y := y25) (as := []) (S := []) d19_87 (hw _ m_136) (hw _ m_137) (hw _ m_139) (hw _ m_138) (hw _ m_140) (hw _ m_2) hy25 rfl (CS.frame (ro := 1) (H := ([cI a] ++ Hb 1 s)) (as := [.ref 1]) fr0_f (ok25 l Z a0 hw n s _ hc14) rfl (by decide) (fr0_l a s) (fr0_c a s) (by decide) rfl) rfl (lenOf pd25 rfl) (leb rfl) (leb rfl) (leb rfl) (leb rfl) ?_
                rintro _ _ ⟨_, _, ⟨rfl, rfl⟩, rfl, rfl⟩
                rw [fr0_p a s s]
                show W19 l Z n0 (P19 a s r) 0 0 90 [.val (.ref 1), .val (.ref 0), .val (.int p2), .val (.int c1), .val (.int c2), .val (.long x8), .second, .unset, .unset, .unset, .unset, .unset, .unset, .unset, .unset, .unset, .unset] [.int c14] ([cI a] ++ Hb 1 s)
                refine WP.istore (L' := [.val (.ref 1), .val (.ref 0), .val (.int p2), .val (.int c1), .val (.int c2), .val (.long x8), .second, .val (.int c14), .unset, .unset, .unset, .unset, .unset, .unset, .unset, .unset, .unset]) d19_90 (leb rfl) rfl ?_
                refine WP.iload d19_92 rfl ?_
                refine WP.iconst (-1 : Int32) d19_94 rfl ?_
                rcases ite_e h with ⟨hc15, h⟩ | ⟨hc15, h⟩
                ·
                  refine WP.icmpY (pc' := 109) d19_95 (XT.ii_eq_t hc15) (by decide) rfl ?_
                  exact WP.weak (L' := [.val (.ref 1), .val (.ref 0), .val (.int p2), .val (.int c1), .val (.int c2), .unset, .unset, .unset, .unset, .unset, .unset, .unset, .unset, .unset, .unset, .unset, .unset]) ⟨rfl, rfl, rfl, rfl, rfl, trivial⟩ (ok19_109 l Z a0 hw n0 n p2 c1 c2 a s _ h)
                ·
                  refine WP.icmpN d19_95 (XT.ii_eq_f hc15) ?_
                  refine WP.iload d19_98 rfl ?_
                  refine WP.aloadN d19_100 rfl ?_
                  obtain ⟨c16, hc16, h⟩ := Option.bind_eq_some_iff.mp h
                  refine WP.callV (i := 1) (y := y28) (as := []) (S := [.int c14]) d19_101 (hw _ m_150) (hw _ m_151) (hw _ m_153) (hw _ m_152) (hw _ m_154) (hw _ m_2) hy28 rfl (CS.frame (ro := 1) (H := ([cI a] ++ Hb 1 s)) (as := [.ref 1]) fr0_f (ok28 l Z a0 hw s _ hc16) rfl (by decide) (fr0_l a s) (fr0_c a s) (by decide) rfl) rfl (lenOf pd28 rfl) (leb rfl) (leb rfl) (leb rfl) (leb rfl) ?_
                  rintro _ _ ⟨_, _, ⟨rfl, rfl⟩, rfl, rfl⟩
                  rw [fr0_p a s s]
                  show W19 l Z n0 (P19 a s r) 0 0 104 [.val (.ref 1), .val (.ref 0), .val (.int p2), .val (.int c1), .val (.int c2), .val (.long x8), .second, .val (.int c14), .unset, .unset, .unset, .unset, .unset, .unset, .unset, .unset, .unset] [.int c16, .int c14] ([cI a] ++ Hb 1 s)
                  rcases ite_e h with ⟨hc17, h⟩ | ⟨hc17, h⟩
                  ·
                    refine WP.icmpN d19_104 (XT.ii_ge_f hc17) ?_
                    refine WP.iconst (0 : Int32) d19_107 rfl ?_
                    cases h
                    exact WP.zreturn d19_108 rfl (leb rfl) (leb rfl) ⟨rfl, rfl⟩
                  ·
                    refine WP.icmpY (pc' := 109) d19_104 (XT.ii_ge_t hc17) (by decide) rfl ?_
                    exact WP.weak (L' := [.val (.ref 1), .val (.ref 0), .val (.int p2), .val (.int c1), .val (.int c2), .unset, .unset, .unset, .unset, .unset, .unset, .unset, .unset, .unset, .unset, .unset, .unset]) ⟨rfl, rfl, rfl, rfl, rfl, trivial⟩ (ok19_109 l Z a0 hw n0 n p2 c1 c2 a s _ h)
              ·
                refine WP.ifN d19_81 (XT.ll_eq_f hc13) ?_
                refine WP.iconst (0 : Int32) d19_84 rfl ?_
                cases h
                exact WP.zreturn d19_85 rfl (leb rfl) (leb rfl) ⟨rfl, rfl⟩
            ·
              refine WP.icmpN d19_64 (XT.ii_eq_f hc11) ?_
              refine WP.iconst (0 : Int32) d19_67 rfl ?_
              cases h
              exact WP.zreturn d19_68 rfl (leb rfl) (leb rfl) ⟨rfl, rfl⟩
theorem d41_0 : dc method_4_code 0 (.iload_n 0) 1 := by decide +kernel
theorem d41_1 : dc method_4_code 1 (.bipush 7) 2 := by decide +kernel
theorem d41_3 : dc method_4_code 3 (.iand) 1 := by decide +kernel
theorem d41_4 : dc method_4_code 4 (.tableswitch 63 0 6 #[44, 46, 48, 51, 54, 57, 60]) 44 := by decide +kernel
theorem d41_48 : dc method_4_code 48 (.iconst 3) 1 := by decide +kernel
theorem d41_49 : dc method_4_code 49 (.ireturn) 1 := by decide +kernel
theorem d41_50 : dc method_4_code 50 (.iconst 5) 1 := by decide +kernel
theorem d41_51 : dc method_4_code 51 (.ireturn) 1 := by decide +kernel
theorem d41_52 : dc method_4_code 52 (.bipush 7) 2 := by decide +kernel
theorem d41_54 : dc method_4_code 54 (.ireturn) 1 := by decide +kernel
theorem d41_55 : dc method_4_code 55 (.bipush 9) 2 := by decide +kernel
theorem d41_57 : dc method_4_code 57 (.ireturn) 1 := by decide +kernel
theorem d41_58 : dc method_4_code 58 (.bipush 15) 2 := by decide +kernel
theorem d41_60 : dc method_4_code 60 (.ireturn) 1 := by decide +kernel
theorem d41_61 : dc method_4_code 61 (.bipush 17) 2 := by decide +kernel
theorem d41_63 : dc method_4_code 63 (.ireturn) 1 := by decide +kernel
theorem d41_64 : dc method_4_code 64 (.bipush 21) 2 := by decide +kernel
theorem d41_66 : dc method_4_code 66 (.ireturn) 1 := by decide +kernel
theorem d41_67 : dc method_4_code 67 (.bipush 31) 2 := by decide +kernel
theorem d41_69 : dc method_4_code 69 (.ireturn) 1 := by decide +kernel
abbrev y41 : MethodName := ⟨"CyclicCodeLabOwnLaw", "lenOf", "(I)I"⟩
theorem hy41 : y41.cls ≠ "java/lang/invoke/MethodHandle" ∧ y41.cls ≠ "java/lang/invoke/VarHandle" := by decide
theorem pd41 : parseMethodDescriptor y41.desc = some ⟨[.int], some .int⟩ := by decide +kernel
abbrev R41 : Room := { frames := 0, cells := 0, slots := 0, locals := 0 }
abbrev P41 (r : Int32) : Option Value → List OwnC → Prop := fun v H' => v = some (.int r) ∧ H' = ([] : List OwnC)
abbrev W41 (l : Launch) (Z : State) (n0 : Nat) (Q : Option Value → List OwnC → Prop) (k n pc : Nat) (L : List Slot) (S : List Value) (H : List OwnC) : Prop := WP l Z CN lay "CyclicCodeLabOwnLaw" "lenOf" method_4_code 1 (some FieldType.int) R41 n0 0 Q k n pc L S H
def f_L_lenOf (p0 : Int32) : Option (Int32) :=
  if p0 &&& (7 : Int32) = (0 : Int32) then
    some (3 : Int32)
  else if p0 &&& (7 : Int32) = (1 : Int32) then
    some (5 : Int32)
  else if p0 &&& (7 : Int32) = (2 : Int32) then
    some (7 : Int32)
  else if p0 &&& (7 : Int32) = (3 : Int32) then
    some (9 : Int32)
  else if p0 &&& (7 : Int32) = (4 : Int32) then
    some (15 : Int32)
  else if p0 &&& (7 : Int32) = (5 : Int32) then
    some (17 : Int32)
  else if p0 &&& (7 : Int32) = (6 : Int32) then
    some (21 : Int32)
  else 
  some (31 : Int32)
set_option maxRecDepth 65536 in
set_option maxHeartbeats 4000000 in
theorem ok41 (l : Launch) (Z : State) (a0 : Array Value) (hw : HW a0 Z) (p0 : Int32) (r : Int32) (h : f_L_lenOf p0 = some r) : CS l Z CN lay y41 method_4_code 1 (some FieldType.int) R41 0 [.int p0] ([] : List OwnC) (P41 r) := by
  refine CS.of_wp pn_law (leb rfl) fun n0 => ?_
  show W41 l Z n0 (P41 r) 0 0 0 [.val (.int p0)] [] ([] : List OwnC)
  unfold f_L_lenOf at h
  refine WP.iloadN d41_0 rfl ?_
  refine WP.bipush (7 : Int32) d41_1 rfl ?_
  refine WP.iand d41_3 ?_
  rcases ite_e h with ⟨hc1, h⟩ | ⟨hc1, h⟩
  ·
    refine WP.tswIn (o := 44) (pc' := 48) d41_4 (by rw [hc1]; decide) (by rw [hc1]; rfl) (by decide) rfl ?_
    refine WP.iconst (3 : Int32) d41_48 rfl ?_
    cases h
    exact WP.ireturn d41_49 rfl (leb rfl) (leb rfl) ⟨rfl, rfl⟩
  rcases ite_e h with ⟨hc2, h⟩ | ⟨hc2, h⟩
  ·
    refine WP.tswIn (o := 46) (pc' := 50) d41_4 (by rw [hc2]; decide) (by rw [hc2]; rfl) (by decide) rfl ?_
    refine WP.iconst (5 : Int32) d41_50 rfl ?_
    cases h
    exact WP.ireturn d41_51 rfl (leb rfl) (leb rfl) ⟨rfl, rfl⟩
  rcases ite_e h with ⟨hc3, h⟩ | ⟨hc3, h⟩
  ·
    refine WP.tswIn (o := 48) (pc' := 52) d41_4 (by rw [hc3]; decide) (by rw [hc3]; rfl) (by decide) rfl ?_
    refine WP.bipush (7 : Int32) d41_52 rfl ?_
    cases h
    exact WP.ireturn d41_54 rfl (leb rfl) (leb rfl) ⟨rfl, rfl⟩
  rcases ite_e h with ⟨hc4, h⟩ | ⟨hc4, h⟩
  ·
    refine WP.tswIn (o := 51) (pc' := 55) d41_4 (by rw [hc4]; decide) (by rw [hc4]; rfl) (by decide) rfl ?_
    refine WP.bipush (9 : Int32) d41_55 rfl ?_
    cases h
    exact WP.ireturn d41_57 rfl (leb rfl) (leb rfl) ⟨rfl, rfl⟩
  rcases ite_e h with ⟨hc5, h⟩ | ⟨hc5, h⟩
  ·
    refine WP.tswIn (o := 54) (pc' := 58) d41_4 (by rw [hc5]; decide) (by rw [hc5]; rfl) (by decide) rfl ?_
    refine WP.bipush (15 : Int32) d41_58 rfl ?_
    cases h
    exact WP.ireturn d41_60 rfl (leb rfl) (leb rfl) ⟨rfl, rfl⟩
  rcases ite_e h with ⟨hc6, h⟩ | ⟨hc6, h⟩
  ·
    refine WP.tswIn (o := 57) (pc' := 61) d41_4 (by rw [hc6]; decide) (by rw [hc6]; rfl) (by decide) rfl ?_
    refine WP.bipush (17 : Int32) d41_61 rfl ?_
    cases h
    exact WP.ireturn d41_63 rfl (leb rfl) (leb rfl) ⟨rfl, rfl⟩
  rcases ite_e h with ⟨hc7, h⟩ | ⟨hc7, h⟩
  ·
    refine WP.tswIn (o := 60) (pc' := 64) d41_4 (by rw [hc7]; decide) (by rw [hc7]; rfl) (by decide) rfl ?_
    refine WP.bipush (21 : Int32) d41_64 rfl ?_
    cases h
    exact WP.ireturn d41_66 rfl (leb rfl) (leb rfl) ⟨rfl, rfl⟩
  refine WP.tswOut (pc' := 67) d41_4 (tsw_miss fun z h1 h2 => by
      have hz : z = 0 ∨ z = 1 ∨ z = 2 ∨ z = 3 ∨ z = 4 ∨ z = 5 ∨ z = 6 := by omega
      rcases hz with rfl | rfl | rfl | rfl | rfl | rfl | rfl
      · exact hc1
      · exact hc2
      · exact hc3
      · exact hc4
      · exact hc5
      · exact hc6
      · exact hc7
      ) (by decide) rfl ?_
  refine WP.bipush (31 : Int32) d41_67 rfl ?_
  cases h
  exact WP.ireturn d41_69 rfl (leb rfl) (leb rfl) ⟨rfl, rfl⟩
theorem d42_0 : dc prog_1_method_2_code 0 (.aload_n 0) 1 := by decide +kernel
theorem d42_1 : dc prog_1_method_2_code 1 (.iload_n 1) 1 := by decide +kernel
theorem d42_2 : dc prog_1_method_2_code 2 (.invokevirtual 28) 3 := by decide +kernel
theorem d42_5 : dc prog_1_method_2_code 5 (.ireturn) 1 := by decide +kernel
abbrev y42 : MethodName := ⟨"CyclicCodeLab", "setLength", "(I)Z"⟩
theorem hy42 : y42.cls ≠ "java/lang/invoke/MethodHandle" ∧ y42.cls ≠ "java/lang/invoke/VarHandle" := by decide
theorem pd42 : parseMethodDescriptor y42.desc = some ⟨[.int], some .boolean⟩ := by decide +kernel
abbrev R42 : Room := { frames := 5, cells := 0, slots := 0, locals := 79 }
abbrev P42 (r : Int32 × St) : Option Value → List OwnC → Prop := fun v H' => v = some (.int r.1) ∧ H' = (Hb 0 r.2)
abbrev W42 (l : Launch) (Z : State) (n0 : Nat) (Q : Option Value → List OwnC → Prop) (k n pc : Nat) (L : List Slot) (S : List Value) (H : List OwnC) : Prop := WP l Z CN lay "CyclicCodeLab" "setLength" prog_1_method_2_code 2 (some FieldType.boolean) R42 n0 0 Q k n pc L S H
def f_setLength (n : Nat) (p1 : Int32) (s : St) : Option (Int32 × St) :=
  (f_configure n p1 s).bind fun c1 =>
  some (c1.1 &&& 1, c1.2)
set_option maxRecDepth 65536 in
set_option maxHeartbeats 4000000 in
theorem ok42 (l : Launch) (Z : State) (a0 : Array Value) (hw : HW a0 Z) (n : Nat) (p1 : Int32) (s : St) (r : Int32 × St) (h : f_setLength n p1 s = some r) : CS l Z CN lay y42 prog_1_method_2_code 2 (some FieldType.boolean) R42 0 [.ref 0, .int p1] (Hb 0 s) (P42 r) := by
  refine CS.of_wp pn_cls (leb rfl) fun n0 => ?_
  show W42 l Z n0 (P42 r) 0 0 0 [.val (.ref 0), .val (.int p1)] [] (Hb 0 s)
  unfold f_setLength at h
  refine WP.aloadN d42_0 rfl ?_
  refine WP.iloadN d42_1 rfl ?_
  obtain ⟨c1, hc1, h⟩ := Option.bind_eq_some_iff.mp h
  refine WP.callP (i := 0) (y := y1) (as := [.int p1]) (S := []) d42_2 (hw _ m_22) (hw _ m_24) (hw _ m_1) (hw _ m_23) (hw _ m_25) (hw _ m_2) hy1 rfl (ok1 l Z a0 hw n p1 s _ hc1) rfl (lenOf pd1 rfl) (leb rfl) (leb rfl) (leb rfl) (leb rfl) ?_
  rintro _ _ ⟨rfl, rfl⟩
  show W42 l Z n0 (P42 r) 0 0 5 [.val (.ref 0), .val (.int p1)] [.int c1.1] (Hb 0 c1.2)
  cases h
  exact WP.zreturn d42_5 rfl (leb rfl) (leb rfl) ⟨rfl, rfl⟩
theorem d39_0 : dc prog_1_method_37_code 0 (.iload_n 1) 1 := by decide +kernel
theorem d39_1 : dc prog_1_method_37_code 1 (.ifCond .lt 15) 3 := by decide +kernel
theorem d39_4 : dc prog_1_method_37_code 4 (.iload_n 1) 1 := by decide +kernel
theorem d39_5 : dc prog_1_method_37_code 5 (.aload_n 0) 1 := by decide +kernel
theorem d39_6 : dc prog_1_method_37_code 6 (.getfield 32) 3 := by decide +kernel
theorem d39_9 : dc prog_1_method_37_code 9 (.if_icmp .ge 7) 3 := by decide +kernel
theorem d39_12 : dc prog_1_method_37_code 12 (.iconst 1) 1 := by decide +kernel
theorem d39_13 : dc prog_1_method_37_code 13 (.goto 4) 3 := by decide +kernel
theorem d39_16 : dc prog_1_method_37_code 16 (.iconst 0) 1 := by decide +kernel
theorem d39_17 : dc prog_1_method_37_code 17 (.ireturn) 1 := by decide +kernel
abbrev y39 : MethodName := ⟨"CyclicCodeLab", "inRange", "(I)Z"⟩
theorem hy39 : y39.cls ≠ "java/lang/invoke/MethodHandle" ∧ y39.cls ≠ "java/lang/invoke/VarHandle" := by decide
theorem pd39 : parseMethodDescriptor y39.desc = some ⟨[.int], some .boolean⟩ := by decide +kernel
abbrev R39 : Room := { frames := 0, cells := 0, slots := 0, locals := 0 }
abbrev P39 (s : St) (r : Int32) : Option Value → List OwnC → Prop := fun v H' => v = some (.int r) ∧ H' = (Hb 0 s)
abbrev W39 (l : Launch) (Z : State) (n0 : Nat) (Q : Option Value → List OwnC → Prop) (k n pc : Nat) (L : List Slot) (S : List Value) (H : List OwnC) : Prop := WP l Z CN lay "CyclicCodeLab" "inRange" prog_1_method_37_code 2 (some FieldType.boolean) R39 n0 0 Q k n pc L S H
def f_inRange_17 (t0 : Int32) (s : St) : Option (Int32) :=
  some (t0 &&& 1)
set_option maxRecDepth 65536 in
set_option maxHeartbeats 4000000 in
theorem ok39_17 (l : Launch) (Z : State) (a0 : Array Value) (hw : HW a0 Z) (n0 : Nat) (t0 : Int32) (s : St) (r : Int32) (h : f_inRange_17 t0 s = some r) : W39 l Z n0 (P39 s r) 0 0 17 [.unset, .unset] [.int t0] (Hb 0 s) := by
  unfold f_inRange_17 at h
  cases h
  exact WP.zreturn d39_17 rfl (leb rfl) (leb rfl) ⟨rfl, rfl⟩
def f_inRange_16 (s : St) : Option (Int32) :=
  f_inRange_17 (0 : Int32) s
set_option maxRecDepth 65536 in
set_option maxHeartbeats 4000000 in
theorem ok39_16 (l : Launch) (Z : State) (a0 : Array Value) (hw : HW a0 Z) (n0 : Nat) (s : St) (r : Int32) (h : f_inRange_16 s = some r) : W39 l Z n0 (P39 s r) 0 0 16 [.unset, .unset] [] (Hb 0 s) := by
  unfold f_inRange_16 at h
  refine WP.iconst (0 : Int32) d39_16 rfl ?_
  exact WP.weak (L' := [.unset, .unset]) trivial (ok39_17 l Z a0 hw n0 (0 : Int32) s _ h)
def f_inRange (p1 : Int32) (s : St) : Option (Int32) :=
  if p1 < 0 then
    f_inRange_16 s
  else
    if p1 < (gI s 0) then
      f_inRange_17 (1 : Int32) s
    else
      f_inRange_16 s
set_option maxRecDepth 65536 in
set_option maxHeartbeats 4000000 in
theorem ok39 (l : Launch) (Z : State) (a0 : Array Value) (hw : HW a0 Z) (p1 : Int32) (s : St) (r : Int32) (h : f_inRange p1 s = some r) : CS l Z CN lay y39 prog_1_method_37_code 2 (some FieldType.boolean) R39 0 [.ref 0, .int p1] (Hb 0 s) (P39 s r) := by
  refine CS.of_wp pn_cls (leb rfl) fun n0 => ?_
  show W39 l Z n0 (P39 s r) 0 0 0 [.val (.ref 0), .val (.int p1)] [] (Hb 0 s)
  unfold f_inRange at h
  refine WP.iloadN d39_0 rfl ?_
  rcases ite_e h with ⟨hc1, h⟩ | ⟨hc1, h⟩
  ·
    refine WP.ifY (pc' := 16) d39_1 (XT.i0_lt_t hc1) (by decide) rfl ?_
    exact WP.weak (L' := [.unset, .unset]) trivial (ok39_16 l Z a0 hw n0 s _ h)
  ·
    refine WP.ifN d39_1 (XT.i0_lt_f hc1) ?_
    refine WP.iloadN d39_4 rfl ?_
    refine WP.aloadN d39_5 rfl ?_
    refine WP.getfield (i := 0) (j := 0) d39_6 (hw _ m_30) rfl rfl rfl ?_
    rcases ite_e h with ⟨hc2, h⟩ | ⟨hc2, h⟩
    ·
      refine WP.icmpN d39_9 (XT.ii_ge_f hc2) ?_
      refine WP.iconst (1 : Int32) d39_12 rfl ?_
      refine WP.goto (pc' := 17) d39_13 (by decide) rfl ?_
      exact WP.weak (L' := [.unset, .unset]) trivial (ok39_17 l Z a0 hw n0 (1 : Int32) s _ h)
    ·
      refine WP.icmpY (pc' := 16) d39_9 (XT.ii_ge_t hc2) (by decide) rfl ?_
      exact WP.weak (L' := [.unset, .unset]) trivial (ok39_16 l Z a0 hw n0 s _ h)
theorem d43_0 : dc prog_1_method_7_code 0 (.aload_n 0) 1 := by decide +kernel
theorem d43_1 : dc prog_1_method_7_code 1 (.iload_n 1) 1 := by decide +kernel
theorem d43_2 : dc prog_1_method_7_code 2 (.invokevirtual 39) 3 := by decide +kernel
theorem d43_5 : dc prog_1_method_7_code 5 (.ifCond .ne 5) 3 := by decide +kernel
theorem d43_8 : dc prog_1_method_7_code 8 (.iconst 0) 1 := by decide +kernel
theorem d43_9 : dc prog_1_method_7_code 9 (.ireturn) 1 := by decide +kernel
theorem d43_10 : dc prog_1_method_7_code 10 (.aload_n 0) 1 := by decide +kernel
theorem d43_11 : dc prog_1_method_7_code 11 (.aload_n 0) 1 := by decide +kernel
theorem d43_12 : dc prog_1_method_7_code 12 (.getfield 42) 3 := by decide +kernel
theorem d43_15 : dc prog_1_method_7_code 15 (.aload_n 0) 1 := by decide +kernel
theorem d43_16 : dc prog_1_method_7_code 16 (.getfield 16) 3 := by decide +kernel
theorem d43_19 : dc prog_1_method_7_code 19 (.iload_n 1) 1 := by decide +kernel
theorem d43_20 : dc prog_1_method_7_code 20 (.iaload) 1 := by decide +kernel
theorem d43_21 : dc prog_1_method_7_code 21 (.ior) 1 := by decide +kernel
theorem d43_22 : dc prog_1_method_7_code 22 (.putfield 42) 3 := by decide +kernel
theorem d43_25 : dc prog_1_method_7_code 25 (.aload_n 0) 1 := by decide +kernel
theorem d43_26 : dc prog_1_method_7_code 26 (.invokevirtual 45) 3 := by decide +kernel
theorem d43_29 : dc prog_1_method_7_code 29 (.iconst 1) 1 := by decide +kernel
theorem d43_30 : dc prog_1_method_7_code 30 (.ireturn) 1 := by decide +kernel
abbrev y43 : MethodName := ⟨"CyclicCodeLab", "addZeros", "(I)Z"⟩
theorem hy43 : y43.cls ≠ "java/lang/invoke/MethodHandle" ∧ y43.cls ≠ "java/lang/invoke/VarHandle" := by decide
theorem pd43 : parseMethodDescriptor y43.desc = some ⟨[.int], some .boolean⟩ := by decide +kernel
abbrev R43 : Room := { frames := 3, cells := 0, slots := 0, locals := 43 }
abbrev P43 (r : Int32 × St) : Option Value → List OwnC → Prop := fun v H' => v = some (.int r.1) ∧ H' = (Hb 0 r.2)
abbrev W43 (l : Launch) (Z : State) (n0 : Nat) (Q : Option Value → List OwnC → Prop) (k n pc : Nat) (L : List Slot) (S : List Value) (H : List OwnC) : Prop := WP l Z CN lay "CyclicCodeLab" "addZeros" prog_1_method_7_code 2 (some FieldType.boolean) R43 n0 0 Q k n pc L S H
def f_addZeros (n : Nat) (p1 : Int32) (s : St) : Option (Int32 × St) :=
  (f_inRange p1 s).bind fun c1 =>
  if c1 = 0 then
    some ((0 : Int32), s)
  else
    (rd (gA s 2) p1).bind fun x3 =>
    lt (sI s 4 ((gI s 4) ||| x3)) fun s4 =>
    (f_refresh n s4).bind fun c5 =>
    some ((1 : Int32), c5)
set_option maxRecDepth 65536 in
set_option maxHeartbeats 4000000 in
theorem ok43 (l : Launch) (Z : State) (a0 : Array Value) (hw : HW a0 Z) (n : Nat) (p1 : Int32) (s : St) (r : Int32 × St) (h : f_addZeros n p1 s = some r) : CS l Z CN lay y43 prog_1_method_7_code 2 (some FieldType.boolean) R43 0 [.ref 0, .int p1] (Hb 0 s) (P43 r) := by
  refine CS.of_wp pn_cls (leb rfl) fun n0 => ?_
  show W43 l Z n0 (P43 r) 0 0 0 [.val (.ref 0), .val (.int p1)] [] (Hb 0 s)
  unfold f_addZeros at h
  refine WP.aloadN d43_0 rfl ?_
  refine WP.iloadN d43_1 rfl ?_
  obtain ⟨c1, hc1, h⟩ := Option.bind_eq_some_iff.mp h
  refine WP.callP (i := 0) (y := y39) (as := [.int p1]) (S := []) d43_2 (hw _ m_200) (hw _ m_202) (hw _ m_1) (hw _ m_201) (hw _ m_203) (hw _ m_2) hy39 rfl (ok39 l Z a0 hw p1 s _ hc1) rfl (lenOf pd39 rfl) (leb rfl) (leb rfl) (leb rfl) (leb rfl) ?_
  rintro _ _ ⟨rfl, rfl⟩
  show W43 l Z n0 (P43 r) 0 0 5 [.val (.ref 0), .val (.int p1)] [.int c1] (Hb 0 s)
  rcases ite_e h with ⟨hc2, h⟩ | ⟨hc2, h⟩
  ·
    refine WP.ifN d43_5 (XT.i0_ne_f hc2) ?_
    refine WP.iconst (0 : Int32) d43_8 rfl ?_
    cases h
    exact WP.zreturn d43_9 rfl (leb rfl) (leb rfl) ⟨rfl, rfl⟩
  ·
    refine WP.ifY (pc' := 10) d43_5 (XT.i0_ne_t hc2) (by decide) rfl ?_
    refine WP.aloadN d43_10 rfl ?_
    refine WP.aloadN d43_11 rfl ?_
    refine WP.getfield (i := 0) (j := 4) d43_12 (hw _ m_82) rfl rfl rfl ?_
    refine WP.aloadN d43_15 rfl ?_
    refine WP.getfield (i := 0) (j := 10) d43_16 (hw _ m_14) rfl rfl rfl ?_
    refine WP.iloadN d43_19 rfl ?_
    obtain ⟨x3, hx3, h⟩ := Option.bind_eq_some_iff.mp h
    refine WP.iaload (i := 3) d43_20 rfl hx3 ?_
    refine WP.ior d43_21 ?_
    obtain ⟨s4, es4, h⟩ := lt_e h
    refine WP.putI (i := 0) (j := 4) (H' := (Hb 0 s4)) d43_22 (hw _ m_82) (Or.inl (hw _ m_83)) (hw _ m_1) (hlay hw) rfl rfl rfl (leb rfl) (by subst es4; rfl) ?_
    refine WP.aloadN d43_25 rfl ?_
    obtain ⟨c5, hc5, h⟩ := Option.bind_eq_some_iff.mp h
    refine WP.callP (i := 0) (y := y14) (as := []) (S := []) d43_26 (hw _ m_84) (hw _ m_86) (hw _ m_1) (hw _ m_85) (hw _ m_87) (hw _ m_2) hy14 rfl (ok14 l Z a0 hw n s4 _ hc5) rfl (lenOf pd14 rfl) (leb rfl) (leb rfl) (leb rfl) (leb rfl) ?_
    rintro _ _ ⟨rfl, rfl⟩
    show W43 l Z n0 (P43 r) 0 0 29 [.val (.ref 0), .val (.int p1)] [] (Hb 0 c5)
    refine WP.iconst (1 : Int32) d43_29 rfl ?_
    cases h
    exact WP.zreturn d43_30 rfl (leb rfl) (leb rfl) ⟨rfl, rfl⟩
theorem d38_0 : dc prog_1_method_8_code 0 (.aload_n 0) 1 := by decide +kernel
theorem d38_1 : dc prog_1_method_8_code 1 (.iload_n 1) 1 := by decide +kernel
theorem d38_2 : dc prog_1_method_8_code 2 (.invokevirtual 39) 3 := by decide +kernel
theorem d38_5 : dc prog_1_method_8_code 5 (.ifCond .ne 5) 3 := by decide +kernel
theorem d38_8 : dc prog_1_method_8_code 8 (.iconst 0) 1 := by decide +kernel
theorem d38_9 : dc prog_1_method_8_code 9 (.ireturn) 1 := by decide +kernel
theorem d38_10 : dc prog_1_method_8_code 10 (.iload_n 2) 1 := by decide +kernel
theorem d38_11 : dc prog_1_method_8_code 11 (.iconst 1) 1 := by decide +kernel
theorem d38_12 : dc prog_1_method_8_code 12 (.if_icmp .lt 11) 3 := by decide +kernel
theorem d38_15 : dc prog_1_method_8_code 15 (.iload_n 2) 1 := by decide +kernel
theorem d38_16 : dc prog_1_method_8_code 16 (.aload_n 0) 1 := by decide +kernel
theorem d38_17 : dc prog_1_method_8_code 17 (.getfield 32) 3 := by decide +kernel
theorem d38_20 : dc prog_1_method_8_code 20 (.if_icmp .le 5) 3 := by decide +kernel
theorem d38_23 : dc prog_1_method_8_code 23 (.iconst 0) 1 := by decide +kernel
theorem d38_24 : dc prog_1_method_8_code 24 (.ireturn) 1 := by decide +kernel
theorem d38_25 : dc prog_1_method_8_code 25 (.iconst 0) 1 := by decide +kernel
theorem d38_26 : dc prog_1_method_8_code 26 (.istore_n 3) 1 := by decide +kernel
theorem d38_27 : dc prog_1_method_8_code 27 (.iconst 0) 1 := by decide +kernel
theorem d38_28 : dc prog_1_method_8_code 28 (.istore 4) 2 := by decide +kernel
theorem d38_30 : dc prog_1_method_8_code 30 (.iload 4) 2 := by decide +kernel
theorem d38_32 : dc prog_1_method_8_code 32 (.iload_n 2) 1 := by decide +kernel
theorem d38_33 : dc prog_1_method_8_code 33 (.iconst 2) 1 := by decide +kernel
theorem d38_34 : dc prog_1_method_8_code 34 (.isub) 1 := by decide +kernel
theorem d38_35 : dc prog_1_method_8_code 35 (.if_icmp .gt 30) 3 := by decide +kernel
theorem d38_38 : dc prog_1_method_8_code 38 (.iload_n 1) 1 := by decide +kernel
theorem d38_39 : dc prog_1_method_8_code 39 (.iload 4) 2 := by decide +kernel
theorem d38_41 : dc prog_1_method_8_code 41 (.iadd) 1 := by decide +kernel
theorem d38_42 : dc prog_1_method_8_code 42 (.aload_n 0) 1 := by decide +kernel
theorem d38_43 : dc prog_1_method_8_code 43 (.getfield 32) 3 := by decide +kernel
theorem d38_46 : dc prog_1_method_8_code 46 (.irem) 1 := by decide +kernel
theorem d38_47 : dc prog_1_method_8_code 47 (.istore 5) 2 := by decide +kernel
theorem d38_49 : dc prog_1_method_8_code 49 (.iload_n 3) 1 := by decide +kernel
theorem d38_50 : dc prog_1_method_8_code 50 (.aload_n 0) 1 := by decide +kernel
theorem d38_51 : dc prog_1_method_8_code 51 (.getfield 16) 3 := by decide +kernel
theorem d38_54 : dc prog_1_method_8_code 54 (.iload 5) 2 := by decide +kernel
theorem d38_56 : dc prog_1_method_8_code 56 (.iaload) 1 := by decide +kernel
theorem d38_57 : dc prog_1_method_8_code 57 (.ior) 1 := by decide +kernel
theorem d38_58 : dc prog_1_method_8_code 58 (.istore_n 3) 1 := by decide +kernel
theorem d38_59 : dc prog_1_method_8_code 59 (.iinc 4 1) 3 := by decide +kernel
theorem d38_62 : dc prog_1_method_8_code 62 (.goto (-32)) 3 := by decide +kernel
theorem d38_65 : dc prog_1_method_8_code 65 (.aload_n 0) 1 := by decide +kernel
theorem d38_66 : dc prog_1_method_8_code 66 (.iload_n 3) 1 := by decide +kernel
theorem d38_67 : dc prog_1_method_8_code 67 (.putfield 42) 3 := by decide +kernel
theorem d38_70 : dc prog_1_method_8_code 70 (.aload_n 0) 1 := by decide +kernel
theorem d38_71 : dc prog_1_method_8_code 71 (.invokevirtual 45) 3 := by decide +kernel
theorem d38_74 : dc prog_1_method_8_code 74 (.iconst 1) 1 := by decide +kernel
theorem d38_75 : dc prog_1_method_8_code 75 (.ireturn) 1 := by decide +kernel
abbrev y38 : MethodName := ⟨"CyclicCodeLab", "designBCH", "(II)Z"⟩
theorem hy38 : y38.cls ≠ "java/lang/invoke/MethodHandle" ∧ y38.cls ≠ "java/lang/invoke/VarHandle" := by decide
theorem pd38 : parseMethodDescriptor y38.desc = some ⟨[.int, .int], some .boolean⟩ := by decide +kernel
abbrev R38 : Room := { frames := 3, cells := 0, slots := 0, locals := 43 }
abbrev P38 (r : Int32 × St) : Option Value → List OwnC → Prop := fun v H' => v = some (.int r.1) ∧ H' = (Hb 0 r.2)
abbrev W38 (l : Launch) (Z : State) (n0 : Nat) (Q : Option Value → List OwnC → Prop) (k n pc : Nat) (L : List Slot) (S : List Value) (H : List OwnC) : Prop := WP l Z CN lay "CyclicCodeLab" "designBCH" prog_1_method_8_code 6 (some FieldType.boolean) R38 n0 0 Q k n pc L S H
def f_designBCH_23 (n : Nat) (s : St) : Option (Int32 × St) :=
  some ((0 : Int32), s)
set_option maxRecDepth 65536 in
set_option maxHeartbeats 4000000 in
theorem ok38_23 (l : Launch) (Z : State) (a0 : Array Value) (hw : HW a0 Z) (n0 : Nat) (n : Nat) (s : St) (r : Int32 × St) (h : f_designBCH_23 n s = some r) : W38 l Z n0 (P38 r) 0 0 23 [.unset, .unset, .unset, .unset, .unset, .unset] [] (Hb 0 s) := by
  unfold f_designBCH_23 at h
  refine WP.iconst (0 : Int32) d38_23 rfl ?_
  cases h
  exact WP.zreturn d38_24 rfl (leb rfl) (leb rfl) ⟨rfl, rfl⟩
def g_designBCH_30 (k30 : Int32 → Int32 → Int32 → Int32 → St → Option (Int32 × St)) (n : Nat) (v1 : Int32) (v2 : Int32) (v3 : Int32) (v4 : Int32) (s : St) : Option (Int32 × St) :=
  if (v2 - (2 : Int32)) < v4 then
    lt (sI s 4 v3) fun s2 =>
    (f_refresh n s2).bind fun c3 =>
    some ((1 : Int32), c3)
  else
    if gI s 0 = 0 then none else
    lt ((v1 + v4) % (gI s 0)) fun x5 =>
    (rd (gA s 2) x5).bind fun x6 =>
    lt (v3 ||| x6) fun x7 =>
    lt (v4 + (1 : Int32)) fun x8 =>
    k30 v1 v2 x7 x8 s
set_option maxRecDepth 65536 in
set_option maxHeartbeats 4000000 in
theorem okg38_30 (l : Launch) (Z : State) (a0 : Array Value) (hw : HW a0 Z) (n0 : Nat) (k30 : Int32 → Int32 → Int32 → Int32 → St → Option (Int32 × St)) (hk30 : ∀ (v1 : Int32) (v2 : Int32) (v3 : Int32) (v4 : Int32) (s : St) (r : Int32 × St), k30 v1 v2 v3 v4 s = some r → W38 l Z n0 (P38 r) 0 0 30 [.val (.ref 0), .val (.int v1), .val (.int v2), .val (.int v3), .val (.int v4), .unset] [] (Hb 0 s)) (n : Nat) (v1 : Int32) (v2 : Int32) (v3 : Int32) (v4 : Int32) (s : St) (r : Int32 × St) (h : g_designBCH_30 k30 n v1 v2 v3 v4 s = some r) : W38 l Z n0 (P38 r) 0 0 30 [.val (.ref 0), .val (.int v1), .val (.int v2), .val (.int v3), .val (.int v4), .unset] [] (Hb 0 s) := by
  unfold g_designBCH_30 at h
  refine WP.iload d38_30 rfl ?_
  refine WP.iloadN d38_32 rfl ?_
  refine WP.iconst (2 : Int32) d38_33 rfl ?_
  refine WP.isub d38_34 ?_
  rcases ite_e h with ⟨hc1, h⟩ | ⟨hc1, h⟩
  ·
    refine WP.icmpY (pc' := 65) d38_35 (XT.ii_gt_t hc1) (by decide) rfl ?_
    refine WP.aloadN d38_65 rfl ?_
    refine WP.iloadN d38_66 rfl ?_
    obtain ⟨s2, es2, h⟩ := lt_e h
    refine WP.putI (i := 0) (j := 4) (H' := (Hb 0 s2)) d38_67 (hw _ m_82) (Or.inl (hw _ m_83)) (hw _ m_1) (hlay hw) rfl rfl rfl (leb rfl) (by subst es2; rfl) ?_
    refine WP.aloadN d38_70 rfl ?_
    obtain ⟨c3, hc3, h⟩ := Option.bind_eq_some_iff.mp h
    refine WP.callP (i := 0) (y := y14) (as := []) (S := []) d38_71 (hw _ m_84) (hw _ m_86) (hw _ m_1) (hw _ m_85) (hw _ m_87) (hw _ m_2) hy14 rfl (ok14 l Z a0 hw n s2 _ hc3) rfl (lenOf pd14 rfl) (leb rfl) (leb rfl) (leb rfl) (leb rfl) ?_
    rintro _ _ ⟨rfl, rfl⟩
    show W38 l Z n0 (P38 r) 0 0 74 [.val (.ref 0), .val (.int v1), .val (.int v2), .val (.int v3), .val (.int v4), .unset] [] (Hb 0 c3)
    refine WP.iconst (1 : Int32) d38_74 rfl ?_
    cases h
    exact WP.zreturn d38_75 rfl (leb rfl) (leb rfl) ⟨rfl, rfl⟩
  ·
    refine WP.icmpN d38_35 (XT.ii_gt_f hc1) ?_
    refine WP.iloadN d38_38 rfl ?_
    refine WP.iload d38_39 rfl ?_
    refine WP.iadd d38_41 ?_
    refine WP.aloadN d38_42 rfl ?_
    refine WP.getfield (i := 0) (j := 0) d38_43 (hw _ m_30) rfl rfl rfl ?_
    obtain ⟨hz4, h⟩ := nz_e h
    refine WP.irem d38_46 hz4 ?_
    obtain ⟨x5, ex5, h⟩ := lt_e h
    refine WP.istore (L' := [.val (.ref 0), .val (.int v1), .val (.int v2), .val (.int v3), .val (.int v4), .val (.int x5)]) d38_47 (leb rfl) (by subst ex5; rfl) ?_
    refine WP.iloadN d38_49 rfl ?_
    refine WP.aloadN d38_50 rfl ?_
    refine WP.getfield (i := 0) (j := 10) d38_51 (hw _ m_14) rfl rfl rfl ?_
    refine WP.iload d38_54 rfl ?_
    obtain ⟨x6, hx6, h⟩ := Option.bind_eq_some_iff.mp h
    refine WP.iaload (i := 3) d38_56 rfl hx6 ?_
    refine WP.ior d38_57 ?_
    obtain ⟨x7, ex7, h⟩ := lt_e h
    refine WP.istoreN (L' := [.val (.ref 0), .val (.int v1), .val (.int v2), .val (.int x7), .val (.int v4), .val (.int x5)]) d38_58 (leb rfl) (by subst ex7; rfl) ?_
    obtain ⟨x8, ex8, h⟩ := lt_e h
    refine WP.iinc (L' := [.val (.ref 0), .val (.int v1), .val (.int v2), .val (.int x7), .val (.int x8), .val (.int x5)]) (1 : Int32) d38_59 rfl rfl (by subst ex8; rfl) ?_
    refine WP.goto (pc' := 30) d38_62 (by decide) rfl ?_
    exact WP.weak (L' := [.val (.ref 0), .val (.int v1), .val (.int v2), .val (.int x7), .val (.int x8), .unset]) ⟨rfl, rfl, rfl, rfl, rfl, trivial⟩ (hk30 v1 v2 x7 x8 s _ h)
def f_designBCH_30 : Nat → Int32 → Int32 → Int32 → Int32 → St → Option (Int32 × St)
  | 0 => fun _ _ _ _ _ => none
  | n + 1 => g_designBCH_30 (f_designBCH_30 n) n
theorem ok38_30 (l : Launch) (Z : State) (a0 : Array Value) (hw : HW a0 Z) (n0 : Nat) : ∀ (n : Nat) (v1 : Int32) (v2 : Int32) (v3 : Int32) (v4 : Int32) (s : St) (r : Int32 × St), f_designBCH_30 n v1 v2 v3 v4 s = some r → W38 l Z n0 (P38 r) 0 0 30 [.val (.ref 0), .val (.int v1), .val (.int v2), .val (.int v3), .val (.int v4), .unset] [] (Hb 0 s)
  | 0, v1, v2, v3, v4, s, r, h => nomatch (show none = some r from h)
  | n + 1, v1, v2, v3, v4, s, r, h => okg38_30 l Z a0 hw n0 _ (ok38_30 l Z a0 hw n0 n) n v1 v2 v3 v4 s r h
def f_designBCH (n : Nat) (p1 : Int32) (p2 : Int32) (s : St) : Option (Int32 × St) :=
  (f_inRange p1 s).bind fun c1 =>
  if c1 = 0 then
    some ((0 : Int32), s)
  else
    if p2 < (1 : Int32) then
      f_designBCH_23 n s
    else
      if (gI s 0) < p2 then
        f_designBCH_23 n s
      else
        f_designBCH_30 n p1 p2 (0 : Int32) (0 : Int32) s
set_option maxRecDepth 65536 in
set_option maxHeartbeats 4000000 in
theorem ok38 (l : Launch) (Z : State) (a0 : Array Value) (hw : HW a0 Z) (n : Nat) (p1 : Int32) (p2 : Int32) (s : St) (r : Int32 × St) (h : f_designBCH n p1 p2 s = some r) : CS l Z CN lay y38 prog_1_method_8_code 6 (some FieldType.boolean) R38 0 [.ref 0, .int p1, .int p2] (Hb 0 s) (P38 r) := by
  refine CS.of_wp pn_cls (leb rfl) fun n0 => ?_
  show W38 l Z n0 (P38 r) 0 0 0 [.val (.ref 0), .val (.int p1), .val (.int p2), .unset, .unset, .unset] [] (Hb 0 s)
  unfold f_designBCH at h
  refine WP.aloadN d38_0 rfl ?_
  refine WP.iloadN d38_1 rfl ?_
  obtain ⟨c1, hc1, h⟩ := Option.bind_eq_some_iff.mp h
  refine WP.callP (i := 0) (y := y39) (as := [.int p1]) (S := []) d38_2 (hw _ m_200) (hw _ m_202) (hw _ m_1) (hw _ m_201) (hw _ m_203) (hw _ m_2) hy39 rfl (ok39 l Z a0 hw p1 s _ hc1) rfl (lenOf pd39 rfl) (leb rfl) (leb rfl) (leb rfl) (leb rfl) ?_
  rintro _ _ ⟨rfl, rfl⟩
  show W38 l Z n0 (P38 r) 0 0 5 [.val (.ref 0), .val (.int p1), .val (.int p2), .unset, .unset, .unset] [.int c1] (Hb 0 s)
  rcases ite_e h with ⟨hc2, h⟩ | ⟨hc2, h⟩
  ·
    refine WP.ifN d38_5 (XT.i0_ne_f hc2) ?_
    refine WP.iconst (0 : Int32) d38_8 rfl ?_
    cases h
    exact WP.zreturn d38_9 rfl (leb rfl) (leb rfl) ⟨rfl, rfl⟩
  ·
    refine WP.ifY (pc' := 10) d38_5 (XT.i0_ne_t hc2) (by decide) rfl ?_
    refine WP.iloadN d38_10 rfl ?_
    refine WP.iconst (1 : Int32) d38_11 rfl ?_
    rcases ite_e h with ⟨hc3, h⟩ | ⟨hc3, h⟩
    ·
      refine WP.icmpY (pc' := 23) d38_12 (XT.ii_lt_t hc3) (by decide) rfl ?_
      exact WP.weak (L' := [.unset, .unset, .unset, .unset, .unset, .unset]) trivial (ok38_23 l Z a0 hw n0 n s _ h)
    ·
      refine WP.icmpN d38_12 (XT.ii_lt_f hc3) ?_
      refine WP.iloadN d38_15 rfl ?_
      refine WP.aloadN d38_16 rfl ?_
      refine WP.getfield (i := 0) (j := 0) d38_17 (hw _ m_30) rfl rfl rfl ?_
      rcases ite_e h with ⟨hc4, h⟩ | ⟨hc4, h⟩
      ·
        refine WP.icmpN d38_20 (XT.ii_le_f hc4) ?_
        exact WP.weak (L' := [.unset, .unset, .unset, .unset, .unset, .unset]) trivial (ok38_23 l Z a0 hw n0 n s _ h)
      ·
        refine WP.icmpY (pc' := 25) d38_20 (XT.ii_le_t hc4) (by decide) rfl ?_
        refine WP.iconst (0 : Int32) d38_25 rfl ?_
        refine WP.istoreN (L' := [.val (.ref 0), .val (.int p1), .val (.int p2), .val (.int (0 : Int32)), .unset, .unset]) d38_26 (leb rfl) rfl ?_
        refine WP.iconst (0 : Int32) d38_27 rfl ?_
        refine WP.istore (L' := [.val (.ref 0), .val (.int p1), .val (.int p2), .val (.int (0 : Int32)), .val (.int (0 : Int32)), .unset]) d38_28 (leb rfl) rfl ?_
        exact WP.weak (L' := [.val (.ref 0), .val (.int p1), .val (.int p2), .val (.int (0 : Int32)), .val (.int (0 : Int32)), .unset]) ⟨rfl, rfl, rfl, rfl, rfl, trivial⟩ (ok38_30 l Z a0 hw n0 n p1 p2 (0 : Int32) (0 : Int32) s _ h)
def fr3_f : List Nat := [1]
theorem fr3_c (x0 : List Int32) : fr3_f.map (fun i => ([cI x0] ++ [cO vs0])[i]?) = ([cO vs0]).map (fun c => some (rnC (ro1 fr3_f ([cI x0] ++ [cO vs0]).length) c)) := rfl
theorem fr3_l (x0 : List Int32) : ∀ x ∈ fr3_f, x < ([cI x0] ++ [cO vs0]).length := by show ∀ x ∈ fr3_f, x < 2; decide
theorem fr3_p (x0 : List Int32) (y1 : St) : patch (ro1 fr3_f ([cI x0] ++ [cO vs0]).length) fr3_f (Hb 0 y1) ([cI x0] ++ [cO vs0]) = ([cI x0] ++ Hb 1 y1) := rfl
abbrev PLAW (r : Int32) : Option Value → List OwnC → Prop := fun v _ => v = some (.int r)
abbrev WLAW (l : Launch) (Z : State) (n0 : Nat) (Q : Option Value → List OwnC → Prop) (k n pc : Nat) (L : List Slot) (S : List Value) (H : List OwnC) : Prop := WP l Z CN lay "CyclicCodeLabOwnLaw" "law" code maxLocals ret room_1 n0 1 Q k n pc L S H
def f_law_97 (n : Nat) (a : List Int32) (s0 : St) : Option (Int32) :=
  some (0 : Int32)
set_option maxRecDepth 65536 in
set_option maxHeartbeats 4000000 in
theorem okLAW_97 (l : Launch) (Z : State) (a0 : Array Value) (hw : HW a0 Z) (n0 : Nat) (n : Nat) (a : List Int32) (s0 : St) (r : Int32) (h : f_law_97 n a s0 = some r) : WLAW l Z n0 (PLAW r) 7 632 97 [.unset, .unset, .unset, .unset, .unset, .unset, .unset, .unset] [] ([cI a] ++ Hb 1 s0) := by
  unfold f_law_97 at h
  refine WP.iconst (0 : Int32) at_97 rfl ?_
  cases h
  exact WP.zreturn at_98 rfl (leb rfl) (leb rfl) rfl
def f_law_189 (k23 : Int32 → Int32 → List Int32 → St → Option (Int32)) (n : Nat) (v2 : Int32) (v3 : Int32) (a : List Int32) (s0 : St) : Option (Int32) :=
  (f_L_check n (v2 + (3 : Int32)) a s0).bind fun c1 =>
  if c1 = 0 then
    some (0 : Int32)
  else
    lt (v2 + (24 : Int32)) fun x3 =>
    lt (v3 + (1 : Int32)) fun x4 =>
    k23 x3 x4 a s0
set_option maxRecDepth 65536 in
set_option maxHeartbeats 4000000 in
theorem okLAW_189 (l : Launch) (Z : State) (a0 : Array Value) (hw : HW a0 Z) (n0 : Nat) (k23 : Int32 → Int32 → List Int32 → St → Option (Int32)) (hk23 : ∀ (v2 : Int32) (v3 : Int32) (a : List Int32) (s0 : St) (r : Int32), k23 v2 v3 a s0 = some r → WLAW l Z n0 (PLAW r) 7 632 23 [.val (.ref 0), .val (.ref 1), .val (.int v2), .val (.int v3), .unset, .unset, .unset, .unset] [] ([cI a] ++ Hb 1 s0)) (n : Nat) (v2 : Int32) (v3 : Int32) (a : List Int32) (s0 : St) (r : Int32) (h : f_law_189 k23 n v2 v3 a s0 = some r) : WLAW l Z n0 (PLAW r) 7 632 189 [.val (.ref 0), .val (.ref 1), .val (.int v2), .val (.int v3), .unset, .unset, .unset, .unset] [] ([cI a] ++ Hb 1 s0) := by
  unfold f_law_189 at h
  refine WP.aloadN at_189 rfl ?_
  refine WP.aloadN at_190 rfl ?_
  refine WP.iloadN at_191 rfl ?_
  refine WP.iconst (3 : Int32) at_192 rfl ?_
  refine WP.iadd at_193 ?_
  obtain ⟨c1, hc1, h⟩ := Option.bind_eq_some_iff.mp h
  refine WP.callS (y := y19) (as := [.ref 1, .ref 0, .int (v2 + (3 : Int32))]) (S := []) at_194 (hw _ m_110) (hw _ m_111) (hw _ m_112) (hw _ m_113) hy19 (ok19 l Z a0 hw n (v2 + (3 : Int32)) a s0 _ hc1) rfl (lenOf pd19 rfl) (leb rfl) (leb rfl) (leb rfl) (leb rfl) ?_
  rintro _ _ ⟨rfl, rfl⟩
  show WLAW l Z n0 (PLAW r) 7 632 197 [.val (.ref 0), .val (.ref 1), .val (.int v2), .val (.int v3), .unset, .unset, .unset, .unset] [.int c1] ([cI a] ++ Hb 1 s0)
  rcases ite_e h with ⟨hc2, h⟩ | ⟨hc2, h⟩
  ·
    refine WP.ifN at_197 (XT.i0_ne_f hc2) ?_
    refine WP.iconst (0 : Int32) at_200 rfl ?_
    cases h
    exact WP.zreturn at_201 rfl (leb rfl) (leb rfl) rfl
  ·
    refine WP.ifY (pc' := 202) at_197 (XT.i0_ne_t hc2) (by decide) rfl ?_
    obtain ⟨x3, ex3, h⟩ := lt_e h
    refine WP.iinc (L' := [.val (.ref 0), .val (.ref 1), .val (.int x3), .val (.int v3), .unset, .unset, .unset, .unset]) (24 : Int32) at_202 rfl rfl (by subst ex3; rfl) ?_
    obtain ⟨x4, ex4, h⟩ := lt_e h
    refine WP.iinc (L' := [.val (.ref 0), .val (.ref 1), .val (.int x3), .val (.int x4), .unset, .unset, .unset, .unset]) (1 : Int32) at_205 rfl rfl (by subst ex4; rfl) ?_
    refine WP.goto (pc' := 23) at_208 (by decide) rfl ?_
    exact WP.weak (L' := [.val (.ref 0), .val (.ref 1), .val (.int x3), .val (.int x4), .unset, .unset, .unset, .unset]) ⟨rfl, rfl, rfl, rfl, trivial⟩ (hk23 x3 x4 a s0 _ h)
def f_law_42 (k23 : Int32 → Int32 → List Int32 → St → Option (Int32)) (n : Nat) (v2 : Int32) (v3 : Int32) (a : List Int32) (s0 : St) : Option (Int32) :=
  (f_L_cell v2 a).bind fun c1 =>
  (f_L_nonneg c1).bind fun c2 =>
  lt (c2 % (4 : Int32)) fun x3 =>
  (f_L_cell (v2 + (1 : Int32)) a).bind fun c4 =>
  (f_L_nonneg c4).bind fun c5 =>
  (f_L_cell (v2 + (2 : Int32)) a).bind fun c6 =>
  (f_L_nonneg c6).bind fun c7 =>
  (f_length s0).bind fun c8 =>
  if c8 < (3 : Int32) then
    f_law_97 n a s0
  else
    if (31 : Int32) < c8 then
      f_law_97 n a s0
    else
      if x3 = 0 then
        (f_L_lenOf c5).bind fun c12 =>
        (f_setLength n c12 s0).bind fun c13 =>
        f_law_189 k23 n v2 v3 a c13.2
      else
        if x3 = (1 : Int32) then
          if c8 + (2 : Int32) = 0 then none else
          (f_addZeros n ((c5 % (c8 + (2 : Int32))) - (1 : Int32)) s0).bind fun c16 =>
          f_law_189 k23 n v2 v3 a c16.2
        else
          if x3 = (2 : Int32) then
            if c8 + (1 : Int32) = 0 then none else
            if c8 + (2 : Int32) = 0 then none else
            (f_designBCH n (c5 % (c8 + (1 : Int32))) (c7 % (c8 + (2 : Int32))) s0).bind fun c20 =>
            f_law_189 k23 n v2 v3 a c20.2
          else
            if c8 = 0 then none else
            if (c8 + (1 : Int32)) / (2 : Int32) = 0 then none else
            (f_designBCH n (c5 % c8) ((1 : Int32) + (c7 % ((c8 + (1 : Int32)) / (2 : Int32)))) s0).bind fun c23 =>
            f_law_189 k23 n v2 v3 a c23.2
set_option maxRecDepth 65536 in
set_option maxHeartbeats 4000000 in
theorem okLAW_42 (l : Launch) (Z : State) (a0 : Array Value) (hw : HW a0 Z) (n0 : Nat) (k23 : Int32 → Int32 → List Int32 → St → Option (Int32)) (hk23 : ∀ (v2 : Int32) (v3 : Int32) (a : List Int32) (s0 : St) (r : Int32), k23 v2 v3 a s0 = some r → WLAW l Z n0 (PLAW r) 7 632 23 [.val (.ref 0), .val (.ref 1), .val (.int v2), .val (.int v3), .unset, .unset, .unset, .unset] [] ([cI a] ++ Hb 1 s0)) (n : Nat) (v2 : Int32) (v3 : Int32) (a : List Int32) (s0 : St) (r : Int32) (h : f_law_42 k23 n v2 v3 a s0 = some r) : WLAW l Z n0 (PLAW r) 7 632 42 [.val (.ref 0), .val (.ref 1), .val (.int v2), .val (.int v3), .unset, .unset, .unset, .unset] [] ([cI a] ++ Hb 1 s0) := by
  unfold f_law_42 at h
  refine WP.aloadN at_42 rfl ?_
  refine WP.iloadN at_43 rfl ?_
  obtain ⟨c1, hc1, h⟩ := Option.bind_eq_some_iff.mp h
  refine WP.callS (y := y31) (as := [.ref 0, .int v2]) (S := []) at_44 (hw _ m_164) (hw _ m_165) (hw _ m_112) (hw _ m_166) hy31 (CS.frame (ro := 1) (H := ([cI a] ++ Hb 1 s0)) (as := [.ref 0, .int v2]) fr1_f (ok31 l Z a0 hw v2 a _ hc1) rfl (by decide) (fr1_l a s0) (fr1_c a s0) (by decide) rfl) rfl (lenOf pd31 rfl) (leb rfl) (leb rfl) (leb rfl) (leb rfl) ?_
  rintro _ _ ⟨_, _, ⟨rfl, rfl⟩, rfl, rfl⟩
  rw [fr1_p a s0]
  show WLAW l Z n0 (PLAW r) 7 632 47 [.val (.ref 0), .val (.ref 1), .val (.int v2), .val (.int v3), .unset, .unset, .unset, .unset] [.int c1] ([cI a] ++ Hb 1 s0)
  obtain ⟨c2, hc2, h⟩ := Option.bind_eq_some_iff.mp h
  refine WP.callS (y := y35) (as := [.int c1]) (S := []) at_47 (hw _ m_181) (hw _ m_182) (hw _ m_112) (hw _ m_183) hy35 (CS.frame (ro := 1) (H := ([cI a] ++ Hb 1 s0)) (as := [.int c1]) fr2_f (ok35 l Z a0 hw c1 _ hc2) rfl (by decide) (fr2_l a s0) (fr2_c a s0) (by decide) rfl) rfl (lenOf pd35 rfl) (leb rfl) (leb rfl) (leb rfl) (leb rfl) ?_
  rintro _ _ ⟨_, _, ⟨rfl, rfl⟩, rfl, rfl⟩
  rw [fr2_p a s0]
  show WLAW l Z n0 (PLAW r) 7 632 50 [.val (.ref 0), .val (.ref 1), .val (.int v2), .val (.int v3), .unset, .unset, .unset, .unset] [.int c2] ([cI a] ++ Hb 1 s0)
  refine WP.iconst (4 : Int32) at_50 rfl ?_
  refine WP.irem at_51 (by decide) ?_
  obtain ⟨x3, ex3, h⟩ := lt_e h
  refine WP.istore (L' := [.val (.ref 0), .val (.ref 1), .val (.int v2), .val (.int v3), .val (.int x3), .unset, .unset, .unset]) at_52 (leb rfl) (by subst ex3; rfl) ?_
  refine WP.aloadN at_54 rfl ?_
  refine WP.iloadN at_55 rfl ?_
  refine WP.iconst (1 : Int32) at_56 rfl ?_
  refine WP.iadd at_57 ?_
  obtain ⟨c4, hc4, h⟩ := Option.bind_eq_some_iff.mp h
  refine WP.callS (y := y31) (as := [.ref 0, .int (v2 + (1 : Int32))]) (S := []) at_58 (hw _ m_164) (hw _ m_165) (hw _ m_112) (hw _ m_166) hy31 (CS.frame (ro := 1) (H := ([cI a] ++ Hb 1 s0)) (as := [.ref 0, .int (v2 + (1 : Int32))]) fr1_f (ok31 l Z a0 hw (v2 + (1 : Int32)) a _ hc4) rfl (by decide) (fr1_l a s0) (fr1_c a s0) (by decide) rfl) rfl (lenOf pd31 rfl) (leb rfl) (leb rfl) (leb rfl) (leb rfl) ?_
  rintro _ _ ⟨_, _, ⟨rfl, rfl⟩, rfl, rfl⟩
  rw [fr1_p a s0]
  show WLAW l Z n0 (PLAW r) 7 632 61 [.val (.ref 0), .val (.ref 1), .val (.int v2), .val (.int v3), .val (.int x3), .unset, .unset, .unset] [.int c4] ([cI a] ++ Hb 1 s0)
  obtain ⟨c5, hc5, h⟩ := Option.bind_eq_some_iff.mp h
  refine WP.callS (y := y35) (as := [.int c4]) (S := []) at_61 (hw _ m_181) (hw _ m_182) (hw _ m_112) (hw _ m_183) hy35 (CS.frame (ro := 1) (H := ([cI a] ++ Hb 1 s0)) (as := [.int c4]) fr2_f (ok35 l Z a0 hw c4 _ hc5) rfl (by decide) (fr2_l a s0) (fr2_c a s0) (by decide) rfl) rfl (lenOf pd35 rfl) (leb rfl) (leb rfl) (leb rfl) (leb rfl) ?_
  rintro _ _ ⟨_, _, ⟨rfl, rfl⟩, rfl, rfl⟩
  rw [fr2_p a s0]
  show WLAW l Z n0 (PLAW r) 7 632 64 [.val (.ref 0), .val (.ref 1), .val (.int v2), .val (.int v3), .val (.int x3), .unset, .unset, .unset] [.int c5] ([cI a] ++ Hb 1 s0)
  refine WP.istore (L' := [.val (.ref 0), .val (.ref 1), .val (.int v2), .val (.int v3), .val (.int x3), .val (.int c5), .unset, .unset]) at_64 (leb rfl) rfl ?_
  refine WP.aloadN at_66 rfl ?_
  refine WP.iloadN at_67 rfl ?_
  refine WP.iconst (2 : Int32) at_68 rfl ?_
  refine WP.iadd at_69 ?_
  obtain ⟨c6, hc6, h⟩ := Option.bind_eq_some_iff.mp h
  refine WP.callS (y := y31) (as := [.ref 0, .int (v2 + (2 : Int32))]) (S := []) at_70 (hw _ m_164) (hw _ m_165) (hw _ m_112) (hw _ m_166) hy31 (CS.frame (ro := 1) (H := ([cI a] ++ Hb 1 s0)) (as := [.ref 0, .int (v2 + (2 : Int32))]) fr1_f (ok31 l Z a0 hw (v2 + (2 : Int32)) a _ hc6) rfl (by decide) (fr1_l a s0) (fr1_c a s0) (by decide) rfl) rfl (lenOf pd31 rfl) (leb rfl) (leb rfl) (leb rfl) (leb rfl) ?_
  rintro _ _ ⟨_, _, ⟨rfl, rfl⟩, rfl, rfl⟩
  rw [fr1_p a s0]
  show WLAW l Z n0 (PLAW r) 7 632 73 [.val (.ref 0), .val (.ref 1), .val (.int v2), .val (.int v3), .val (.int x3), .val (.int c5), .unset, .unset] [.int c6] ([cI a] ++ Hb 1 s0)
  obtain ⟨c7, hc7, h⟩ := Option.bind_eq_some_iff.mp h
  refine WP.callS (y := y35) (as := [.int c6]) (S := []) at_73 (hw _ m_181) (hw _ m_182) (hw _ m_112) (hw _ m_183) hy35 (CS.frame (ro := 1) (H := ([cI a] ++ Hb 1 s0)) (as := [.int c6]) fr2_f (ok35 l Z a0 hw c6 _ hc7) rfl (by decide) (fr2_l a s0) (fr2_c a s0) (by decide) rfl) rfl (lenOf pd35 rfl) (leb rfl) (leb rfl) (leb rfl) (leb rfl) ?_
  rintro _ _ ⟨_, _, ⟨rfl, rfl⟩, rfl, rfl⟩
  rw [fr2_p a s0]
  show WLAW l Z n0 (PLAW r) 7 632 76 [.val (.ref 0), .val (.ref 1), .val (.int v2), .val (.int v3), .val (.int x3), .val (.int c5), .unset, .unset] [.int c7] ([cI a] ++ Hb 1 s0)
  refine WP.istore (L' := [.val (.ref 0), .val (.ref 1), .val (.int v2), .val (.int v3), .val (.int x3), .val (.int c5), .val (.int c7), .unset]) at_76 (leb rfl) rfl ?_
  refine WP.aloadN at_78 rfl ?_
  obtain ⟨c8, hc8, h⟩ := Option.bind_eq_some_iff.mp h
  refine WP.callV (i := 1) (y := y20) (as := []) (S := []) at_79 (hw _ m_114) (hw _ m_115) (hw _ m_117) (hw _ m_116) (hw _ m_118) (hw _ m_2) hy20 rfl (CS.frame (ro := 1) (H := ([cI a] ++ Hb 1 s0)) (as := [.ref 1]) fr0_f (ok20 l Z a0 hw s0 _ hc8) rfl (by decide) (fr0_l a s0) (fr0_c a s0) (by decide) rfl) rfl (lenOf pd20 rfl) (leb rfl) (leb rfl) (leb rfl) (leb rfl) ?_
  rintro _ _ ⟨_, _, ⟨rfl, rfl⟩, rfl, rfl⟩
  rw [fr0_p a s0 s0]
  show WLAW l Z n0 (PLAW r) 7 632 82 [.val (.ref 0), .val (.ref 1), .val (.int v2), .val (.int v3), .val (.int x3), .val (.int c5), .val (.int c7), .unset] [.int c8] ([cI a] ++ Hb 1 s0)
  refine WP.istore (L' := [.val (.ref 0), .val (.ref 1), .val (.int v2), .val (.int v3), .val (.int x3), .val (.int c5), .val (.int c7), .val (.int c8)]) at_82 (leb rfl) rfl ?_
  refine WP.iload at_84 rfl ?_
  refine WP.iconst (3 : Int32) at_86 rfl ?_
  rcases ite_e h with ⟨hc9, h⟩ | ⟨hc9, h⟩
  ·
    refine WP.icmpY (pc' := 97) at_87 (XT.ii_lt_t hc9) (by decide) rfl ?_
    exact WP.weak (L' := [.unset, .unset, .unset, .unset, .unset, .unset, .unset, .unset]) trivial (okLAW_97 l Z a0 hw n0 n a s0 _ h)
  ·
    refine WP.icmpN at_87 (XT.ii_lt_f hc9) ?_
    refine WP.iload at_90 rfl ?_
    refine WP.bipush (31 : Int32) at_92 rfl ?_
    rcases ite_e h with ⟨hc10, h⟩ | ⟨hc10, h⟩
    ·
      refine WP.icmpN at_94 (XT.ii_le_f hc10) ?_
      exact WP.weak (L' := [.unset, .unset, .unset, .unset, .unset, .unset, .unset, .unset]) trivial (okLAW_97 l Z a0 hw n0 n a s0 _ h)
    ·
      refine WP.icmpY (pc' := 99) at_94 (XT.ii_le_t hc10) (by decide) rfl ?_
      refine WP.iload at_99 rfl ?_
      rcases ite_e h with ⟨hc11, h⟩ | ⟨hc11, h⟩
      ·
        refine WP.ifN at_101 (XT.i0_ne_f hc11) ?_
        refine WP.aloadN at_104 rfl ?_
        refine WP.iload at_105 rfl ?_
        obtain ⟨c12, hc12, h⟩ := Option.bind_eq_some_iff.mp h
        refine WP.callS (y := y41) (as := [.int c5]) (S := [.ref 1]) at_107 (hw _ m_208) (hw _ m_209) (hw _ m_112) (hw _ m_210) hy41 (CS.frame (ro := 1) (H := ([cI a] ++ Hb 1 s0)) (as := [.int c5]) fr2_f (ok41 l Z a0 hw c5 _ hc12) rfl (by decide) (fr2_l a s0) (fr2_c a s0) (by decide) rfl) rfl (lenOf pd41 rfl) (leb rfl) (leb rfl) (leb rfl) (leb rfl) ?_
        rintro _ _ ⟨_, _, ⟨rfl, rfl⟩, rfl, rfl⟩
        rw [fr2_p a s0]
        show WLAW l Z n0 (PLAW r) 7 632 110 [.val (.ref 0), .val (.ref 1), .val (.int v2), .val (.int v3), .val (.int x3), .val (.int c5), .val (.int c7), .val (.int c8)] [.int c12, .ref 1] ([cI a] ++ Hb 1 s0)
        obtain ⟨c13, hc13, h⟩ := Option.bind_eq_some_iff.mp h
        refine WP.callV (i := 1) (y := y42) (as := [.int c12]) (S := []) at_110 (hw _ m_211) (hw _ m_212) (hw _ m_214) (hw _ m_213) (hw _ m_215) (hw _ m_2) hy42 rfl (CS.frame (ro := 1) (H := ([cI a] ++ Hb 1 s0)) (as := [.ref 1, .int c12]) fr0_f (ok42 l Z a0 hw n c12 s0 _ hc13) rfl (by decide) (fr0_l a s0) (fr0_c a s0) (by decide) rfl) rfl (lenOf pd42 rfl) (leb rfl) (leb rfl) (leb rfl) (leb rfl) ?_
        rintro _ _ ⟨_, _, ⟨rfl, rfl⟩, rfl, rfl⟩
        rw [fr0_p a s0 c13.2]
        show WLAW l Z n0 (PLAW r) 7 632 113 [.val (.ref 0), .val (.ref 1), .val (.int v2), .val (.int v3), .val (.int x3), .val (.int c5), .val (.int c7), .val (.int c8)] [.int c13.1] ([cI a] ++ Hb 1 c13.2)
        refine WP.pop at_113 rfl ?_
        refine WP.goto (pc' := 189) at_114 (by decide) rfl ?_
        exact WP.weak (L' := [.val (.ref 0), .val (.ref 1), .val (.int v2), .val (.int v3), .unset, .unset, .unset, .unset]) ⟨rfl, rfl, rfl, rfl, trivial⟩ (okLAW_189 l Z a0 hw n0 _ hk23 n v2 v3 a c13.2 _ h)
      ·
        refine WP.ifY (pc' := 117) at_101 (XT.i0_ne_t hc11) (by decide) rfl ?_
        refine WP.iload at_117 rfl ?_
        refine WP.iconst (1 : Int32) at_119 rfl ?_
        rcases ite_e h with ⟨hc14, h⟩ | ⟨hc14, h⟩
        ·
          refine WP.icmpN at_120 (XT.ii_ne_f hc14) ?_
          refine WP.aloadN at_123 rfl ?_
          refine WP.iload at_124 rfl ?_
          refine WP.iload at_126 rfl ?_
          refine WP.iconst (2 : Int32) at_128 rfl ?_
          refine WP.iadd at_129 ?_
          obtain ⟨hz15, h⟩ := nz_e h
          refine WP.irem at_130 hz15 ?_
          refine WP.iconst (1 : Int32) at_131 rfl ?_
          refine WP.isub at_132 ?_
          obtain ⟨c16, hc16, h⟩ := Option.bind_eq_some_iff.mp h
          refine WP.callV (i := 1) (y := y43) (as := [.int ((c5 % (c8 + (2 : Int32))) - (1 : Int32))]) (S := []) at_133 (hw _ m_216) (hw _ m_217) (hw _ m_219) (hw _ m_218) (hw _ m_220) (hw _ m_2) hy43 rfl (CS.frame (ro := 1) (H := ([cI a] ++ Hb 1 s0)) (as := [.ref 1, .int ((c5 % (c8 + (2 : Int32))) - (1 : Int32))]) fr0_f (ok43 l Z a0 hw n ((c5 % (c8 + (2 : Int32))) - (1 : Int32)) s0 _ hc16) rfl (by decide) (fr0_l a s0) (fr0_c a s0) (by decide) rfl) rfl (lenOf pd43 rfl) (leb rfl) (leb rfl) (leb rfl) (leb rfl) ?_
          rintro _ _ ⟨_, _, ⟨rfl, rfl⟩, rfl, rfl⟩
          rw [fr0_p a s0 c16.2]
          show WLAW l Z n0 (PLAW r) 7 632 136 [.val (.ref 0), .val (.ref 1), .val (.int v2), .val (.int v3), .val (.int x3), .val (.int c5), .val (.int c7), .val (.int c8)] [.int c16.1] ([cI a] ++ Hb 1 c16.2)
          refine WP.pop at_136 rfl ?_
          refine WP.goto (pc' := 189) at_137 (by decide) rfl ?_
          exact WP.weak (L' := [.val (.ref 0), .val (.ref 1), .val (.int v2), .val (.int v3), .unset, .unset, .unset, .unset]) ⟨rfl, rfl, rfl, rfl, trivial⟩ (okLAW_189 l Z a0 hw n0 _ hk23 n v2 v3 a c16.2 _ h)
        ·
          refine WP.icmpY (pc' := 140) at_120 (XT.ii_ne_t hc14) (by decide) rfl ?_
          refine WP.iload at_140 rfl ?_
          refine WP.iconst (2 : Int32) at_142 rfl ?_
          rcases ite_e h with ⟨hc17, h⟩ | ⟨hc17, h⟩
          ·
            refine WP.icmpN at_143 (XT.ii_ne_f hc17) ?_
            refine WP.aloadN at_146 rfl ?_
            refine WP.iload at_147 rfl ?_
            refine WP.iload at_149 rfl ?_
            refine WP.iconst (1 : Int32) at_151 rfl ?_
            refine WP.iadd at_152 ?_
            obtain ⟨hz18, h⟩ := nz_e h
            refine WP.irem at_153 hz18 ?_
            refine WP.iload at_154 rfl ?_
            refine WP.iload at_156 rfl ?_
            refine WP.iconst (2 : Int32) at_158 rfl ?_
            refine WP.iadd at_159 ?_
            obtain ⟨hz19, h⟩ := nz_e h
            refine WP.irem at_160 hz19 ?_
            obtain ⟨c20, hc20, h⟩ := Option.bind_eq_some_iff.mp h
            refine WP.callV (i := 1) (y := y38) (as := [.int (c5 % (c8 + (1 : Int32))), .int (c7 % (c8 + (2 : Int32)))]) (S := []) at_161 (hw _ m_195) (hw _ m_196) (hw _ m_198) (hw _ m_197) (hw _ m_199) (hw _ m_2) hy38 rfl (CS.frame (ro := 1) (H := ([cI a] ++ Hb 1 s0)) (as := [.ref 1, .int (c5 % (c8 + (1 : Int32))), .int (c7 % (c8 + (2 : Int32)))]) fr0_f (ok38 l Z a0 hw n (c5 % (c8 + (1 : Int32))) (c7 % (c8 + (2 : Int32))) s0 _ hc20) rfl (by decide) (fr0_l a s0) (fr0_c a s0) (by decide) rfl) rfl (lenOf pd38 rfl) (leb rfl) (leb rfl) (leb rfl) (leb rfl) ?_
            rintro _ _ ⟨_, _, ⟨rfl, rfl⟩, rfl, rfl⟩
            rw [fr0_p a s0 c20.2]
            show WLAW l Z n0 (PLAW r) 7 632 164 [.val (.ref 0), .val (.ref 1), .val (.int v2), .val (.int v3), .val (.int x3), .val (.int c5), .val (.int c7), .val (.int c8)] [.int c20.1] ([cI a] ++ Hb 1 c20.2)
            refine WP.pop at_164 rfl ?_
            refine WP.goto (pc' := 189) at_165 (by decide) rfl ?_
            exact WP.weak (L' := [.val (.ref 0), .val (.ref 1), .val (.int v2), .val (.int v3), .unset, .unset, .unset, .unset]) ⟨rfl, rfl, rfl, rfl, trivial⟩ (okLAW_189 l Z a0 hw n0 _ hk23 n v2 v3 a c20.2 _ h)
          ·
            refine WP.icmpY (pc' := 168) at_143 (XT.ii_ne_t hc17) (by decide) rfl ?_
            refine WP.aloadN at_168 rfl ?_
            refine WP.iload at_169 rfl ?_
            refine WP.iload at_171 rfl ?_
            obtain ⟨hz21, h⟩ := nz_e h
            refine WP.irem at_173 hz21 ?_
            refine WP.iconst (1 : Int32) at_174 rfl ?_
            refine WP.iload at_175 rfl ?_
            refine WP.iload at_177 rfl ?_
            refine WP.iconst (1 : Int32) at_179 rfl ?_
            refine WP.iadd at_180 ?_
            refine WP.iconst (2 : Int32) at_181 rfl ?_
            refine WP.idiv at_182 (by decide) ?_
            obtain ⟨hz22, h⟩ := nz_e h
            refine WP.irem at_183 hz22 ?_
            refine WP.iadd at_184 ?_
            obtain ⟨c23, hc23, h⟩ := Option.bind_eq_some_iff.mp h
            refine WP.callV (i := 1) (y := y38) (as := [.int (c5 % c8), .int ((1 : Int32) + (c7 % ((c8 + (1 : Int32)) / (2 : Int32))))]) (S := []) at_185 (hw _ m_195) (hw _ m_196) (hw _ m_198) (hw _ m_197) (hw _ m_199) (hw _ m_2) hy38 rfl (CS.frame (ro := 1) (H := ([cI a] ++ Hb 1 s0)) (as := [.ref 1, .int (c5 % c8), .int ((1 : Int32) + (c7 % ((c8 + (1 : Int32)) / (2 : Int32))))]) fr0_f (ok38 l Z a0 hw n (c5 % c8) ((1 : Int32) + (c7 % ((c8 + (1 : Int32)) / (2 : Int32)))) s0 _ hc23) rfl (by decide) (fr0_l a s0) (fr0_c a s0) (by decide) rfl) rfl (lenOf pd38 rfl) (leb rfl) (leb rfl) (leb rfl) (leb rfl) ?_
            rintro _ _ ⟨_, _, ⟨rfl, rfl⟩, rfl, rfl⟩
            rw [fr0_p a s0 c23.2]
            show WLAW l Z n0 (PLAW r) 7 632 188 [.val (.ref 0), .val (.ref 1), .val (.int v2), .val (.int v3), .val (.int x3), .val (.int c5), .val (.int c7), .val (.int c8)] [.int c23.1] ([cI a] ++ Hb 1 c23.2)
            refine WP.pop at_188 rfl ?_
            exact WP.weak (L' := [.val (.ref 0), .val (.ref 1), .val (.int v2), .val (.int v3), .unset, .unset, .unset, .unset]) ⟨rfl, rfl, rfl, rfl, trivial⟩ (okLAW_189 l Z a0 hw n0 _ hk23 n v2 v3 a c23.2 _ h)
def f_law_211 (n : Nat) (a : List Int32) (s0 : St) : Option (Int32) :=
  some (1 : Int32)
set_option maxRecDepth 65536 in
set_option maxHeartbeats 4000000 in
theorem okLAW_211 (l : Launch) (Z : State) (a0 : Array Value) (hw : HW a0 Z) (n0 : Nat) (n : Nat) (a : List Int32) (s0 : St) (r : Int32) (h : f_law_211 n a s0 = some r) : WLAW l Z n0 (PLAW r) 7 632 211 [.unset, .unset, .unset, .unset, .unset, .unset, .unset, .unset] [] ([cI a] ++ Hb 1 s0) := by
  unfold f_law_211 at h
  refine WP.iconst (1 : Int32) at_211 rfl ?_
  cases h
  exact WP.zreturn at_212 rfl (leb rfl) (leb rfl) rfl
def g_law_23 (k23 : Int32 → Int32 → List Int32 → St → Option (Int32)) (n : Nat) (v2 : Int32) (v3 : Int32) (a : List Int32) (s0 : St) : Option (Int32) :=
  if v3 < (12 : Int32) then
    if 0 < v3 then
      if v2 < a.length.toInt32 then
        f_law_42 k23 n v2 v3 a s0
      else
        f_law_211 n a s0
    else
      f_law_42 k23 n v2 v3 a s0
  else
    f_law_211 n a s0
set_option maxRecDepth 65536 in
set_option maxHeartbeats 4000000 in
theorem okgLAW_23 (l : Launch) (Z : State) (a0 : Array Value) (hw : HW a0 Z) (n0 : Nat) (k23 : Int32 → Int32 → List Int32 → St → Option (Int32)) (hk23 : ∀ (v2 : Int32) (v3 : Int32) (a : List Int32) (s0 : St) (r : Int32), k23 v2 v3 a s0 = some r → WLAW l Z n0 (PLAW r) 7 632 23 [.val (.ref 0), .val (.ref 1), .val (.int v2), .val (.int v3), .unset, .unset, .unset, .unset] [] ([cI a] ++ Hb 1 s0)) (n : Nat) (v2 : Int32) (v3 : Int32) (a : List Int32) (s0 : St) (r : Int32) (h : g_law_23 k23 n v2 v3 a s0 = some r) : WLAW l Z n0 (PLAW r) 7 632 23 [.val (.ref 0), .val (.ref 1), .val (.int v2), .val (.int v3), .unset, .unset, .unset, .unset] [] ([cI a] ++ Hb 1 s0) := by
  unfold g_law_23 at h
  refine WP.iloadN at_23 rfl ?_
  refine WP.bipush (12 : Int32) at_24 rfl ?_
  rcases ite_e h with ⟨hc1, h⟩ | ⟨hc1, h⟩
  ·
    refine WP.icmpN at_26 (XT.ii_ge_f hc1) ?_
    refine WP.iloadN at_29 rfl ?_
    rcases ite_e h with ⟨hc2, h⟩ | ⟨hc2, h⟩
    ·
      refine WP.ifN at_30 (XT.i0_le_f hc2) ?_
      refine WP.iloadN at_33 rfl ?_
      refine WP.aloadN at_34 rfl ?_
      refine WP.arraylength (i := 0) (xs := a) at_35 rfl ?_
      rcases ite_e h with ⟨hc3, h⟩ | ⟨hc3, h⟩
      ·
        refine WP.icmpY (pc' := 42) at_36 (XT.ii_lt_t hc3) (by decide) rfl ?_
        exact WP.weak (L' := [.val (.ref 0), .val (.ref 1), .val (.int v2), .val (.int v3), .unset, .unset, .unset, .unset]) ⟨rfl, rfl, rfl, rfl, trivial⟩ (okLAW_42 l Z a0 hw n0 _ hk23 n v2 v3 a s0 _ h)
      ·
        refine WP.icmpN at_36 (XT.ii_lt_f hc3) ?_
        refine WP.goto (pc' := 211) at_39 (by decide) rfl ?_
        exact WP.weak (L' := [.unset, .unset, .unset, .unset, .unset, .unset, .unset, .unset]) trivial (okLAW_211 l Z a0 hw n0 n a s0 _ h)
    ·
      refine WP.ifY (pc' := 42) at_30 (XT.i0_le_t hc2) (by decide) rfl ?_
      exact WP.weak (L' := [.val (.ref 0), .val (.ref 1), .val (.int v2), .val (.int v3), .unset, .unset, .unset, .unset]) ⟨rfl, rfl, rfl, rfl, trivial⟩ (okLAW_42 l Z a0 hw n0 _ hk23 n v2 v3 a s0 _ h)
  ·
    refine WP.icmpY (pc' := 211) at_26 (XT.ii_ge_t hc1) (by decide) rfl ?_
    exact WP.weak (L' := [.unset, .unset, .unset, .unset, .unset, .unset, .unset, .unset]) trivial (okLAW_211 l Z a0 hw n0 n a s0 _ h)
def f_law_23 : Nat → Int32 → Int32 → List Int32 → St → Option (Int32)
  | 0 => fun _ _ _ _ => none
  | n + 1 => g_law_23 (f_law_23 n) n
theorem okLAW_23 (l : Launch) (Z : State) (a0 : Array Value) (hw : HW a0 Z) (n0 : Nat) : ∀ (n : Nat) (v2 : Int32) (v3 : Int32) (a : List Int32) (s0 : St) (r : Int32), f_law_23 n v2 v3 a s0 = some r → WLAW l Z n0 (PLAW r) 7 632 23 [.val (.ref 0), .val (.ref 1), .val (.int v2), .val (.int v3), .unset, .unset, .unset, .unset] [] ([cI a] ++ Hb 1 s0)
  | 0, v2, v3, a, s0, r, h => nomatch (show none = some r from h)
  | n + 1, v2, v3, a, s0, r, h => okgLAW_23 l Z a0 hw n0 _ (okLAW_23 l Z a0 hw n0 n) n v2 v3 a s0 r h
def f_law (n : Nat) (a : List Int32) : Option (Int32) :=
  (f_init n).bind fun c1 =>
  (f_L_check n (0 : Int32) a c1).bind fun c2 =>
  if c2 = 0 then
    some (0 : Int32)
  else
    f_law_23 n (0 : Int32) (0 : Int32) a c1
set_option maxRecDepth 65536 in
set_option maxHeartbeats 4000000 in
theorem okLAW (l : Launch) (Z : State) (a0 : Array Value) (hw : HW a0 Z) (n : Nat) (a : List Int32) (r : Int32) (h : f_law n a = some r) : CS l Z CN lay x code maxLocals ret room_1 1 [.ref 0] ([cI a]) (PLAW r) := by
  refine CS.of_wp pn_law (leb rfl) fun n0 => ?_
  show WLAW l Z n0 (PLAW r) 0 0 0 [.val (.ref 0), .unset, .unset, .unset, .unset, .unset, .unset, .unset] [] ([cI a])
  unfold f_law at h
  refine WP.new (vs := vs0) at_0 (hw _ m_0) (hw _ m_1) (hw _ m_2) (leb rfl) (leb rfl) (vs0_ok hw) ?_
  show WLAW l Z n0 (PLAW r) 1 14 3 [.val (.ref 0), .unset, .unset, .unset, .unset, .unset, .unset, .unset] [.ref 1] ([cI a] ++ [cO vs0])
  refine WP.dup at_3 rfl ?_
  obtain ⟨c1, hc1, h⟩ := Option.bind_eq_some_iff.mp h
  refine WP.callI (i := 1) (y := y0) (as := []) (S := [.ref 1]) at_4 rfl (hw _ m_3) (hw _ m_4) (hw _ m_5) (hw _ m_2) hy0 (CS.frame (ro := 1) (H := ([cI a] ++ [cO vs0])) (as := [.ref 1]) fr3_f (ok0 l Z a0 hw n _ hc1) rfl (by decide) (fr3_l a) (fr3_c a) (by decide) rfl) rfl (lenOf pd0 rfl) (leb rfl) (leb rfl) (leb rfl) (leb rfl) ?_
  rintro _ _ ⟨_, _, ⟨rfl, rfl⟩, rfl, rfl⟩
  rw [fr3_p a c1]
  show WLAW l Z n0 (PLAW r) 7 632 7 [.val (.ref 0), .unset, .unset, .unset, .unset, .unset, .unset, .unset] [.ref 1] ([cI a] ++ Hb 1 c1)
  refine WP.astoreN (L' := [.val (.ref 0), .val (.ref 1), .unset, .unset, .unset, .unset, .unset, .unset]) at_7 (leb rfl) rfl ?_
  refine WP.aloadN at_8 rfl ?_
  refine WP.aloadN at_9 rfl ?_
  refine WP.iconst (0 : Int32) at_10 rfl ?_
  obtain ⟨c2, hc2, h⟩ := Option.bind_eq_some_iff.mp h
  refine WP.callS (y := y19) (as := [.ref 1, .ref 0, .int (0 : Int32)]) (S := []) at_11 (hw _ m_110) (hw _ m_111) (hw _ m_112) (hw _ m_113) hy19 (ok19 l Z a0 hw n (0 : Int32) a c1 _ hc2) rfl (lenOf pd19 rfl) (leb rfl) (leb rfl) (leb rfl) (leb rfl) ?_
  rintro _ _ ⟨rfl, rfl⟩
  show WLAW l Z n0 (PLAW r) 7 632 14 [.val (.ref 0), .val (.ref 1), .unset, .unset, .unset, .unset, .unset, .unset] [.int c2] ([cI a] ++ Hb 1 c1)
  rcases ite_e h with ⟨hc3, h⟩ | ⟨hc3, h⟩
  ·
    refine WP.ifN at_14 (XT.i0_ne_f hc3) ?_
    refine WP.iconst (0 : Int32) at_17 rfl ?_
    cases h
    exact WP.zreturn at_18 rfl (leb rfl) (leb rfl) rfl
  ·
    refine WP.ifY (pc' := 19) at_14 (XT.i0_ne_t hc3) (by decide) rfl ?_
    refine WP.iconst (0 : Int32) at_19 rfl ?_
    refine WP.istoreN (L' := [.val (.ref 0), .val (.ref 1), .val (.int (0 : Int32)), .unset, .unset, .unset, .unset, .unset]) at_20 (leb rfl) rfl ?_
    refine WP.iconst (0 : Int32) at_21 rfl ?_
    refine WP.istoreN (L' := [.val (.ref 0), .val (.ref 1), .val (.int (0 : Int32)), .val (.int (0 : Int32)), .unset, .unset, .unset, .unset]) at_22 (leb rfl) rfl ?_
    exact WP.weak (L' := [.val (.ref 0), .val (.ref 1), .val (.int (0 : Int32)), .val (.int (0 : Int32)), .unset, .unset, .unset, .unset]) ⟨rfl, rfl, rfl, rfl, trivial⟩ (okLAW_23 l Z a0 hw n0 n (0 : Int32) (0 : Int32) a c1 _ h)
/-! two calls that come to an end together, and how their ends agree -/
def own_O2 {α β : Type} (f : Nat → Option α) (g : Nat → Option β) (P : α → β → Prop) : Prop := ∃ a b, Ev f a ∧ Ev g b ∧ P a b
theorem own_O2.step {α β : Type} {f f' : Nat → Option α} {g g' : Nat → Option β} {P : α → β → Prop} (e : ∀ n, f (n + 1) = f' n) (k : ∀ n, g (n + 1) = g' n) (h : own_O2 f' g' P) : own_O2 f g P := by
  obtain ⟨a, b, h1, h2, h3⟩ := h
  exact ⟨a, b, Ev.step e h1, Ev.step k h2, h3⟩
theorem own_O2.congr {α β : Type} {f f' : Nat → Option α} {g g' : Nat → Option β} {P : α → β → Prop} (e : ∀ n, f n = f' n) (k : ∀ n, g n = g' n) (h : own_O2 f' g' P) : own_O2 f g P := by
  obtain ⟨a, b, h1, h2, h3⟩ := h
  exact ⟨a, b, Ev.congr e h1, Ev.congr k h2, h3⟩
theorem own_O2.ret {α β : Type} {a : α} {b : β} {P : α → β → Prop} (h : P a b) : own_O2 (fun _ => some a) (fun _ => some b) P := ⟨a, b, Ev.const rfl, Ev.const rfl, h⟩
theorem own_O2.mono {α β : Type} {f : Nat → Option α} {g : Nat → Option β} {P Q : α → β → Prop} (h : own_O2 f g P) (k : ∀ a b, P a b → Q a b) : own_O2 f g Q := by
  obtain ⟨a, b, h1, h2, h3⟩ := h
  exact ⟨a, b, h1, h2, k a b h3⟩
theorem own_O2.bind {α β α' β' : Type} {f : Nat → Option α'} {g : Nat → Option β'} {F : Nat → α' → Option α} {G : Nat → β' → Option β} {Q : α' → β' → Prop} {P : α → β → Prop} (h : own_O2 f g Q) (k : ∀ c d, Q c d → own_O2 (fun n => F n c) (fun n => G n d) P) : own_O2 (fun n => (f n).bind (F n)) (fun n => (g n).bind (G n)) P := by
  obtain ⟨c, d, h1, h2, h3⟩ := h
  obtain ⟨a, b, k1, k2, k3⟩ := k c d h3
  exact ⟨a, b, Ev.bind h1 k1, Ev.bind h2 k2, k3⟩
theorem own_O2.ite {α β : Type} {c : Prop} [Decidable c] {f f' : Nat → Option α} {g g' : Nat → Option β} {P : α → β → Prop} (h : c → own_O2 f g P) (k : ¬ c → own_O2 f' g' P) : own_O2 (fun n => if c then f n else f' n) (fun n => if c then g n else g' n) P := by
  by_cases q : c
  · exact own_O2.congr (fun n => if_pos q) (fun n => if_pos q) (h q)
  · exact own_O2.congr (fun n => if_neg q) (fun n => if_neg q) (k q)
theorem own_O2.rd {α β : Type} {xs : List Int32} {i : Int32} {k : Nat} {F : Nat → Int32 → Option α} {G : Nat → Int32 → Option β} {P : α → β → Prop} (hi : i = Int32.ofNat k) (hk : k < xs.length) (hk2 : k < 3000) (h : ∀ x, own_O2 (fun n => F n x) (fun n => G n x) P) : own_O2 (fun n => (rd xs i).bind (F n)) (fun n => (rd xs i).bind (G n)) P := by
  have hx : xs[k]? = some (xs[k]'hk) := List.getElem?_eq_getElem _
  subst hi
  refine own_O2.congr (fun n => ?_) (fun n => ?_) (h (xs[k]'hk))
  · rw [rd_at (by omega) hx]; rfl
  · rw [rd_at (by omega) hx]; rfl
theorem own_O2.wr {α β : Type} {s t : St} {j : Nat} {i x : Int32} {k : Nat} {F : Nat → St → Option α} {G : Nat → St → Option β} {P : α → β → Prop} (hi : i = Int32.ofNat k) (hk : k < (gA s j).length) (hk' : k < (gA t j).length) (hk2 : k < 3000) (h : own_O2 (fun n => F n (sA s j ((gA s j).set k x))) (fun n => G n (sA t j ((gA t j).set k x))) P) : own_O2 (fun n => (wrA s j i x).bind (F n)) (fun n => (wrA t j i x).bind (G n)) P := by
  subst hi
  refine own_O2.congr (fun n => ?_) (fun n => ?_) h
  · rw [wrA_of (k := k) x (ofN_int (by omega)) hk]; rfl
  · rw [wrA_of (k := k) x (ofN_int (by omega)) hk']; rfl
theorem own_ltN {i m : Nat} (hi : i ≤ 3000) (hm : m ≤ 3000) : Int32.ofNat i < Int32.ofNat m ↔ i < m := ofN_lt (by omega) (by omega)

def own_ln (j : Nat) : Nat := if j < 2 then 256 else if j < 5 then 32 else 10
def own_Ln (s : St) : Prop := ∀ j, j < 6 → (gA s j).length = own_ln j
def own_Rs (s t : St) : Prop := s = s ∧ t = t
def own_Q (K : List Nat) (N M : Nat) (s t : St) : Prop := own_Ln s ∧ own_Ln t ∧ own_Rs s t ∧ (∀ j, j ∈ K → gA t j = gA s j) ∧ (∀ j, j < 4 → gI t j = gI s j) ∧ gI s 0 = Int32.ofNat N ∧ gI s 2 = Int32.ofNat M
theorem own_Ln.wr {s : St} (h : own_Ln s) (j k : Nat) (x : Int32) : own_Ln (sA s j ((gA s j).set k x)) := fun i hi => by
  rw [gA_sA]
  by_cases c : i = j
  · subst c; rw [if_pos rfl, List.length_set]; exact h i hi
  · rw [if_neg c]; exact h i hi
theorem own_Rs.wr {s t : St} (h : own_Rs s t) (j : Nat) (hj : j < 6) (x y : List Int32) : own_Rs (sA s j x) (sA t j y) := ⟨rfl, rfl⟩
theorem own_Q.wr {K : List Nat} {N M : Nat} {s t : St} (h : own_Q K N M s t) (j : Nat) (hj : j < 6) (k : Nat) (x : Int32) : own_Q K N M (sA s j ((gA s j).set k x)) (sA t j ((gA t j).set k x)) := by
  obtain ⟨a, b, c, d, e, f, g⟩ := h
  refine ⟨a.wr j k x, b.wr j k x, c.wr j hj _ _, fun i hi => ?_, e, f, g⟩
  rw [gA_sA, gA_sA]
  by_cases q : i = j
  · subst q; rw [if_pos rfl, if_pos rfl, d i hi]
  · rw [if_neg q, if_neg q]; exact d i hi
theorem own_Q.i0 {K : List Nat} {N M : Nat} {s t : St} (h : own_Q K N M s t) : gI s 0 = Int32.ofNat N ∧ gI t 0 = Int32.ofNat N := ⟨h.2.2.2.2.2.1, (h.2.2.2.2.1 0 (by decide)).trans h.2.2.2.2.2.1⟩
theorem own_Q.i2 {K : List Nat} {N M : Nat} {s t : St} (h : own_Q K N M s t) : gI s 2 = Int32.ofNat M ∧ gI t 2 = Int32.ofNat M := ⟨h.2.2.2.2.2.2, (h.2.2.2.2.1 2 (by decide)).trans h.2.2.2.2.2.2⟩
theorem own_Q.ar {K : List Nat} {N M : Nat} {s t : St} (h : own_Q K N M s t) (j : Nat) (hj : j ∈ K) : gA t j = gA s j := h.2.2.2.1 j hj
/-- the arrays js agree on their first i cells -/
def own_P (js : List Nat) (i : Nat) (s t : St) : Prop := ∀ j, j ∈ js → ∀ k, k < i → (gA t j)[k]? = (gA s j)[k]?
theorem own_P.wr {js : List Nat} {i : Nat} {s t : St} (h : own_P js i s t) (j k : Nat) (x : Int32) (h1 : k < (gA s j).length) (h2 : k < (gA t j).length) : own_P js i (sA s j ((gA s j).set k x)) (sA t j ((gA t j).set k x)) := fun l hl q hq => by
  rw [gA_sA, gA_sA]
  by_cases c : l = j
  · subst c
    rw [if_pos rfl, if_pos rfl]
    by_cases e : k = q
    · subst e; rw [get_set_self _ h1, get_set_self _ h2]
    · rw [get_set_ne _ e, get_set_ne _ e]; exact h l hl q hq
  · rw [if_neg c, if_neg c]; exact h l hl q hq
theorem own_P.end_ {js : List Nat} {L : Nat} {s t : St} {K : List Nat} {N M : Nat} (h : own_P js L s t) (hq : own_Q K N M s t) (hj : ∀ j, j ∈ js → (gA s j).length = L ∧ (gA t j).length = L) : own_Q (js ++ K) N M s t := by
  obtain ⟨a, b, c, d, e⟩ := hq
  refine ⟨a, b, c, fun j hm => ?_, e⟩
  rcases List.mem_append.mp hm with q | q
  · apply List.ext_getElem?
    intro k
    by_cases ck : k < L
    · exact h j q k ck
    · rw [List.getElem?_eq_none (by rw [(hj j q).2]; omega), List.getElem?_eq_none (by rw [(hj j q).1]; omega)]
  · exact d j q
/-! the field -/
theorem own_bf50 {K : List Nat} {N M : Nat} (hM : M ≤ 255) (v1 v2 : Int32) : ∀ (k i : Nat) (v3 : Int32) (s t : St), i + k = M → own_Q K N M s t → own_O2 (fun n => f_buildField_50 n v1 v2 v3 (Int32.ofNat i) s) (fun n => f_buildField_50 n v1 v2 v3 (Int32.ofNat i) t) (own_Q K N M) := by
  intro k
  induction k with
  | zero =>
    intro i v3 s t hi h
    obtain rfl : i = M := by omega
    refine own_O2.step (f' := fun n => g_buildField_50 (f_buildField_50 n) n v1 v2 v3 (Int32.ofNat i) s) (g' := fun n => g_buildField_50 (f_buildField_50 n) n v1 v2 v3 (Int32.ofNat i) t) (fun _ => rfl) (fun _ => rfl) ?_
    unfold g_buildField_50 f_buildField_107
    rw [h.i2.1, h.i2.2]
    exact own_O2.ite (fun q => absurd ((own_ltN (by omega) (by omega)).mp q) (by omega)) (fun _ => own_O2.ret h)
  | succ k ih =>
    intro i v3 s t hi h
    refine own_O2.step (f' := fun n => g_buildField_50 (f_buildField_50 n) n v1 v2 v3 (Int32.ofNat i) s) (g' := fun n => g_buildField_50 (f_buildField_50 n) n v1 v2 v3 (Int32.ofNat i) t) (fun _ => rfl) (fun _ => rfl) ?_
    unfold g_buildField_50 f_buildField_107 f_buildField_101 lt
    rw [h.i2.1, h.i2.2]
    refine own_O2.ite (fun _ => ?_) (fun _ => own_O2.ret h)
    refine own_O2.ite (fun _ => ?_) (fun _ => own_O2.ret h)
    have l0 : (gA s 0).length = 256 := h.1 0 (by decide)
    have l0' : (gA t 0).length = 256 := h.2.1 0 (by decide)
    refine own_O2.wr rfl (by omega) (by omega) (by omega) ?_
    have h1 := h.wr 0 (by decide) i v3
    obtain ⟨m, hm, em⟩ := and_natL v3 255 (by decide)
    have hm : m ≤ 255 := hm
    have l1 := h1.1 1 (by decide)
    have l1' := h1.2.1 1 (by decide)
    have e1 : own_ln 1 = 256 := rfl
    refine own_O2.wr em (by omega) (by omega) (by omega) ?_
    have h2 := h1.wr 1 (by decide) m (Int32.ofNat i)
    dsimp only
    rw [ofN_succ]
    exact own_O2.ite (fun _ => ih (i + 1) _ _ _ (by omega) h2) (fun _ => ih (i + 1) _ _ _ (by omega) h2)
theorem own_bf18 {N M : Nat} (hM : M ≤ 255) (v1 v2 : Int32) : ∀ (k i : Nat) (s t : St), i + k = 256 → own_Q [] N M s t → own_P [0, 1] i s t → own_O2 (fun n => f_buildField_18 n v1 v2 (Int32.ofNat i) s) (fun n => f_buildField_18 n v1 v2 (Int32.ofNat i) t) (own_Q [0, 1] N M) := by
  intro k
  induction k with
  | zero =>
    intro i s t hi h p
    obtain rfl : i = 256 := by omega
    refine own_O2.step (f' := fun n => f_buildField_50 n v1 v2 1 0 s) (g' := fun n => f_buildField_50 n v1 v2 1 0 t) (fun n => ?_) (fun n => ?_) ?_
    · show g_buildField_18 (f_buildField_18 n) n _ _ _ _ = _
      unfold g_buildField_18; rw [if_neg (by decide)]
    · show g_buildField_18 (f_buildField_18 n) n _ _ _ _ = _
      unfold g_buildField_18; rw [if_neg (by decide)]
    have hq : own_Q ([0, 1] ++ []) N M s t := p.end_ h fun j hj => by
      simp only [List.mem_cons, List.not_mem_nil, or_false] at hj
      rcases hj with rfl | rfl
      · exact ⟨h.1 0 (by decide), h.2.1 0 (by decide)⟩
      · exact ⟨h.1 1 (by decide), h.2.1 1 (by decide)⟩
    exact own_bf50 hM v1 v2 M 0 1 s t (by omega) hq
  | succ k ih =>
    intro i s t hi h p
    refine own_O2.step (f' := fun n => g_buildField_18 (f_buildField_18 n) n v1 v2 (Int32.ofNat i) s) (g' := fun n => g_buildField_18 (f_buildField_18 n) n v1 v2 (Int32.ofNat i) t) (fun _ => rfl) (fun _ => rfl) ?_
    unfold g_buildField_18 lt
    refine own_O2.ite (fun _ => ?_) (fun q => absurd ((ofN_ltL (m := 256) (by omega) (by decide)).mpr (by omega)) q)
    have l0 : (gA s 0).length = 256 := h.1 0 (by decide)
    have l0' : (gA t 0).length = 256 := h.2.1 0 (by decide)
    have l1 : (gA s 1).length = 256 := h.1 1 (by decide)
    have l1' : (gA t 1).length = 256 := h.2.1 1 (by decide)
    refine own_O2.wr rfl (by omega) (by omega) (by omega) ?_
    have h1 := h.wr 0 (by decide) i 0
    refine own_O2.wr rfl (show i < (gA s 1).length by omega) (show i < (gA t 1).length by omega) (by omega) ?_
    have h2 := h1.wr 1 (by decide) i 0
    dsimp only
    rw [ofN_succ]
    refine ih (i + 1) _ _ (by omega) h2 fun j hj q hq => ?_
    simp only [List.mem_cons, List.not_mem_nil, or_false] at hj
    rcases hj with rfl | rfl
    · show ((gA t 0).set i 0)[q]? = ((gA s 0).set i 0)[q]?
      by_cases e : i = q
      · subst e; rw [get_set_self _ (by omega), get_set_self _ (by omega)]
      · rw [get_set_ne _ e, get_set_ne _ e]; exact p 0 (by decide) q (by omega)
    · show ((gA t 1).set i 0)[q]? = ((gA s 1).set i 0)[q]?
      by_cases e : i = q
      · subst e; rw [get_set_self _ (by omega), get_set_self _ (by omega)]
      · rw [get_set_ne _ e, get_set_ne _ e]; exact p 1 (by decide) q (by omega)
theorem own_bf {N M : Nat} (hM : M ≤ 255) {s t : St} (h : own_Q [] N M s t) : own_O2 (fun n => f_buildField n s) (fun n => f_buildField n t) (own_Q [0, 1] N M) := by
  unfold f_buildField lt
  rw [h.2.2.2.2.1 1 (by decide)]
  have hp : ∃ c, f_fieldPolyFor (gI s 1) s = some c ∧ f_fieldPolyFor (gI s 1) t = some c := by
    unfold f_fieldPolyFor
    repeat' split
    all_goals exact ⟨_, rfl, rfl⟩
  obtain ⟨c, e1, e2⟩ := hp
  rw [e1, e2]
  refine own_O2.congr (fun _ => rfl) (fun _ => rfl) (own_bf18 hM c _ 256 0 s t rfl h fun _ _ k hk => by omega)
/-! the cosets -/
theorem own_modN (x : Int32) (N : Nat) (h1 : 1 ≤ N) (h2 : N ≤ 300) (hx : 0 ≤ x.toInt) : ∃ k, k < N ∧ x % Int32.ofNat N = Int32.ofNat k := by
  have e : (x % Int32.ofNat N).toInt = x.toInt % N := by rw [Int32.toInt_mod, ofN_int (by omega), Int.tmod_eq_emod_of_nonneg hx]
  have b1 := Int.emod_nonneg x.toInt (show (N : Int) ≠ 0 by omega)
  have b2 := Int.emod_lt_of_pos x.toInt (show (0 : Int) < N by omega)
  exact ⟨(x.toInt % N).toNat, by omega, ofN_of (by rw [e]; omega)⟩
theorem own_nz {N : Nat} (h1 : 1 ≤ N) (h2 : N ≤ 300) : ¬ Int32.ofNat N = 0 := fun q => by
  have := (ofN_eqL (m := 0) (by omega) (by decide)).mp q
  omega
theorem own_cm {K : List Nat} {N M : Nat} (h1 : 1 ≤ N) (h2 : N ≤ 31) {s t : St} (h : own_Q K N M s t) (v1 : Int32) : ∀ (k i : Nat) (v2 v3 : Int32), i + k = 32 → own_O2 (fun n => f_cosetMaskOf_7 n v1 v2 v3 (Int32.ofNat i) s) (fun n => f_cosetMaskOf_7 n v1 v2 v3 (Int32.ofNat i) t) Eq := by
  intro k
  induction k with
  | zero =>
    intro i v2 v3 hi
    obtain rfl : i = 32 := by omega
    refine own_O2.step (f' := fun n => g_cosetMaskOf_7 (f_cosetMaskOf_7 n) n v1 v2 v3 (Int32.ofNat 32) s) (g' := fun n => g_cosetMaskOf_7 (f_cosetMaskOf_7 n) n v1 v2 v3 (Int32.ofNat 32) t) (fun _ => rfl) (fun _ => rfl) ?_
    unfold g_cosetMaskOf_7 f_cosetMaskOf_43
    exact own_O2.congr (fun _ => if_neg (by decide)) (fun _ => if_neg (by decide)) (own_O2.ret rfl)
  | succ k ih =>
    intro i v2 v3 hi
    refine own_O2.step (f' := fun n => g_cosetMaskOf_7 (f_cosetMaskOf_7 n) n v1 v2 v3 (Int32.ofNat i) s) (g' := fun n => g_cosetMaskOf_7 (f_cosetMaskOf_7 n) n v1 v2 v3 (Int32.ofNat i) t) (fun _ => rfl) (fun _ => rfl) ?_
    unfold g_cosetMaskOf_7 f_cosetMaskOf_43 lt
    rw [h.i0.1, h.i0.2]
    refine own_O2.ite (fun _ => ?_) (fun _ => own_O2.ret rfl)
    refine own_O2.congr (fun _ => if_neg (own_nz h1 (by omega))) (fun _ => if_neg (own_nz h1 (by omega))) ?_
    dsimp only
    rw [ofN_succ]
    exact own_O2.ite (fun _ => own_O2.ret rfl) (fun _ => ih (i + 1) _ _ (by omega))
theorem own_lb (s t : St) (v1 : Int32) : ∀ (k i : Nat), i + k = 32 → own_O2 (fun n => f_lowestBit_2 n v1 (Int32.ofNat i) s) (fun n => f_lowestBit_2 n v1 (Int32.ofNat i) t) Eq := by
  intro k
  induction k with
  | zero =>
    intro i hi
    obtain rfl : i = 32 := by omega
    refine own_O2.step (f' := fun n => g_lowestBit_2 (f_lowestBit_2 n) n v1 (Int32.ofNat 32) s) (g' := fun n => g_lowestBit_2 (f_lowestBit_2 n) n v1 (Int32.ofNat 32) t) (fun _ => rfl) (fun _ => rfl) ?_
    unfold g_lowestBit_2
    exact own_O2.congr (fun _ => if_neg (by decide)) (fun _ => if_neg (by decide)) (own_O2.ret rfl)
  | succ k ih =>
    intro i hi
    refine own_O2.step (f' := fun n => g_lowestBit_2 (f_lowestBit_2 n) n v1 (Int32.ofNat i) s) (g' := fun n => g_lowestBit_2 (f_lowestBit_2 n) n v1 (Int32.ofNat i) t) (fun _ => rfl) (fun _ => rfl) ?_
    unfold g_lowestBit_2 lt
    refine own_O2.ite (fun _ => ?_) (fun _ => own_O2.ret rfl)
    dsimp only
    rw [ofN_succ]
    exact own_O2.ite (fun _ => ih (i + 1) (by omega)) (fun _ => own_O2.ret rfl)
theorem own_bc30 {K : List Nat} {N M : Nat} (h1 : 1 ≤ N) (h2 : N ≤ 31) : ∀ (k i : Nat) (s t : St), i + k = N → own_Q K N M s t → own_O2 (fun n => f_buildCosets_30 n (Int32.ofNat i) s) (fun n => f_buildCosets_30 n (Int32.ofNat i) t) (own_Q K N M) := by
  intro k
  induction k with
  | zero =>
    intro i s t hi h
    obtain rfl : i = N := by omega
    refine own_O2.step (f' := fun n => g_buildCosets_30 (f_buildCosets_30 n) n (Int32.ofNat i) s) (g' := fun n => g_buildCosets_30 (f_buildCosets_30 n) n (Int32.ofNat i) t) (fun _ => rfl) (fun _ => rfl) ?_
    unfold g_buildCosets_30
    rw [h.i0.1, h.i0.2]
    exact own_O2.ite (fun q => absurd ((own_ltN (by omega) (by omega)).mp q) (by omega)) (fun _ => own_O2.ret h)
  | succ k ih =>
    intro i s t hi h
    refine own_O2.step (f' := fun n => g_buildCosets_30 (f_buildCosets_30 n) n (Int32.ofNat i) s) (g' := fun n => g_buildCosets_30 (f_buildCosets_30 n) n (Int32.ofNat i) t) (fun _ => rfl) (fun _ => rfl) ?_
    unfold g_buildCosets_30 lt
    rw [h.i0.1, h.i0.2]
    refine own_O2.ite (fun _ => ?_) (fun _ => own_O2.ret h)
    refine own_O2.bind (own_cm h1 h2 h (Int32.ofNat i) 32 0 0 (Int32.ofNat i) rfl) fun c d e => ?_
    subst e
    have l2 : (gA s 2).length = 32 := h.1 2 (by decide)
    have l2' : (gA t 2).length = 32 := h.2.1 2 (by decide)
    have l3 : (gA s 3).length = 32 := h.1 3 (by decide)
    have l3' : (gA t 3).length = 32 := h.2.1 3 (by decide)
    refine own_O2.wr rfl (by omega) (by omega) (by omega) ?_
    have q1 := h.wr 2 (by decide) i c
    refine own_O2.bind (own_lb _ _ c 32 0 rfl) fun c' d' e' => ?_
    subst e'
    refine own_O2.wr rfl (show i < (gA s 3).length by omega) (show i < (gA t 3).length by omega) (by omega) ?_
    have q2 := q1.wr 3 (by decide) i c'
    dsimp only
    rw [ofN_succ]
    exact ih (i + 1) _ _ (by omega) q2
theorem own_bc {N M : Nat} (h1 : 1 ≤ N) (h2 : N ≤ 31) {s t : St} (h : own_Q [0, 1] N M s t) : own_O2 (fun n => f_buildCosets n s) (fun n => f_buildCosets n t) (own_Q [2, 3, 0, 1] N M) := by
  have key : ∀ (k i : Nat) (s t : St), i + k = 32 → own_Q [0, 1] N M s t → own_P [2, 3] i s t → own_O2 (fun n => f_buildCosets_2 n (Int32.ofNat i) s) (fun n => f_buildCosets_2 n (Int32.ofNat i) t) (own_Q [2, 3, 0, 1] N M) := by
    intro k
    induction k with
    | zero =>
      intro i s t hi h p
      obtain rfl : i = 32 := by omega
      refine own_O2.step (f' := fun n => f_buildCosets_30 n 0 s) (g' := fun n => f_buildCosets_30 n 0 t) (fun n => ?_) (fun n => ?_) ?_
      · show g_buildCosets_2 (f_buildCosets_2 n) n _ _ = _
        unfold g_buildCosets_2; rw [if_neg (by decide)]
      · show g_buildCosets_2 (f_buildCosets_2 n) n _ _ = _
        unfold g_buildCosets_2; rw [if_neg (by decide)]
      have hq : own_Q ([2, 3] ++ [0, 1]) N M s t := p.end_ h fun j hj => by
        simp only [List.mem_cons, List.not_mem_nil, or_false] at hj
        rcases hj with rfl | rfl
        · exact ⟨h.1 2 (by decide), h.2.1 2 (by decide)⟩
        · exact ⟨h.1 3 (by decide), h.2.1 3 (by decide)⟩
      exact own_bc30 h1 h2 N 0 s t (by omega) hq
    | succ k ih =>
      intro i s t hi h p
      refine own_O2.step (f' := fun n => g_buildCosets_2 (f_buildCosets_2 n) n (Int32.ofNat i) s) (g' := fun n => g_buildCosets_2 (f_buildCosets_2 n) n (Int32.ofNat i) t) (fun _ => rfl) (fun _ => rfl) ?_
      unfold g_buildCosets_2 lt
      refine own_O2.ite (fun _ => ?_) (fun q => absurd ((ofN_ltL (m := 32) (by omega) (by decide)).mpr (by omega)) q)
      have l0 : (gA s 2).length = 32 := h.1 2 (by decide)
      have l0' : (gA t 2).length = 32 := h.2.1 2 (by decide)
      have l1 : (gA s 3).length = 32 := h.1 3 (by decide)
      have l1' : (gA t 3).length = 32 := h.2.1 3 (by decide)
      refine own_O2.wr rfl (by omega) (by omega) (by omega) ?_
      have q1 := h.wr 2 (by decide) i 0
      refine own_O2.wr rfl (show i < (gA s 3).length by omega) (show i < (gA t 3).length by omega) (by omega) ?_
      have q2 := q1.wr 3 (by decide) i 0
      dsimp only
      rw [ofN_succ]
      refine ih (i + 1) _ _ (by omega) q2 fun j hj q hq => ?_
      simp only [List.mem_cons, List.not_mem_nil, or_false] at hj
      rcases hj with rfl | rfl
      · show ((gA t 2).set i 0)[q]? = ((gA s 2).set i 0)[q]?
        by_cases e : i = q
        · subst e; rw [get_set_self _ (by omega), get_set_self _ (by omega)]
        · rw [get_set_ne _ e, get_set_ne _ e]; exact p 2 (by decide) q (by omega)
      · show ((gA t 3).set i 0)[q]? = ((gA s 3).set i 0)[q]?
        by_cases e : i = q
        · subst e; rw [get_set_self _ (by omega), get_set_self _ (by omega)]
        · rw [get_set_ne _ e, get_set_ne _ e]; exact p 3 (by decide) q (by omega)
  exact key 32 0 s t rfl h fun _ _ k hk => by omega
/-! the minimal polynomials -/
theorem own_ap {K : List Nat} {N M : Nat} (h1 : 1 ≤ N) (h2 : N ≤ 31) (m1 : 1 ≤ M) (m2 : M ≤ 255) {s t : St} (h : own_Q K N M s t) (k0 : 0 ∈ K) (v : Int32) : own_O2 (fun _ => f_alphaPow v s) (fun _ => f_alphaPow v t) Eq := by
  unfold f_alphaPow f_alphaPow_30 lt
  rw [h.i0.1, h.i0.2, h.i2.1, h.i2.2, h.ar 0 k0]
  refine own_O2.congr (fun _ => if_neg (own_nz h1 (by omega))) (fun _ => if_neg (own_nz h1 (by omega))) ?_
  refine own_O2.congr (fun _ => if_neg (own_nz m1 (by omega))) (fun _ => if_neg (own_nz m1 (by omega))) ?_
  have l0 : (gA s 0).length = 256 := h.1 0 (by decide)
  have go : ∀ x : Int32, own_O2 (fun _ => (rd (gA s 0) (x &&& 255)).bind fun x1 => some x1) (fun _ => (rd (gA s 0) (x &&& 255)).bind fun x1 => some x1) Eq := fun x => by
    obtain ⟨k, hk, ek⟩ := and_natL x 255 (by decide)
    have hk : k ≤ 255 := hk
    exact own_O2.rd ek (by omega) (by omega) fun _ => own_O2.ret rfl
  exact own_O2.ite (fun _ => go _) (fun _ => go _)
theorem own_gf {K : List Nat} {N M : Nat} {s t : St} (h : own_Q K N M s t) (k0 : 0 ∈ K) (k1 : 1 ∈ K) (u v : Int32) : own_O2 (fun _ => f_gfMul u v s) (fun _ => f_gfMul u v t) Eq := by
  unfold f_gfMul f_gfMul_8 f_gfMul_47 lt
  rw [h.i2.1, h.i2.2, h.ar 0 k0, h.ar 1 k1]
  have l0 : (gA s 0).length = 256 := h.1 0 (by decide)
  have l1 : (gA s 1).length = 256 := h.1 1 (by decide)
  have go : ∀ x : Int32, own_O2 (fun _ => (rd (gA s 0) (x &&& 255)).bind fun x1 => some x1) (fun _ => (rd (gA s 0) (x &&& 255)).bind fun x1 => some x1) Eq := fun x => by
    obtain ⟨k, hk, ek⟩ := and_natL x 255 (by decide)
    have hk : k ≤ 255 := hk
    exact own_O2.rd ek (by omega) (by omega) fun _ => own_O2.ret rfl
  refine own_O2.ite (fun _ => own_O2.ret rfl) (fun _ => ?_)
  refine own_O2.ite (fun _ => own_O2.ret rfl) (fun _ => ?_)
  obtain ⟨k, hk, ek⟩ := and_natL u 255 (by decide)
  have hk : k ≤ 255 := hk
  obtain ⟨l, hl, el⟩ := and_natL v 255 (by decide)
  have hl : l ≤ 255 := hl
  refine own_O2.rd ek (by omega) (by omega) fun x => ?_
  refine own_O2.rd el (by omega) (by omega) fun y => ?_
  exact own_O2.ite (fun _ => go _) (fun _ => go _)
theorem own_ml {K : List Nat} {N M : Nat} (k0 : 0 ∈ K) (k1 : 1 ∈ K) (k5 : 5 ∈ K) (v1 : Int32) : ∀ (i : Nat) (s t : St), i ≤ 9 → own_Q K N M s t → own_O2 (fun n => f_multiplyByLinear_15 n v1 (Int32.ofNat i) s) (fun n => f_multiplyByLinear_15 n v1 (Int32.ofNat i) t) (own_Q K N M)
  | 0, s, t, hi, h => by
    refine own_O2.step (f' := fun n => g_multiplyByLinear_15 (f_multiplyByLinear_15 n) n v1 (Int32.ofNat 0) s) (g' := fun n => g_multiplyByLinear_15 (f_multiplyByLinear_15 n) n v1 (Int32.ofNat 0) t) (fun _ => rfl) (fun _ => rfl) ?_
    unfold g_multiplyByLinear_15
    have l5 : (gA s 5).length = 10 := h.1 5 (by decide)
    have l5' : (gA t 5).length = 10 := h.2.1 5 (by decide)
    refine own_O2.congr (fun _ => if_pos (by decide)) (fun _ => if_pos (by decide)) ?_
    rw [h.ar 5 k5]
    refine own_O2.rd (k := 0) rfl (by omega) (by omega) fun x => ?_
    refine own_O2.bind (own_gf h k0 k1 v1 x) fun c d e => ?_
    subst e
    refine own_O2.wr (k := 0) rfl (by omega) (by omega) (by omega) ?_
    exact own_O2.ret (h.wr 5 (by decide) 0 c)
  | i + 1, s, t, hi, h => by
    refine own_O2.step (f' := fun n => g_multiplyByLinear_15 (f_multiplyByLinear_15 n) n v1 (Int32.ofNat (i + 1)) s) (g' := fun n => g_multiplyByLinear_15 (f_multiplyByLinear_15 n) n v1 (Int32.ofNat (i + 1)) t) (fun _ => rfl) (fun _ => rfl) ?_
    unfold g_multiplyByLinear_15 lt
    have l5 : (gA s 5).length = 10 := h.1 5 (by decide)
    have l5' : (gA t 5).length = 10 := h.2.1 5 (by decide)
    have hn : ¬ Int32.ofNat (i + 1) < 1 := fun q => by have := (ofN_ltL (m := 1) (by omega) (by decide)).mp q; omega
    have e1 : Int32.ofNat (i + 1) - 1 = Int32.ofNat i := by rw [← ofN_succ, Int32.add_sub_cancel]
    have e2 : Int32.ofNat (i + 1) + -1 = Int32.ofNat i := by rw [← Int32.sub_eq_add_neg, e1]
    refine own_O2.congr (fun _ => if_neg hn) (fun _ => if_neg hn) ?_
    rw [h.ar 5 k5, e1, e2]
    refine own_O2.rd rfl (by omega) (by omega) fun x => ?_
    refine own_O2.bind (own_gf h k0 k1 v1 x) fun c d e => ?_
    subst e
    refine own_O2.rd rfl (by omega) (by omega) fun y => ?_
    refine own_O2.wr rfl (by omega) (by omega) (by omega) ?_
    exact own_ml k0 k1 k5 v1 i _ _ (by omega) (h.wr 5 (by decide) (i + 1) _)
theorem own_mbl {K : List Nat} {N M : Nat} (k0 : 0 ∈ K) (k1 : 1 ∈ K) (k5 : 5 ∈ K) (v1 v2 : Int32) {s t : St} (h : own_Q K N M s t) : own_O2 (fun n => f_multiplyByLinear n v1 v2 s) (fun n => f_multiplyByLinear n v1 v2 t) (own_Q K N M) := by
  unfold f_multiplyByLinear f_multiplyByLinear_10 lt
  refine own_O2.ite (fun _ => own_O2.ret h) (fun h0 => ?_)
  refine own_O2.ite (fun _ => own_O2.ret h) (fun h8 => ?_)
  obtain ⟨k, hk, ek⟩ := nat_le h0 h8 (by decide)
  have hk : k ≤ 8 := hk
  rw [ek, ofN_succ]
  exact own_ml k0 k1 k5 v1 (k + 1) s t (by omega) h
theorem own_m82 {K : List Nat} {N M : Nat} (k5 : 5 ∈ K) (v2 : Int32) {s t : St} (h : own_Q K N M s t) : ∀ (k i : Nat) (v3 : Int32), i + k = 10 → own_O2 (fun n => f_minimalPolyOfCoset_82 n v2 v3 (Int32.ofNat i) s) (fun n => f_minimalPolyOfCoset_82 n v2 v3 (Int32.ofNat i) t) (fun a b => a.1 = b.1 ∧ own_Q K N M a.2 b.2) := by
  intro k
  induction k with
  | zero =>
    intro i v3 hi
    obtain rfl : i = 10 := by omega
    refine own_O2.step (f' := fun n => g_minimalPolyOfCoset_82 (f_minimalPolyOfCoset_82 n) n v2 v3 (Int32.ofNat 10) s) (g' := fun n => g_minimalPolyOfCoset_82 (f_minimalPolyOfCoset_82 n) n v2 v3 (Int32.ofNat 10) t) (fun _ => rfl) (fun _ => rfl) ?_
    unfold g_minimalPolyOfCoset_82 f_minimalPolyOfCoset_118
    refine own_O2.ite (fun _ => own_O2.ret ⟨rfl, h⟩) (fun _ => ?_)
    exact own_O2.congr (fun _ => if_neg (by decide)) (fun _ => if_neg (by decide)) (own_O2.ret ⟨rfl, h⟩)
  | succ k ih =>
    intro i v3 hi
    refine own_O2.step (f' := fun n => g_minimalPolyOfCoset_82 (f_minimalPolyOfCoset_82 n) n v2 v3 (Int32.ofNat i) s) (g' := fun n => g_minimalPolyOfCoset_82 (f_minimalPolyOfCoset_82 n) n v2 v3 (Int32.ofNat i) t) (fun _ => rfl) (fun _ => rfl) ?_
    unfold g_minimalPolyOfCoset_82 f_minimalPolyOfCoset_118 f_minimalPolyOfCoset_112 lt
    have l5 : (gA s 5).length = 10 := h.1 5 (by decide)
    rw [h.ar 5 k5]
    refine own_O2.ite (fun _ => own_O2.ret ⟨rfl, h⟩) (fun _ => ?_)
    refine own_O2.ite (fun _ => ?_) (fun _ => own_O2.ret ⟨rfl, h⟩)
    refine own_O2.rd rfl (by omega) (by omega) fun x => ?_
    dsimp only
    rw [ofN_succ]
    exact own_O2.ite (fun _ => ih (i + 1) _ (by omega)) (fun _ => ih (i + 1) _ (by omega))
theorem own_m32 {K : List Nat} {N M : Nat} (h1 : 1 ≤ N) (h2 : N ≤ 31) (m1 : 1 ≤ M) (m2 : M ≤ 255) (k0 : 0 ∈ K) (k1 : 1 ∈ K) (k5 : 5 ∈ K) (v1 : Int32) : ∀ (k i : Nat) (v2 : Int32) (s t : St), i + k = N → own_Q K N M s t → own_O2 (fun n => f_minimalPolyOfCoset_32 n v1 v2 (Int32.ofNat i) s) (fun n => f_minimalPolyOfCoset_32 n v1 v2 (Int32.ofNat i) t) (fun a b => a.1 = b.1 ∧ own_Q K N M a.2 b.2) := by
  intro k
  induction k with
  | zero =>
    intro i v2 s t hi h
    obtain rfl : i = N := by omega
    refine own_O2.step (f' := fun n => g_minimalPolyOfCoset_32 (f_minimalPolyOfCoset_32 n) n v1 v2 (Int32.ofNat i) s) (g' := fun n => g_minimalPolyOfCoset_32 (f_minimalPolyOfCoset_32 n) n v1 v2 (Int32.ofNat i) t) (fun _ => rfl) (fun _ => rfl) ?_
    unfold g_minimalPolyOfCoset_32
    rw [h.i0.1, h.i0.2]
    exact own_O2.ite (fun q => absurd ((own_ltN (by omega) (by omega)).mp q) (by omega)) (fun _ => own_m82 k5 v2 h 10 0 0 rfl)
  | succ k ih =>
    intro i v2 s t hi h
    refine own_O2.step (f' := fun n => g_minimalPolyOfCoset_32 (f_minimalPolyOfCoset_32 n) n v1 v2 (Int32.ofNat i) s) (g' := fun n => g_minimalPolyOfCoset_32 (f_minimalPolyOfCoset_32 n) n v1 v2 (Int32.ofNat i) t) (fun _ => rfl) (fun _ => rfl) ?_
    unfold g_minimalPolyOfCoset_32 f_minimalPolyOfCoset_71 lt
    rw [h.i0.1, h.i0.2, ofN_succ]
    refine own_O2.ite (fun _ => ?_) (fun q => absurd ((own_ltN (by omega) (by omega)).mpr (by omega)) q)
    refine own_O2.ite (fun _ => ih (i + 1) _ _ _ (by omega) h) (fun _ => ?_)
    refine own_O2.ite (fun _ => ?_) (fun _ => ih (i + 1) _ _ _ (by omega) h)
    refine own_O2.bind (own_ap h1 h2 m1 m2 h k0 (Int32.ofNat i)) fun c d e => ?_
    subst e
    refine own_O2.bind (own_mbl k0 k1 k5 c v2 h) fun s' t' h' => ?_
    exact ih (i + 1) _ _ _ (by omega) h'
theorem own_mp {K : List Nat} {N M : Nat} (h1 : 1 ≤ N) (h2 : N ≤ 31) (m1 : 1 ≤ M) (m2 : M ≤ 255) (k0 : 0 ∈ K) (k1 : 1 ∈ K) (v1 : Int32) {s t : St} (h : own_Q K N M s t) : own_O2 (fun n => f_minimalPolyOfCoset n v1 s) (fun n => f_minimalPolyOfCoset n v1 t) (fun a b => a.1 = b.1 ∧ own_Q (5 :: K) N M a.2 b.2) := by
  have key : ∀ (k i : Nat) (s t : St), i + k = 10 → own_Q K N M s t → own_P [5] i s t → own_O2 (fun n => f_minimalPolyOfCoset_2 n v1 (Int32.ofNat i) s) (fun n => f_minimalPolyOfCoset_2 n v1 (Int32.ofNat i) t) (fun a b => a.1 = b.1 ∧ own_Q (5 :: K) N M a.2 b.2) := by
    intro k
    induction k with
    | zero =>
      intro i s t hi h p
      obtain rfl : i = 10 := by omega
      refine own_O2.step (f' := fun n => g_minimalPolyOfCoset_2 (f_minimalPolyOfCoset_2 n) n v1 (Int32.ofNat 10) s) (g' := fun n => g_minimalPolyOfCoset_2 (f_minimalPolyOfCoset_2 n) n v1 (Int32.ofNat 10) t) (fun _ => rfl) (fun _ => rfl) ?_
      unfold g_minimalPolyOfCoset_2
      refine own_O2.congr (fun _ => if_neg (by decide)) (fun _ => if_neg (by decide)) ?_
      have l5 : (gA s 5).length = 10 := h.1 5 (by decide)
      have l5' : (gA t 5).length = 10 := h.2.1 5 (by decide)
      have hq : own_Q ([5] ++ K) N M s t := p.end_ h fun j hj => by
        simp only [List.mem_cons, List.not_mem_nil, or_false] at hj
        subst hj
        exact ⟨l5, l5'⟩
      refine own_O2.wr (k := 0) rfl (by omega) (by omega) (by omega) ?_
      exact own_m32 h1 h2 m1 m2 (List.mem_cons_of_mem _ k0) (List.mem_cons_of_mem _ k1) List.mem_cons_self v1 N 0 0 _ _ (by omega) (hq.wr 5 (by decide) 0 1)
    | succ k ih =>
      intro i s t hi h p
      refine own_O2.step (f' := fun n => g_minimalPolyOfCoset_2 (f_minimalPolyOfCoset_2 n) n v1 (Int32.ofNat i) s) (g' := fun n => g_minimalPolyOfCoset_2 (f_minimalPolyOfCoset_2 n) n v1 (Int32.ofNat i) t) (fun _ => rfl) (fun _ => rfl) ?_
      unfold g_minimalPolyOfCoset_2 lt
      refine own_O2.ite (fun _ => ?_) (fun q => absurd ((ofN_ltL (m := 10) (by omega) (by decide)).mpr (by omega)) q)
      have l5 : (gA s 5).length = 10 := h.1 5 (by decide)
      have l5' : (gA t 5).length = 10 := h.2.1 5 (by decide)
      refine own_O2.wr rfl (by omega) (by omega) (by omega) ?_
      have q1 := h.wr 5 (by decide) i 0
      dsimp only
      rw [ofN_succ]
      refine ih (i + 1) _ _ (by omega) q1 fun j hj q hq => ?_
      simp only [List.mem_cons, List.not_mem_nil, or_false] at hj
      subst hj
      show ((gA t 5).set i 0)[q]? = ((gA s 5).set i 0)[q]?
      by_cases e : i = q
      · subst e; rw [get_set_self _ (by omega), get_set_self _ (by omega)]
      · rw [get_set_ne _ e, get_set_ne _ e]; exact p 5 (by decide) q (by omega)
  exact key 10 0 s t rfl h fun _ _ k hk => by omega
theorem own_Q.sub {K K' : List Nat} {N M : Nat} {s t : St} (h : own_Q K N M s t) (hk : ∀ j, j ∈ K' → j ∈ K) : own_Q K' N M s t := ⟨h.1, h.2.1, h.2.2.1, fun j hj => h.2.2.2.1 j (hk j hj), h.2.2.2.2⟩
theorem own_b23 {N M : Nat} (h1 : 1 ≤ N) (h2 : N ≤ 31) (m1 : 1 ≤ M) (m2 : M ≤ 255) : ∀ (k i : Nat) (s t : St), i + k = N → own_Q [4, 2, 3, 0, 1] N M s t → own_O2 (fun n => f_buildMinimalPolys_23 n (Int32.ofNat i) s) (fun n => f_buildMinimalPolys_23 n (Int32.ofNat i) t) (own_Q [4, 2, 3, 0, 1] N M) := by
  intro k
  induction k with
  | zero =>
    intro i s t hi h
    obtain rfl : i = N := by omega
    refine own_O2.step (f' := fun n => g_buildMinimalPolys_23 (f_buildMinimalPolys_23 n) n (Int32.ofNat i) s) (g' := fun n => g_buildMinimalPolys_23 (f_buildMinimalPolys_23 n) n (Int32.ofNat i) t) (fun _ => rfl) (fun _ => rfl) ?_
    unfold g_buildMinimalPolys_23
    rw [h.i0.1, h.i0.2]
    exact own_O2.ite (fun q => absurd ((own_ltN (by omega) (by omega)).mp q) (by omega)) (fun _ => own_O2.ret h)
  | succ k ih =>
    intro i s t hi h
    refine own_O2.step (f' := fun n => g_buildMinimalPolys_23 (f_buildMinimalPolys_23 n) n (Int32.ofNat i) s) (g' := fun n => g_buildMinimalPolys_23 (f_buildMinimalPolys_23 n) n (Int32.ofNat i) t) (fun _ => rfl) (fun _ => rfl) ?_
    unfold g_buildMinimalPolys_23 f_buildMinimalPolys_83 lt
    rw [h.i0.1, h.i0.2, ofN_succ, h.ar 2 (by decide), h.ar 3 (by decide), h.ar 4 (by decide)]
    have l2 : (gA s 2).length = 32 := h.1 2 (by decide)
    have l3 : (gA s 3).length = 32 := h.1 3 (by decide)
    have l4 : (gA s 4).length = 32 := h.1 4 (by decide)
    have l4' : (gA t 4).length = 32 := h.2.1 4 (by decide)
    refine own_O2.ite (fun _ => ?_) (fun q => absurd ((own_ltN (by omega) (by omega)).mpr (by omega)) q)
    refine own_O2.rd rfl (by omega) (by omega) fun x => ?_
    refine own_O2.ite (fun _ => ?_) (fun _ => ?_)
    · refine own_O2.rd rfl (by omega) (by omega) fun y => ?_
      refine own_O2.bind (own_mp h1 h2 m1 m2 (by decide) (by decide) y h) fun c d hcd => ?_
      have hq := hcd.2.sub (K' := [4, 2, 3, 0, 1]) (by decide)
      rw [hcd.1]
      have q4 : (gA c.2 4).length = 32 := hq.1 4 (by decide)
      have q4' : (gA d.2 4).length = 32 := hq.2.1 4 (by decide)
      refine own_O2.wr rfl (by omega) (by omega) (by omega) ?_
      exact ih (i + 1) _ _ (by omega) (hq.wr 4 (by decide) i _)
    · refine own_O2.ite (fun _ => ih (i + 1) _ _ (by omega) h) (fun hx => ?_)
      refine own_O2.ite (fun hx2 => ?_) (fun _ => ih (i + 1) _ _ (by omega) h)
      obtain ⟨m, hm⟩ := nn_of hx
      have em : x = Int32.ofNat m := ofN_of hm
      have hxl := Int32.toInt_lt x
      rw [em] at hx2
      have hmi : m < i := (ofN_lt (by omega) (by omega)).mp hx2
      refine own_O2.rd em (by omega) (by omega) fun y => ?_
      refine own_O2.wr rfl (by omega) (by omega) (by omega) ?_
      exact ih (i + 1) _ _ (by omega) (h.wr 4 (by decide) i _)
theorem own_bm {N M : Nat} (h1 : 1 ≤ N) (h2 : N ≤ 31) (m1 : 1 ≤ M) (m2 : M ≤ 255) {s t : St} (h : own_Q [2, 3, 0, 1] N M s t) : own_O2 (fun n => f_buildMinimalPolys n s) (fun n => f_buildMinimalPolys n t) (own_Q [4, 2, 3, 0, 1] N M) := by
  have key : ∀ (k i : Nat) (s t : St), i + k = 32 → own_Q [2, 3, 0, 1] N M s t → own_P [4] i s t → own_O2 (fun n => f_buildMinimalPolys_2 n (Int32.ofNat i) s) (fun n => f_buildMinimalPolys_2 n (Int32.ofNat i) t) (own_Q [4, 2, 3, 0, 1] N M) := by
    intro k
    induction k with
    | zero =>
      intro i s t hi h p
      obtain rfl : i = 32 := by omega
      refine own_O2.step (f' := fun n => f_buildMinimalPolys_23 n 0 s) (g' := fun n => f_buildMinimalPolys_23 n 0 t) (fun n => ?_) (fun n => ?_) ?_
      · show g_buildMinimalPolys_2 (f_buildMinimalPolys_2 n) n _ _ = _
        unfold g_buildMinimalPolys_2; rw [if_neg (by decide)]
      · show g_buildMinimalPolys_2 (f_buildMinimalPolys_2 n) n _ _ = _
        unfold g_buildMinimalPolys_2; rw [if_neg (by decide)]
      have hq : own_Q ([4] ++ [2, 3, 0, 1]) N M s t := p.end_ h fun j hj => by
        simp only [List.mem_cons, List.not_mem_nil, or_false] at hj
        subst hj
        exact ⟨h.1 4 (by decide), h.2.1 4 (by decide)⟩
      exact own_b23 h1 h2 m1 m2 N 0 s t (by omega) hq
    | succ k ih =>
      intro i s t hi h p
      refine own_O2.step (f' := fun n => g_buildMinimalPolys_2 (f_buildMinimalPolys_2 n) n (Int32.ofNat i) s) (g' := fun n => g_buildMinimalPolys_2 (f_buildMinimalPolys_2 n) n (Int32.ofNat i) t) (fun _ => rfl) (fun _ => rfl) ?_
      unfold g_buildMinimalPolys_2 lt
      refine own_O2.ite (fun _ => ?_) (fun q => absurd ((ofN_ltL (m := 32) (by omega) (by decide)).mpr (by omega)) q)
      have l0 : (gA s 4).length = 32 := h.1 4 (by decide)
      have l0' : (gA t 4).length = 32 := h.2.1 4 (by decide)
      refine own_O2.wr rfl (by omega) (by omega) (by omega) ?_
      have q1 := h.wr 4 (by decide) i 0
      dsimp only
      rw [ofN_succ]
      refine ih (i + 1) _ _ (by omega) q1 fun j hj q hq => ?_
      simp only [List.mem_cons, List.not_mem_nil, or_false] at hj
      subst hj
      show ((gA t 4).set i 0)[q]? = ((gA s 4).set i 0)[q]?
      by_cases e : i = q
      · subst e; rw [get_set_self _ (by omega), get_set_self _ (by omega)]
      · rw [get_set_ne _ e, get_set_ne _ e]; exact p 4 (by decide) q (by omega)
  exact key 32 0 s t rfl h fun _ _ k hk => by omega
/-! refreshing -/
theorem own_pc (s t : St) : ∀ (k i : Nat) (v2 v3 : Int32), i + k = 32 → own_O2 (fun n => f_popcount_7 n v2 v3 (Int32.ofNat i) s) (fun n => f_popcount_7 n v2 v3 (Int32.ofNat i) t) Eq := by
  intro k
  induction k with
  | zero =>
    intro i v2 v3 hi
    obtain rfl : i = 32 := by omega
    refine own_O2.step (f' := fun n => g_popcount_7 (f_popcount_7 n) n v2 v3 (Int32.ofNat 32) s) (g' := fun n => g_popcount_7 (f_popcount_7 n) n v2 v3 (Int32.ofNat 32) t) (fun _ => rfl) (fun _ => rfl) ?_
    unfold g_popcount_7 f_popcount_33
    exact own_O2.congr (fun _ => if_neg (by decide)) (fun _ => if_neg (by decide)) (own_O2.ret rfl)
  | succ k ih =>
    intro i v2 v3 hi
    refine own_O2.step (f' := fun n => g_popcount_7 (f_popcount_7 n) n v2 v3 (Int32.ofNat i) s) (g' := fun n => g_popcount_7 (f_popcount_7 n) n v2 v3 (Int32.ofNat i) t) (fun _ => rfl) (fun _ => rfl) ?_
    unfold g_popcount_7 f_popcount_33 lt
    dsimp only
    rw [ofN_succ]
    refine own_O2.ite (fun _ => ?_) (fun _ => own_O2.ret rfl)
    exact own_O2.ite (fun _ => own_O2.ret rfl) (fun _ => ih (i + 1) _ _ (by omega))
theorem own_cl (s t : St) (v1 v2 : Int32) : ∀ (k i : Nat) (v3 : Int32), i + k = 32 → own_O2 (fun n => f_clmul_5 n v1 v2 v3 (Int32.ofNat i) s) (fun n => f_clmul_5 n v1 v2 v3 (Int32.ofNat i) t) Eq := by
  intro k
  induction k with
  | zero =>
    intro i v3 hi
    obtain rfl : i = 32 := by omega
    refine own_O2.step (f' := fun n => g_clmul_5 (f_clmul_5 n) n v1 v2 v3 (Int32.ofNat 32) s) (g' := fun n => g_clmul_5 (f_clmul_5 n) n v1 v2 v3 (Int32.ofNat 32) t) (fun _ => rfl) (fun _ => rfl) ?_
    unfold g_clmul_5
    exact own_O2.congr (fun _ => if_neg (by decide)) (fun _ => if_neg (by decide)) (own_O2.ret rfl)
  | succ k ih =>
    intro i v3 hi
    refine own_O2.step (f' := fun n => g_clmul_5 (f_clmul_5 n) n v1 v2 v3 (Int32.ofNat i) s) (g' := fun n => g_clmul_5 (f_clmul_5 n) n v1 v2 v3 (Int32.ofNat i) t) (fun _ => rfl) (fun _ => rfl) ?_
    unfold g_clmul_5 f_clmul_28 lt
    dsimp only
    rw [ofN_succ]
    refine own_O2.ite (fun _ => ?_) (fun _ => own_O2.ret rfl)
    exact own_O2.ite (fun _ => ih (i + 1) _ (by omega)) (fun _ => ih (i + 1) _ (by omega))
abbrev own_T : List Nat := [4, 2, 3, 0, 1]
theorem own_inZ {s t : St} (h : gI t 4 = gI s 4) (v : Int32) : ∃ c, f_inZ v s = some c ∧ f_inZ v t = some c := by
  unfold f_inZ f_inZ_16
  rw [h]
  split <;> exact ⟨_, rfl, rfl⟩
theorem own_cg {N M : Nat} (h2 : N ≤ 31) {s t : St} (h : own_Q own_T N M s t) (h4 : gI t 4 = gI s 4) : ∀ (k i : Nat) (v1 : Int32), i + k = N → own_O2 (fun n => f_computeGenerator_4 n v1 (Int32.ofNat i) s) (fun n => f_computeGenerator_4 n v1 (Int32.ofNat i) t) Eq := by
  intro k
  induction k with
  | zero =>
    intro i v1 hi
    obtain rfl : i = N := by omega
    refine own_O2.step (f' := fun n => g_computeGenerator_4 (f_computeGenerator_4 n) n v1 (Int32.ofNat i) s) (g' := fun n => g_computeGenerator_4 (f_computeGenerator_4 n) n v1 (Int32.ofNat i) t) (fun _ => rfl) (fun _ => rfl) ?_
    unfold g_computeGenerator_4
    rw [h.i0.1, h.i0.2]
    exact own_O2.ite (fun q => absurd ((own_ltN (by omega) (by omega)).mp q) (by omega)) (fun _ => own_O2.ret rfl)
  | succ k ih =>
    intro i v1 hi
    refine own_O2.step (f' := fun n => g_computeGenerator_4 (f_computeGenerator_4 n) n v1 (Int32.ofNat i) s) (g' := fun n => g_computeGenerator_4 (f_computeGenerator_4 n) n v1 (Int32.ofNat i) t) (fun _ => rfl) (fun _ => rfl) ?_
    unfold g_computeGenerator_4 f_computeGenerator_42 lt
    obtain ⟨c, e1, e2⟩ := own_inZ h4 (Int32.ofNat i)
    rw [h.i0.1, h.i0.2, ofN_succ, h.ar 3 (by decide), h.ar 4 (by decide), e1, e2]
    have l3 : (gA s 3).length = 32 := h.1 3 (by decide)
    have l4 : (gA s 4).length = 32 := h.1 4 (by decide)
    refine own_O2.ite (fun _ => ?_) (fun _ => own_O2.ret rfl)
    refine own_O2.congr (fun _ => Option.bind_some ..) (fun _ => Option.bind_some ..) ?_
    refine own_O2.ite (fun _ => ih (i + 1) _ (by omega)) (fun _ => ?_)
    refine own_O2.rd rfl (by omega) (by omega) fun x => ?_
    refine own_O2.ite (fun _ => ?_) (fun _ => ih (i + 1) _ (by omega))
    refine own_O2.rd rfl (by omega) (by omega) fun y => ?_
    refine own_O2.bind (own_cl s t v1 y 32 0 0 rfl) fun c d e => ?_
    subst e
    exact ih (i + 1) _ (by omega)
theorem own_Evq {α : Type} {f g : Nat → Option α} {r : α} (D : Nat) (e : ∀ n, D ≤ n → f n = g n) (h : Ev g r) : Ev f r := by
  obtain ⟨N, h⟩ := h
  exact ⟨N + D, fun n hn => (e n (by omega)).trans (h n (by omega))⟩
theorem own_O2.late {α β : Type} {f f' : Nat → Option α} {g g' : Nat → Option β} {P : α → β → Prop} (D : Nat) (e : ∀ n, D ≤ n → f n = f' n) (k : ∀ n, D ≤ n → g n = g' n) (h : own_O2 f' g' P) : own_O2 f g P := by
  obtain ⟨a, b, h1, h2, h3⟩ := h
  exact ⟨a, b, own_Evq D e h1, own_Evq D k h2, h3⟩
theorem own_r30 {N M : Nat} (h1 : 1 ≤ N) (h2 : N ≤ 31) {s t : St} (h : own_Q own_T N M s t) (h4 : gI t 4 = gI s 4) (v1 : Int32) (q : Nat) (hq : q < N) : ∀ (k i : Nat), i + k = N → ∃ v3, ∀ k20 m, f_computeRunLength_30 k20 (m + 1 + k) v1 (Int32.ofNat q) (Int32.ofNat i) s = f_computeRunLength_59 k20 0 v1 (Int32.ofNat q) v3 s ∧ f_computeRunLength_30 k20 (m + 1 + k) v1 (Int32.ofNat q) (Int32.ofNat i) t = f_computeRunLength_59 k20 0 v1 (Int32.ofNat q) v3 t := by
  intro k
  induction k with
  | zero =>
    intro i hi
    obtain rfl : i = N := by omega
    refine ⟨Int32.ofNat i, fun k20 m => ?_⟩
    have ns : ¬ Int32.ofNat i < Int32.ofNat i := fun z => absurd ((own_ltN (by omega) (by omega)).mp z) (by omega)
    constructor
    · show g_computeRunLength_30 k20 (f_computeRunLength_30 k20 m) m _ _ _ _ = _
      unfold g_computeRunLength_30
      rw [h.i0.1, if_neg ns]; rfl
    · show g_computeRunLength_30 k20 (f_computeRunLength_30 k20 m) m _ _ _ _ = _
      unfold g_computeRunLength_30
      rw [h.i0.2, if_neg ns]; rfl
  | succ k ih =>
    intro i hi
    have cs : Int32.ofNat i < Int32.ofNat N := (own_ltN (by omega) (by omega)).mpr (by omega)
    obtain ⟨c, e1, e2⟩ := own_inZ h4 ((Int32.ofNat q + Int32.ofNat i) % Int32.ofNat N)
    by_cases z : c = 0
    · refine ⟨Int32.ofNat i, fun k20 m => ?_⟩
      constructor
      · show g_computeRunLength_30 k20 (f_computeRunLength_30 k20 (m + 1 + k)) (m + 1 + k) _ _ _ _ = _
        unfold g_computeRunLength_30
        rw [h.i0.1, if_pos cs, if_neg (own_nz h1 (by omega)), e1, Option.bind_some, if_pos z]; rfl
      · show g_computeRunLength_30 k20 (f_computeRunLength_30 k20 (m + 1 + k)) (m + 1 + k) _ _ _ _ = _
        unfold g_computeRunLength_30
        rw [h.i0.2, if_pos cs, if_neg (own_nz h1 (by omega)), e2, Option.bind_some, if_pos z]; rfl
    · obtain ⟨v3, hv⟩ := ih (i + 1) (by omega)
      refine ⟨v3, fun k20 m => ?_⟩
      obtain ⟨a, b⟩ := hv k20 m
      constructor
      · rw [← a]
        show g_computeRunLength_30 k20 (f_computeRunLength_30 k20 (m + 1 + k)) (m + 1 + k) _ _ _ _ = _
        unfold g_computeRunLength_30 lt
        rw [h.i0.1, if_pos cs, if_neg (own_nz h1 (by omega)), e1, Option.bind_some, if_neg z, ofN_succ]
      · rw [← b]
        show g_computeRunLength_30 k20 (f_computeRunLength_30 k20 (m + 1 + k)) (m + 1 + k) _ _ _ _ = _
        unfold g_computeRunLength_30 lt
        rw [h.i0.2, if_pos cs, if_neg (own_nz h1 (by omega)), e2, Option.bind_some, if_neg z, ofN_succ]
theorem own_rl {N M : Nat} (h1 : 1 ≤ N) (h2 : N ≤ 31) {s t : St} (h : own_Q own_T N M s t) (h4 : gI t 4 = gI s 4) : own_O2 (fun n => f_computeRunLength n s) (fun n => f_computeRunLength n t) Eq := by
  have key20 : ∀ (k i : Nat) (v1 : Int32), i + k = N → own_O2 (fun n => f_computeRunLength_20 n v1 (Int32.ofNat i) s) (fun n => f_computeRunLength_20 n v1 (Int32.ofNat i) t) Eq := by
    intro k
    induction k with
    | zero =>
      intro i v1 hi
      obtain rfl : i = N := by omega
      refine own_O2.step (f' := fun n => g_computeRunLength_20 (f_computeRunLength_20 n) n v1 (Int32.ofNat i) s) (g' := fun n => g_computeRunLength_20 (f_computeRunLength_20 n) n v1 (Int32.ofNat i) t) (fun _ => rfl) (fun _ => rfl) ?_
      unfold g_computeRunLength_20
      rw [h.i0.1, h.i0.2]
      exact own_O2.ite (fun q => absurd ((own_ltN (by omega) (by omega)).mp q) (by omega)) (fun _ => own_O2.ret rfl)
    | succ k ih =>
      intro i v1 hi
      refine own_O2.step (f' := fun n => g_computeRunLength_20 (f_computeRunLength_20 n) n v1 (Int32.ofNat i) s) (g' := fun n => g_computeRunLength_20 (f_computeRunLength_20 n) n v1 (Int32.ofNat i) t) (fun _ => rfl) (fun _ => rfl) ?_
      unfold g_computeRunLength_20
      rw [h.i0.1, h.i0.2]
      refine own_O2.ite (fun _ => ?_) (fun _ => own_O2.ret rfl)
      have e59 : ∀ v3 : Int32, own_O2 (fun n => f_computeRunLength_59 (f_computeRunLength_20 n) 0 v1 (Int32.ofNat i) v3 s) (fun n => f_computeRunLength_59 (f_computeRunLength_20 n) 0 v1 (Int32.ofNat i) v3 t) Eq := fun v3 => by
        unfold f_computeRunLength_59 f_computeRunLength_66 lt
        dsimp only
        rw [ofN_succ]
        exact own_O2.ite (fun _ => ih (i + 1) _ (by omega)) (fun _ => ih (i + 1) _ (by omega))
      obtain ⟨v3, hv⟩ := own_r30 h1 h2 h h4 v1 i (by omega) N 0 (by omega)
      refine own_O2.late (N + 1) (fun n hn => ?_) (fun n hn => ?_) (e59 v3)
      · have := (hv (f_computeRunLength_20 n) (n - N - 1)).1
        rw [show n - N - 1 + 1 + N = n by omega] at this
        exact this
      · have := (hv (f_computeRunLength_20 n) (n - N - 1)).2
        rw [show n - N - 1 + 1 + N = n by omega] at this
        exact this
  unfold f_computeRunLength
  rw [h.i0.1, h.i0.2, h4, h.2.2.2.2.1 3 (by decide)]
  exact own_O2.ite (fun _ => own_O2.ret rfl) (fun _ => key20 N 0 0 (by omega))
/-- alike in all that counts -/
def own_E (N M : Nat) (s t : St) : Prop := own_Q own_T N M s t ∧ ∀ j, j < 8 → gI t j = gI s j
theorem own_Rs.sI {s t : St} (h : own_Rs s t) (j : Nat) (hj : j < 8) (x y : Int32) : own_Rs (sI s j x) (sI t j y) := ⟨rfl, rfl⟩
theorem own_Q.sI {K : List Nat} {N M : Nat} {s t : St} (h : own_Q K N M s t) (j : Nat) (h4 : 4 ≤ j) (h8 : j < 8) (x y : Int32) : own_Q K N M (sI s j x) (sI t j y) := by
  obtain ⟨a, b, c, d, e, f, g⟩ := h
  refine ⟨a, b, c.sI j h8 x y, d, fun i hi => ?_, ?_, ?_⟩
  · rw [gI_sI, gI_sI, if_neg (by omega), if_neg (by omega)]; exact e i hi
  · rw [gI_sI, if_neg (by omega)]; exact f
  · rw [gI_sI, if_neg (by omega)]; exact g
/-- the frame of refresh -/
def own_Rf (s s' : St) : Prop := (∀ j, gA s' j = gA s j) ∧ (∀ j, j < 5 → gI s' j = gI s j)
theorem own_ref {N M : Nat} (h1 : 1 ≤ N) (h2 : N ≤ 31) {s t : St} (h : own_Q own_T N M s t) (h4 : gI t 4 = gI s 4) : own_O2 (fun n => f_refresh n s) (fun n => f_refresh n t) (fun a b => own_E N M a b ∧ own_Rf s a ∧ own_Rf t b) := by
  unfold f_refresh f_popcount f_computeGenerator lt
  rw [h4]
  refine own_O2.bind (own_pc s t 32 0 0 (gI s 4) rfl) fun c d e => ?_
  subst e
  have q6 := h.sI 6 (by decide) (by decide) c c
  have z6 : gI (sI t 6 c) 4 = gI (sI s 6 c) 4 := h4
  dsimp only
  refine own_O2.bind (own_cg h2 q6 z6 N 0 1 (by omega)) fun g g' e => ?_
  subst e
  have q5 := q6.sI 5 (by decide) (by decide) g g
  have z5 : gI (sI (sI t 6 c) 5 g) 4 = gI (sI (sI s 6 c) 5 g) 4 := h4
  refine own_O2.bind (own_rl h1 h2 q5 z5) fun r r' e => ?_
  subst e
  refine own_O2.ret ⟨⟨q5.sI 7 (by decide) (by decide) r r, fun j hj => ?_⟩, ⟨fun _ => rfl, fun j hj => ?_⟩, ⟨fun _ => rfl, fun j hj => ?_⟩⟩
  · rcases (by omega : j = 0 ∨ j = 1 ∨ j = 2 ∨ j = 3 ∨ j = 4 ∨ j = 5 ∨ j = 6 ∨ j = 7) with rfl | rfl | rfl | rfl | rfl | rfl | rfl | rfl
    · exact h.2.2.2.2.1 0 (by decide)
    · exact h.2.2.2.2.1 1 (by decide)
    · exact h.2.2.2.2.1 2 (by decide)
    · exact h.2.2.2.2.1 3 (by decide)
    · exact h4
    · rfl
    · rfl
    · rfl
  · rw [gI_sI, if_neg (by omega), gI_sI, if_neg (by omega), gI_sI, if_neg (by omega)]
  · rw [gI_sI, if_neg (by omega), gI_sI, if_neg (by omega), gI_sI, if_neg (by omega)]
/-- degrees of the lengths that are taken -/
theorem own_deg (p : Int32) : (∀ s, f_degreeFor p s = some 0) ∨ ∃ N M, 3 ≤ N ∧ N ≤ 31 ∧ 1 ≤ M ∧ M ≤ 255 ∧ p = Int32.ofNat N ∧ ∃ c, ¬ c = 0 ∧ (∀ s, f_degreeFor p s = some c) ∧ ((1 : Int32) <<< (c &&& 31)) - 1 = Int32.ofNat M := by
  unfold f_degreeFor
  by_cases c3 : p = 3
  · exact Or.inr ⟨3, 3, by decide, by decide, by decide, by decide, c3, 2, by decide, fun s => if_pos c3, by decide⟩
  by_cases c5 : p = 5
  · subst c5; exact Or.inr ⟨5, 15, by decide, by decide, by decide, by decide, rfl, 4, by decide, fun s => rfl, by decide⟩
  by_cases c7 : p = 7
  · subst c7; exact Or.inr ⟨7, 7, by decide, by decide, by decide, by decide, rfl, 3, by decide, fun s => rfl, by decide⟩
  by_cases c9 : p = 9
  · subst c9; exact Or.inr ⟨9, 63, by decide, by decide, by decide, by decide, rfl, 6, by decide, fun s => rfl, by decide⟩
  by_cases c15 : p = 15
  · subst c15; exact Or.inr ⟨15, 15, by decide, by decide, by decide, by decide, rfl, 4, by decide, fun s => rfl, by decide⟩
  by_cases c17 : p = 17
  · subst c17; exact Or.inr ⟨17, 255, by decide, by decide, by decide, by decide, rfl, 8, by decide, fun s => rfl, by decide⟩
  by_cases c21 : p = 21
  · subst c21; exact Or.inr ⟨21, 63, by decide, by decide, by decide, by decide, rfl, 6, by decide, fun s => rfl, by decide⟩
  by_cases c31 : p = 31
  · subst c31; exact Or.inr ⟨31, 31, by decide, by decide, by decide, by decide, rfl, 5, by decide, fun s => rfl, by decide⟩
  refine Or.inl fun s => ?_
  rw [if_neg c3, if_neg c5, if_neg c7, if_neg c9, if_neg c15, if_neg c17, if_neg c21, if_neg c31]
  simp only [ite_self]
/-- t is refreshed, with the zeros z and the tables of s -/
def own_Zf (N M : Nat) (s : St) (z : Int32) (t : St) : Prop := ∃ u, own_Q own_T N M s u ∧ gI u 4 = z ∧ Ev (fun n => f_refresh n u) t
theorem own_Q.symm {K : List Nat} {N M : Nat} {s t : St} (h : own_Q K N M s t) : own_Q K N M t s := ⟨h.2.1, h.1, ⟨rfl, rfl⟩, fun j hj => (h.ar j hj).symm, fun j hj => (h.2.2.2.2.1 j hj).symm, h.i0.2, h.i2.2⟩
theorem own_Q.trans {K : List Nat} {N M : Nat} {s t u : St} (h : own_Q K N M s t) (k : own_Q K N M t u) : own_Q K N M s u := ⟨h.1, k.2.1, ⟨rfl, rfl⟩, fun j hj => (k.ar j hj).trans (h.ar j hj), fun j hj => (k.2.2.2.2.1 j hj).trans (h.2.2.2.2.1 j hj), h.i0.1, h.i2.1⟩
theorem own_Rf.q {N M : Nat} {s s' : St} (h : own_Rf s s') (hl : own_Ln s) (h0 : gI s 0 = Int32.ofNat N) (h2 : gI s 2 = Int32.ofNat M) : own_Q own_T N M s s' := ⟨hl, fun j hj => by rw [h.1 j]; exact hl j hj, ⟨rfl, rfl⟩, fun j _ => h.1 j, fun j hj => h.2 j (by omega), h0, h2⟩
theorem own_Zf.q {N M : Nat} (h1 : 1 ≤ N) (h2 : N ≤ 31) {s t : St} {z : Int32} (h : own_Zf N M s z t) : own_Q own_T N M s t ∧ gI t 4 = z := by
  obtain ⟨u, hq, h4, e⟩ := h
  obtain ⟨a, b, ea, eb, -, hf, -⟩ := own_ref h1 h2 (hq.symm.trans hq) rfl
  have := Ev.uniq ea e
  subst this
  have q2 := hf.q (N := N) (M := M) hq.2.1 hq.i0.2 hq.i2.2
  exact ⟨hq.trans q2, (hf.2 4 (by decide)).trans h4⟩
/-- two refreshed states of like tables and like zeros are alike -/
theorem own_ZE {N M : Nat} (h1 : 1 ≤ N) (h2 : N ≤ 31) {s t t' : St} {z : Int32} (h : own_Zf N M s z t) (k : own_Zf N M s z t') : own_E N M t t' := by
  obtain ⟨u, hq, h4, e⟩ := h
  obtain ⟨u', hq', h4', e'⟩ := k
  obtain ⟨a, b, ea, eb, hE, -⟩ := own_ref h1 h2 (hq.symm.trans hq') (h4'.trans h4.symm)
  have q1 := Ev.uniq ea e
  have q2 := Ev.uniq eb e'
  subst q1 q2
  exact hE
theorem own_mkZ {N M : Nat} (h1 : 1 ≤ N) (h2 : N ≤ 31) {s t : St} (h : own_Q own_T N M s t) (z : Int32) : ∃ t', Ev (fun n => f_refresh n (sI t 4 z)) t' ∧ own_Zf N M s z t' := by
  have q := h.sI 4 (by decide) (by decide) (gI s 4) z
  have q' : own_Q own_T N M s (sI t 4 z) := ⟨h.1, q.2.1, ⟨rfl, rfl⟩, h.2.2.2.1, fun j hj => by rw [gI_sI, if_neg (by omega)]; exact h.2.2.2.2.1 j hj, h.2.2.2.2.2⟩
  obtain ⟨a, b, ea, eb, -⟩ := own_ref h1 h2 (q'.symm.trans q') rfl
  exact ⟨b, eb, sI t 4 z, q', rfl, eb⟩
theorem own_conf (p : Int32) {s t : St} (hs : own_Ln s) (ht : own_Ln t) : (∀ n, f_configure n p s = some (0, s) ∧ f_configure n p t = some (0, t)) ∨ ∃ N M, 3 ≤ N ∧ N ≤ 31 ∧ 1 ≤ M ∧ M ≤ 255 ∧ p = Int32.ofNat N ∧ own_O2 (fun n => f_configure n p s) (fun n => f_configure n p t) (fun a b => a.1 = 1 ∧ b.1 = 1 ∧ own_Zf N M a.2 0 a.2 ∧ own_Zf N M a.2 0 b.2) := by
  rcases own_deg p with h0 | ⟨N, M, n1, n2, m1, m2, ep, c, c0, hc, ec⟩
  · left
    intro n
    unfold f_configure
    rw [h0, h0]; exact ⟨rfl, rfl⟩
  right
  refine ⟨N, M, n1, n2, m1, m2, ep, ?_⟩
  unfold f_configure f_lowMask lt
  rw [hc, hc]
  refine own_O2.congr (fun _ => Option.bind_some ..) (fun _ => Option.bind_some ..) ?_
  refine own_O2.congr (fun _ => if_neg c0) (fun _ => if_neg c0) ?_
  dsimp only
  rw [ec]
  refine own_O2.congr (fun _ => Option.bind_some ..) (fun _ => Option.bind_some ..) ?_
  have q0 : own_Q [] N M (sI (sI (sI (sI s 0 p) 1 c) 2 (Int32.ofNat M)) 3 (((1 : Int32) <<< (p &&& 31)) - 1)) (sI (sI (sI (sI t 0 p) 1 c) 2 (Int32.ofNat M)) 3 (((1 : Int32) <<< (p &&& 31)) - 1)) := by
    refine ⟨hs, ht, ⟨rfl, rfl⟩, (fun j hj => by cases hj), (fun j hj => ?_), ep, rfl⟩
    rcases (by omega : j = 0 ∨ j = 1 ∨ j = 2 ∨ j = 3) with rfl | rfl | rfl | rfl <;> rfl
  refine own_O2.bind (own_bf m2 q0) fun a b h1 => ?_
  refine own_O2.bind (own_bc (by omega) n2 h1) fun a b h2 => ?_
  refine own_O2.bind (own_bm (by omega) n2 m1 m2 h2) fun a b h3 => ?_
  have q4 := h3.sI 4 (by decide) (by decide) 0 0
  obtain ⟨a', b', ea, eb, hE, fa, fb⟩ := own_ref (by omega) n2 q4 rfl
  refine own_O2.bind (Q := fun x y => x = a' ∧ y = b') ⟨a', b', ea, eb, rfl, rfl⟩ fun x y hxy => ?_
  obtain ⟨rfl, rfl⟩ := hxy
  have qa := fa.q (N := N) (M := M) q4.1 q4.i0.1 q4.i2.1
  exact own_O2.ret ⟨rfl, rfl, ⟨_, qa.symm, rfl, ea⟩, ⟨_, qa.symm.trans q4, rfl, eb⟩⟩
/-- whatever is configured to N has the tables of s -/
def own_Can (N M : Nat) (s : St) : Prop := ∀ u, own_Ln u → ∃ c, Ev (fun n => f_configure n (Int32.ofNat N) u) (1, c) ∧ own_Zf N M s 0 c
theorem own_Zf.base {N M : Nat} {s s' t : St} {z : Int32} (h : own_Zf N M s z t) (k : own_Q own_T N M s' s) : own_Zf N M s' z t := by
  obtain ⟨u, a, b, c⟩ := h
  exact ⟨u, k.trans a, b, c⟩
theorem own_Can.base {N M : Nat} {s s' : St} (h : own_Can N M s) (k : own_Q own_T N M s' s) : own_Can N M s' := fun u hu => by
  obtain ⟨c, e, z⟩ := h u hu
  exact ⟨c, e, z.base k⟩
/-- a state in order -/
def own_G (N M : Nat) (s : St) : Prop := 3 ≤ N ∧ N ≤ 31 ∧ 1 ≤ M ∧ M ≤ 255 ∧ (∃ z, own_Zf N M s z s) ∧ own_Can N M s
theorem own_setL {N M : Nat} {s t : St} (h : own_G N M s) (k : own_E N M s t) (p : Int32) : own_O2 (fun n => f_setLength n p s) (fun n => f_setLength n p t) (fun a b => a.1 = b.1 ∧ ∃ N' M', own_G N' M' a.2 ∧ own_E N' M' a.2 b.2) := by
  have hl := k.1.1
  have kl := k.1.2.1
  unfold f_setLength
  rcases own_conf p hl kl with h0 | ⟨N', M', n1, n2, m1, m2, ep, ⟨a, b, ea, eb, a1, b1, za, zb⟩⟩
  · refine own_O2.congr (f' := fun _ => some (0, s)) (g' := fun _ => some (0, t)) (fun n => ?_) (fun n => ?_) (own_O2.ret ⟨rfl, N, M, h, k⟩)
    · rw [(h0 n).1]; show some ((0 : Int32) &&& 1, s) = _; rw [show (0 : Int32) &&& 1 = 0 from by decide]
    · rw [(h0 n).2]; show some ((0 : Int32) &&& 1, t) = _; rw [show (0 : Int32) &&& 1 = 0 from by decide]
  · refine own_O2.bind (Q := fun x y => x = a ∧ y = b) ⟨a, b, ea, eb, rfl, rfl⟩ fun x y hxy => ?_
    obtain ⟨rfl, rfl⟩ := hxy
    refine own_O2.ret ⟨by rw [a1, b1], N', M', ⟨n1, n2, m1, m2, ⟨0, za⟩, fun u hu => ?_⟩, own_ZE (by omega) n2 za zb⟩
    rcases own_conf p hl hu with h0 | ⟨N2, M2, -, n4, -, m4, ep2, ⟨a', c, ea', ec, -, c1, -, zc⟩⟩
    · have := Ev.uniq (Ev.congr (fun n => (h0 n).1) (Ev.const rfl)) ea
      rw [← this] at a1
      exact absurd a1 (show ¬ (0 : Int32) = 1 by decide)
    · have e1 : N2 = N' := (ofN_eq (by omega) (by omega)).mp (ep2.symm.trans ep)
      subst e1
      have e2 := Ev.uniq ea' ea
      subst e2
      have e3 : M2 = M' := by
        have w1 := (zc.q (by omega) n4).1.i2.1
        have w2 := (zb.q (by omega) n2).1.i2.1
        exact (ofN_eq (by omega) (by omega)).mp (w1.symm.trans w2)
      subst e3
      obtain ⟨c0, c2⟩ := c
      have c1 : c0 = 1 := c1
      subst c1
      exact ⟨c2, by rw [← ep]; exact ec, zc⟩
theorem own_inR {N M : Nat} (h2 : N ≤ 31) {s t : St} (h : own_Q own_T N M s t) (p : Int32) : (f_inRange p s = some 0 ∧ f_inRange p t = some 0 ∧ (p < 0 ∨ ¬ p < Int32.ofNat N)) ∨ (∃ k, k < N ∧ p = Int32.ofNat k ∧ f_inRange p s = some 1 ∧ f_inRange p t = some 1) := by
  unfold f_inRange f_inRange_16 f_inRange_17
  rw [h.i0.1, h.i0.2]
  by_cases c : p < 0
  · rw [if_pos c]; exact Or.inl ⟨by decide, by decide, Or.inl c⟩
  · rw [if_neg c]
    by_cases d : p < Int32.ofNat N
    · rw [if_pos d]
      obtain ⟨k, hk⟩ := nn_of c
      have ek : p = Int32.ofNat k := ofN_of hk
      have hp := Int32.toInt_lt p
      refine Or.inr ⟨k, ?_, ek, by decide, by decide⟩
      rw [ek] at d
      exact (ofN_lt (by omega) (by omega)).mp d
    · rw [if_neg d]; exact Or.inl ⟨by decide, by decide, Or.inr d⟩
theorem own_G.self {N M : Nat} {s : St} (h : own_G N M s) : own_Q own_T N M s s := by
  obtain ⟨z, hz⟩ := h.2.2.2.2.1
  exact (hz.q (by have := h.1; omega) h.2.1).1
/-- with other zeros -/
theorem own_G.zf {N M : Nat} {s t : St} (h : own_G N M s) {z : Int32} (hz : own_Zf N M s z t) : own_G N M t := by
  obtain ⟨n1, n2, m1, m2, -, hc⟩ := h
  have q := (hz.q (by omega) n2).1
  exact ⟨n1, n2, m1, m2, ⟨z, hz.base q.symm⟩, hc.base q.symm⟩
theorem own_addZ {N M : Nat} {s t : St} (h : own_G N M s) (k : own_E N M s t) (p : Int32) : own_O2 (fun n => f_addZeros n p s) (fun n => f_addZeros n p t) (fun a b => a.1 = b.1 ∧ own_G N M a.2 ∧ own_E N M a.2 b.2) := by
  have n1 := h.1
  have n2 := h.2.1
  unfold f_addZeros
  rcases own_inR n2 k.1 p with ⟨e1, e2, -⟩ | ⟨i, hi, ei, e1, e2⟩
  · rw [e1, e2]
    refine own_O2.congr (f' := fun _ => some (0, s)) (g' := fun _ => some (0, t)) (fun n => rfl) (fun n => rfl) (own_O2.ret ⟨rfl, h, k⟩)
  · rw [e1, e2]
    refine own_O2.congr (fun _ => Option.bind_some ..) (fun _ => Option.bind_some ..) ?_
    refine own_O2.congr (fun _ => if_neg (by decide)) (fun _ => if_neg (by decide)) ?_
    rw [k.1.ar 2 (by decide)]
    have l2 : (gA s 2).length = 32 := k.1.1 2 (by decide)
    refine own_O2.rd ei (by omega) (by omega) fun x => ?_
    unfold lt
    dsimp only
    rw [k.2 4 (by decide)]
    obtain ⟨s', es, zs⟩ := own_mkZ (by omega) n2 h.self (gI s 4 ||| x)
    obtain ⟨t', et, zt⟩ := own_mkZ (by omega) n2 k.1 (gI s 4 ||| x)
    refine own_O2.bind (Q := fun a b => a = s' ∧ b = t') ⟨s', t', es, et, rfl, rfl⟩ fun a b hab => ?_
    obtain ⟨rfl, rfl⟩ := hab
    exact own_O2.ret ⟨rfl, h.zf zs, own_ZE (by omega) n2 zs zt⟩
/-! asking -/
theorem own_trap {s t : St} (h0 : gI t 0 = gI s 0) (v2 : Int32) : ∀ (k : Nat) (v3 : Int32), v3.toInt ≤ k → own_O2 (fun n => f_trappingCapability_12 n v2 v3 s) (fun n => f_trappingCapability_12 n v2 v3 t) Eq := by
  intro k
  induction k with
  | zero =>
    intro v3 hv
    refine own_O2.step (f' := fun n => g_trappingCapability_12 (f_trappingCapability_12 n) n v2 v3 s) (g' := fun n => g_trappingCapability_12 (f_trappingCapability_12 n) n v2 v3 t) (fun _ => rfl) (fun _ => rfl) ?_
    unfold g_trappingCapability_12
    have c : v3 < 1 := by rw [x32_lt, show (1 : Int32).toInt = 1 from by decide]; omega
    exact own_O2.congr (fun _ => if_pos c) (fun _ => if_pos c) (own_O2.ret rfl)
  | succ k ih =>
    intro v3 hv
    refine own_O2.step (f' := fun n => g_trappingCapability_12 (f_trappingCapability_12 n) n v2 v3 s) (g' := fun n => g_trappingCapability_12 (f_trappingCapability_12 n) n v2 v3 t) (fun _ => rfl) (fun _ => rfl) ?_
    unfold g_trappingCapability_12 lt
    rw [h0]
    refine own_O2.ite (fun _ => own_O2.ret rfl) (fun c => ?_)
    have c1 : ¬ v3.toInt < 1 := fun q => c (by rw [x32_lt, show (1 : Int32).toInt = 1 from by decide]; exact q)
    have z : ¬ v3 = 0 := fun q => by
      subst q
      exact c1 (by decide)
    refine own_O2.congr (fun _ => if_neg z) (fun _ => if_neg z) ?_
    have em : (v3 + -1).toInt = v3.toInt - 1 := by
      have := Int32.toInt_lt v3
      have e : (-1 : Int32).toInt = -1 := by decide
      rw [x32_add (by omega) (by omega), e]; omega
    exact own_O2.ite (fun _ => ih _ (by rw [em]; omega)) (fun _ => own_O2.ret rfl)
theorem own_tz (s t : St) (v1 : Int32) : ∀ (k i : Nat), i + k = 32 → own_O2 (fun n => f_trailingZeros_2 n v1 (Int32.ofNat i) s) (fun n => f_trailingZeros_2 n v1 (Int32.ofNat i) t) Eq := by
  intro k
  induction k with
  | zero =>
    intro i hi
    obtain rfl : i = 32 := by omega
    refine own_O2.step (f' := fun n => g_trailingZeros_2 (f_trailingZeros_2 n) n v1 (Int32.ofNat 32) s) (g' := fun n => g_trailingZeros_2 (f_trailingZeros_2 n) n v1 (Int32.ofNat 32) t) (fun _ => rfl) (fun _ => rfl) ?_
    unfold g_trailingZeros_2
    exact own_O2.congr (fun _ => if_neg (by decide)) (fun _ => if_neg (by decide)) (own_O2.ret rfl)
  | succ k ih =>
    intro i hi
    refine own_O2.step (f' := fun n => g_trailingZeros_2 (f_trailingZeros_2 n) n v1 (Int32.ofNat i) s) (g' := fun n => g_trailingZeros_2 (f_trailingZeros_2 n) n v1 (Int32.ofNat i) t) (fun _ => rfl) (fun _ => rfl) ?_
    unfold g_trailingZeros_2 lt
    dsimp only
    rw [ofN_succ]
    refine own_O2.ite (fun _ => ?_) (fun _ => own_O2.ret rfl)
    exact own_O2.ite (fun _ => ih (i + 1) (by omega)) (fun _ => own_O2.ret rfl)
theorem own_enum {s t : St} (h5 : gI t 5 = gI s 5) (v4 : Int32) : ∀ (k : Nat) (v2 v3 v5 : Int32), v4.toInt ≤ v5.toInt + k → own_O2 (fun n => f_enumerateMinWeight_17 n v2 v3 v4 v5 s) (fun n => f_enumerateMinWeight_17 n v2 v3 v4 v5 t) Eq := by
  intro k
  induction k with
  | zero =>
    intro v2 v3 v5 hv
    refine own_O2.step (f' := fun n => g_enumerateMinWeight_17 (f_enumerateMinWeight_17 n) n v2 v3 v4 v5 s) (g' := fun n => g_enumerateMinWeight_17 (f_enumerateMinWeight_17 n) n v2 v3 v4 v5 t) (fun _ => rfl) (fun _ => rfl) ?_
    unfold g_enumerateMinWeight_17
    have c : ¬ v5 < v4 := by rw [x32_lt]; omega
    exact own_O2.congr (fun _ => if_neg c) (fun _ => if_neg c) (own_O2.ret rfl)
  | succ k ih =>
    intro v2 v3 v5 hv
    refine own_O2.step (f' := fun n => g_enumerateMinWeight_17 (f_enumerateMinWeight_17 n) n v2 v3 v4 v5 s) (g' := fun n => g_enumerateMinWeight_17 (f_enumerateMinWeight_17 n) n v2 v3 v4 v5 t) (fun _ => rfl) (fun _ => rfl) ?_
    unfold g_enumerateMinWeight_17 f_enumerateMinWeight_63 f_trailingZeros f_popcount lt
    rw [h5]
    refine own_O2.ite (fun c => ?_) (fun _ => own_O2.ret rfl)
    rw [x32_lt] at c
    have e : (v5 + 1).toInt = v5.toInt + 1 := by
      have := Int32.toInt_lt v4
      have e1 : (1 : Int32).toInt = 1 := by decide
      have := Int32.le_toInt v5
      rw [x32_add (by omega) (by omega), e1]
    refine own_O2.bind (own_tz s t v5 32 0 rfl) fun a b eab => ?_
    subst eab
    refine own_O2.bind (own_pc s t 32 0 0 _ rfl) fun a' b' eab => ?_
    subst eab
    refine own_O2.ite (fun _ => ?_) (fun _ => ih _ _ _ (by omega))
    exact own_O2.ite (fun _ => ih _ _ _ (by omega)) (fun _ => ih _ _ _ (by omega))
theorem own_md {N M : Nat} {s t : St} (k : own_E N M s t) : own_O2 (fun n => f_minDistance n s) (fun n => f_minDistance n t) Eq := by
  unfold f_minDistance f_dimension f_enumerateMinWeight lt
  rw [k.2 0 (by decide), k.2 6 (by decide)]
  refine own_O2.congr (fun _ => Option.bind_some ..) (fun _ => Option.bind_some ..) ?_
  refine own_O2.ite (fun _ => own_O2.ret rfl) (fun _ => ?_)
  refine own_O2.ite (fun _ => own_O2.ret rfl) (fun _ => ?_)
  dsimp only
  refine own_O2.bind (own_enum (k.2 5 (by decide)) ((1 : Int32) <<< ((gI s 0 - gI s 6) &&& 31)) 2147483648 _ _ 1 ?_) fun a b e => ?_
  · have := Int32.toInt_lt ((1 : Int32) <<< ((gI s 0 - gI s 6) &&& 31))
    have e1 : (1 : Int32).toInt = 1 := by decide
    omega
  · subst e; exact own_O2.ret rfl
theorem own_tc {N M : Nat} {s t : St} (k : own_E N M s t) : own_O2 (fun n => f_trappingCapability n s) (fun n => f_trappingCapability n t) Eq := by
  unfold f_trappingCapability f_radius f_dimension
  rw [k.2 0 (by decide), k.2 6 (by decide), k.2 7 (by decide)]
  refine own_O2.congr (fun _ => Option.bind_some ..) (fun _ => Option.bind_some ..) ?_
  refine own_O2.congr (fun _ => Option.bind_some ..) (fun _ => Option.bind_some ..) ?_
  refine own_trap (k.2 0 (by decide)) _ 2147483648 _ ?_
  have := Int32.toInt_lt (gI s 7 / 2)
  omega

/-! the cosets' masks -/
def own_cmf (N v1 : Int32) : Nat → Int32 → Int32 → Int32
  | 0, v2, _ => v2
  | k + 1, v2, v3 => if (v3 * 2) % N = v1 then v2 ||| ((1 : Int32) <<< (v3 &&& 31)) else own_cmf N v1 k (v2 ||| ((1 : Int32) <<< (v3 &&& 31))) ((v3 * 2) % N)
def own_mask (N i : Nat) : Int32 := own_cmf (Int32.ofNat N) (Int32.ofNat i) 32 0 (Int32.ofNat i)
def own_tb (N : Nat) : List Nat :=
  if N = 3 then [1, 6, 6] else
  if N = 5 then [1, 30, 30, 30, 30] else
  if N = 7 then [1, 22, 22, 104, 22, 104, 104] else
  if N = 9 then [1, 438, 438, 72, 438, 438, 72, 438, 438] else
  if N = 15 then [1, 278, 278, 4680, 278, 1056, 4680, 26752, 278, 4680, 1056, 26752, 4680, 26752, 26752] else
  if N = 17 then [1, 107286, 107286, 23784, 107286, 23784, 23784, 23784, 107286, 107286, 23784, 23784, 23784, 107286, 23784, 107286, 107286] else
  if N = 21 then [1, 67862, 67862, 4168, 67862, 1713184, 4168, 16512, 67862, 295424, 1713184, 67862, 4168, 1713184, 16512, 295424, 67862, 1713184, 295424, 1713184, 1713184] else
  if N = 31 then [1, 65814, 65814, 16912456, 65814, 1312288, 16912456, 302530688, 65814, 1312288, 1312288, 73410560, 16912456, 73410560, 302530688, 1753251840, 65814, 16912456, 1312288, 302530688, 1312288, 73410560, 73410560, 1753251840, 16912456, 302530688, 73410560, 1753251840, 302530688, 1753251840, 1753251840] else
  []
theorem own_tbe : ∀ N ∈ [3, 5, 7, 9, 15, 17, 21, 31], ∀ i : Fin 31, i.val < N → own_mask N i.val = Int32.ofNat ((own_tb N).getD i.val 0) := by decide +kernel
theorem own_tbp : ∀ N ∈ [3, 5, 7, 9, 15, 17, 21, 31], ∀ i : Fin 31, i.val < N → ((own_tb N).getD i.val 0).testBit i.val = true ∧ (own_tb N).getD i.val 0 < 2 ^ N ∧ ∀ j : Fin 31, j.val < N → ((own_tb N).getD j.val 0).testBit i.val = true → (own_tb N).getD i.val 0 ||| (own_tb N).getD j.val 0 = (own_tb N).getD j.val 0 := by decide +kernel
/-- bit q of x -/
def own_bit (x : Int32) (q : Nat) : Bool := x.toBitVec.getLsbD q
theorem own_bit_or (x y : Int32) (q : Nat) : own_bit (x ||| y) q = (own_bit x q || own_bit y q) := by
  unfold own_bit; rw [Int32.toBitVec_or, BitVec.getLsbD_or]
theorem own_bit_of (v q : Nat) (hq : q < 32) : own_bit (Int32.ofNat v) q = v.testBit q := by
  unfold own_bit
  show (BitVec.ofNat 32 v).getLsbD q = _
  rw [BitVec.getLsbD_ofNat, decide_eq_true hq, Bool.true_and]
theorem own_bit_ext {x y : Int32} (h : ∀ q, q < 32 → own_bit x q = own_bit y q) : x = y := Int32.toBitVec_inj.mp (BitVec.eq_of_getLsbD_eq fun q hq => h q hq)
theorem own_bitk (x w : Int32) (k : Nat) (h : (XT.ushr x w).toBitVec = x.toBitVec >>> k) : (XT.ushr x w &&& 1 = 0) ↔ own_bit x k = false := by
  have e : (XT.ushr x w &&& 1).toBitVec = BitVec.setWidth 32 (BitVec.ofBool (own_bit x k)) := by
    rw [Int32.toBitVec_and, h]
    show x.toBitVec >>> k &&& 1#32 = _
    rw [BitVec.and_one_eq_setWidth_ofBool_getLsbD, BitVec.getLsbD_ushiftRight]; rfl
  rw [← Int32.toBitVec_inj, e]
  cases own_bit x k <;> decide
theorem own_bitN (x : Int32) : ∀ k, k < 32 → ((XT.ushr x (Int32.ofNat k) &&& 1 = 0) ↔ own_bit x k = false)
  | 0, _ => own_bitk x 0 0 rfl
  | 1, _ => own_bitk x 1 1 rfl
  | 2, _ => own_bitk x 2 2 rfl
  | 3, _ => own_bitk x 3 3 rfl
  | 4, _ => own_bitk x 4 4 rfl
  | 5, _ => own_bitk x 5 5 rfl
  | 6, _ => own_bitk x 6 6 rfl
  | 7, _ => own_bitk x 7 7 rfl
  | 8, _ => own_bitk x 8 8 rfl
  | 9, _ => own_bitk x 9 9 rfl
  | 10, _ => own_bitk x 10 10 rfl
  | 11, _ => own_bitk x 11 11 rfl
  | 12, _ => own_bitk x 12 12 rfl
  | 13, _ => own_bitk x 13 13 rfl
  | 14, _ => own_bitk x 14 14 rfl
  | 15, _ => own_bitk x 15 15 rfl
  | 16, _ => own_bitk x 16 16 rfl
  | 17, _ => own_bitk x 17 17 rfl
  | 18, _ => own_bitk x 18 18 rfl
  | 19, _ => own_bitk x 19 19 rfl
  | 20, _ => own_bitk x 20 20 rfl
  | 21, _ => own_bitk x 21 21 rfl
  | 22, _ => own_bitk x 22 22 rfl
  | 23, _ => own_bitk x 23 23 rfl
  | 24, _ => own_bitk x 24 24 rfl
  | 25, _ => own_bitk x 25 25 rfl
  | 26, _ => own_bitk x 26 26 rfl
  | 27, _ => own_bitk x 27 27 rfl
  | 28, _ => own_bitk x 28 28 rfl
  | 29, _ => own_bitk x 29 29 rfl
  | 30, _ => own_bitk x 30 30 rfl
  | 31, _ => own_bitk x 31 31 rfl
  | k + 32, h => by omega
theorem own_mk_self {N i : Nat} (hN : N ∈ [3, 5, 7, 9, 15, 17, 21, 31]) (hi : i < N) (h31 : N ≤ 31) : own_bit (own_mask N i) i = true := by
  rw [own_tbe N hN ⟨i, by omega⟩ hi, own_bit_of _ _ (by omega)]
  exact (own_tbp N hN ⟨i, by omega⟩ hi).1
theorem own_mk_lt {N i : Nat} (hN : N ∈ [3, 5, 7, 9, 15, 17, 21, 31]) (hi : i < N) (h31 : N ≤ 31) (q : Nat) (hq : q < 32) (h : own_bit (own_mask N i) q = true) : q < N := by
  rw [own_tbe N hN ⟨i, by omega⟩ hi, own_bit_of _ _ hq] at h
  apply Classical.byContradiction
  intro c
  have := Nat.testBit_lt_two_pow (Nat.lt_of_lt_of_le (own_tbp N hN ⟨i, by omega⟩ hi).2.1 (Nat.pow_le_pow_right (by decide) (show N ≤ q by omega)))
  dsimp only at this
  rw [this] at h
  cases h
theorem own_mk_cl {N i j : Nat} (hN : N ∈ [3, 5, 7, 9, 15, 17, 21, 31]) (hi : i < N) (hj : j < N) (h31 : N ≤ 31) (h : own_bit (own_mask N j) i = true) (q : Nat) (hq : q < 32) (h2 : own_bit (own_mask N i) q = true) : own_bit (own_mask N j) q = true := by
  rw [own_tbe N hN ⟨j, by omega⟩ hj, own_bit_of _ _ (by omega)] at h
  have := (own_tbp N hN ⟨i, by omega⟩ hi).2.2 ⟨j, by omega⟩ hj h
  rw [own_tbe N hN ⟨i, by omega⟩ hi, own_bit_of _ _ hq] at h2
  rw [own_tbe N hN ⟨j, by omega⟩ hj, own_bit_of _ _ hq]
  dsimp only at *
  rw [← this, Nat.testBit_or, h2, Bool.true_or]
/-! what the runs write -/
theorem own_bex {α β : Type} {o : Option α} {g : α → Option β} {b : β} (h : o.bind g = some b) : ∃ c, o = some c ∧ g c = some b := by
  cases o with
  | none => cases h
  | some c => exact ⟨c, rfl, h⟩
theorem own_wrE {s t : St} {f : Nat} {i x : Int32} (h : wrA s f i x = some t) : ∃ ys, t = sA s f ys := by
  obtain ⟨ys, -, e⟩ := wrA_e h
  exact ⟨ys, e⟩
/-- t is s but for the array f -/
theorem own_wrF {s t : St} {f : Nat} {i x : Int32} (h : wrA s f i x = some t) : (∀ j, gI t j = gI s j) ∧ (∀ j, j ≠ f → gA t j = gA s j) := by
  obtain ⟨ys, rfl⟩ := own_wrE h
  exact ⟨fun _ => rfl, fun j hj => by rw [gA_sA, if_neg hj]⟩
theorem own_wrS {s t : St} {f k : Nat} {x : Int32} (hk : k < 3000) (h : wrA s f (Int32.ofNat k) x = some t) : gA t f = (gA s f).set k x ∧ k < (gA s f).length := by
  obtain ⟨ys, h1, rfl⟩ := wrA_e h
  unfold wr at h1
  rw [if_neg (ofN_nn (by omega)), clamp_nat, ofN_int (by omega)] at h1
  by_cases c : k < (gA s f).length
  · have c' : ((k : Int).toNat) < (gA s f).length := c
    rw [if_pos c'] at h1
    rw [← Option.some.inj h1]
    exact ⟨by rw [gA_sA, if_pos rfl]; rfl, c⟩
  · have c' : ¬ ((k : Int).toNat) < (gA s f).length := c
    rw [if_neg c'] at h1; cases h1
theorem own_cmP {s : St} {N : Nat} (h0 : gI s 0 = Int32.ofNat N) (v1 : Int32) : ∀ (n k i : Nat) (v2 v3 c : Int32), i + k = 32 → f_cosetMaskOf_7 n v1 v2 v3 (Int32.ofNat i) s = some c → c = own_cmf (Int32.ofNat N) v1 k v2 v3
  | 0, k, i, v2, v3, c, hi, h => by cases h
  | n + 1, 0, i, v2, v3, c, hi, h => by
    have h : g_cosetMaskOf_7 (f_cosetMaskOf_7 n) n v1 v2 v3 (Int32.ofNat i) s = some c := h
    obtain rfl : i = 32 := by omega
    unfold g_cosetMaskOf_7 f_cosetMaskOf_43 at h
    rw [if_neg (by decide)] at h
    exact (Option.some.inj h).symm
  | n + 1, k + 1, i, v2, v3, c, hi, h => by
    have h : g_cosetMaskOf_7 (f_cosetMaskOf_7 n) n v1 v2 v3 (Int32.ofNat i) s = some c := h
    unfold g_cosetMaskOf_7 f_cosetMaskOf_43 lt at h
    rw [h0, if_pos ((ofN_ltL (m := 32) (by omega) (by decide)).mpr (by omega))] at h
    dsimp only at h
    by_cases z : Int32.ofNat N = 0
    · rw [if_pos z] at h; cases h
    rw [if_neg z] at h
    unfold own_cmf
    by_cases q : v3 * 2 % Int32.ofNat N = v1
    · rw [if_pos q] at h ⊢
      exact (Option.some.inj h).symm
    · rw [if_neg q] at h ⊢
      rw [ofN_succ] at h
      exact own_cmP h0 v1 n k (i + 1) _ _ c (by omega) h
theorem own_c30 {N : Nat} (hN : N ≤ 31) : ∀ (n k i : Nat) (s t : St), i + k = N → gI s 0 = Int32.ofNat N → (∀ q, q < i → (gA s 2)[q]? = some (own_mask N q)) → f_buildCosets_30 n (Int32.ofNat i) s = some t → gI t 0 = Int32.ofNat N ∧ ∀ q, q < N → (gA t 2)[q]? = some (own_mask N q)
  | 0, k, i, s, t, hi, h0, hq, h => by cases h
  | n + 1, 0, i, s, t, hi, h0, hq, h => by
    have h : g_buildCosets_30 (f_buildCosets_30 n) n (Int32.ofNat i) s = some t := h
    obtain rfl : i = N := by omega
    unfold g_buildCosets_30 at h
    rw [h0, if_neg (fun q => by have := (own_ltN (by omega) (by omega)).mp q; omega)] at h
    rw [← Option.some.inj h]
    exact ⟨h0, hq⟩
  | n + 1, k + 1, i, s, t, hi, h0, hq, h => by
    have h : g_buildCosets_30 (f_buildCosets_30 n) n (Int32.ofNat i) s = some t := h
    unfold g_buildCosets_30 lt at h
    rw [h0, if_pos ((own_ltN (by omega) (by omega)).mpr (by omega))] at h
    obtain ⟨c, e1, h⟩ := own_bex h
    obtain ⟨s3, e2, h⟩ := own_bex h
    obtain ⟨c4, e3, h⟩ := own_bex h
    obtain ⟨s5, e4, h⟩ := own_bex h
    have ec : c = own_mask N i := own_cmP h0 _ n 32 0 0 (Int32.ofNat i) c rfl e1
    obtain ⟨g2, l2⟩ := own_wrS (by omega) e2
    have f3 := own_wrF e2
    have f5 := own_wrF e4
    rw [ofN_succ] at h
    refine own_c30 hN n k (i + 1) s5 t (by omega) ((f5.1 0).trans ((f3.1 0).trans h0)) (fun q hq2 => ?_) h
    rw [f5.2 2 (by decide), g2]
    by_cases z : i = q
    · subst z; rw [get_set_self _ l2, ec]
    · rw [get_set_ne _ z]; exact hq q (by omega)
theorem own_c2 {N : Nat} (hN : N ≤ 31) : ∀ (n : Nat) (v : Int32) (s t : St), gI s 0 = Int32.ofNat N → f_buildCosets_2 n v s = some t → gI t 0 = Int32.ofNat N ∧ ∀ q, q < N → (gA t 2)[q]? = some (own_mask N q)
  | 0, v, s, t, h0, h => by cases h
  | n + 1, v, s, t, h0, h => by
    have h : g_buildCosets_2 (f_buildCosets_2 n) n v s = some t := h
    unfold g_buildCosets_2 lt at h
    by_cases c : v < 32
    · rw [if_pos c] at h
      obtain ⟨s2, e2, h⟩ := own_bex h
      obtain ⟨s3, e3, h⟩ := own_bex h
      exact own_c2 hN n _ s3 t (((own_wrF e3).1 0).trans (((own_wrF e2).1 0).trans h0)) h
    · rw [if_neg c] at h
      exact own_c30 hN n N 0 s t (by omega) h0 (fun q hq => by omega) h
/-- gI 0 and gA 2 stay -/
def own_St2 (s t : St) : Prop := gI t 0 = gI s 0 ∧ gA t 2 = gA s 2
theorem own_St2.trans {s t u : St} (h : own_St2 s t) (k : own_St2 t u) : own_St2 s u := ⟨k.1.trans h.1, k.2.trans h.2⟩
theorem own_St2.wr {s t : St} {f : Nat} {i x : Int32} (h : wrA s f i x = some t) (hf : f ≠ 2) : own_St2 s t := ⟨(own_wrF h).1 0, (own_wrF h).2 2 (Ne.symm hf)⟩
theorem own_sml (v1 : Int32) : ∀ (n : Nat) (v : Int32) (s t : St), f_multiplyByLinear_15 n v1 v s = some t → own_St2 s t
  | 0, v, s, t, h => by cases h
  | n + 1, v, s, t, h => by
    have h : g_multiplyByLinear_15 (f_multiplyByLinear_15 n) n v1 v s = some t := h
    unfold g_multiplyByLinear_15 lt at h
    by_cases c : v < 1
    · rw [if_pos c] at h
      obtain ⟨x, -, h⟩ := own_bex h
      obtain ⟨y, -, h⟩ := own_bex h
      obtain ⟨s4, e, h⟩ := own_bex h
      rw [← Option.some.inj h]
      exact own_St2.wr e (by decide)
    · rw [if_neg c] at h
      obtain ⟨x, -, h⟩ := own_bex h
      obtain ⟨y, -, h⟩ := own_bex h
      obtain ⟨z, -, h⟩ := own_bex h
      obtain ⟨s8, e, h⟩ := own_bex h
      exact (own_St2.wr e (by decide)).trans (own_sml v1 n _ s8 t h)
theorem own_smb {n : Nat} {v1 v2 : Int32} {s t : St} (h : f_multiplyByLinear n v1 v2 s = some t) : own_St2 s t := by
  unfold f_multiplyByLinear f_multiplyByLinear_10 lt at h
  by_cases c : v2 < 0
  · rw [if_pos c] at h; rw [← Option.some.inj h]; exact ⟨rfl, rfl⟩
  rw [if_neg c] at h
  by_cases d : 8 < v2
  · rw [if_pos d] at h; rw [← Option.some.inj h]; exact ⟨rfl, rfl⟩
  rw [if_neg d] at h
  exact own_sml v1 n _ s t h
theorem own_s82 (v2 : Int32) : ∀ (n : Nat) (v3 v4 : Int32) (s : St) (r : Int32 × St), f_minimalPolyOfCoset_82 n v2 v3 v4 s = some r → own_St2 s r.2
  | 0, v3, v4, s, r, h => by cases h
  | n + 1, v3, v4, s, r, h => by
    have h : g_minimalPolyOfCoset_82 (f_minimalPolyOfCoset_82 n) n v2 v3 v4 s = some r := h
    unfold g_minimalPolyOfCoset_82 f_minimalPolyOfCoset_118 f_minimalPolyOfCoset_112 lt at h
    by_cases c : v2 < v4
    · rw [if_pos c] at h; rw [← Option.some.inj h]; exact ⟨rfl, rfl⟩
    rw [if_neg c] at h
    by_cases d : v4 < 10
    · rw [if_pos d] at h
      obtain ⟨x, -, h⟩ := own_bex h
      by_cases z : x = 0
      · rw [if_pos z] at h; exact own_s82 v2 n _ _ s r h
      · rw [if_neg z] at h; exact own_s82 v2 n _ _ s r h
    · rw [if_neg d] at h; rw [← Option.some.inj h]; exact ⟨rfl, rfl⟩
theorem own_s32 (v1 : Int32) : ∀ (n : Nat) (v2 v3 : Int32) (s : St) (r : Int32 × St), f_minimalPolyOfCoset_32 n v1 v2 v3 s = some r → own_St2 s r.2
  | 0, v2, v3, s, r, h => by cases h
  | n + 1, v2, v3, s, r, h => by
    have h : g_minimalPolyOfCoset_32 (f_minimalPolyOfCoset_32 n) n v1 v2 v3 s = some r := h
    unfold g_minimalPolyOfCoset_32 f_minimalPolyOfCoset_71 lt at h
    by_cases c : v3 < gI s 0
    · rw [if_pos c] at h
      by_cases z : (XT.ushr v1 v3) &&& 1 = 0
      · rw [if_pos z] at h; exact own_s32 v1 n _ _ s r h
      rw [if_neg z] at h
      by_cases d : v2 < 9
      · rw [if_pos d] at h
        obtain ⟨x, -, h⟩ := own_bex h
        obtain ⟨u, e, h⟩ := own_bex h
        exact (own_smb e).trans (own_s32 v1 n _ _ u r h)
      · rw [if_neg d] at h; exact own_s32 v1 n _ _ s r h
    · rw [if_neg c] at h
      exact own_s82 v2 n _ _ s r h
theorem own_s2 (v1 : Int32) : ∀ (n : Nat) (v2 : Int32) (s : St) (r : Int32 × St), f_minimalPolyOfCoset_2 n v1 v2 s = some r → own_St2 s r.2
  | 0, v2, s, r, h => by cases h
  | n + 1, v2, s, r, h => by
    have h : g_minimalPolyOfCoset_2 (f_minimalPolyOfCoset_2 n) n v1 v2 s = some r := h
    unfold g_minimalPolyOfCoset_2 lt at h
    by_cases c : v2 < 10
    · rw [if_pos c] at h
      obtain ⟨u, e, h⟩ := own_bex h
      exact (own_St2.wr e (by decide)).trans (own_s2 v1 n _ u r h)
    · rw [if_neg c] at h
      obtain ⟨u, e, h⟩ := own_bex h
      exact (own_St2.wr e (by decide)).trans (own_s32 v1 n _ _ u r h)
theorem own_s23 : ∀ (n : Nat) (v : Int32) (s t : St), f_buildMinimalPolys_23 n v s = some t → own_St2 s t
  | 0, v, s, t, h => by cases h
  | n + 1, v, s, t, h => by
    have h : g_buildMinimalPolys_23 (f_buildMinimalPolys_23 n) n v s = some t := h
    unfold g_buildMinimalPolys_23 f_buildMinimalPolys_83 lt at h
    by_cases c : v < gI s 0
    · rw [if_pos c] at h
      obtain ⟨x, -, h⟩ := own_bex h
      by_cases z : x = v
      · rw [if_pos z] at h
        obtain ⟨y, -, h⟩ := own_bex h
        obtain ⟨r, e, h⟩ := own_bex h
        obtain ⟨u, e2, h⟩ := own_bex h
        exact (own_s2 _ n _ s r e).trans ((own_St2.wr e2 (by decide)).trans (own_s23 n _ u t h))
      rw [if_neg z] at h
      by_cases d : x < 0
      · rw [if_pos d] at h; exact own_s23 n _ s t h
      rw [if_neg d] at h
      by_cases f : x < v
      · rw [if_pos f] at h
        obtain ⟨y, -, h⟩ := own_bex h
        obtain ⟨u, e2, h⟩ := own_bex h
        exact (own_St2.wr e2 (by decide)).trans (own_s23 n _ u t h)
      · rw [if_neg f] at h; exact own_s23 n _ s t h
    · rw [if_neg c] at h; rw [← Option.some.inj h]; exact ⟨rfl, rfl⟩
theorem own_sb2 : ∀ (n : Nat) (v : Int32) (s t : St), f_buildMinimalPolys_2 n v s = some t → own_St2 s t
  | 0, v, s, t, h => by cases h
  | n + 1, v, s, t, h => by
    have h : g_buildMinimalPolys_2 (f_buildMinimalPolys_2 n) n v s = some t := h
    unfold g_buildMinimalPolys_2 lt at h
    by_cases c : v < 32
    · rw [if_pos c] at h
      obtain ⟨u, e, h⟩ := own_bex h
      exact (own_St2.wr e (by decide)).trans (own_sb2 n _ u t h)
    · rw [if_neg c] at h
      exact own_s23 n _ s t h
theorem own_f50 (v1 v2 : Int32) : ∀ (n : Nat) (v3 v4 : Int32) (s t : St), f_buildField_50 n v1 v2 v3 v4 s = some t → gI t 0 = gI s 0
  | 0, v3, v4, s, t, h => by cases h
  | n + 1, v3, v4, s, t, h => by
    have h : g_buildField_50 (f_buildField_50 n) n v1 v2 v3 v4 s = some t := h
    unfold g_buildField_50 f_buildField_107 f_buildField_101 lt at h
    by_cases c : v4 < gI s 2
    · rw [if_pos c] at h
      by_cases d : v4 < 256
      · rw [if_pos d] at h
        obtain ⟨u, e, h⟩ := own_bex h
        obtain ⟨w, e2, h⟩ := own_bex h
        have g := ((own_wrF e2).1 0).trans ((own_wrF e).1 0)
        dsimp only at h
        split at h
        · exact (own_f50 v1 v2 n _ _ w t h).trans g
        · exact (own_f50 v1 v2 n _ _ w t h).trans g
      · rw [if_neg d] at h; rw [← Option.some.inj h]
    · rw [if_neg c] at h; rw [← Option.some.inj h]
theorem own_f18 (v1 v2 : Int32) : ∀ (n : Nat) (v3 : Int32) (s t : St), f_buildField_18 n v1 v2 v3 s = some t → gI t 0 = gI s 0
  | 0, v3, s, t, h => by cases h
  | n + 1, v3, s, t, h => by
    have h : g_buildField_18 (f_buildField_18 n) n v1 v2 v3 s = some t := h
    unfold g_buildField_18 lt at h
    by_cases c : v3 < 256
    · rw [if_pos c] at h
      obtain ⟨u, e, h⟩ := own_bex h
      obtain ⟨w, e2, h⟩ := own_bex h
      exact (own_f18 v1 v2 n _ w t h).trans (((own_wrF e2).1 0).trans ((own_wrF e).1 0))
    · rw [if_neg c] at h
      exact own_f50 v1 v2 n _ _ s t h
/-- refresh: the weight isn't negative -/
theorem own_pcP (s : St) : ∀ (n k i : Nat) (v2 v3 c : Int32), i + k = 32 → 0 ≤ v2.toInt → v2.toInt ≤ i → f_popcount_7 n v2 v3 (Int32.ofNat i) s = some c → 0 ≤ c.toInt
  | 0, k, i, v2, v3, c, hi, h0, h1, h => by cases h
  | n + 1, 0, i, v2, v3, c, hi, h0, h1, h => by
    have h : g_popcount_7 (f_popcount_7 n) n v2 v3 (Int32.ofNat i) s = some c := h
    obtain rfl : i = 32 := by omega
    unfold g_popcount_7 f_popcount_33 at h
    rw [if_neg (by decide)] at h
    rw [← Option.some.inj h]; exact h0
  | n + 1, k + 1, i, v2, v3, c, hi, h0, h1, h => by
    have h : g_popcount_7 (f_popcount_7 n) n v2 v3 (Int32.ofNat i) s = some c := h
    unfold g_popcount_7 f_popcount_33 lt at h
    rw [if_pos ((ofN_ltL (m := 32) (by omega) (by decide)).mpr (by omega))] at h
    by_cases z : v3 = 0
    · rw [if_pos z] at h
      rw [← Option.some.inj h]; exact h0
    · rw [if_neg z] at h
      dsimp only at h
      rw [ofN_succ] at h
      have e : (v2 + 1).toInt = v2.toInt + 1 := by
        have e1 : (1 : Int32).toInt = 1 := by decide
        rw [x32_add (by omega) (by omega), e1]
      exact own_pcP s n k (i + 1) _ _ c (by omega) (by omega) (by omega) h
theorem own_refP {n : Nat} {s t : St} (h : f_refresh n s = some t) : own_St2 s t ∧ 0 ≤ (gI t 6).toInt := by
  unfold f_refresh lt at h
  obtain ⟨c1, e1, h⟩ := own_bex h
  obtain ⟨c3, e3, h⟩ := own_bex h
  obtain ⟨c5, e5, h⟩ := own_bex h
  rw [← Option.some.inj h]
  exact ⟨⟨rfl, rfl⟩, own_pcP s n 32 0 0 _ c1 rfl (by decide) (by decide) e1⟩
theorem own_confP {n N : Nat} (hN : N ≤ 31) {s : St} {r : Int32 × St} (h : f_configure n (Int32.ofNat N) s = some r) (hr : r.1 = 1) : ∀ q, q < N → (gA r.2 2)[q]? = some (own_mask N q) := by
  unfold f_configure lt at h
  obtain ⟨c, e, h⟩ := own_bex h
  by_cases z : c = 0
  · rw [if_pos z] at h
    rw [← Option.some.inj h] at hr
    exact absurd hr (show ¬ (0 : Int32) = 1 by decide)
  rw [if_neg z] at h
  obtain ⟨c6, e6, h⟩ := own_bex h
  obtain ⟨c8, e8, h⟩ := own_bex h
  obtain ⟨c9, e9, h⟩ := own_bex h
  obtain ⟨c10, e10, h⟩ := own_bex h
  obtain ⟨c12, e12, h⟩ := own_bex h
  unfold f_buildField lt at e8
  obtain ⟨p, -, e8⟩ := own_bex e8
  have g8 := own_f18 _ _ n _ _ c8 e8
  obtain ⟨g9, m9⟩ := own_c2 hN n 0 c8 c9 g8 e9
  have s10 := own_sb2 n 0 c9 c10 e10
  have s12 := (own_refP e12).1
  rw [← Option.some.inj h]
  intro q hq
  show (gA c12 2)[q]? = _
  rw [s12.2]
  show (gA c10 2)[q]? = _
  rw [s10.2]
  exact m9 q hq

/-! the designed zeros -/
def own_z (s : St) (N b : Nat) : Nat → Int32
  | 0 => 0
  | j + 1 => own_z s N b j ||| (gA s 2).getD ((b + j) % N) 0
theorem own_ix (N b j : Nat) (h1 : 1 ≤ N) (h2 : N ≤ 31) (hb : b < N) (hj : j ≤ 31) : (Int32.ofNat b + Int32.ofNat j) % Int32.ofNat N = Int32.ofNat ((b + j) % N) := by
  have e : Int32.ofNat b + Int32.ofNat j = Int32.ofNat (b + j) := (Int32.ofNat_add b j).symm
  have hm : (b + j) % N < N := Nat.mod_lt _ (by omega)
  rw [e]
  apply ofN_of
  rw [Int32.toInt_mod, ofN_int (by omega), ofN_int (by omega), Int.tmod_eq_emod_of_nonneg (by omega)]
  omega
theorem own_m2 (d j : Nat) (hd : 1 ≤ d) (hd2 : d ≤ 31) (hj : j ≤ 40) : Int32.ofNat d - 2 < Int32.ofNat j ↔ d - 1 ≤ j := by
  have e1 : (Int32.ofNat d).toInt = d := ofN_int (by omega)
  have e2 : (2 : Int32).toInt = 2 := by decide
  rw [x32_lt, x32_sub (by omega) (by omega), e1, e2, ofN_int (by omega)]
  omega
theorem own_rdm {s : St} (hl : own_Ln s) (i : Nat) (hi : i < 32) : rd (gA s 2) (Int32.ofNat i) = some ((gA s 2).getD i 0) := by
  have l2 : (gA s 2).length = 32 := hl 2 (by decide)
  have hx : (gA s 2)[i]? = some ((gA s 2)[i]'(by omega)) := List.getElem?_eq_getElem _
  rw [rd_at (by omega) hx, List.getD_eq_getElem?_getD, hx]; rfl
theorem own_dz {N M : Nat} (h1 : 3 ≤ N) (h2 : N ≤ 31) {s s' : St} (hq : own_Q own_T N M s s) (b d : Nat) (hb : b < N) (hd : 1 ≤ d) (hd2 : d ≤ N) (e : Ev (fun n => f_refresh n (sI s 4 (own_z s N b (d - 1)))) s') : ∀ (k j : Nat), j + k = d - 1 → Ev (fun n => f_designBCH_30 n (Int32.ofNat b) (Int32.ofNat d) (own_z s N b j) (Int32.ofNat j) s) (1, s') := by
  intro k
  induction k with
  | zero =>
    intro j hj
    obtain rfl : j = d - 1 := by omega
    refine Ev.step (g := fun n => (f_refresh n (sI s 4 (own_z s N b (d - 1)))).bind fun c3 => some (1, c3)) (fun n => ?_) (Ev.bind e (Ev.const rfl))
    show g_designBCH_30 (f_designBCH_30 n) n _ _ _ _ _ = _
    unfold g_designBCH_30 lt
    rw [if_pos ((own_m2 d (d - 1) hd (by omega) (by omega)).mpr (Nat.le_refl _))]
  | succ k ih =>
    intro j hj
    refine Ev.step (fun n => ?_) (ih (j + 1) (by omega))
    show g_designBCH_30 (f_designBCH_30 n) n _ _ _ _ _ = _
    unfold g_designBCH_30 lt
    rw [if_neg (fun q => by have := (own_m2 d j hd (by omega) (by omega)).mp q; omega), hq.i0.1, if_neg (own_nz (by omega) (by omega))]
    dsimp only
    have hm : (b + j) % N < N := Nat.mod_lt _ (by omega)
    rw [own_ix N b j (by omega) h2 hb (by omega), own_rdm hq.1 _ (by omega), Option.bind_some, ofN_succ]
    rfl

/-! more fuel does no harm (printed by wip/gen/mono.py) -/
def own_le {α : Type} (x y : Option α) : Prop := ∀ r, x = some r → y = some r
theorem own_le.refl {α : Type} (x : Option α) : own_le x x := fun _ h => h
theorem own_le.none {α : Type} (y : Option α) : own_le Option.none y := fun _ h => by cases h
theorem own_le.ite {α : Type} {c : Prop} [Decidable c] {a b a' b' : Option α} (h : own_le a a') (k : own_le b b') : own_le (if c then a else b) (if c then a' else b') := by
  by_cases q : c
  · rw [if_pos q, if_pos q]; exact h
  · rw [if_neg q, if_neg q]; exact k
theorem own_le.bind {α β : Type} {x x' : Option α} {g g' : α → Option β} (h : own_le x x') (k : ∀ c, own_le (g c) (g' c)) : own_le (x.bind g) (x'.bind g') := fun r e => by
  cases hx : x with
  | none => rw [hx] at e; cases e
  | some c => rw [hx] at e; rw [h c hx]; exact k c r e
theorem own_le.let {α β : Type} {x : β} {F F' : β → Option α} (h : own_le (F x) (F' x)) : own_le (lt x F) (lt x F') := h
theorem own_le.ev {α : Type} {f : Nat → Option α} (h : ∀ n, own_le (f n) (f (n + 1))) {N : Nat} {r : α} (e : f N = some r) : Ev f r := ⟨N, fun n hn => by
  obtain ⟨d, rfl⟩ : ∃ d, n = N + d := ⟨n - N, by omega⟩
  clear hn
  induction d with
  | zero => exact e
  | succ d ih => exact h _ r ih⟩
theorem own_m_buildField_107 (n : Nat) (s : St) : own_le (f_buildField_107 n s) (f_buildField_107 (n + 1) s) := by
  unfold f_buildField_107
  repeat' first | with_reducible exact own_le.refl _ | refine own_le.ite ?_ ?_ | refine own_le.bind ?_ fun _ => ?_ | refine own_le.let ?_
theorem own_m_buildField_50 : ∀ (n : Nat) (v0_ : Int32) (v1_ : Int32) (v2_ : Int32) (v3_ : Int32) (v4_ : St), own_le (f_buildField_50 n v0_ v1_ v2_ v3_ v4_) (f_buildField_50 (n + 1) v0_ v1_ v2_ v3_ v4_)
  | 0, _, _, _, _, _ => own_le.none _
  | n + 1, v0_, v1_, v2_, v3_, v4_ => by
    show own_le (g_buildField_50 (f_buildField_50 n) n v0_ v1_ v2_ v3_ v4_) (g_buildField_50 (f_buildField_50 (n + 1)) (n + 1) v0_ v1_ v2_ v3_ v4_)
    unfold g_buildField_50
    try unfold f_buildField_101
    repeat' first | with_reducible exact own_le.refl _ | with_reducible exact own_m_buildField_50 n _ _ _ _ _ | with_reducible exact own_m_buildField_107 n _ | refine own_le.ite ?_ ?_ | refine own_le.bind ?_ fun _ => ?_ | refine own_le.let ?_
theorem own_m_buildField_18 : ∀ (n : Nat) (v0_ : Int32) (v1_ : Int32) (v2_ : Int32) (v3_ : St), own_le (f_buildField_18 n v0_ v1_ v2_ v3_) (f_buildField_18 (n + 1) v0_ v1_ v2_ v3_)
  | 0, _, _, _, _ => own_le.none _
  | n + 1, v0_, v1_, v2_, v3_ => by
    show own_le (g_buildField_18 (f_buildField_18 n) n v0_ v1_ v2_ v3_) (g_buildField_18 (f_buildField_18 (n + 1)) (n + 1) v0_ v1_ v2_ v3_)
    unfold g_buildField_18
    repeat' first | with_reducible exact own_le.refl _ | with_reducible exact own_m_buildField_18 n _ _ _ _ | with_reducible exact own_m_buildField_50 n _ _ _ _ _ | refine own_le.ite ?_ ?_ | refine own_le.bind ?_ fun _ => ?_ | refine own_le.let ?_
theorem own_m_buildField (n : Nat) (s : St) : own_le (f_buildField n s) (f_buildField (n + 1) s) := by
  unfold f_buildField
  repeat' first | with_reducible exact own_le.refl _ | with_reducible exact own_m_buildField_18 n _ _ _ _ | refine own_le.ite ?_ ?_ | refine own_le.bind ?_ fun _ => ?_ | refine own_le.let ?_
theorem own_m_cosetMaskOf_43 (n : Nat) (v2 : Int32) (s : St) : own_le (f_cosetMaskOf_43 n v2 s) (f_cosetMaskOf_43 (n + 1) v2 s) := by
  unfold f_cosetMaskOf_43
  repeat' first | with_reducible exact own_le.refl _ | refine own_le.ite ?_ ?_ | refine own_le.bind ?_ fun _ => ?_ | refine own_le.let ?_
theorem own_m_cosetMaskOf_7 : ∀ (n : Nat) (v0_ : Int32) (v1_ : Int32) (v2_ : Int32) (v3_ : Int32) (v4_ : St), own_le (f_cosetMaskOf_7 n v0_ v1_ v2_ v3_ v4_) (f_cosetMaskOf_7 (n + 1) v0_ v1_ v2_ v3_ v4_)
  | 0, _, _, _, _, _ => own_le.none _
  | n + 1, v0_, v1_, v2_, v3_, v4_ => by
    show own_le (g_cosetMaskOf_7 (f_cosetMaskOf_7 n) n v0_ v1_ v2_ v3_ v4_) (g_cosetMaskOf_7 (f_cosetMaskOf_7 (n + 1)) (n + 1) v0_ v1_ v2_ v3_ v4_)
    unfold g_cosetMaskOf_7
    repeat' first | with_reducible exact own_le.refl _ | with_reducible exact own_m_cosetMaskOf_7 n _ _ _ _ _ | with_reducible exact own_m_cosetMaskOf_43 n _ _ | refine own_le.ite ?_ ?_ | refine own_le.bind ?_ fun _ => ?_ | refine own_le.let ?_
theorem own_m_cosetMaskOf (n : Nat) (p1 : Int32) (s : St) : own_le (f_cosetMaskOf n p1 s) (f_cosetMaskOf (n + 1) p1 s) := by
  unfold f_cosetMaskOf
  repeat' first | with_reducible exact own_le.refl _ | with_reducible exact own_m_cosetMaskOf_7 n _ _ _ _ _ | refine own_le.ite ?_ ?_ | refine own_le.bind ?_ fun _ => ?_ | refine own_le.let ?_
theorem own_m_lowestBit_2 : ∀ (n : Nat) (v0_ : Int32) (v1_ : Int32) (v2_ : St), own_le (f_lowestBit_2 n v0_ v1_ v2_) (f_lowestBit_2 (n + 1) v0_ v1_ v2_)
  | 0, _, _, _ => own_le.none _
  | n + 1, v0_, v1_, v2_ => by
    show own_le (g_lowestBit_2 (f_lowestBit_2 n) n v0_ v1_ v2_) (g_lowestBit_2 (f_lowestBit_2 (n + 1)) (n + 1) v0_ v1_ v2_)
    unfold g_lowestBit_2
    repeat' first | with_reducible exact own_le.refl _ | with_reducible exact own_m_lowestBit_2 n _ _ _ | refine own_le.ite ?_ ?_ | refine own_le.bind ?_ fun _ => ?_ | refine own_le.let ?_
theorem own_m_lowestBit (n : Nat) (p1 : Int32) (s : St) : own_le (f_lowestBit n p1 s) (f_lowestBit (n + 1) p1 s) := by
  unfold f_lowestBit
  repeat' first | with_reducible exact own_le.refl _ | with_reducible exact own_m_lowestBit_2 n _ _ _ | refine own_le.ite ?_ ?_ | refine own_le.bind ?_ fun _ => ?_ | refine own_le.let ?_
theorem own_m_buildCosets_30 : ∀ (n : Nat) (v0_ : Int32) (v1_ : St), own_le (f_buildCosets_30 n v0_ v1_) (f_buildCosets_30 (n + 1) v0_ v1_)
  | 0, _, _ => own_le.none _
  | n + 1, v0_, v1_ => by
    show own_le (g_buildCosets_30 (f_buildCosets_30 n) n v0_ v1_) (g_buildCosets_30 (f_buildCosets_30 (n + 1)) (n + 1) v0_ v1_)
    unfold g_buildCosets_30
    repeat' first | with_reducible exact own_le.refl _ | with_reducible exact own_m_buildCosets_30 n _ _ | with_reducible exact own_m_cosetMaskOf n _ _ | with_reducible exact own_m_lowestBit n _ _ | refine own_le.ite ?_ ?_ | refine own_le.bind ?_ fun _ => ?_ | refine own_le.let ?_
theorem own_m_buildCosets_2 : ∀ (n : Nat) (v0_ : Int32) (v1_ : St), own_le (f_buildCosets_2 n v0_ v1_) (f_buildCosets_2 (n + 1) v0_ v1_)
  | 0, _, _ => own_le.none _
  | n + 1, v0_, v1_ => by
    show own_le (g_buildCosets_2 (f_buildCosets_2 n) n v0_ v1_) (g_buildCosets_2 (f_buildCosets_2 (n + 1)) (n + 1) v0_ v1_)
    unfold g_buildCosets_2
    repeat' first | with_reducible exact own_le.refl _ | with_reducible exact own_m_buildCosets_2 n _ _ | with_reducible exact own_m_buildCosets_30 n _ _ | refine own_le.ite ?_ ?_ | refine own_le.bind ?_ fun _ => ?_ | refine own_le.let ?_
theorem own_m_buildCosets (n : Nat) (s : St) : own_le (f_buildCosets n s) (f_buildCosets (n + 1) s) := by
  unfold f_buildCosets
  repeat' first | with_reducible exact own_le.refl _ | with_reducible exact own_m_buildCosets_2 n _ _ | refine own_le.ite ?_ ?_ | refine own_le.bind ?_ fun _ => ?_ | refine own_le.let ?_
theorem own_m_multiplyByLinear_10 (n : Nat) (s : St) : own_le (f_multiplyByLinear_10 n s) (f_multiplyByLinear_10 (n + 1) s) := by
  unfold f_multiplyByLinear_10
  repeat' first | with_reducible exact own_le.refl _ | refine own_le.ite ?_ ?_ | refine own_le.bind ?_ fun _ => ?_ | refine own_le.let ?_
theorem own_m_multiplyByLinear_15 : ∀ (n : Nat) (v0_ : Int32) (v1_ : Int32) (v2_ : St), own_le (f_multiplyByLinear_15 n v0_ v1_ v2_) (f_multiplyByLinear_15 (n + 1) v0_ v1_ v2_)
  | 0, _, _, _ => own_le.none _
  | n + 1, v0_, v1_, v2_ => by
    show own_le (g_multiplyByLinear_15 (f_multiplyByLinear_15 n) n v0_ v1_ v2_) (g_multiplyByLinear_15 (f_multiplyByLinear_15 (n + 1)) (n + 1) v0_ v1_ v2_)
    unfold g_multiplyByLinear_15
    repeat' first | with_reducible exact own_le.refl _ | with_reducible exact own_m_multiplyByLinear_15 n _ _ _ | refine own_le.ite ?_ ?_ | refine own_le.bind ?_ fun _ => ?_ | refine own_le.let ?_
theorem own_m_multiplyByLinear (n : Nat) (p1 : Int32) (p2 : Int32) (s : St) : own_le (f_multiplyByLinear n p1 p2 s) (f_multiplyByLinear (n + 1) p1 p2 s) := by
  unfold f_multiplyByLinear
  repeat' first | with_reducible exact own_le.refl _ | with_reducible exact own_m_multiplyByLinear_10 n _ | with_reducible exact own_m_multiplyByLinear_15 n _ _ _ | refine own_le.ite ?_ ?_ | refine own_le.bind ?_ fun _ => ?_ | refine own_le.let ?_
theorem own_m_minimalPolyOfCoset_118 (n : Nat) (v3 : Int32) (s : St) : own_le (f_minimalPolyOfCoset_118 n v3 s) (f_minimalPolyOfCoset_118 (n + 1) v3 s) := by
  unfold f_minimalPolyOfCoset_118
  repeat' first | with_reducible exact own_le.refl _ | refine own_le.ite ?_ ?_ | refine own_le.bind ?_ fun _ => ?_ | refine own_le.let ?_
theorem own_m_minimalPolyOfCoset_82 : ∀ (n : Nat) (v0_ : Int32) (v1_ : Int32) (v2_ : Int32) (v3_ : St), own_le (f_minimalPolyOfCoset_82 n v0_ v1_ v2_ v3_) (f_minimalPolyOfCoset_82 (n + 1) v0_ v1_ v2_ v3_)
  | 0, _, _, _, _ => own_le.none _
  | n + 1, v0_, v1_, v2_, v3_ => by
    show own_le (g_minimalPolyOfCoset_82 (f_minimalPolyOfCoset_82 n) n v0_ v1_ v2_ v3_) (g_minimalPolyOfCoset_82 (f_minimalPolyOfCoset_82 (n + 1)) (n + 1) v0_ v1_ v2_ v3_)
    unfold g_minimalPolyOfCoset_82
    try unfold f_minimalPolyOfCoset_112
    repeat' first | with_reducible exact own_le.refl _ | with_reducible exact own_m_minimalPolyOfCoset_82 n _ _ _ _ | with_reducible exact own_m_minimalPolyOfCoset_118 n _ _ | refine own_le.ite ?_ ?_ | refine own_le.bind ?_ fun _ => ?_ | refine own_le.let ?_
theorem own_m_minimalPolyOfCoset_32 : ∀ (n : Nat) (v0_ : Int32) (v1_ : Int32) (v2_ : Int32) (v3_ : St), own_le (f_minimalPolyOfCoset_32 n v0_ v1_ v2_ v3_) (f_minimalPolyOfCoset_32 (n + 1) v0_ v1_ v2_ v3_)
  | 0, _, _, _, _ => own_le.none _
  | n + 1, v0_, v1_, v2_, v3_ => by
    show own_le (g_minimalPolyOfCoset_32 (f_minimalPolyOfCoset_32 n) n v0_ v1_ v2_ v3_) (g_minimalPolyOfCoset_32 (f_minimalPolyOfCoset_32 (n + 1)) (n + 1) v0_ v1_ v2_ v3_)
    unfold g_minimalPolyOfCoset_32
    try unfold f_minimalPolyOfCoset_71
    repeat' first | with_reducible exact own_le.refl _ | with_reducible exact own_m_minimalPolyOfCoset_32 n _ _ _ _ | with_reducible exact own_m_multiplyByLinear n _ _ _ | with_reducible exact own_m_minimalPolyOfCoset_82 n _ _ _ _ | refine own_le.ite ?_ ?_ | refine own_le.bind ?_ fun _ => ?_ | refine own_le.let ?_
theorem own_m_minimalPolyOfCoset_2 : ∀ (n : Nat) (v0_ : Int32) (v1_ : Int32) (v2_ : St), own_le (f_minimalPolyOfCoset_2 n v0_ v1_ v2_) (f_minimalPolyOfCoset_2 (n + 1) v0_ v1_ v2_)
  | 0, _, _, _ => own_le.none _
  | n + 1, v0_, v1_, v2_ => by
    show own_le (g_minimalPolyOfCoset_2 (f_minimalPolyOfCoset_2 n) n v0_ v1_ v2_) (g_minimalPolyOfCoset_2 (f_minimalPolyOfCoset_2 (n + 1)) (n + 1) v0_ v1_ v2_)
    unfold g_minimalPolyOfCoset_2
    repeat' first | with_reducible exact own_le.refl _ | with_reducible exact own_m_minimalPolyOfCoset_2 n _ _ _ | with_reducible exact own_m_minimalPolyOfCoset_32 n _ _ _ _ | refine own_le.ite ?_ ?_ | refine own_le.bind ?_ fun _ => ?_ | refine own_le.let ?_
theorem own_m_minimalPolyOfCoset (n : Nat) (p1 : Int32) (s : St) : own_le (f_minimalPolyOfCoset n p1 s) (f_minimalPolyOfCoset (n + 1) p1 s) := by
  unfold f_minimalPolyOfCoset
  repeat' first | with_reducible exact own_le.refl _ | with_reducible exact own_m_minimalPolyOfCoset_2 n _ _ _ | refine own_le.ite ?_ ?_ | refine own_le.bind ?_ fun _ => ?_ | refine own_le.let ?_
theorem own_m_buildMinimalPolys_23 : ∀ (n : Nat) (v0_ : Int32) (v1_ : St), own_le (f_buildMinimalPolys_23 n v0_ v1_) (f_buildMinimalPolys_23 (n + 1) v0_ v1_)
  | 0, _, _ => own_le.none _
  | n + 1, v0_, v1_ => by
    show own_le (g_buildMinimalPolys_23 (f_buildMinimalPolys_23 n) n v0_ v1_) (g_buildMinimalPolys_23 (f_buildMinimalPolys_23 (n + 1)) (n + 1) v0_ v1_)
    unfold g_buildMinimalPolys_23
    try unfold f_buildMinimalPolys_83
    repeat' first | with_reducible exact own_le.refl _ | with_reducible exact own_m_buildMinimalPolys_23 n _ _ | with_reducible exact own_m_minimalPolyOfCoset n _ _ | refine own_le.ite ?_ ?_ | refine own_le.bind ?_ fun _ => ?_ | refine own_le.let ?_
theorem own_m_buildMinimalPolys_2 : ∀ (n : Nat) (v0_ : Int32) (v1_ : St), own_le (f_buildMinimalPolys_2 n v0_ v1_) (f_buildMinimalPolys_2 (n + 1) v0_ v1_)
  | 0, _, _ => own_le.none _
  | n + 1, v0_, v1_ => by
    show own_le (g_buildMinimalPolys_2 (f_buildMinimalPolys_2 n) n v0_ v1_) (g_buildMinimalPolys_2 (f_buildMinimalPolys_2 (n + 1)) (n + 1) v0_ v1_)
    unfold g_buildMinimalPolys_2
    repeat' first | with_reducible exact own_le.refl _ | with_reducible exact own_m_buildMinimalPolys_2 n _ _ | with_reducible exact own_m_buildMinimalPolys_23 n _ _ | refine own_le.ite ?_ ?_ | refine own_le.bind ?_ fun _ => ?_ | refine own_le.let ?_
theorem own_m_buildMinimalPolys (n : Nat) (s : St) : own_le (f_buildMinimalPolys n s) (f_buildMinimalPolys (n + 1) s) := by
  unfold f_buildMinimalPolys
  repeat' first | with_reducible exact own_le.refl _ | with_reducible exact own_m_buildMinimalPolys_2 n _ _ | refine own_le.ite ?_ ?_ | refine own_le.bind ?_ fun _ => ?_ | refine own_le.let ?_
theorem own_m_popcount_33 (n : Nat) (v2 : Int32) (s : St) : own_le (f_popcount_33 n v2 s) (f_popcount_33 (n + 1) v2 s) := by
  unfold f_popcount_33
  repeat' first | with_reducible exact own_le.refl _ | refine own_le.ite ?_ ?_ | refine own_le.bind ?_ fun _ => ?_ | refine own_le.let ?_
theorem own_m_popcount_7 : ∀ (n : Nat) (v0_ : Int32) (v1_ : Int32) (v2_ : Int32) (v3_ : St), own_le (f_popcount_7 n v0_ v1_ v2_ v3_) (f_popcount_7 (n + 1) v0_ v1_ v2_ v3_)
  | 0, _, _, _, _ => own_le.none _
  | n + 1, v0_, v1_, v2_, v3_ => by
    show own_le (g_popcount_7 (f_popcount_7 n) n v0_ v1_ v2_ v3_) (g_popcount_7 (f_popcount_7 (n + 1)) (n + 1) v0_ v1_ v2_ v3_)
    unfold g_popcount_7
    repeat' first | with_reducible exact own_le.refl _ | with_reducible exact own_m_popcount_7 n _ _ _ _ | with_reducible exact own_m_popcount_33 n _ _ | refine own_le.ite ?_ ?_ | refine own_le.bind ?_ fun _ => ?_ | refine own_le.let ?_
theorem own_m_popcount (n : Nat) (p1 : Int32) (s : St) : own_le (f_popcount n p1 s) (f_popcount (n + 1) p1 s) := by
  unfold f_popcount
  repeat' first | with_reducible exact own_le.refl _ | with_reducible exact own_m_popcount_7 n _ _ _ _ | refine own_le.ite ?_ ?_ | refine own_le.bind ?_ fun _ => ?_ | refine own_le.let ?_
theorem own_m_clmul_5 : ∀ (n : Nat) (v0_ : Int32) (v1_ : Int32) (v2_ : Int32) (v3_ : Int32) (v4_ : St), own_le (f_clmul_5 n v0_ v1_ v2_ v3_ v4_) (f_clmul_5 (n + 1) v0_ v1_ v2_ v3_ v4_)
  | 0, _, _, _, _, _ => own_le.none _
  | n + 1, v0_, v1_, v2_, v3_, v4_ => by
    show own_le (g_clmul_5 (f_clmul_5 n) n v0_ v1_ v2_ v3_ v4_) (g_clmul_5 (f_clmul_5 (n + 1)) (n + 1) v0_ v1_ v2_ v3_ v4_)
    unfold g_clmul_5
    try unfold f_clmul_28
    repeat' first | with_reducible exact own_le.refl _ | with_reducible exact own_m_clmul_5 n _ _ _ _ _ | refine own_le.ite ?_ ?_ | refine own_le.bind ?_ fun _ => ?_ | refine own_le.let ?_
theorem own_m_clmul (n : Nat) (p1 : Int32) (p2 : Int32) (s : St) : own_le (f_clmul n p1 p2 s) (f_clmul (n + 1) p1 p2 s) := by
  unfold f_clmul
  repeat' first | with_reducible exact own_le.refl _ | with_reducible exact own_m_clmul_5 n _ _ _ _ _ | refine own_le.ite ?_ ?_ | refine own_le.bind ?_ fun _ => ?_ | refine own_le.let ?_
theorem own_m_computeGenerator_4 : ∀ (n : Nat) (v0_ : Int32) (v1_ : Int32) (v2_ : St), own_le (f_computeGenerator_4 n v0_ v1_ v2_) (f_computeGenerator_4 (n + 1) v0_ v1_ v2_)
  | 0, _, _, _ => own_le.none _
  | n + 1, v0_, v1_, v2_ => by
    show own_le (g_computeGenerator_4 (f_computeGenerator_4 n) n v0_ v1_ v2_) (g_computeGenerator_4 (f_computeGenerator_4 (n + 1)) (n + 1) v0_ v1_ v2_)
    unfold g_computeGenerator_4
    try unfold f_computeGenerator_42
    repeat' first | with_reducible exact own_le.refl _ | with_reducible exact own_m_computeGenerator_4 n _ _ _ | with_reducible exact own_m_clmul n _ _ _ | refine own_le.ite ?_ ?_ | refine own_le.bind ?_ fun _ => ?_ | refine own_le.let ?_
theorem own_m_computeGenerator (n : Nat) (s : St) : own_le (f_computeGenerator n s) (f_computeGenerator (n + 1) s) := by
  unfold f_computeGenerator
  repeat' first | with_reducible exact own_le.refl _ | with_reducible exact own_m_computeGenerator_4 n _ _ _ | refine own_le.ite ?_ ?_ | refine own_le.bind ?_ fun _ => ?_ | refine own_le.let ?_
theorem own_m_computeRunLength_30 (k20 k20' : Int32 → Int32 → St → Option (Int32)) (hk20 : ∀ x0 x1 x2, own_le (k20 x0 x1 x2) (k20' x0 x1 x2)) : ∀ (n : Nat) (v0_ : Int32) (v1_ : Int32) (v2_ : Int32) (v3_ : St), own_le (f_computeRunLength_30 k20 n v0_ v1_ v2_ v3_) (f_computeRunLength_30 k20' (n + 1) v0_ v1_ v2_ v3_)
  | 0, _, _, _, _ => own_le.none _
  | n + 1, v0_, v1_, v2_, v3_ => by
    show own_le (g_computeRunLength_30 k20 (f_computeRunLength_30 k20 n) n v0_ v1_ v2_ v3_) (g_computeRunLength_30 k20' (f_computeRunLength_30 k20' (n + 1)) (n + 1) v0_ v1_ v2_ v3_)
    unfold g_computeRunLength_30
    try unfold f_computeRunLength_59
    try unfold f_computeRunLength_66
    repeat' first | with_reducible exact own_le.refl _ | with_reducible exact own_m_computeRunLength_30 _ _ hk20 n _ _ _ _ | with_reducible exact hk20 _ _ _ | refine own_le.ite ?_ ?_ | refine own_le.bind ?_ fun _ => ?_ | refine own_le.let ?_
theorem own_m_computeRunLength_20 : ∀ (n : Nat) (v0_ : Int32) (v1_ : Int32) (v2_ : St), own_le (f_computeRunLength_20 n v0_ v1_ v2_) (f_computeRunLength_20 (n + 1) v0_ v1_ v2_)
  | 0, _, _, _ => own_le.none _
  | n + 1, v0_, v1_, v2_ => by
    show own_le (g_computeRunLength_20 (f_computeRunLength_20 n) n v0_ v1_ v2_) (g_computeRunLength_20 (f_computeRunLength_20 (n + 1)) (n + 1) v0_ v1_ v2_)
    unfold g_computeRunLength_20
    repeat' first | with_reducible exact own_le.refl _ | with_reducible exact own_m_computeRunLength_20 n _ _ _ | with_reducible refine own_m_computeRunLength_30 _ _ (fun _ _ _ => ?_) n _ _ _ _ | refine own_le.ite ?_ ?_ | refine own_le.bind ?_ fun _ => ?_ | refine own_le.let ?_
theorem own_m_computeRunLength (n : Nat) (s : St) : own_le (f_computeRunLength n s) (f_computeRunLength (n + 1) s) := by
  unfold f_computeRunLength
  repeat' first | with_reducible exact own_le.refl _ | with_reducible exact own_m_computeRunLength_20 n _ _ _ | refine own_le.ite ?_ ?_ | refine own_le.bind ?_ fun _ => ?_ | refine own_le.let ?_
theorem own_m_refresh (n : Nat) (s : St) : own_le (f_refresh n s) (f_refresh (n + 1) s) := by
  unfold f_refresh
  repeat' first | with_reducible exact own_le.refl _ | with_reducible exact own_m_popcount n _ _ | with_reducible exact own_m_computeGenerator n _ | with_reducible exact own_m_computeRunLength n _ | refine own_le.ite ?_ ?_ | refine own_le.bind ?_ fun _ => ?_ | refine own_le.let ?_
theorem own_m_configure (n : Nat) (p1 : Int32) (s : St) : own_le (f_configure n p1 s) (f_configure (n + 1) p1 s) := by
  unfold f_configure
  repeat' first | with_reducible exact own_le.refl _ | with_reducible exact own_m_buildField n _ | with_reducible exact own_m_buildCosets n _ | with_reducible exact own_m_buildMinimalPolys n _ | with_reducible exact own_m_refresh n _ | refine own_le.ite ?_ ?_ | refine own_le.bind ?_ fun _ => ?_ | refine own_le.let ?_
theorem own_m_L_deg_4 : ∀ (n : Nat) (v0_ : Int64) (v1_ : Int32) (v2_ : Int32), own_le (f_L_deg_4 n v0_ v1_ v2_) (f_L_deg_4 (n + 1) v0_ v1_ v2_)
  | 0, _, _, _ => own_le.none _
  | n + 1, v0_, v1_, v2_ => by
    show own_le (g_L_deg_4 (f_L_deg_4 n) n v0_ v1_ v2_) (g_L_deg_4 (f_L_deg_4 (n + 1)) (n + 1) v0_ v1_ v2_)
    unfold g_L_deg_4
    try unfold f_L_deg_22
    repeat' first | with_reducible exact own_le.refl _ | with_reducible exact own_m_L_deg_4 n _ _ _ | refine own_le.ite ?_ ?_ | refine own_le.bind ?_ fun _ => ?_ | refine own_le.let ?_
theorem own_m_L_deg (n : Nat) (p0 : Int64) : own_le (f_L_deg n p0) (f_L_deg (n + 1) p0) := by
  unfold f_L_deg
  repeat' first | with_reducible exact own_le.refl _ | with_reducible exact own_m_L_deg_4 n _ _ _ | refine own_le.ite ?_ ?_ | refine own_le.bind ?_ fun _ => ?_ | refine own_le.let ?_
theorem own_m_L_pmod_48 (n : Nat) (v0 : Int64) : own_le (f_L_pmod_48 n v0) (f_L_pmod_48 (n + 1) v0) := by
  unfold f_L_pmod_48
  repeat' first | with_reducible exact own_le.refl _ | refine own_le.ite ?_ ?_ | refine own_le.bind ?_ fun _ => ?_ | refine own_le.let ?_
theorem own_m_L_pmod_9 : ∀ (n : Nat) (v0_ : Int64) (v1_ : Int64) (v2_ : Int32) (v3_ : Int32), own_le (f_L_pmod_9 n v0_ v1_ v2_ v3_) (f_L_pmod_9 (n + 1) v0_ v1_ v2_ v3_)
  | 0, _, _, _, _ => own_le.none _
  | n + 1, v0_, v1_, v2_, v3_ => by
    show own_le (g_L_pmod_9 (f_L_pmod_9 n) n v0_ v1_ v2_ v3_) (g_L_pmod_9 (f_L_pmod_9 (n + 1)) (n + 1) v0_ v1_ v2_ v3_)
    unfold g_L_pmod_9
    repeat' first | with_reducible exact own_le.refl _ | with_reducible exact own_m_L_pmod_9 n _ _ _ _ | with_reducible exact own_m_L_deg n _ | with_reducible exact own_m_L_pmod_48 n _ | refine own_le.ite ?_ ?_ | refine own_le.bind ?_ fun _ => ?_ | refine own_le.let ?_
theorem own_m_L_pmod (n : Nat) (p0 : Int64) (p1 : Int64) : own_le (f_L_pmod n p0 p1) (f_L_pmod (n + 1) p0 p1) := by
  unfold f_L_pmod
  repeat' first | with_reducible exact own_le.refl _ | with_reducible exact own_m_L_deg n _ | with_reducible exact own_m_L_pmod_9 n _ _ _ _ | refine own_le.ite ?_ ?_ | refine own_le.bind ?_ fun _ => ?_ | refine own_le.let ?_

/-! words as naturals: weight, support, a linear operator, the BCH bound -/
theorem oy_xor4 (a b c d : Nat) : (a ^^^ b) ^^^ (c ^^^ d) = (a ^^^ c) ^^^ (b ^^^ d) := by
  rw [Nat.xor_assoc, Nat.xor_assoc, ← Nat.xor_assoc b, Nat.xor_comm b c, Nat.xor_assoc c]
theorem oy_xor0 {a b : Nat} (h : a ^^^ b = 0) : a = b := by
  have : (a ^^^ b) ^^^ b = b := by rw [h, Nat.zero_xor]
  rw [Nat.xor_assoc, Nat.xor_self, Nat.xor_zero] at this
  exact this
def oy_ap (A : Nat → Nat) : Nat → Nat → Nat
  | 0, x => x
  | k + 1, x => A (oy_ap A k x)
theorem oy_ap_add (A : Nat → Nat) (x j : Nat) : ∀ i, oy_ap A (i + j) x = oy_ap A i (oy_ap A j x)
  | 0 => by rw [Nat.zero_add]; rfl
  | i + 1 => by
    rw [show i + 1 + j = (i + j) + 1 by omega]
    show A (oy_ap A (i + j) x) = A (oy_ap A i (oy_ap A j x))
    rw [oy_ap_add A x j i]
abbrev oy_Lin (A : Nat → Nat) : Prop := ∀ x y, A (x ^^^ y) = A x ^^^ A y
theorem oy_Lin.z {A : Nat → Nat} (h : oy_Lin A) : A 0 = 0 := by
  have := h 0 0
  rw [Nat.xor_self, Nat.xor_self] at this
  exact this
theorem oy_Lin.ap {A : Nat → Nat} (h : oy_Lin A) : ∀ k, oy_Lin (oy_ap A k)
  | 0 => fun x y => rfl
  | k + 1 => fun x y => by
    show A (oy_ap A k (x ^^^ y)) = A (oy_ap A k x) ^^^ A (oy_ap A k y)
    rw [oy_Lin.ap h k x y, h]
def oy_xs : List Nat → Nat
  | [] => 0
  | x :: l => x ^^^ oy_xs l
theorem oy_xs_lin {A : Nat → Nat} (h : oy_Lin A) {α : Type} (f : α → Nat) : ∀ l : List α, A (oy_xs (l.map f)) = oy_xs (l.map fun a => A (f a))
  | [] => h.z
  | a :: l => by
    show A (f a ^^^ oy_xs (l.map f)) = A (f a) ^^^ oy_xs (l.map fun a => A (f a))
    rw [h, oy_xs_lin h f l]
theorem oy_xs_add {α : Type} (f g : α → Nat) : ∀ l : List α, oy_xs (l.map fun a => f a ^^^ g a) = oy_xs (l.map f) ^^^ oy_xs (l.map g)
  | [] => (Nat.xor_self 0).symm
  | a :: l => by
    show (f a ^^^ g a) ^^^ oy_xs (l.map fun a => f a ^^^ g a) = (f a ^^^ oy_xs (l.map f)) ^^^ (g a ^^^ oy_xs (l.map g))
    rw [oy_xs_add f g l, oy_xor4]
/-- no power of A below N fixes anything but 0, on what S holds -/
abbrev oy_Fr (A : Nat → Nat) (S : Nat → Prop) (N : Nat) : Prop := oy_Lin A ∧ (∀ x, S x → S (A x)) ∧ (∀ x y, S x → S y → S (x ^^^ y)) ∧ (∀ x d, S x → 0 < d → d < N → oy_ap A d x = x → x = 0) ∧ (∀ x, S x → A x = 0 → x = 0)
theorem oy_Fr.ap {A : Nat → Nat} {S : Nat → Prop} {N : Nat} (h : oy_Fr A S N) {x : Nat} (hx : S x) : ∀ k, S (oy_ap A k x)
  | 0 => hx
  | k + 1 => h.2.1 _ (oy_Fr.ap h hx k)
theorem oy_Fr.z {A : Nat → Nat} {S : Nat → Prop} {N : Nat} (h : oy_Fr A S N) {x : Nat} (hx : S x) : ∀ k, oy_ap A k x = 0 → x = 0
  | 0, e => e
  | k + 1, e => oy_Fr.z h hx k (h.2.2.2.2 _ (oy_Fr.ap h hx k) e)
theorem oy_Fr.ne {A : Nat → Nat} {S : Nat → Prop} {N : Nat} (h : oy_Fr A S N) {x p q : Nat} (hx : S x) (hp : p < N) (hq : q < p) (e : oy_ap A p x ^^^ oy_ap A q x = 0) : x = 0 := by
  have e1 : oy_ap A p x = oy_ap A q (oy_ap A (p - q) x) := by rw [← oy_ap_add]; congr 1; omega
  rw [e1, ← (h.1.ap q)] at e
  have e2 := oy_Fr.z h (h.2.2.1 _ _ (oy_Fr.ap h hx (p - q)) hx) q e
  exact h.2.2.2.1 x (p - q) hx (by omega) (by omega) (oy_xor0 e2)
/-- Vandermonde: as many vanishing power sums as places -/
theorem oy_van {A : Nat → Nat} {S : Nat → Prop} {N : Nat} (h : oy_Fr A S N) : ∀ (l : List (Nat × Nat)), (∀ e ∈ l, e.1 < N ∧ S e.2) → l.Pairwise (fun a b => a.1 ≠ b.1) → (∀ j, j < l.length → oy_xs (l.map fun e => oy_ap A (e.1 * j) e.2) = 0) → ∀ e ∈ l, e.2 = 0 := by
  intro l
  induction hn : l.length generalizing l with
  | zero =>
    intro _ _ _ e he
    rw [List.length_eq_zero_iff.mp hn] at he; cases he
  | succ n ih =>
    intro hS hP hV
    obtain ⟨c, l', rfl⟩ : ∃ c l', l = c :: l' := by
      cases l with
      | nil => cases hn
      | cons c l' => exact ⟨c, l', rfl⟩
    have hl : l'.length = n := by simpa using hn
    obtain ⟨p0, a0⟩ := c
    have hP' := List.pairwise_cons.mp hP
    let l2 : List (Nat × Nat) := l'.map fun e => (e.1, oy_ap A e.1 e.2 ^^^ oy_ap A p0 e.2)
    have key : ∀ e ∈ l2, e.2 = 0 := by
      refine ih l2 (by rw [List.length_map]; exact hl) ?_ ?_ ?_
      · intro e he
        obtain ⟨e', he', rfl⟩ := List.mem_map.mp he
        have := hS e' (List.mem_cons_of_mem _ he')
        exact ⟨this.1, h.2.2.1 _ _ (h.ap this.2 _) (h.ap this.2 _)⟩
      · exact List.pairwise_map.mpr hP'.2
      · intro j hj
        have v0 := hV j (by omega)
        have v1 := hV (j + 1) (by omega)
        have v0 : oy_ap A (p0 * j) a0 ^^^ oy_xs (l'.map fun e => oy_ap A (e.1 * j) e.2) = 0 := v0
        have v1 : oy_ap A (p0 * (j + 1)) a0 ^^^ oy_xs (l'.map fun e => oy_ap A (e.1 * (j + 1)) e.2) = 0 := v1
        have v0 := oy_xor0 v0
        have v1 := oy_xor0 v1
        show oy_xs ((l'.map fun e => (e.1, oy_ap A e.1 e.2 ^^^ oy_ap A p0 e.2)).map fun e => oy_ap A (e.1 * j) e.2) = 0
        rw [List.map_map]
        have e1 : l'.map ((fun e : Nat × Nat => oy_ap A (e.1 * j) e.2) ∘ fun e => (e.1, oy_ap A e.1 e.2 ^^^ oy_ap A p0 e.2)) = l'.map (fun e => oy_ap A (e.1 * (j + 1)) e.2 ^^^ oy_ap A p0 (oy_ap A (e.1 * j) e.2)) := by
          apply List.map_congr_left
          intro e _
          show oy_ap A (e.1 * j) (oy_ap A e.1 e.2 ^^^ oy_ap A p0 e.2) = _
          rw [h.1.ap, ← oy_ap_add, ← oy_ap_add, ← oy_ap_add, Nat.mul_succ, Nat.add_comm (e.1 * j) p0]
        rw [e1, oy_xs_add, ← v1, ← oy_xs_lin (h.1.ap p0) (fun e : Nat × Nat => oy_ap A (e.1 * j) e.2), ← v0, ← oy_ap_add]
        rw [show p0 + p0 * j = p0 * (j + 1) by rw [Nat.mul_succ, Nat.add_comm], Nat.xor_self]
    have all : ∀ e ∈ l', e.2 = 0 := by
      intro e he
      have hb := hS e (List.mem_cons_of_mem _ he)
      have hb0 := hS (p0, a0) (List.mem_cons_self ..)
      have ne : p0 ≠ e.1 := hP'.1 e he
      have z : oy_ap A e.1 e.2 ^^^ oy_ap A p0 e.2 = 0 := key _ (List.mem_map.mpr ⟨e, he, rfl⟩)
      rcases Nat.lt_or_gt_of_ne ne with q | q
      · exact h.ne hb.2 hb.1 q z
      · rw [Nat.xor_comm] at z; exact h.ne hb.2 hb0.1 q z
    intro e he
    rcases List.mem_cons.mp he with rfl | he
    · have v0 := hV 0 (by omega)
      have v0 : oy_ap A (p0 * 0) a0 ^^^ oy_xs (l'.map fun e => oy_ap A (e.1 * 0) e.2) = 0 := v0
      have e1 : oy_xs (l'.map fun e => oy_ap A (e.1 * 0) e.2) = 0 := by
        have : ∀ l'' : List (Nat × Nat), (∀ e ∈ l'', e.2 = 0) → oy_xs (l''.map fun e => oy_ap A (e.1 * 0) e.2) = 0 := by
          intro l''
          induction l'' with
          | nil => intro _; rfl
          | cons c l'' ih2 =>
            intro hq
            show oy_ap A (c.1 * 0) c.2 ^^^ oy_xs (l''.map _) = 0
            rw [ih2 fun e he => hq e (List.mem_cons_of_mem _ he), hq c (List.mem_cons_self ..), Nat.xor_zero, (h.1.ap _).z]
        exact this l' all
      rw [e1, Nat.xor_zero] at v0
      exact v0
    · exact all e he
/-! the support -/
def oy_sup : Nat → Nat → Nat → List Nat
  | 0, _, _ => []
  | f + 1, o, x => if x % 2 = 1 then o :: oy_sup f (o + 1) (x / 2) else oy_sup f (o + 1) (x / 2)
theorem oy_sup_lt : ∀ (f o x p : Nat), p ∈ oy_sup f o x → o ≤ p ∧ p < o + f
  | 0, o, x, p, h => by cases h
  | f + 1, o, x, p, h => by
    unfold oy_sup at h
    by_cases c : x % 2 = 1
    · rw [if_pos c] at h
      rcases List.mem_cons.mp h with rfl | h
      · omega
      · have := oy_sup_lt f _ _ p h; omega
    · rw [if_neg c] at h
      have := oy_sup_lt f _ _ p h; omega
theorem oy_sup_pw : ∀ (f o x : Nat), (oy_sup f o x).Pairwise (fun a b => a ≠ b)
  | 0, o, x => List.Pairwise.nil
  | f + 1, o, x => by
    unfold oy_sup
    by_cases c : x % 2 = 1
    · rw [if_pos c]
      refine List.pairwise_cons.mpr ⟨fun p hp => ?_, oy_sup_pw f _ _⟩
      have := oy_sup_lt f _ _ p hp; omega
    · rw [if_neg c]; exact oy_sup_pw f _ _
/-- the weight of the low f bits -/
def oy_pc : Nat → Nat → Nat
  | 0, _ => 0
  | f + 1, x => x % 2 + oy_pc f (x / 2)
theorem oy_sup_len : ∀ (f o x : Nat), (oy_sup f o x).length = oy_pc f x
  | 0, o, x => rfl
  | f + 1, o, x => by
    unfold oy_sup oy_pc
    by_cases c : x % 2 = 1
    · rw [if_pos c, List.length_cons, oy_sup_len f, c]; omega
    · rw [if_neg c, oy_sup_len f, show x % 2 = 0 by omega]; omega
/-- the value at the e-th power -/
def oy_ev (A : Nat → Nat) (e : Nat) : Nat → Nat → Nat
  | 0, _ => 0
  | f + 1, x => (x % 2) ^^^ oy_ap A e (oy_ev A e f (x / 2))
theorem oy_mod2x (x y : Nat) : (x ^^^ y) % 2 = (x % 2) ^^^ (y % 2) := by
  have := Nat.xor_mod_two_pow (a := x) (b := y) (n := 1)
  simpa using this
theorem oy_div2x (x y : Nat) : (x ^^^ y) / 2 = (x / 2) ^^^ (y / 2) := Nat.xor_div_two
theorem oy_ev_lin {A : Nat → Nat} (h : oy_Lin A) (e : Nat) : ∀ f, oy_Lin (oy_ev A e f)
  | 0 => fun x y => (Nat.xor_self 0).symm
  | f + 1 => fun x y => by
    show ((x ^^^ y) % 2) ^^^ oy_ap A e (oy_ev A e f ((x ^^^ y) / 2)) = ((x % 2) ^^^ oy_ap A e (oy_ev A e f (x / 2))) ^^^ ((y % 2) ^^^ oy_ap A e (oy_ev A e f (y / 2)))
    rw [oy_mod2x, oy_div2x, oy_ev_lin h e f, h.ap e, oy_xor4]
theorem oy_ev_sup {A : Nat → Nat} (h : oy_Lin A) (e : Nat) : ∀ (f o x : Nat), oy_ap A (o * e) (oy_ev A e f x) = oy_xs ((oy_sup f o x).map fun p => oy_ap A (p * e) 1)
  | 0, o, x => (h.ap _).z
  | f + 1, o, x => by
    have ih := oy_ev_sup h e f (o + 1) (x / 2)
    show oy_ap A (o * e) ((x % 2) ^^^ oy_ap A e (oy_ev A e f (x / 2))) = _
    rw [h.ap, ← oy_ap_add, show o * e + e = (o + 1) * e by rw [Nat.succ_mul], ih]
    show _ = oy_xs ((if x % 2 = 1 then o :: oy_sup f (o + 1) (x / 2) else oy_sup f (o + 1) (x / 2)).map fun p => oy_ap A (p * e) 1)
    by_cases c : x % 2 = 1
    · rw [if_pos c, c, List.map_cons]; rfl
    · rw [if_neg c, show x % 2 = 0 by omega, (h.ap _).z, Nat.zero_xor]
/-- BCH: L zeros in a row give a weight above L -/
theorem oy_bch {A : Nat → Nat} {S : Nat → Prop} {N : Nat} (h : oy_Fr A S N) (s1 : S 1) {b L x : Nat} (hz : ∀ j, j < L → oy_ev A (b + j) N x = 0) (hx : oy_pc N x ≤ L) : oy_pc N x = 0 := by
  apply Classical.byContradiction
  intro hne
  let l : List (Nat × Nat) := (oy_sup N 0 x).map fun p => (p, oy_ap A (p * b) 1)
  have ll : l.length = oy_pc N x := by rw [List.length_map, oy_sup_len]
  have van := oy_van h l ?_ ?_ ?_
  · have : ∃ e, e ∈ l := by
      cases hl : l with
      | nil => rw [hl] at ll; exact absurd ll.symm hne
      | cons e _ => exact ⟨e, List.mem_cons_self ..⟩
    obtain ⟨e, he⟩ := this
    have z := van e he
    obtain ⟨p, hp, rfl⟩ := List.mem_map.mp he
    have := h.z s1 _ z
    omega
  · intro e he
    obtain ⟨p, hp, rfl⟩ := List.mem_map.mp he
    have := oy_sup_lt _ _ _ _ hp
    exact ⟨by show p < N; omega, h.ap s1 _⟩
  · exact List.pairwise_map.mpr (oy_sup_pw _ _ _)
  · intro j hj
    have e1 := hz j (by omega)
    have e2 := oy_ev_sup h.1 (b + j) N 0 x
    rw [e1, (h.1.ap _).z] at e2
    rw [List.map_map]
    refine Eq.trans (congrArg oy_xs ?_) e2.symm
    apply List.map_congr_left
    intro p _
    show oy_ap A (p * j) (oy_ap A (p * b) 1) = oy_ap A (p * (b + j)) 1
    rw [← oy_ap_add, ← Nat.mul_add, Nat.add_comm j b]

/-! remainders and rotations of words -/
def oy_pm (g dg : Nat) : Nat → Nat → Nat
  | 0, x => x
  | c + 1, x => oy_pm g dg c (if x.testBit (dg + c) = true then x ^^^ (g <<< c) else x)
theorem oy_pm_st (t h : Nat) : oy_Lin (fun x => if x.testBit t = true then x ^^^ h else x) := fun x y => by
  show (if (x ^^^ y).testBit t = true then (x ^^^ y) ^^^ h else x ^^^ y) = (if x.testBit t = true then x ^^^ h else x) ^^^ (if y.testBit t = true then y ^^^ h else y)
  rw [Nat.testBit_xor]
  cases hx : x.testBit t <;> cases hy : y.testBit t <;> simp [Nat.xor_assoc]
  · rw [Nat.xor_comm y h]
  · rw [Nat.xor_comm y h, ← Nat.xor_assoc h h, Nat.xor_self, Nat.zero_xor]
theorem oy_pm_lin (g dg : Nat) : ∀ c, oy_Lin (oy_pm g dg c)
  | 0 => fun x y => rfl
  | c + 1 => fun x y => by
    show oy_pm g dg c (if (x ^^^ y).testBit (dg + c) = true then (x ^^^ y) ^^^ (g <<< c) else x ^^^ y) = _
    have e := oy_pm_st (dg + c) (g <<< c) x y
    dsimp only at e
    rw [e, oy_pm_lin g dg c]
    rfl
theorem oy_lt_bit {x t : Nat} (h : x < 2 ^ t) (q : Nat) (hq : t ≤ q) : x.testBit q = false := Nat.testBit_lt_two_pow (Nat.lt_of_lt_of_le h (Nat.pow_le_pow_right (by decide) hq))
theorem oy_pm_id (g dg : Nat) : ∀ c x, x < 2 ^ dg → oy_pm g dg c x = x
  | 0, x, h => rfl
  | c + 1, x, h => by
    show oy_pm g dg c (if x.testBit (dg + c) = true then x ^^^ (g <<< c) else x) = x
    rw [oy_lt_bit h (dg + c) (by omega), if_neg (by decide)]
    exact oy_pm_id g dg c x h
theorem oy_lt_of {x t : Nat} (h : ∀ q, t ≤ q → x.testBit q = false) : x < 2 ^ t := Nat.lt_pow_two_of_testBit x fun q hq => h q hq
theorem oy_pm_lt {g dg : Nat} (g1 : g.testBit dg = true) (g2 : g < 2 ^ (dg + 1)) : ∀ c x, x < 2 ^ (dg + c) → oy_pm g dg c x < 2 ^ dg
  | 0, x, h => h
  | c + 1, x, h => by
    refine oy_pm_lt g1 g2 c _ (oy_lt_of fun q hq => ?_)
    by_cases b : x.testBit (dg + c) = true
    · rw [if_pos b, Nat.testBit_xor, Nat.testBit_shiftLeft]
      by_cases e : q = dg + c
      · subst e
        rw [b, show dg + c - c = dg by omega, g1]
        simp
      · rw [oy_lt_bit h q (by omega), oy_lt_bit g2 (q - c) (by omega)]
        simp
    · rw [if_neg b]
      by_cases e : q = dg + c
      · subst e; simpa using b
      · exact oy_lt_bit h q (by omega)
/-- what is linear and kills the multiples of g sees the remainder alone -/
theorem oy_pm_inv {g dg : Nat} {F : Nat → Nat} (hF : oy_Lin F) : ∀ c x, (∀ j, j < c → F (g <<< j) = 0) → F (oy_pm g dg c x) = F x
  | 0, x, _ => rfl
  | c + 1, x, h => by
    show F (oy_pm g dg c (if x.testBit (dg + c) = true then x ^^^ (g <<< c) else x)) = F x
    rw [oy_pm_inv hF c _ fun j hj => h j (by omega)]
    by_cases b : x.testBit (dg + c) = true
    · rw [if_pos b, hF, h c (by omega), Nat.xor_zero]
    · rw [if_neg b]
def oy_rot (N x : Nat) : Nat := (x <<< 1) ^^^ (if x.testBit (N - 1) = true then 2 ^ N ^^^ 1 else 0)
theorem oy_rot_lin (N : Nat) : oy_Lin (oy_rot N) := fun x y => by
  unfold oy_rot
  rw [Nat.shiftLeft_xor_distrib, Nat.testBit_xor]
  cases hx : x.testBit (N - 1) <;> cases hy : y.testBit (N - 1) <;> simp
  · rw [Nat.xor_assoc]
  · rw [Nat.xor_assoc, Nat.xor_assoc, Nat.xor_assoc, Nat.xor_comm (y <<< 1)]
    rw [← Nat.xor_assoc, ← Nat.xor_assoc, ← Nat.xor_assoc, ← Nat.xor_assoc]
  · rw [oy_xor4, Nat.xor_self, Nat.xor_zero]
theorem oy_rot_bit {N x : Nat} (h1 : 1 ≤ N) (hx : x < 2 ^ N) (q : Nat) : (oy_rot N x).testBit q = if q = 0 then x.testBit (N - 1) else (decide (q < N) && x.testBit (q - 1)) := by
  unfold oy_rot
  rw [Nat.testBit_xor, Nat.testBit_shiftLeft]
  have e1 : ∀ q, (2 ^ N ^^^ 1).testBit q = (decide (N = q) ^^ decide (q = 0)) := fun q => by
    rw [Nat.testBit_xor, Nat.testBit_two_pow]
    congr 1
    cases q with
    | zero => rfl
    | succ q => rw [Nat.testBit_succ]; simp
  by_cases q0 : q = 0
  · subst q0
    rw [if_pos rfl]
    cases ht : x.testBit (N - 1)
    · simp
    · rw [if_pos rfl, e1]
      simp; omega
  · rw [if_neg q0]
    by_cases qN : q < N
    · rw [decide_eq_true qN, decide_eq_true (show q ≥ 1 by omega)]
      cases ht : x.testBit (N - 1)
      · simp
      · rw [if_pos rfl, e1, decide_eq_false (show ¬ N = q by omega), decide_eq_false q0]; simp
    · rw [decide_eq_false qN, decide_eq_true (show q ≥ 1 by omega)]
      by_cases e : q = N
      · subst e
        cases ht : x.testBit (q - 1)
        · simp
        · rw [if_pos rfl, e1]; simp; omega
      · rw [oy_lt_bit hx (q - 1) (by omega)]
        cases ht : x.testBit (N - 1)
        · simp
        · rw [if_pos rfl, e1, decide_eq_false (show ¬ N = q by omega), decide_eq_false q0]; simp
theorem oy_rot_lt {N x : Nat} (h1 : 1 ≤ N) (hx : x < 2 ^ N) : oy_rot N x < 2 ^ N := oy_lt_of fun q hq => by
  rw [oy_rot_bit h1 hx, if_neg (by omega), decide_eq_false (by omega)]; rfl
abbrev oy_ri (N i x : Nat) : Nat := oy_ap (oy_rot N) i x
theorem oy_ri_lt {N x : Nat} (h1 : 1 ≤ N) (hx : x < 2 ^ N) : ∀ i, oy_ri N i x < 2 ^ N
  | 0 => hx
  | i + 1 => oy_rot_lt h1 (oy_ri_lt h1 hx i)
theorem oy_ri_bit {N x : Nat} (h1 : 1 ≤ N) (hx : x < 2 ^ N) : ∀ i, i ≤ N → ∀ q, q < N → (oy_ri N i x).testBit q = if q < i then x.testBit (q + N - i) else x.testBit (q - i)
  | 0, _, q, hq => by rw [if_neg (by omega)]; rfl
  | i + 1, hi, q, hq => by
    show (oy_rot N (oy_ri N i x)).testBit q = _
    rw [oy_rot_bit h1 (oy_ri_lt h1 hx i)]
    by_cases q0 : q = 0
    · subst q0
      rw [if_pos rfl, if_pos (by omega), oy_ri_bit h1 hx i (by omega) (N - 1) (by omega)]
      by_cases c : N - 1 < i
      · omega
      · rw [if_neg c]; congr 1; omega
    · rw [if_neg q0, decide_eq_true hq, Bool.true_and, oy_ri_bit h1 hx i (by omega) (q - 1) (by omega)]
      by_cases c : q < i + 1
      · rw [if_pos c, if_pos (by omega)]; congr 1; omega
      · rw [if_neg c, if_neg (by omega)]; congr 1; omega
theorem oy_ext {N x y : Nat} (hx : x < 2 ^ N) (hy : y < 2 ^ N) (h : ∀ q, q < N → x.testBit q = y.testBit q) : x = y := Nat.eq_of_testBit_eq fun q => by
  by_cases c : q < N
  · exact h q c
  · rw [oy_lt_bit hx q (by omega), oy_lt_bit hy q (by omega)]
theorem oy_ri_N {N x : Nat} (h1 : 1 ≤ N) (hx : x < 2 ^ N) : oy_ri N N x = x := oy_ext (oy_ri_lt h1 hx N) hx fun q hq => by
  rw [oy_ri_bit h1 hx N (Nat.le_refl _) q hq, if_pos hq]; congr 1; omega
theorem oy_ri_back {N x : Nat} (h1 : 1 ≤ N) (hx : x < 2 ^ N) {i : Nat} (hi : i ≤ N) : oy_ri N (N - i) (oy_ri N i x) = x := by
  show oy_ap _ _ (oy_ap _ _ _) = _
  rw [← oy_ap_add, show N - i + i = N by omega]
  exact oy_ri_N h1 hx
theorem oy_ri_sh {N x i : Nat} (h1 : 1 ≤ N) (hx : x < 2 ^ N) (hi : i < N) : ((x <<< i) ||| (x >>> (N - i))) % 2 ^ N = oy_ri N i x := by
  refine oy_ext (Nat.mod_lt _ (Nat.two_pow_pos N)) (oy_ri_lt h1 hx i) fun q hq => ?_
  rw [Nat.testBit_mod_two_pow, decide_eq_true hq, Bool.true_and, Nat.testBit_or, Nat.testBit_shiftLeft, Nat.testBit_shiftRight, oy_ri_bit h1 hx i (by omega) q hq]
  by_cases c : q < i
  · rw [if_pos c, decide_eq_false (by omega), Bool.false_and, Bool.false_or]; congr 1; omega
  · rw [if_neg c, decide_eq_true (by omega), Bool.true_and, oy_lt_bit hx (N - i + q) (by omega), Bool.or_false]
/-! the weight -/
theorem oy_tb0 (x : Nat) : x % 2 = (x.testBit 0).toNat := by
  rw [Nat.testBit_zero]
  rcases (by omega : x % 2 = 0 ∨ x % 2 = 1) with h | h <;> rw [h] <;> rfl
theorem oy_pc_hi : ∀ (f x : Nat), oy_pc (f + 1) x = oy_pc f x + (x.testBit f).toNat
  | 0, x => by show x % 2 + 0 = 0 + _; rw [oy_tb0]; omega
  | f + 1, x => by
    show x % 2 + oy_pc (f + 1) (x / 2) = (x % 2 + oy_pc f (x / 2)) + _
    rw [oy_pc_hi f (x / 2), Nat.testBit_succ]; omega
theorem oy_pc_ext : ∀ (f x y : Nat), (∀ q, q < f → x.testBit q = y.testBit q) → oy_pc f x = oy_pc f y
  | 0, x, y, h => rfl
  | f + 1, x, y, h => by rw [oy_pc_hi, oy_pc_hi, oy_pc_ext f x y (fun q hq => h q (by omega)), h f (by omega)]
theorem oy_pc_rot {N x : Nat} (h1 : 1 ≤ N) (hx : x < 2 ^ N) : oy_pc N (oy_rot N x) = oy_pc N x := by
  obtain ⟨f, rfl⟩ : ∃ f, N = f + 1 := ⟨N - 1, by omega⟩
  rw [oy_pc_hi f x]
  show oy_rot (f + 1) x % 2 + oy_pc f (oy_rot (f + 1) x / 2) = _
  rw [oy_tb0, oy_rot_bit h1 hx, if_pos rfl, oy_pc_ext f (oy_rot (f + 1) x / 2) x fun q hq => ?_]
  · rw [show f + 1 - 1 = f by omega]; omega
  · rw [← Nat.testBit_succ, oy_rot_bit h1 hx, if_neg (by omega), decide_eq_true (by omega), Bool.true_and, show q + 1 - 1 = q by omega]
theorem oy_pc_ri {N x : Nat} (h1 : 1 ≤ N) (hx : x < 2 ^ N) : ∀ i, oy_pc N (oy_ri N i x) = oy_pc N x
  | 0 => rfl
  | i + 1 => by
    show oy_pc N (oy_rot N (oy_ri N i x)) = _
    rw [oy_pc_rot h1 (oy_ri_lt h1 hx i), oy_pc_ri h1 hx i]
theorem oy_pc_sub : ∀ (f x y : Nat), oy_pc f (x ^^^ y) ≤ oy_pc f x + oy_pc f y
  | 0, x, y => Nat.le_refl _
  | f + 1, x, y => by
    show (x ^^^ y) % 2 + oy_pc f ((x ^^^ y) / 2) ≤ (x % 2 + oy_pc f (x / 2)) + (y % 2 + oy_pc f (y / 2))
    rw [oy_mod2x, oy_div2x]
    have := oy_pc_sub f (x / 2) (y / 2)
    have h2 : (x % 2) ^^^ (y % 2) ≤ x % 2 + y % 2 := by
      rcases (by omega : x % 2 = 0 ∨ x % 2 = 1) with h | h <;> rcases (by omega : y % 2 = 0 ∨ y % 2 = 1) with k | k <;> rw [h, k] <;> decide
    omega
theorem oy_pc_0 : ∀ (f x : Nat), x < 2 ^ f → oy_pc f x = 0 → x = 0
  | 0, x, h, _ => by simpa using h
  | f + 1, x, h, e => by
    have e : x % 2 + oy_pc f (x / 2) = 0 := e
    have := oy_pc_0 f (x / 2) (by rw [Nat.pow_succ] at h; omega) (by omega)
    omega
theorem oy_pc_z : ∀ f, oy_pc f 0 = 0
  | 0 => rfl
  | f + 1 => by show 0 % 2 + oy_pc f (0 / 2) = 0; rw [show 0 / 2 = 0 from rfl, oy_pc_z f]
theorem oy_pc_fuel : ∀ (f x d : Nat), x < 2 ^ f → oy_pc (f + d) x = oy_pc f x
  | 0, x, d, h => by
    have : x = 0 := by simpa using h
    subst this
    rw [oy_pc_z, oy_pc_z]
  | f + 1, x, d, h => by
    rw [show f + 1 + d = (f + d) + 1 by omega]
    show x % 2 + oy_pc (f + d) (x / 2) = x % 2 + oy_pc f (x / 2)
    rw [oy_pc_fuel f (x / 2) d (by rw [Nat.pow_succ] at h; omega)]
theorem oy_pc_one : ∀ (f p : Nat), oy_pc f (2 ^ p) ≤ 1
  | 0, p => by show 0 ≤ 1; omega
  | f + 1, 0 => by
    show 1 % 2 + oy_pc f (1 / 2) ≤ 1
    rw [show 1 / 2 = 0 from rfl, oy_pc_z]; decide
  | f + 1, p + 1 => by
    show 2 ^ (p + 1) % 2 + oy_pc f (2 ^ (p + 1) / 2) ≤ 1
    rw [Nat.pow_succ, Nat.mul_mod_left, Nat.mul_div_cancel _ (by decide)]
    have := oy_pc_one f p; omega
theorem oy_sup_in : ∀ (f o x p : Nat), p < f → x.testBit p = true → o + p ∈ oy_sup f o x
  | 0, o, x, p, h, _ => by omega
  | f + 1, o, x, 0, h, b => by
    have c : x % 2 = 1 := by rw [oy_tb0, b]; rfl
    show o + 0 ∈ (if x % 2 = 1 then o :: oy_sup f (o + 1) (x / 2) else oy_sup f (o + 1) (x / 2))
    rw [if_pos c]; exact List.mem_cons_self ..
  | f + 1, o, x, p + 1, h, b => by
    have := oy_sup_in f (o + 1) (x / 2) p (by omega) (by rw [← Nat.testBit_succ]; exact b)
    rw [show o + 1 + p = o + (p + 1) by omega] at this
    show o + (p + 1) ∈ (if x % 2 = 1 then o :: oy_sup f (o + 1) (x / 2) else oy_sup f (o + 1) (x / 2))
    by_cases c : x % 2 = 1
    · rw [if_pos c]; exact List.mem_cons_of_mem _ this
    · rw [if_neg c]; exact this
/-! a shift that keeps every place low -/
def oy_cn (P : Nat → Bool) : Nat → Nat
  | 0 => 0
  | i + 1 => oy_cn P i + (P i).toNat
theorem oy_cn_and (P Q : Nat → Bool) : ∀ n, oy_cn Q n ≤ oy_cn (fun i => P i && Q i) n + oy_cn (fun i => ! P i) n
  | 0 => Nat.le_refl _
  | n + 1 => by
    have := oy_cn_and P Q n
    show oy_cn Q n + (Q n).toNat ≤ (oy_cn (fun i => P i && Q i) n + (P n && Q n).toNat) + (oy_cn (fun i => ! P i) n + (! P n).toNat)
    cases P n <;> cases Q n <;> simp <;> omega
theorem oy_cn_ex (P : Nat → Bool) : ∀ n, 0 < oy_cn P n → ∃ i, i < n ∧ P i = true
  | 0, h => absurd h (Nat.lt_irrefl 0)
  | n + 1, h => by
    have h : 0 < oy_cn P n + (P n).toNat := h
    cases hp : P n
    · rw [hp] at h
      obtain ⟨i, hi, e⟩ := oy_cn_ex P n (by simpa using h)
      exact ⟨i, by omega, e⟩
    · exact ⟨n, by omega, hp⟩
theorem oy_cn_t : ∀ n, oy_cn (fun _ => true) n = n
  | 0 => rfl
  | n + 1 => by show oy_cn (fun _ => true) n + 1 = n + 1; rw [oy_cn_t n]
abbrev oy_bad (N dg p : Nat) : Nat → Bool := fun i => ! decide ((p + i) % N < dg)
theorem oy_pig {N dg : Nat} (hb : ∀ p, p < N → oy_cn (oy_bad N dg p) N ≤ N - dg) : ∀ ps : List Nat, (∀ p ∈ ps, p < N) → N ≤ oy_cn (fun i => ps.all fun p => decide ((p + i) % N < dg)) N + (N - dg) * ps.length
  | [], _ => by
    show N ≤ oy_cn (fun _ => true) N + _
    rw [oy_cn_t]; omega
  | p :: ps, h => by
    have ih := oy_pig hb ps fun q hq => h q (List.mem_cons_of_mem _ hq)
    have a := oy_cn_and (fun i => decide ((p + i) % N < dg)) (fun i => ps.all fun p => decide ((p + i) % N < dg)) N
    have b := hb p (h p (List.mem_cons_self ..))
    show N ≤ oy_cn (fun i => decide ((p + i) % N < dg) && ps.all fun p => decide ((p + i) % N < dg)) N + (N - dg) * (ps.length + 1)
    rw [Nat.mul_succ]
    have b' : oy_cn (fun i => ! decide ((p + i) % N < dg)) N ≤ N - dg := b
    omega
theorem oy_shift {N dg e : Nat} (h1 : 1 ≤ N) (hb : ∀ p, p < N → oy_cn (oy_bad N dg p) N ≤ N - dg) (he : e < 2 ^ N) (hw : (N - dg) * oy_pc N e < N) : ∃ i, i < N ∧ oy_ri N i e < 2 ^ dg := by
  have := oy_pig hb (oy_sup N 0 e) fun p hp => by have := oy_sup_lt _ _ _ _ hp; omega
  rw [oy_sup_len] at this
  obtain ⟨i, hi, hP⟩ := oy_cn_ex _ N (show 0 < oy_cn (fun i => (oy_sup N 0 e).all fun p => decide ((p + i) % N < dg)) N by omega)
  refine ⟨i, hi, oy_lt_of fun q hq => ?_⟩
  by_cases qN : q < N
  · rw [oy_ri_bit h1 he i (by omega) q qN]
    have all := List.all_eq_true.mp hP
    by_cases c : q < i
    · rw [if_pos c]
      cases hb : e.testBit (q + N - i)
      · rfl
      · have := all _ (oy_sup_in N 0 e (q + N - i) (by omega) hb)
        have := of_decide_eq_true this
        rw [show 0 + (q + N - i) + i = q + N by omega, Nat.add_mod_right, Nat.mod_eq_of_lt qN] at this
        omega
    · rw [if_neg c]
      cases hb : e.testBit (q - i)
      · rfl
      · have := all _ (oy_sup_in N 0 e (q - i) (by omega) hb)
        have := of_decide_eq_true this
        rw [show 0 + (q - i) + i = q by omega, Nat.mod_eq_of_lt qN] at this
        omega
  · exact oy_lt_bit (oy_ri_lt h1 he i) q (by omega)

/-! what is checked of each code -/
def oy_m (N : Nat) : Nat := if N = 3 then 2 else if N = 5 then 4 else if N = 7 then 3 else if N = 9 then 6 else if N = 15 then 4 else if N = 17 then 8 else if N = 21 then 6 else if N = 31 then 5 else 1
def oy_M (N : Nat) : Nat := if N = 3 then 7 else if N = 5 then 31 else if N = 7 then 11 else if N = 9 then 73 else if N = 15 then 19 else if N = 17 then 471 else if N = 21 then 87 else if N = 31 then 37 else 0
def oy_tab (N : Nat) : List Nat := if N = 3 then [1, 2, 3] else if N = 5 then [1, 2, 4, 8, 15] else if N = 7 then [1, 2, 4, 3, 6, 7, 5] else if N = 9 then [1, 2, 4, 8, 16, 32, 9, 18, 36] else if N = 15 then [1, 2, 4, 8, 3, 6, 12, 11, 5, 10, 7, 14, 15, 13, 9] else if N = 17 then [1, 2, 4, 8, 16, 32, 64, 128, 215, 121, 242, 51, 102, 204, 79, 158, 235] else if N = 21 then [1, 2, 4, 8, 16, 32, 23, 46, 11, 22, 44, 15, 30, 60, 47, 9, 18, 36, 31, 62, 43] else if N = 31 then [1, 2, 4, 8, 16, 5, 10, 20, 13, 26, 17, 7, 14, 28, 29, 31, 27, 19, 3, 6, 12, 24, 21, 15, 30, 25, 23, 11, 22, 9, 18] else []
def oy_A (N x : Nat) : Nat := (x <<< 1) ^^^ (if x.testBit (oy_m N - 1) = true then oy_M N else 0)
theorem oy_sh_lin (t h : Nat) : oy_Lin (fun x => (x <<< 1) ^^^ (if x.testBit t = true then h else 0)) := fun x y => by
  show ((x ^^^ y) <<< 1) ^^^ (if (x ^^^ y).testBit t = true then h else 0) = ((x <<< 1) ^^^ (if x.testBit t = true then h else 0)) ^^^ ((y <<< 1) ^^^ (if y.testBit t = true then h else 0))
  rw [Nat.shiftLeft_xor_distrib, Nat.testBit_xor, oy_xor4]
  cases hx : x.testBit t <;> cases hy : y.testBit t <;> simp
theorem oy_A_lin (N : Nat) : oy_Lin (oy_A N) := oy_sh_lin _ _
def oy_walk (N : Nat) : Nat → Nat → Nat → Bool
  | 0, _, _ => true
  | d + 1, y, x => (! Nat.beq y x) && oy_walk N d (oy_A N y) x
def oy_frX (N x : Nat) : Bool := Nat.ble (oy_A N x + 1) (2 ^ oy_m N) && (! Nat.beq (oy_A N x) 0) && oy_walk N (N - 1) (oy_A N x) x
def oy_all (P : Nat → Bool) : Nat → Bool
  | 0 => true
  | n + 1 => P n && oy_all P n
theorem oy_all_e {P : Nat → Bool} : ∀ {n : Nat}, oy_all P n = true → ∀ i, i < n → P i = true
  | 0, _, i, hi => by omega
  | n + 1, h, i, hi => by
    have h : (P n && oy_all P n) = true := h
    rw [Bool.and_eq_true] at h
    by_cases c : i = n
    · rw [c]; exact h.1
    · exact oy_all_e h.2 i (by omega)
def oy_any (P : Nat → Bool) : Nat → Bool
  | 0 => false
  | n + 1 => P n || oy_any P n
theorem oy_any_e {P : Nat → Bool} : ∀ {n : Nat}, oy_any P n = true → ∃ i, i < n ∧ P i = true
  | 0, h => by cases h
  | n + 1, h => by
    have h : (P n || oy_any P n) = true := h
    rw [Bool.or_eq_true] at h
    rcases h with h | h
    · exact ⟨n, by omega, h⟩
    · obtain ⟨i, hi, e⟩ := oy_any_e h
      exact ⟨i, by omega, e⟩
abbrev oy_L8 : List Nat := [3, 5, 7, 9, 15, 17, 21, 31]
theorem oy_frT : ∀ N ∈ oy_L8, oy_all (fun i => oy_frX N (i + 1)) (2 ^ oy_m N - 1) = true := by decide +kernel
theorem oy_walk_e {N : Nat} {x : Nat} : ∀ {d y : Nat}, oy_walk N d y x = true → ∀ i, i < d → oy_ap (oy_A N) i y ≠ x
  | 0, y, _, i, hi => by omega
  | d + 1, y, h, i, hi => by
    have h : ((! Nat.beq y x) && oy_walk N d (oy_A N y) x) = true := h
    rw [Bool.and_eq_true] at h
    cases i with
    | zero =>
      intro e
      have e : y = x := e
      rw [e] at h
      have := h.1
      simp at this
    | succ i =>
      have := oy_walk_e h.2 i (by omega)
      have e := oy_ap_add (oy_A N) y 1 i
      rw [show oy_ap (oy_A N) 1 y = oy_A N y from rfl] at e
      rw [e]; exact this
theorem oy_fr {N : Nat} (h : N ∈ oy_L8) : oy_Fr (oy_A N) (fun x => x < 2 ^ oy_m N) N := by
  have T := oy_all_e (oy_frT N h)
  have z : oy_A N 0 = 0 := (oy_A_lin N).z
  have T' : ∀ x, x < 2 ^ oy_m N → x ≠ 0 → oy_A N x < 2 ^ oy_m N ∧ oy_A N x ≠ 0 ∧ oy_walk N (N - 1) (oy_A N x) x = true := fun x hx h0 => by
    have := T (x - 1) (by omega)
    rw [show x - 1 + 1 = x by omega] at this
    unfold oy_frX at this
    rw [Bool.and_eq_true, Bool.and_eq_true] at this
    obtain ⟨⟨a, b⟩, c⟩ := this
    exact ⟨Nat.le_of_ble_eq_true a, (by intro e; rw [e] at b; simp at b), c⟩
  refine ⟨oy_A_lin N, fun x hx => ?_, fun x y hx hy => Nat.xor_lt_two_pow hx hy, fun x d hx d1 d2 e => ?_, fun x hx e => ?_⟩
  · by_cases h0 : x = 0
    · subst h0; rw [z]; exact Nat.two_pow_pos _
    · exact (T' x hx h0).1
  · apply Classical.byContradiction
    intro h0
    have := oy_walk_e (T' x hx h0).2.2 (d - 1) (by omega)
    have e2 := oy_ap_add (oy_A N) x 1 (d - 1)
    rw [show d - 1 + 1 = d by omega, e] at e2
    exact this e2.symm
  · apply Classical.byContradiction
    intro h0
    exact (T' x hx h0).2.1 e
theorem oy_one {N : Nat} (h : N ∈ oy_L8) : 1 < 2 ^ oy_m N := by
  revert N; decide
/-- the value at a power, by the table -/
def oy_evC (tab : List Nat) (N e : Nat) : Nat → Nat → Nat → Nat
  | 0, _, _ => 0
  | f + 1, r, x => (if x % 2 = 1 then tab.getD r 0 else 0) ^^^ oy_evC tab N e f ((r + e) % N) (x / 2)
def oy_tabC (N : Nat) : Nat → Nat → List Nat → Bool
  | 0, y, l => Nat.beq y 1
  | k + 1, y, [] => false
  | k + 1, y, t :: l => Nat.beq y t && oy_tabC N k (oy_A N y) l
theorem oy_tabT : ∀ N ∈ oy_L8, oy_tabC N N 1 (oy_tab N) = true := by decide +kernel
theorem oy_tabC_e {N : Nat} : ∀ {k y : Nat} {l : List Nat}, oy_tabC N k y l = true → oy_ap (oy_A N) k y = 1 ∧ ∀ i, i < k → l.getD i 0 = oy_ap (oy_A N) i y
  | 0, y, l, h => ⟨Nat.eq_of_beq_eq_true h, fun i hi => by omega⟩
  | k + 1, y, [], h => by cases h
  | k + 1, y, t :: l, h => by
    have h : (Nat.beq y t && oy_tabC N k (oy_A N y) l) = true := h
    rw [Bool.and_eq_true] at h
    have e1 := Nat.eq_of_beq_eq_true h.1
    obtain ⟨e2, e3⟩ := oy_tabC_e h.2
    have ad : ∀ i, oy_ap (oy_A N) (i + 1) y = oy_ap (oy_A N) i (oy_A N y) := fun i => oy_ap_add (oy_A N) y 1 i
    refine ⟨by rw [ad]; exact e2, fun i hi => ?_⟩
    cases i with
    | zero => exact e1.symm
    | succ i => rw [ad]; exact e3 i (by omega)
theorem oy_per {N : Nat} (h : N ∈ oy_L8) : ∀ k r, oy_ap (oy_A N) (N * k + r) 1 = oy_ap (oy_A N) r 1
  | 0, r => by rw [Nat.mul_zero, Nat.zero_add]
  | k + 1, r => by
    have e := (oy_tabC_e (oy_tabT N h)).1
    rw [show N * (k + 1) + r = (N * k + r) + N by rw [Nat.mul_succ]; omega, oy_ap_add, e]
    exact oy_per h k r
theorem oy_evC_e {N : Nat} (h : N ∈ oy_L8) (e : Nat) : ∀ (f o x : Nat), oy_evC (oy_tab N) N e f ((o * e) % N) x = oy_ap (oy_A N) (o * e) (oy_ev (oy_A N) e f x)
  | 0, o, x => (((oy_A_lin N).ap _).z).symm
  | f + 1, o, x => by
    have N0 : 0 < N := by revert N; decide
    show (if x % 2 = 1 then (oy_tab N).getD ((o * e) % N) 0 else 0) ^^^ oy_evC (oy_tab N) N e f (((o * e) % N + e) % N) (x / 2) = oy_ap (oy_A N) (o * e) ((x % 2) ^^^ oy_ap (oy_A N) e (oy_ev (oy_A N) e f (x / 2)))
    rw [Nat.mod_add_mod, show o * e + e = (o + 1) * e by rw [Nat.succ_mul], oy_evC_e h e f (o + 1), (oy_A_lin N).ap, ← oy_ap_add, show o * e + e = (o + 1) * e by rw [Nat.succ_mul]]
    congr 1
    by_cases c : x % 2 = 1
    · rw [if_pos c, c, (oy_tabC_e (oy_tabT N h)).2 _ (Nat.mod_lt _ N0), ← oy_per h (o * e / N) (o * e % N), Nat.div_add_mod]
    · rw [if_neg c, show x % 2 = 0 by omega, ((oy_A_lin N).ap _).z]
theorem oy_badT : ∀ N ∈ oy_L8, oy_all (fun dg => oy_all (fun p => Nat.ble (oy_cn (oy_bad N dg p) N) (N - dg)) N) (N + 1) = true := by decide +kernel
theorem oy_bads {N dg : Nat} (h : N ∈ oy_L8) (hd : dg ≤ N) (p : Nat) (hp : p < N) : oy_cn (oy_bad N dg p) N ≤ N - dg := Nat.le_of_ble_eq_true (oy_all_e (oy_all_e (oy_badT N h) dg (by omega)) p hp)
/-- the code's own checks -/
def oy_good (N g dg L z : Nat) : Bool :=
  Nat.ble dg N && (Nat.ble L N && (Nat.beq dg N || (g.testBit dg && (Nat.ble (g + 1) (2 ^ (dg + 1)) &&
    (oy_all (fun c => Nat.beq (oy_pm g dg (N - dg) (g <<< c)) 0 && Nat.beq (oy_pm g dg (N - dg) (oy_rot N (g <<< c))) 0) (N - dg) &&
      oy_any (fun b => oy_all (fun j => z.testBit ((b + j) % N)) L && oy_all (fun j => Nat.beq (oy_evC (oy_tab N) N (b + j) 32 0 g) 0) L) N)))))
abbrev oy_Cd (N g dg L : Nat) : Prop := dg ≤ N ∧ L ≤ N ∧ (dg = N ∨ (g.testBit dg = true ∧ g < 2 ^ (dg + 1) ∧ (∀ c, c < N - dg → oy_pm g dg (N - dg) (g <<< c) = 0) ∧ (∀ c, c < N - dg → oy_pm g dg (N - dg) (oy_rot N (g <<< c)) = 0) ∧ ∃ b, ∀ j, j < L → oy_ev (oy_A N) (b + j) 32 g = 0))
theorem oy_good_e {N g dg L z : Nat} (h : N ∈ oy_L8) (hg : oy_good N g dg L z = true) : oy_Cd N g dg L := by
  unfold oy_good at hg
  rw [Bool.and_eq_true, Bool.and_eq_true, Bool.or_eq_true] at hg
  obtain ⟨a, b, c⟩ := hg
  refine ⟨Nat.le_of_ble_eq_true a, Nat.le_of_ble_eq_true b, ?_⟩
  rcases c with c | c
  · exact Or.inl (Nat.eq_of_beq_eq_true c)
  · right
    rw [Bool.and_eq_true, Bool.and_eq_true, Bool.and_eq_true] at c
    obtain ⟨c1, c2, c3, c4⟩ := c
    have c3 := oy_all_e c3
    have w : ∀ c, c < N - dg → oy_pm g dg (N - dg) (g <<< c) = 0 ∧ oy_pm g dg (N - dg) (oy_rot N (g <<< c)) = 0 := fun c hc => by
      have := c3 c hc
      rw [Bool.and_eq_true] at this
      exact ⟨Nat.eq_of_beq_eq_true this.1, Nat.eq_of_beq_eq_true this.2⟩
    refine ⟨c1, Nat.le_of_ble_eq_true c2, fun c hc => (w c hc).1, fun c hc => (w c hc).2, ?_⟩
    obtain ⟨b, -, hb⟩ := oy_any_e c4
    rw [Bool.and_eq_true] at hb
    have hb := oy_all_e hb.2
    refine ⟨b, fun j hj => ?_⟩
    have e1 := Nat.eq_of_beq_eq_true (hb j hj)
    have e2 := oy_evC_e h (b + j) 32 0 g
    rw [Nat.zero_mul, Nat.zero_mod] at e2
    exact e2.symm.trans e1

/-! the tables, and the check at each union of cosets -/
def own_mini (c : St) (N d M k : Int32) (L3 L4 : List Int32) (z : Int32) : St := sI (sI (sI (sI (sI (sA (sA c 3 L3) 4 L4) 0 N) 1 d) 2 M) 3 k) 4 z
def own_nt (x : Int32) : Nat := x.toBitVec.toNat
def own_dp (N t5 t6 : Int32) : Option Int32 :=
  lt (t5.toInt64 &&& (4294967295 : Int64)) fun x8 =>
  if x8 = (0 : Int64) then none else
  (f_L_deg 2000 x8).bind fun c10 =>
  if c10 = t6 then
    (f_L_pmod 2000 (((1 : Int64) <<< (N.toInt64 &&& 63)) ||| (1 : Int64)) x8).bind fun c12 => if c12 = (0 : Int64) then some 1 else none
  else none
def own_chk (N d M k : Int32) (L3 L4 : List Int32) (z : Int32) : Option Int32 := (f_refresh 2000 (own_mini st0 N d M k L3 L4 z)).bind fun t =>
  if k = Int32.ofNat (2 ^ own_nt N - 1) then
    if oy_good (own_nt N) (own_nt (gI t 5)) (own_nt (gI t 6)) (own_nt (gI t 7)) (own_nt z) = true then own_dp N (gI t 5) (gI t 6) else none
  else none
def own_all (N : Nat) : List Nat → List Int32
  | [] => [0]
  | l :: ls => (own_all N ls).map (fun z => own_mask N l ||| z) ++ own_all N ls
def own_ld (N : Nat) : List Nat := if N = 3 then [0, 1] else if N = 5 then [0, 1] else if N = 7 then [0, 1, 3] else if N = 9 then [0, 1, 3] else if N = 15 then [0, 1, 3, 5, 7] else if N = 17 then [0, 1, 3] else if N = 21 then [0, 1, 3, 5, 7, 9] else if N = 31 then [0, 1, 3, 5, 7, 11, 15] else []
def own_Nd (N : Nat) : Prop := ∃ d M k L3 L4, ((f_configure 600 (Int32.ofNat N) st0).bind fun r => if gA r.2 3 = L3 ∧ gA r.2 4 = L4 ∧ gI r.2 0 = Int32.ofNat N ∧ gI r.2 1 = d ∧ gI r.2 2 = M ∧ gI r.2 3 = k then some r.1 else none) = some 1 ∧ ∀ z, z ∈ own_all N (own_ld N) → own_chk (Int32.ofNat N) d M k L3 L4 z = some 1
theorem own_al3 : own_all 3 (own_ld 3) = [7, 1, 6, 0] := by decide +kernel
theorem own_k3_0 : ∀ z, z ∈ ([7, 1, 6, 0] : List Int32) → own_chk (Int32.ofNat 3) 2 3 7 [0, 1, 1, 0, 0, 0, 0, 0, 0, 0, 0, 0, 0, 0, 0, 0, 0, 0, 0, 0, 0, 0, 0, 0, 0, 0, 0, 0, 0, 0, 0, 0] [3, 7, 7, 0, 0, 0, 0, 0, 0, 0, 0, 0, 0, 0, 0, 0, 0, 0, 0, 0, 0, 0, 0, 0, 0, 0, 0, 0, 0, 0, 0, 0] z = some 1 := by decide +kernel
theorem own_N3 : own_Nd 3 := ⟨2, 3, 7, [0, 1, 1, 0, 0, 0, 0, 0, 0, 0, 0, 0, 0, 0, 0, 0, 0, 0, 0, 0, 0, 0, 0, 0, 0, 0, 0, 0, 0, 0, 0, 0], [3, 7, 7, 0, 0, 0, 0, 0, 0, 0, 0, 0, 0, 0, 0, 0, 0, 0, 0, 0, 0, 0, 0, 0, 0, 0, 0, 0, 0, 0, 0, 0], by decide +kernel, fun z hz => by
  rw [own_al3] at hz
  exact own_k3_0 z hz⟩
theorem own_al5 : own_all 5 (own_ld 5) = [31, 1, 30, 0] := by decide +kernel
theorem own_k5_0 : ∀ z, z ∈ ([31, 1, 30, 0] : List Int32) → own_chk (Int32.ofNat 5) 4 15 31 [0, 1, 1, 1, 1, 0, 0, 0, 0, 0, 0, 0, 0, 0, 0, 0, 0, 0, 0, 0, 0, 0, 0, 0, 0, 0, 0, 0, 0, 0, 0, 0] [3, 31, 31, 31, 31, 0, 0, 0, 0, 0, 0, 0, 0, 0, 0, 0, 0, 0, 0, 0, 0, 0, 0, 0, 0, 0, 0, 0, 0, 0, 0, 0] z = some 1 := by decide +kernel
theorem own_N5 : own_Nd 5 := ⟨4, 15, 31, [0, 1, 1, 1, 1, 0, 0, 0, 0, 0, 0, 0, 0, 0, 0, 0, 0, 0, 0, 0, 0, 0, 0, 0, 0, 0, 0, 0, 0, 0, 0, 0], [3, 31, 31, 31, 31, 0, 0, 0, 0, 0, 0, 0, 0, 0, 0, 0, 0, 0, 0, 0, 0, 0, 0, 0, 0, 0, 0, 0, 0, 0, 0, 0], by decide +kernel, fun z hz => by
  rw [own_al5] at hz
  exact own_k5_0 z hz⟩
theorem own_al7 : own_all 7 (own_ld 7) = [127, 23, 105, 1, 126, 22, 104, 0] := by decide +kernel
theorem own_k7_0 : ∀ z, z ∈ ([127, 23, 105, 1, 126, 22, 104, 0] : List Int32) → own_chk (Int32.ofNat 7) 3 7 127 [0, 1, 1, 3, 1, 3, 3, 0, 0, 0, 0, 0, 0, 0, 0, 0, 0, 0, 0, 0, 0, 0, 0, 0, 0, 0, 0, 0, 0, 0, 0, 0] [3, 11, 11, 13, 11, 13, 13, 0, 0, 0, 0, 0, 0, 0, 0, 0, 0, 0, 0, 0, 0, 0, 0, 0, 0, 0, 0, 0, 0, 0, 0, 0] z = some 1 := by decide +kernel
theorem own_N7 : own_Nd 7 := ⟨3, 7, 127, [0, 1, 1, 3, 1, 3, 3, 0, 0, 0, 0, 0, 0, 0, 0, 0, 0, 0, 0, 0, 0, 0, 0, 0, 0, 0, 0, 0, 0, 0, 0, 0], [3, 11, 11, 13, 11, 13, 13, 0, 0, 0, 0, 0, 0, 0, 0, 0, 0, 0, 0, 0, 0, 0, 0, 0, 0, 0, 0, 0, 0, 0, 0, 0], by decide +kernel, fun z hz => by
  rw [own_al7] at hz
  exact own_k7_0 z hz⟩
theorem own_al9 : own_all 9 (own_ld 9) = [511, 439, 73, 1, 510, 438, 72, 0] := by decide +kernel
theorem own_k9_0 : ∀ z, z ∈ ([511, 439, 73, 1, 510, 438, 72, 0] : List Int32) → own_chk (Int32.ofNat 9) 6 63 511 [0, 1, 1, 3, 1, 1, 3, 1, 1, 0, 0, 0, 0, 0, 0, 0, 0, 0, 0, 0, 0, 0, 0, 0, 0, 0, 0, 0, 0, 0, 0, 0] [3, 73, 73, 7, 73, 73, 7, 73, 73, 0, 0, 0, 0, 0, 0, 0, 0, 0, 0, 0, 0, 0, 0, 0, 0, 0, 0, 0, 0, 0, 0, 0] z = some 1 := by decide +kernel
theorem own_N9 : own_Nd 9 := ⟨6, 63, 511, [0, 1, 1, 3, 1, 1, 3, 1, 1, 0, 0, 0, 0, 0, 0, 0, 0, 0, 0, 0, 0, 0, 0, 0, 0, 0, 0, 0, 0, 0, 0, 0], [3, 73, 73, 7, 73, 73, 7, 73, 73, 0, 0, 0, 0, 0, 0, 0, 0, 0, 0, 0, 0, 0, 0, 0, 0, 0, 0, 0, 0, 0, 0, 0], by decide +kernel, fun z hz => by
  rw [own_al9] at hz
  exact own_k9_0 z hz⟩
theorem own_al15 : own_all 15 (own_ld 15) = [32767, 6015, 31711, 4959, 28087, 1335, 27031, 279] ++ ([32489, 5737, 31433, 4681, 27809, 1057, 26753, 1] ++ ([32766, 6014, 31710, 4958, 28086, 1334, 27030, 278] ++ ([32488, 5736, 31432, 4680, 27808, 1056, 26752, 0]))) := by decide +kernel
theorem own_k15_0 : ∀ z, z ∈ ([32767, 6015, 31711, 4959, 28087, 1335, 27031, 279] : List Int32) → own_chk (Int32.ofNat 15) 4 15 32767 [0, 1, 1, 3, 1, 5, 3, 7, 1, 3, 5, 7, 3, 7, 7, 0, 0, 0, 0, 0, 0, 0, 0, 0, 0, 0, 0, 0, 0, 0, 0, 0] [3, 19, 19, 31, 19, 7, 31, 25, 19, 31, 7, 25, 31, 25, 25, 0, 0, 0, 0, 0, 0, 0, 0, 0, 0, 0, 0, 0, 0, 0, 0, 0] z = some 1 := by decide +kernel
theorem own_k15_1 : ∀ z, z ∈ ([32489, 5737, 31433, 4681, 27809, 1057, 26753, 1] : List Int32) → own_chk (Int32.ofNat 15) 4 15 32767 [0, 1, 1, 3, 1, 5, 3, 7, 1, 3, 5, 7, 3, 7, 7, 0, 0, 0, 0, 0, 0, 0, 0, 0, 0, 0, 0, 0, 0, 0, 0, 0] [3, 19, 19, 31, 19, 7, 31, 25, 19, 31, 7, 25, 31, 25, 25, 0, 0, 0, 0, 0, 0, 0, 0, 0, 0, 0, 0, 0, 0, 0, 0, 0] z = some 1 := by decide +kernel
theorem own_k15_2 : ∀ z, z ∈ ([32766, 6014, 31710, 4958, 28086, 1334, 27030, 278] : List Int32) → own_chk (Int32.ofNat 15) 4 15 32767 [0, 1, 1, 3, 1, 5, 3, 7, 1, 3, 5, 7, 3, 7, 7, 0, 0, 0, 0, 0, 0, 0, 0, 0, 0, 0, 0, 0, 0, 0, 0, 0] [3, 19, 19, 31, 19, 7, 31, 25, 19, 31, 7, 25, 31, 25, 25, 0, 0, 0, 0, 0, 0, 0, 0, 0, 0, 0, 0, 0, 0, 0, 0, 0] z = some 1 := by decide +kernel
theorem own_k15_3 : ∀ z, z ∈ ([32488, 5736, 31432, 4680, 27808, 1056, 26752, 0] : List Int32) → own_chk (Int32.ofNat 15) 4 15 32767 [0, 1, 1, 3, 1, 5, 3, 7, 1, 3, 5, 7, 3, 7, 7, 0, 0, 0, 0, 0, 0, 0, 0, 0, 0, 0, 0, 0, 0, 0, 0, 0] [3, 19, 19, 31, 19, 7, 31, 25, 19, 31, 7, 25, 31, 25, 25, 0, 0, 0, 0, 0, 0, 0, 0, 0, 0, 0, 0, 0, 0, 0, 0, 0] z = some 1 := by decide +kernel
theorem own_N15 : own_Nd 15 := ⟨4, 15, 32767, [0, 1, 1, 3, 1, 5, 3, 7, 1, 3, 5, 7, 3, 7, 7, 0, 0, 0, 0, 0, 0, 0, 0, 0, 0, 0, 0, 0, 0, 0, 0, 0], [3, 19, 19, 31, 19, 7, 31, 25, 19, 31, 7, 25, 31, 25, 25, 0, 0, 0, 0, 0, 0, 0, 0, 0, 0, 0, 0, 0, 0, 0, 0, 0], by decide +kernel, fun z hz => by
  rw [own_al15] at hz
  rcases List.mem_append.mp hz with h | hz
  · exact own_k15_0 z h
  rcases List.mem_append.mp hz with h | hz
  · exact own_k15_1 z h
  rcases List.mem_append.mp hz with h | hz
  · exact own_k15_2 z h
  exact own_k15_3 z hz⟩
theorem own_al17 : own_all 17 (own_ld 17) = [131071, 107287, 23785, 1, 131070, 107286, 23784, 0] := by decide +kernel
theorem own_k17_0 : ∀ z, z ∈ ([131071, 107287, 23785, 1, 131070, 107286, 23784, 0] : List Int32) → own_chk (Int32.ofNat 17) 8 255 131071 [0, 1, 1, 3, 1, 3, 3, 3, 1, 1, 3, 3, 3, 1, 3, 1, 1, 0, 0, 0, 0, 0, 0, 0, 0, 0, 0, 0, 0, 0, 0, 0] [3, 471, 471, 313, 471, 313, 313, 313, 471, 471, 313, 313, 313, 471, 313, 471, 471, 0, 0, 0, 0, 0, 0, 0, 0, 0, 0, 0, 0, 0, 0, 0] z = some 1 := by decide +kernel
theorem own_N17 : own_Nd 17 := ⟨8, 255, 131071, [0, 1, 1, 3, 1, 3, 3, 3, 1, 1, 3, 3, 3, 1, 3, 1, 1, 0, 0, 0, 0, 0, 0, 0, 0, 0, 0, 0, 0, 0, 0, 0], [3, 471, 471, 313, 471, 313, 313, 313, 471, 471, 313, 313, 313, 471, 313, 471, 471, 0, 0, 0, 0, 0, 0, 0, 0, 0, 0, 0, 0, 0, 0, 0], by decide +kernel, fun z hz => by
  rw [own_al17] at hz
  exact own_k17_0 z hz⟩
theorem own_al21 : own_all 21 (own_ld 21) = [2097151, 1801727, 2080639, 1785215, 383967, 88543, 367455, 72031] ++ ([2092983, 1797559, 2076471, 1781047, 379799, 84375, 363287, 67863] ++ ([2029289, 1733865, 2012777, 1717353, 316105, 20681, 299593, 4169] ++ ([2025121, 1729697, 2008609, 1713185, 311937, 16513, 295425, 1] ++ ([2097150, 1801726, 2080638, 1785214, 383966, 88542, 367454, 72030] ++ ([2092982, 1797558, 2076470, 1781046, 379798, 84374, 363286, 67862] ++ ([2029288, 1733864, 2012776, 1717352, 316104, 20680, 299592, 4168] ++ ([2025120, 1729696, 2008608, 1713184, 311936, 16512, 295424, 0]))))))) := by decide +kernel
theorem own_k21_0 : ∀ z, z ∈ ([2097151, 1801727, 2080639, 1785215, 383967, 88543, 367455, 72031] : List Int32) → own_chk (Int32.ofNat 21) 6 63 2097151 [0, 1, 1, 3, 1, 5, 3, 7, 1, 9, 5, 1, 3, 5, 7, 9, 1, 5, 9, 5, 5, 0, 0, 0, 0, 0, 0, 0, 0, 0, 0, 0] [3, 87, 87, 13, 87, 117, 13, 7, 87, 11, 117, 87, 13, 117, 7, 11, 87, 117, 11, 117, 117, 0, 0, 0, 0, 0, 0, 0, 0, 0, 0, 0] z = some 1 := by decide +kernel
theorem own_k21_1 : ∀ z, z ∈ ([2092983, 1797559, 2076471, 1781047, 379799, 84375, 363287, 67863] : List Int32) → own_chk (Int32.ofNat 21) 6 63 2097151 [0, 1, 1, 3, 1, 5, 3, 7, 1, 9, 5, 1, 3, 5, 7, 9, 1, 5, 9, 5, 5, 0, 0, 0, 0, 0, 0, 0, 0, 0, 0, 0] [3, 87, 87, 13, 87, 117, 13, 7, 87, 11, 117, 87, 13, 117, 7, 11, 87, 117, 11, 117, 117, 0, 0, 0, 0, 0, 0, 0, 0, 0, 0, 0] z = some 1 := by decide +kernel
theorem own_k21_2 : ∀ z, z ∈ ([2029289, 1733865, 2012777, 1717353, 316105, 20681, 299593, 4169] : List Int32) → own_chk (Int32.ofNat 21) 6 63 2097151 [0, 1, 1, 3, 1, 5, 3, 7, 1, 9, 5, 1, 3, 5, 7, 9, 1, 5, 9, 5, 5, 0, 0, 0, 0, 0, 0, 0, 0, 0, 0, 0] [3, 87, 87, 13, 87, 117, 13, 7, 87, 11, 117, 87, 13, 117, 7, 11, 87, 117, 11, 117, 117, 0, 0, 0, 0, 0, 0, 0, 0, 0, 0, 0] z = some 1 := by decide +kernel
theorem own_k21_3 : ∀ z, z ∈ ([2025121, 1729697, 2008609, 1713185, 311937, 16513, 295425, 1] : List Int32) → own_chk (Int32.ofNat 21) 6 63 2097151 [0, 1, 1, 3, 1, 5, 3, 7, 1, 9, 5, 1, 3, 5, 7, 9, 1, 5, 9, 5, 5, 0, 0, 0, 0, 0, 0, 0, 0, 0, 0, 0] [3, 87, 87, 13, 87, 117, 13, 7, 87, 11, 117, 87, 13, 117, 7, 11, 87, 117, 11, 117, 117, 0, 0, 0, 0, 0, 0, 0, 0, 0, 0, 0] z = some 1 := by decide +kernel
theorem own_k21_4 : ∀ z, z ∈ ([2097150, 1801726, 2080638, 1785214, 383966, 88542, 367454, 72030] : List Int32) → own_chk (Int32.ofNat 21) 6 63 2097151 [0, 1, 1, 3, 1, 5, 3, 7, 1, 9, 5, 1, 3, 5, 7, 9, 1, 5, 9, 5, 5, 0, 0, 0, 0, 0, 0, 0, 0, 0, 0, 0] [3, 87, 87, 13, 87, 117, 13, 7, 87, 11, 117, 87, 13, 117, 7, 11, 87, 117, 11, 117, 117, 0, 0, 0, 0, 0, 0, 0, 0, 0, 0, 0] z = some 1 := by decide +kernel
theorem own_k21_5 : ∀ z, z ∈ ([2092982, 1797558, 2076470, 1781046, 379798, 84374, 363286, 67862] : List Int32) → own_chk (Int32.ofNat 21) 6 63 2097151 [0, 1, 1, 3, 1, 5, 3, 7, 1, 9, 5, 1, 3, 5, 7, 9, 1, 5, 9, 5, 5, 0, 0, 0, 0, 0, 0, 0, 0, 0, 0, 0] [3, 87, 87, 13, 87, 117, 13, 7, 87, 11, 117, 87, 13, 117, 7, 11, 87, 117, 11, 117, 117, 0, 0, 0, 0, 0, 0, 0, 0, 0, 0, 0] z = some 1 := by decide +kernel
theorem own_k21_6 : ∀ z, z ∈ ([2029288, 1733864, 2012776, 1717352, 316104, 20680, 299592, 4168] : List Int32) → own_chk (Int32.ofNat 21) 6 63 2097151 [0, 1, 1, 3, 1, 5, 3, 7, 1, 9, 5, 1, 3, 5, 7, 9, 1, 5, 9, 5, 5, 0, 0, 0, 0, 0, 0, 0, 0, 0, 0, 0] [3, 87, 87, 13, 87, 117, 13, 7, 87, 11, 117, 87, 13, 117, 7, 11, 87, 117, 11, 117, 117, 0, 0, 0, 0, 0, 0, 0, 0, 0, 0, 0] z = some 1 := by decide +kernel
theorem own_k21_7 : ∀ z, z ∈ ([2025120, 1729696, 2008608, 1713184, 311936, 16512, 295424, 0] : List Int32) → own_chk (Int32.ofNat 21) 6 63 2097151 [0, 1, 1, 3, 1, 5, 3, 7, 1, 9, 5, 1, 3, 5, 7, 9, 1, 5, 9, 5, 5, 0, 0, 0, 0, 0, 0, 0, 0, 0, 0, 0] [3, 87, 87, 13, 87, 117, 13, 7, 87, 11, 117, 87, 13, 117, 7, 11, 87, 117, 11, 117, 117, 0, 0, 0, 0, 0, 0, 0, 0, 0, 0, 0] z = some 1 := by decide +kernel
theorem own_N21 : own_Nd 21 := ⟨6, 63, 2097151, [0, 1, 1, 3, 1, 5, 3, 7, 1, 9, 5, 1, 3, 5, 7, 9, 1, 5, 9, 5, 5, 0, 0, 0, 0, 0, 0, 0, 0, 0, 0, 0], [3, 87, 87, 13, 87, 117, 13, 7, 87, 11, 117, 87, 13, 117, 7, 11, 87, 117, 11, 117, 117, 0, 0, 0, 0, 0, 0, 0, 0, 0, 0, 0], by decide +kernel, fun z hz => by
  rw [own_al21] at hz
  rcases List.mem_append.mp hz with h | hz
  · exact own_k21_0 z h
  rcases List.mem_append.mp hz with h | hz
  · exact own_k21_1 z h
  rcases List.mem_append.mp hz with h | hz
  · exact own_k21_2 z h
  rcases List.mem_append.mp hz with h | hz
  · exact own_k21_3 z h
  rcases List.mem_append.mp hz with h | hz
  · exact own_k21_4 z h
  rcases List.mem_append.mp hz with h | hz
  · exact own_k21_5 z h
  rcases List.mem_append.mp hz with h | hz
  · exact own_k21_6 z h
  exact own_k21_7 z hz⟩
theorem own_al31 : own_all 31 (own_ld 31) = [2147483647, 394231807, 2074073087, 320821247, 1844952959, 91701119, 1771542399, 18290559] ++ ([2146171359, 392919519, 2072760799, 319508959, 1843640671, 90388831, 1770230111, 16978271] ++ ([2130571191, 377319351, 2057160631, 303908791, 1828040503, 74788663, 1754629943, 1378103] ++ ([2129258903, 376007063, 2055848343, 302596503, 1826728215, 73476375, 1753317655, 65815] ++ ([2147417833, 394165993, 2074007273, 320755433, 1844887145, 91635305, 1771476585, 18224745] ++ ([2146105545, 392853705, 2072694985, 319443145, 1843574857, 90323017, 1770164297, 16912457] ++ ([2130505377, 377253537, 2057094817, 303842977, 1827974689, 74722849, 1754564129, 1312289] ++ ([2129193089, 375941249, 2055782529, 302530689, 1826662401, 73410561, 1753251841, 1] ++ ([2147483646, 394231806, 2074073086, 320821246, 1844952958, 91701118, 1771542398, 18290558] ++ ([2146171358, 392919518, 2072760798, 319508958, 1843640670, 90388830, 1770230110, 16978270] ++ ([2130571190, 377319350, 2057160630, 303908790, 1828040502, 74788662, 1754629942, 1378102] ++ ([2129258902, 376007062, 2055848342, 302596502, 1826728214, 73476374, 1753317654, 65814] ++ ([2147417832, 394165992, 2074007272, 320755432, 1844887144, 91635304, 1771476584, 18224744] ++ ([2146105544, 392853704, 2072694984, 319443144, 1843574856, 90323016, 1770164296, 16912456] ++ ([2130505376, 377253536, 2057094816, 303842976, 1827974688, 74722848, 1754564128, 1312288] ++ ([2129193088, 375941248, 2055782528, 302530688, 1826662400, 73410560, 1753251840, 0]))))))))))))))) := by decide +kernel
theorem own_k31_0 : ∀ z, z ∈ ([2147483647, 394231807, 2074073087, 320821247, 1844952959, 91701119, 1771542399, 18290559] : List Int32) → own_chk (Int32.ofNat 31) 5 31 2147483647 [0, 1, 1, 3, 1, 5, 3, 7, 1, 5, 5, 11, 3, 11, 7, 15, 1, 3, 5, 7, 5, 11, 11, 15, 3, 7, 11, 15, 7, 15, 15, 0] [3, 37, 37, 61, 37, 55, 61, 47, 37, 55, 55, 59, 61, 59, 47, 41, 37, 61, 55, 47, 55, 59, 59, 41, 61, 47, 59, 41, 47, 41, 41, 0] z = some 1 := by decide +kernel
theorem own_k31_1 : ∀ z, z ∈ ([2146171359, 392919519, 2072760799, 319508959, 1843640671, 90388831, 1770230111, 16978271] : List Int32) → own_chk (Int32.ofNat 31) 5 31 2147483647 [0, 1, 1, 3, 1, 5, 3, 7, 1, 5, 5, 11, 3, 11, 7, 15, 1, 3, 5, 7, 5, 11, 11, 15, 3, 7, 11, 15, 7, 15, 15, 0] [3, 37, 37, 61, 37, 55, 61, 47, 37, 55, 55, 59, 61, 59, 47, 41, 37, 61, 55, 47, 55, 59, 59, 41, 61, 47, 59, 41, 47, 41, 41, 0] z = some 1 := by decide +kernel
theorem own_k31_2 : ∀ z, z ∈ ([2130571191, 377319351, 2057160631, 303908791, 1828040503, 74788663, 1754629943, 1378103] : List Int32) → own_chk (Int32.ofNat 31) 5 31 2147483647 [0, 1, 1, 3, 1, 5, 3, 7, 1, 5, 5, 11, 3, 11, 7, 15, 1, 3, 5, 7, 5, 11, 11, 15, 3, 7, 11, 15, 7, 15, 15, 0] [3, 37, 37, 61, 37, 55, 61, 47, 37, 55, 55, 59, 61, 59, 47, 41, 37, 61, 55, 47, 55, 59, 59, 41, 61, 47, 59, 41, 47, 41, 41, 0] z = some 1 := by decide +kernel
theorem own_k31_3 : ∀ z, z ∈ ([2129258903, 376007063, 2055848343, 302596503, 1826728215, 73476375, 1753317655, 65815] : List Int32) → own_chk (Int32.ofNat 31) 5 31 2147483647 [0, 1, 1, 3, 1, 5, 3, 7, 1, 5, 5, 11, 3, 11, 7, 15, 1, 3, 5, 7, 5, 11, 11, 15, 3, 7, 11, 15, 7, 15, 15, 0] [3, 37, 37, 61, 37, 55, 61, 47, 37, 55, 55, 59, 61, 59, 47, 41, 37, 61, 55, 47, 55, 59, 59, 41, 61, 47, 59, 41, 47, 41, 41, 0] z = some 1 := by decide +kernel
theorem own_k31_4 : ∀ z, z ∈ ([2147417833, 394165993, 2074007273, 320755433, 1844887145, 91635305, 1771476585, 18224745] : List Int32) → own_chk (Int32.ofNat 31) 5 31 2147483647 [0, 1, 1, 3, 1, 5, 3, 7, 1, 5, 5, 11, 3, 11, 7, 15, 1, 3, 5, 7, 5, 11, 11, 15, 3, 7, 11, 15, 7, 15, 15, 0] [3, 37, 37, 61, 37, 55, 61, 47, 37, 55, 55, 59, 61, 59, 47, 41, 37, 61, 55, 47, 55, 59, 59, 41, 61, 47, 59, 41, 47, 41, 41, 0] z = some 1 := by decide +kernel
theorem own_k31_5 : ∀ z, z ∈ ([2146105545, 392853705, 2072694985, 319443145, 1843574857, 90323017, 1770164297, 16912457] : List Int32) → own_chk (Int32.ofNat 31) 5 31 2147483647 [0, 1, 1, 3, 1, 5, 3, 7, 1, 5, 5, 11, 3, 11, 7, 15, 1, 3, 5, 7, 5, 11, 11, 15, 3, 7, 11, 15, 7, 15, 15, 0] [3, 37, 37, 61, 37, 55, 61, 47, 37, 55, 55, 59, 61, 59, 47, 41, 37, 61, 55, 47, 55, 59, 59, 41, 61, 47, 59, 41, 47, 41, 41, 0] z = some 1 := by decide +kernel
theorem own_k31_6 : ∀ z, z ∈ ([2130505377, 377253537, 2057094817, 303842977, 1827974689, 74722849, 1754564129, 1312289] : List Int32) → own_chk (Int32.ofNat 31) 5 31 2147483647 [0, 1, 1, 3, 1, 5, 3, 7, 1, 5, 5, 11, 3, 11, 7, 15, 1, 3, 5, 7, 5, 11, 11, 15, 3, 7, 11, 15, 7, 15, 15, 0] [3, 37, 37, 61, 37, 55, 61, 47, 37, 55, 55, 59, 61, 59, 47, 41, 37, 61, 55, 47, 55, 59, 59, 41, 61, 47, 59, 41, 47, 41, 41, 0] z = some 1 := by decide +kernel
theorem own_k31_7 : ∀ z, z ∈ ([2129193089, 375941249, 2055782529, 302530689, 1826662401, 73410561, 1753251841, 1] : List Int32) → own_chk (Int32.ofNat 31) 5 31 2147483647 [0, 1, 1, 3, 1, 5, 3, 7, 1, 5, 5, 11, 3, 11, 7, 15, 1, 3, 5, 7, 5, 11, 11, 15, 3, 7, 11, 15, 7, 15, 15, 0] [3, 37, 37, 61, 37, 55, 61, 47, 37, 55, 55, 59, 61, 59, 47, 41, 37, 61, 55, 47, 55, 59, 59, 41, 61, 47, 59, 41, 47, 41, 41, 0] z = some 1 := by decide +kernel
theorem own_k31_8 : ∀ z, z ∈ ([2147483646, 394231806, 2074073086, 320821246, 1844952958, 91701118, 1771542398, 18290558] : List Int32) → own_chk (Int32.ofNat 31) 5 31 2147483647 [0, 1, 1, 3, 1, 5, 3, 7, 1, 5, 5, 11, 3, 11, 7, 15, 1, 3, 5, 7, 5, 11, 11, 15, 3, 7, 11, 15, 7, 15, 15, 0] [3, 37, 37, 61, 37, 55, 61, 47, 37, 55, 55, 59, 61, 59, 47, 41, 37, 61, 55, 47, 55, 59, 59, 41, 61, 47, 59, 41, 47, 41, 41, 0] z = some 1 := by decide +kernel
theorem own_k31_9 : ∀ z, z ∈ ([2146171358, 392919518, 2072760798, 319508958, 1843640670, 90388830, 1770230110, 16978270] : List Int32) → own_chk (Int32.ofNat 31) 5 31 2147483647 [0, 1, 1, 3, 1, 5, 3, 7, 1, 5, 5, 11, 3, 11, 7, 15, 1, 3, 5, 7, 5, 11, 11, 15, 3, 7, 11, 15, 7, 15, 15, 0] [3, 37, 37, 61, 37, 55, 61, 47, 37, 55, 55, 59, 61, 59, 47, 41, 37, 61, 55, 47, 55, 59, 59, 41, 61, 47, 59, 41, 47, 41, 41, 0] z = some 1 := by decide +kernel
theorem own_k31_10 : ∀ z, z ∈ ([2130571190, 377319350, 2057160630, 303908790, 1828040502, 74788662, 1754629942, 1378102] : List Int32) → own_chk (Int32.ofNat 31) 5 31 2147483647 [0, 1, 1, 3, 1, 5, 3, 7, 1, 5, 5, 11, 3, 11, 7, 15, 1, 3, 5, 7, 5, 11, 11, 15, 3, 7, 11, 15, 7, 15, 15, 0] [3, 37, 37, 61, 37, 55, 61, 47, 37, 55, 55, 59, 61, 59, 47, 41, 37, 61, 55, 47, 55, 59, 59, 41, 61, 47, 59, 41, 47, 41, 41, 0] z = some 1 := by decide +kernel
theorem own_k31_11 : ∀ z, z ∈ ([2129258902, 376007062, 2055848342, 302596502, 1826728214, 73476374, 1753317654, 65814] : List Int32) → own_chk (Int32.ofNat 31) 5 31 2147483647 [0, 1, 1, 3, 1, 5, 3, 7, 1, 5, 5, 11, 3, 11, 7, 15, 1, 3, 5, 7, 5, 11, 11, 15, 3, 7, 11, 15, 7, 15, 15, 0] [3, 37, 37, 61, 37, 55, 61, 47, 37, 55, 55, 59, 61, 59, 47, 41, 37, 61, 55, 47, 55, 59, 59, 41, 61, 47, 59, 41, 47, 41, 41, 0] z = some 1 := by decide +kernel
theorem own_k31_12 : ∀ z, z ∈ ([2147417832, 394165992, 2074007272, 320755432, 1844887144, 91635304, 1771476584, 18224744] : List Int32) → own_chk (Int32.ofNat 31) 5 31 2147483647 [0, 1, 1, 3, 1, 5, 3, 7, 1, 5, 5, 11, 3, 11, 7, 15, 1, 3, 5, 7, 5, 11, 11, 15, 3, 7, 11, 15, 7, 15, 15, 0] [3, 37, 37, 61, 37, 55, 61, 47, 37, 55, 55, 59, 61, 59, 47, 41, 37, 61, 55, 47, 55, 59, 59, 41, 61, 47, 59, 41, 47, 41, 41, 0] z = some 1 := by decide +kernel
theorem own_k31_13 : ∀ z, z ∈ ([2146105544, 392853704, 2072694984, 319443144, 1843574856, 90323016, 1770164296, 16912456] : List Int32) → own_chk (Int32.ofNat 31) 5 31 2147483647 [0, 1, 1, 3, 1, 5, 3, 7, 1, 5, 5, 11, 3, 11, 7, 15, 1, 3, 5, 7, 5, 11, 11, 15, 3, 7, 11, 15, 7, 15, 15, 0] [3, 37, 37, 61, 37, 55, 61, 47, 37, 55, 55, 59, 61, 59, 47, 41, 37, 61, 55, 47, 55, 59, 59, 41, 61, 47, 59, 41, 47, 41, 41, 0] z = some 1 := by decide +kernel
theorem own_k31_14 : ∀ z, z ∈ ([2130505376, 377253536, 2057094816, 303842976, 1827974688, 74722848, 1754564128, 1312288] : List Int32) → own_chk (Int32.ofNat 31) 5 31 2147483647 [0, 1, 1, 3, 1, 5, 3, 7, 1, 5, 5, 11, 3, 11, 7, 15, 1, 3, 5, 7, 5, 11, 11, 15, 3, 7, 11, 15, 7, 15, 15, 0] [3, 37, 37, 61, 37, 55, 61, 47, 37, 55, 55, 59, 61, 59, 47, 41, 37, 61, 55, 47, 55, 59, 59, 41, 61, 47, 59, 41, 47, 41, 41, 0] z = some 1 := by decide +kernel
theorem own_k31_15 : ∀ z, z ∈ ([2129193088, 375941248, 2055782528, 302530688, 1826662400, 73410560, 1753251840, 0] : List Int32) → own_chk (Int32.ofNat 31) 5 31 2147483647 [0, 1, 1, 3, 1, 5, 3, 7, 1, 5, 5, 11, 3, 11, 7, 15, 1, 3, 5, 7, 5, 11, 11, 15, 3, 7, 11, 15, 7, 15, 15, 0] [3, 37, 37, 61, 37, 55, 61, 47, 37, 55, 55, 59, 61, 59, 47, 41, 37, 61, 55, 47, 55, 59, 59, 41, 61, 47, 59, 41, 47, 41, 41, 0] z = some 1 := by decide +kernel
theorem own_N31 : own_Nd 31 := ⟨5, 31, 2147483647, [0, 1, 1, 3, 1, 5, 3, 7, 1, 5, 5, 11, 3, 11, 7, 15, 1, 3, 5, 7, 5, 11, 11, 15, 3, 7, 11, 15, 7, 15, 15, 0], [3, 37, 37, 61, 37, 55, 61, 47, 37, 55, 55, 59, 61, 59, 47, 41, 37, 61, 55, 47, 55, 59, 59, 41, 61, 47, 59, 41, 47, 41, 41, 0], by decide +kernel, fun z hz => by
  rw [own_al31] at hz
  rcases List.mem_append.mp hz with h | hz
  · exact own_k31_0 z h
  rcases List.mem_append.mp hz with h | hz
  · exact own_k31_1 z h
  rcases List.mem_append.mp hz with h | hz
  · exact own_k31_2 z h
  rcases List.mem_append.mp hz with h | hz
  · exact own_k31_3 z h
  rcases List.mem_append.mp hz with h | hz
  · exact own_k31_4 z h
  rcases List.mem_append.mp hz with h | hz
  · exact own_k31_5 z h
  rcases List.mem_append.mp hz with h | hz
  · exact own_k31_6 z h
  rcases List.mem_append.mp hz with h | hz
  · exact own_k31_7 z h
  rcases List.mem_append.mp hz with h | hz
  · exact own_k31_8 z h
  rcases List.mem_append.mp hz with h | hz
  · exact own_k31_9 z h
  rcases List.mem_append.mp hz with h | hz
  · exact own_k31_10 z h
  rcases List.mem_append.mp hz with h | hz
  · exact own_k31_11 z h
  rcases List.mem_append.mp hz with h | hz
  · exact own_k31_12 z h
  rcases List.mem_append.mp hz with h | hz
  · exact own_k31_13 z h
  rcases List.mem_append.mp hz with h | hz
  · exact own_k31_14 z h
  exact own_k31_15 z hz⟩
theorem own_Nds : ∀ N, N ∈ [3, 5, 7, 9, 15, 17, 21, 31] → own_Nd N := fun N h => by
  rcases List.mem_cons.mp h with rfl | h
  · exact own_N3
  rcases List.mem_cons.mp h with rfl | h
  · exact own_N5
  rcases List.mem_cons.mp h with rfl | h
  · exact own_N7
  rcases List.mem_cons.mp h with rfl | h
  · exact own_N9
  rcases List.mem_cons.mp h with rfl | h
  · exact own_N15
  rcases List.mem_cons.mp h with rfl | h
  · exact own_N17
  rcases List.mem_cons.mp h with rfl | h
  · exact own_N21
  rcases List.mem_cons.mp h with rfl | h
  · exact own_N31
  cases h

theorem own_st0 : own_Ln st0 := fun j hj => by
  rcases (by omega : j = 0 ∨ j = 1 ∨ j = 2 ∨ j = 3 ∨ j = 4 ∨ j = 5) with rfl | rfl | rfl | rfl | rfl | rfl <;> exact List.length_replicate
abbrev own_L8 : List Nat := [3, 5, 7, 9, 15, 17, 21, 31]
theorem own_l8 : ∀ N : Fin 32, f_degreeFor (Int32.ofNat N.val) st0 ≠ some 0 → N.val ∈ own_L8 := by decide +kernel
/-- closed under the cosets, below N -/
def own_Cl (N : Nat) (Z : Int32) : Prop := (∀ q, q < 32 → own_bit Z q = true → q < N) ∧ (∀ i, i < N → own_bit Z i = true → ∀ q, q < 32 → own_bit (own_mask N i) q = true → own_bit Z q = true)
theorem own_Cl0 (N : Nat) : own_Cl N 0 := by
  have z : ∀ q, own_bit 0 q = false := fun q => by
    unfold own_bit
    show (0#32).getLsbD q = false
    exact BitVec.getLsbD_zero
  exact ⟨(fun q _ h => by rw [z q] at h; cases h), (fun i _ h => by rw [z i] at h; cases h)⟩
theorem own_ClO {N : Nat} (h8 : N ∈ own_L8) (h31 : N ≤ 31) {Z : Int32} (h : own_Cl N Z) (j : Nat) (hj : j < N) : own_Cl N (Z ||| own_mask N j) := by
  refine ⟨fun q hq hb => ?_, fun i hi hb q hq hm => ?_⟩
  · rw [own_bit_or, Bool.or_eq_true] at hb
    rcases hb with hb | hb
    · exact h.1 q hq hb
    · exact own_mk_lt h8 hj h31 q hq hb
  · rw [own_bit_or, Bool.or_eq_true] at hb ⊢
    rcases hb with hb | hb
    · exact Or.inl (h.2 i hi hb q hq hm)
    · exact Or.inr (own_mk_cl h8 hi hj h31 hb q hq hm)
abbrev own_H (N M : Nat) (s : St) : Prop := own_G N M s ∧ N ∈ own_L8 ∧ (∀ q, q < N → (gA s 2)[q]? = some (own_mask N q)) ∧ own_Cl N (gI s 4) ∧ own_Zf N M s (gI s 4) s ∧ 0 ≤ (gI s 6).toInt
theorem own_Zf.p6 {N M : Nat} {s t : St} {z : Int32} (h : own_Zf N M s z t) : 0 ≤ (gI t 6).toInt := by
  obtain ⟨u, -, -, D, e⟩ := h
  exact (own_refP (e D (Nat.le_refl _))).2
/-- with other zeros -/
theorem own_Hz {N M : Nat} {s t : St} (h : own_H N M s) {z : Int32} (hz : own_Zf N M s z t) (hc : own_Cl N z) : own_H N M t := by
  obtain ⟨g, h8, hm, -, -, -⟩ := h
  have q := hz.q (by have := g.1; omega) g.2.1
  refine ⟨g.zf hz, h8, fun i hi => ?_, by rw [q.2]; exact hc, ?_, hz.p6⟩
  · rw [q.1.ar 2 (by decide)]; exact hm i hi
  · rw [q.2]; exact hz.base q.1.symm
theorem own_confG (p : Int32) {s : St} (hl : own_Ln s) : (∀ n, f_configure n p s = some (0, s)) ∨ ∃ N M a, Ev (fun n => f_configure n p s) (1, a) ∧ p = Int32.ofNat N ∧ own_H N M a ∧ gI a 4 = 0 := by
  rcases own_conf p hl hl with h0 | ⟨N, M, n1, n2, m1, m2, ep, ⟨a, b, ea, eb, a1, b1, za, zb⟩⟩
  · exact Or.inl fun n => (h0 n).1
  right
  have hab := Ev.uniq ea eb
  subst hab
  obtain ⟨a0, a⟩ := a
  have a1 : a0 = 1 := a1
  subst a1
  have z4 : gI a 4 = 0 := (za.q (by omega) n2).2
  obtain ⟨D, hD⟩ := ea
  have hD0 : f_configure D p s = some (1, a) := hD D (Nat.le_refl _)
  refine ⟨N, M, a, ⟨D, hD⟩, ep, ⟨⟨n1, n2, m1, m2, ⟨0, za⟩, fun u hu => ?_⟩, ?_, ?_, ?_, ?_, za.p6⟩, z4⟩
  · rcases own_conf p hl hu with h0 | ⟨N2, M2, -, n4, -, m4, ep2, ⟨a', c, ea', ec, -, c1, -, zc⟩⟩
    · have := Ev.uniq (Ev.congr (fun n => (h0 n).1) (Ev.const rfl)) ⟨D, hD⟩
      exact absurd (congrArg Prod.fst this) (show ¬ (0 : Int32) = 1 by decide)
    · have e1 : N2 = N := (ofN_eq (by omega) (by omega)).mp (ep2.symm.trans ep)
      subst e1
      have e2 := Ev.uniq ea' ⟨D, hD⟩
      subst e2
      have e3 : M2 = M := by
        have w1 := (zc.q (by omega) n4).1.i2.1
        have w2 := (zb.q (by omega) n2).1.i2.1
        exact (ofN_eq (by omega) (by omega)).mp (w1.symm.trans w2)
      subst e3
      obtain ⟨c0, c2⟩ := c
      have c1 : c0 = 1 := c1
      subst c1
      exact ⟨c2, by rw [← ep]; exact ec, zc⟩
  · refine own_l8 ⟨N, by omega⟩ fun q => ?_
    have q : f_degreeFor p s = some 0 := by rw [ep]; exact q
    unfold f_configure at hD0
    rw [q] at hD0
    exact absurd (congrArg Prod.fst (Option.some.inj hD0)) (show ¬ (0 : Int32) = 1 by decide)
  · rw [ep] at hD0
    exact own_confP n2 hD0 rfl
  · rw [z4]; exact own_Cl0 N
  · rw [z4]; exact za
theorem own_HLn {N M : Nat} {s : St} (h : own_H N M s) : own_Ln s := (h.1.self).1
theorem own_setL1 {N M : Nat} {s : St} (h : own_H N M s) (p : Int32) : ∃ r, Ev (fun n => f_setLength n p s) r ∧ ∃ N' M', own_H N' M' r.2 := by
  unfold f_setLength
  rcases own_confG p (own_HLn h) with h0 | ⟨N', M', a, ea, -, hH, -⟩
  · refine ⟨(0 &&& 1, s), Ev.all fun n => ?_, N, M, h⟩
    rw [h0 n]; rfl
  · exact ⟨(1 &&& 1, a), Ev.bind ea (Ev.const rfl), N', M', hH⟩
theorem own_HE {N M : Nat} {s : St} (h : own_H N M s) : own_E N M s s := ⟨h.1.self, fun _ _ => rfl⟩
theorem own_addZ1 {N M : Nat} {s : St} (h : own_H N M s) (p : Int32) : ((p < 0 ∨ ¬ p < Int32.ofNat N) ∧ ∀ n, f_addZeros n p s = some (0, s)) ∨ ∃ i s', i < N ∧ p = Int32.ofNat i ∧ Ev (fun n => f_addZeros n p s) (1, s') ∧ own_H N M s' ∧ gI s' 4 = gI s 4 ||| own_mask N i := by
  have n1 := h.1.1
  have n2 := h.1.2.1
  unfold f_addZeros
  rcases own_inR n2 h.1.self p with ⟨e1, -, e3⟩ | ⟨i, hi, ei, e1, -⟩
  · exact Or.inl ⟨e3, fun n => by rw [e1]; rfl⟩
  · right
    have rdx : rd (gA s 2) p = some (own_mask N i) := by rw [ei]; exact rd_at (by omega) (h.2.2.1 i hi)
    obtain ⟨s', es, zs⟩ := own_mkZ (by omega) n2 h.1.self (gI s 4 ||| own_mask N i)
    refine ⟨i, s', hi, ei, ?_, own_Hz h zs (own_ClO h.2.1 n2 h.2.2.2.1 i hi), (zs.q (by omega) n2).2⟩
    unfold lt
    simp only [e1, Option.bind_some, rdx, show ¬ (1 : Int32) = 0 from by decide, if_false]
    exact Ev.bind es (Ev.const rfl)
theorem own_zCl {N M : Nat} {s : St} (h : own_H N M s) (b : Nat) : ∀ j, own_Cl N (own_z s N b j)
  | 0 => own_Cl0 N
  | j + 1 => by
    have hm : (b + j) % N < N := Nat.mod_lt _ (by have := h.1.1; omega)
    have e : (gA s 2).getD ((b + j) % N) 0 = own_mask N ((b + j) % N) := by
      rw [List.getD_eq_getElem?_getD, h.2.2.1 _ hm]; rfl
    show own_Cl N (own_z s N b j ||| _)
    rw [e]
    exact own_ClO h.2.1 h.1.2.1 (own_zCl h b j) _ hm
theorem own_des1 {N M : Nat} {s : St} (h : own_H N M s) (x d : Int32) : ((x < 0 ∨ ¬ x < Int32.ofNat N ∨ d < 1 ∨ Int32.ofNat N < d) ∧ ∀ n, f_designBCH n x d s = some (0, s)) ∨ ∃ b dn s', b < N ∧ x = Int32.ofNat b ∧ 1 ≤ dn ∧ dn ≤ N ∧ d = Int32.ofNat dn ∧ Ev (fun n => f_designBCH n x d s) (1, s') ∧ own_H N M s' ∧ gI s' 4 = own_z s N b (dn - 1) := by
  have n1 := h.1.1
  have n2 := h.1.2.1
  have i0 := h.1.self.i0.1
  unfold f_designBCH f_designBCH_23
  rcases own_inR n2 h.1.self x with ⟨e1, -, e3⟩ | ⟨b, hb, eb, e1, -⟩
  · exact Or.inl ⟨by rcases e3 with e | e; exact Or.inl e; exact Or.inr (Or.inl e), fun n => by rw [e1]; rfl⟩
  simp only [e1, Option.bind_some, show ¬ (1 : Int32) = 0 from by decide, if_false, i0]
  by_cases c3 : d < 1
  · exact Or.inl ⟨Or.inr (Or.inr (Or.inl c3)), fun n => by rw [if_pos c3]⟩
  by_cases c4 : Int32.ofNat N < d
  · exact Or.inl ⟨Or.inr (Or.inr (Or.inr c4)), fun n => by rw [if_neg c3, if_pos c4]⟩
  right
  obtain ⟨dn, ed⟩ : ∃ dn : Nat, d.toInt = dn := ⟨d.toInt.toNat, by rw [x32_lt, show (1 : Int32).toInt = 1 from by decide] at c3; omega⟩
  have ed1 : d = Int32.ofNat dn := ofN_of ed
  have hd1 : 1 ≤ dn := by rw [x32_lt, show (1 : Int32).toInt = 1 from by decide] at c3; omega
  have hd2 : dn ≤ N := by rw [x32_lt, ofN_int (by omega)] at c4; omega
  subst ed1 eb
  obtain ⟨s', es, zs⟩ := own_mkZ (by omega) n2 h.1.self (own_z s N b (dn - 1))
  refine ⟨b, dn, s', hb, rfl, hd1, hd2, rfl, ?_, own_Hz h zs (own_zCl h b _), (zs.q (by omega) n2).2⟩
  simp only [if_neg c3, if_neg c4]
  exact own_dz n1 n2 h.1.self b dn hb hd1 hd2 es (dn - 1) 0 (by omega)

/-! what the check sees of a state -/
theorem own_c_pc (s t : St) : ∀ (n : Nat) (a b c : Int32), f_popcount_7 n a b c s = f_popcount_7 n a b c t
  | 0, _, _, _ => rfl
  | n + 1, a, b, c => by
    show g_popcount_7 (f_popcount_7 n) n a b c s = g_popcount_7 (f_popcount_7 n) n a b c t
    unfold g_popcount_7 f_popcount_33
    simp only [own_c_pc s t n]
theorem own_c_cl (s t : St) : ∀ (n : Nat) (a b c d : Int32), f_clmul_5 n a b c d s = f_clmul_5 n a b c d t
  | 0, _, _, _, _ => rfl
  | n + 1, a, b, c, d => by
    show g_clmul_5 (f_clmul_5 n) n a b c d s = g_clmul_5 (f_clmul_5 n) n a b c d t
    unfold g_clmul_5 f_clmul_28
    simp only [own_c_cl s t n]
theorem own_c_tz (s t : St) : ∀ (n : Nat) (a b : Int32), f_trailingZeros_2 n a b s = f_trailingZeros_2 n a b t
  | 0, _, _ => rfl
  | n + 1, a, b => by
    show g_trailingZeros_2 (f_trailingZeros_2 n) n a b s = g_trailingZeros_2 (f_trailingZeros_2 n) n a b t
    unfold g_trailingZeros_2
    simp only [own_c_tz s t n]
def own_S5 (s t : St) : Prop := (∀ j, j < 5 → gI s j = gI t j) ∧ gA s 3 = gA t 3 ∧ gA s 4 = gA t 4
theorem own_c_iz {s t : St} (h : gI s 4 = gI t 4) (a : Int32) : f_inZ a s = f_inZ a t := by
  unfold f_inZ f_inZ_16
  rw [h]
theorem own_c_cg {s t : St} (h : own_S5 s t) : ∀ (n : Nat) (a b : Int32), f_computeGenerator_4 n a b s = f_computeGenerator_4 n a b t
  | 0, _, _ => rfl
  | n + 1, a, b => by
    show g_computeGenerator_4 (f_computeGenerator_4 n) n a b s = g_computeGenerator_4 (f_computeGenerator_4 n) n a b t
    unfold g_computeGenerator_4 f_computeGenerator_42 f_clmul
    simp only [own_c_cg h n, own_c_iz (h.1 4 (by decide)), h.1 0 (by decide), h.2.1, h.2.2, own_c_cl s t]
theorem own_c_r30 {s t : St} (h : own_S5 s t) (k k' : Int32 → Int32 → St → Option Int32) (hk : ∀ a b, k a b s = k' a b t) : ∀ (n : Nat) (a b c : Int32), f_computeRunLength_30 k n a b c s = f_computeRunLength_30 k' n a b c t
  | 0, _, _, _ => rfl
  | n + 1, a, b, c => by
    show g_computeRunLength_30 k (f_computeRunLength_30 k n) n a b c s = g_computeRunLength_30 k' (f_computeRunLength_30 k' n) n a b c t
    unfold g_computeRunLength_30 f_computeRunLength_59 f_computeRunLength_66 lt
    simp only [own_c_r30 h k k' hk n, own_c_iz (h.1 4 (by decide)), h.1 0 (by decide), hk]
theorem own_c_r20 {s t : St} (h : own_S5 s t) : ∀ (n : Nat) (a b : Int32), f_computeRunLength_20 n a b s = f_computeRunLength_20 n a b t
  | 0, _, _ => rfl
  | n + 1, a, b => by
    show g_computeRunLength_20 (f_computeRunLength_20 n) n a b s = g_computeRunLength_20 (f_computeRunLength_20 n) n a b t
    unfold g_computeRunLength_20
    simp only [own_c_r30 h (f_computeRunLength_20 n) (f_computeRunLength_20 n) (own_c_r20 h n) n, h.1 0 (by decide)]
theorem own_S5.sI {s t : St} (h : own_S5 s t) (j : Nat) (hj : 5 ≤ j) (x y : Int32) : own_S5 (sI s j x) (sI t j y) := ⟨fun i hi => by rw [gI_sI, gI_sI, if_neg (by omega), if_neg (by omega)]; exact h.1 i hi, h.2.1, h.2.2⟩
theorem own_refC {s t s' t' : St} (h : own_S5 s t) {n : Nat} (e1 : f_refresh n s = some s') (e2 : f_refresh n t = some t') : ∀ j, j < 8 → gI s' j = gI t' j := by
  unfold f_refresh f_popcount f_computeGenerator f_computeRunLength lt at e1 e2
  rw [h.1 4 (by decide)] at e1
  rw [own_c_pc s t] at e1
  obtain ⟨c1, p1, e1⟩ := own_bex e1
  obtain ⟨d1, q1, e2⟩ := own_bex e2
  obtain rfl := Option.some.inj (p1.symm.trans q1)
  have h1 := h.sI 6 (by decide) c1 c1
  try dsimp only at e1 e2
  rw [own_c_cg h1] at e1
  obtain ⟨c2, p2, e1⟩ := own_bex e1
  obtain ⟨d2, q2, e2⟩ := own_bex e2
  obtain rfl := Option.some.inj (p2.symm.trans q2)
  have h2 := h1.sI 5 (by decide) c2 c2
  try dsimp only at e1 e2
  rw [own_c_r20 h2] at e1
  rw [h2.1 4 (by decide), h2.1 3 (by decide), h2.1 0 (by decide)] at e1
  obtain ⟨c3, p3, e1⟩ := own_bex e1
  obtain ⟨d3, q3, e2⟩ := own_bex e2
  obtain rfl := Option.some.inj (p3.symm.trans q3)
  try dsimp only at e1 e2
  obtain rfl := Option.some.inj e1
  obtain rfl := Option.some.inj e2
  intro j hj
  by_cases j7 : j = 7
  · subst j7; rfl
  by_cases j5 : j = 5
  · subst j5; rfl
  by_cases j6 : j = 6
  · subst j6; rfl
  have g : ∀ w : St, gI (sI (sI (sI w 6 c1) 5 c2) 7 c3) j = gI w j := fun w => by rw [gI_sI, if_neg j7, gI_sI, if_neg j5, gI_sI, if_neg j6]
  rw [g, g]
  exact h.1 j (by omega)
def own_S8 (s t : St) : Prop := ∀ j, j < 8 → gI s j = gI t j
theorem own_ldp : ∀ N ∈ [3, 5, 7, 9, 15, 17, 21, 31], (∀ l ∈ own_ld N, l < N) ∧ ∀ i : Fin 31, i.val < N → ∃ l ∈ own_ld N, ((own_tb N).getD i.val 0).testBit l = true ∧ ((own_tb N).getD l 0).testBit i.val = true := by decide +kernel
def own_un (N : Nat) (Z : Int32) : List Nat → Int32
  | [] => 0
  | l :: ls => if own_bit Z l = true then own_mask N l ||| own_un N Z ls else own_un N Z ls
theorem own_unA (N : Nat) (Z : Int32) : ∀ ls, own_un N Z ls ∈ own_all N ls
  | [] => List.mem_cons_self ..
  | l :: ls => by
    show (if own_bit Z l = true then own_mask N l ||| own_un N Z ls else own_un N Z ls) ∈ (own_all N ls).map (fun z => own_mask N l ||| z) ++ own_all N ls
    by_cases c : own_bit Z l = true
    · rw [if_pos c]
      exact List.mem_append.mpr (Or.inl (List.mem_map.mpr ⟨_, own_unA N Z ls, rfl⟩))
    · rw [if_neg c]
      exact List.mem_append.mpr (Or.inr (own_unA N Z ls))
theorem own_unB (N : Nat) (Z : Int32) (q : Nat) : ∀ ls, own_bit (own_un N Z ls) q = true ↔ ∃ l ∈ ls, own_bit Z l = true ∧ own_bit (own_mask N l) q = true
  | [] => by
    refine ⟨fun h => ?_, fun ⟨l, hl, _⟩ => by cases hl⟩
    have z : own_bit 0 q = false := by
      unfold own_bit
      show (0#32).getLsbD q = false
      exact BitVec.getLsbD_zero
    rw [show own_un N Z [] = 0 from rfl, z] at h
    cases h
  | l :: ls => by
    have ih := own_unB N Z q ls
    show own_bit (if own_bit Z l = true then own_mask N l ||| own_un N Z ls else own_un N Z ls) q = true ↔ _
    by_cases c : own_bit Z l = true
    · rw [if_pos c, own_bit_or, Bool.or_eq_true, ih]
      constructor
      · rintro (h | ⟨m, hm, h⟩)
        · exact ⟨l, List.mem_cons_self .., c, h⟩
        · exact ⟨m, List.mem_cons_of_mem _ hm, h⟩
      · rintro ⟨m, hm, h1, h2⟩
        rcases List.mem_cons.mp hm with rfl | hm
        · exact Or.inl h2
        · exact Or.inr ⟨m, hm, h1, h2⟩
    · rw [if_neg c, ih]
      constructor
      · rintro ⟨m, hm, h⟩
        exact ⟨m, List.mem_cons_of_mem _ hm, h⟩
      · rintro ⟨m, hm, h1, h2⟩
        rcases List.mem_cons.mp hm with rfl | hm
        · exact absurd h1 c
        · exact ⟨m, hm, h1, h2⟩
theorem own_ClM {N : Nat} (h8 : N ∈ own_L8) (h31 : N ≤ 31) {Z : Int32} (h : own_Cl N Z) : Z ∈ own_all N (own_ld N) := by
  have e : Z = own_un N Z (own_ld N) := own_bit_ext fun q hq => by
    have k : own_bit Z q = true ↔ own_bit (own_un N Z (own_ld N)) q = true := by
      rw [own_unB]
      obtain ⟨p1, p2⟩ := own_ldp N h8
      constructor
      · intro hz
        have qN := h.1 q hq hz
        obtain ⟨l, hl, b1, b2⟩ := p2 ⟨q, by omega⟩ qN
        have lN := p1 l hl
        refine ⟨l, hl, h.2 q qN hz l (by omega) ?_, ?_⟩
        · rw [own_tbe N h8 ⟨q, by omega⟩ qN, own_bit_of _ _ (by omega)]; exact b1
        · rw [own_tbe N h8 ⟨l, by omega⟩ lN, own_bit_of _ _ (by omega)]; exact b2
      · rintro ⟨l, hl, b1, b2⟩
        exact h.2 l (p1 l hl) b1 q hq b2
    cases h1 : own_bit Z q
    · cases h2 : own_bit (own_un N Z (own_ld N)) q
      · rfl
      · rw [k.mpr h2] at h1; cases h1
    · rw [k.mp h1]
  rw [e]
  exact own_unA N Z _

/-! what the checks give -/
theorem oy_n31 : ∀ N ∈ oy_L8, N ≤ 31 := by decide
theorem oy_ev_z {A : Nat → Nat} (h : oy_Lin A) (e : Nat) (f : Nat) : oy_ev A e f 0 = 0 := (oy_ev_lin h e f).z
theorem oy_ev_fuel {A : Nat → Nat} (h : oy_Lin A) (e : Nat) : ∀ (f x d : Nat), x < 2 ^ f → oy_ev A e (f + d) x = oy_ev A e f x
  | 0, x, d, hx => by
    have : x = 0 := by simpa using hx
    subst this
    rw [oy_ev_z h, oy_ev_z h]
  | f + 1, x, d, hx => by
    rw [show f + 1 + d = (f + d) + 1 by omega]
    show (x % 2) ^^^ oy_ap A e (oy_ev A e (f + d) (x / 2)) = (x % 2) ^^^ oy_ap A e (oy_ev A e f (x / 2))
    rw [oy_ev_fuel h e f (x / 2) d (by rw [Nat.pow_succ] at hx; omega)]
theorem oy_ev_sh {A : Nat → Nat} (h : oy_Lin A) (e f g : Nat) (hg : oy_ev A e f g = 0) : ∀ c, oy_ev A e (f + c) (g <<< c) = 0
  | 0 => by rw [Nat.shiftLeft_zero]; exact hg
  | c + 1 => by
    rw [Nat.shiftLeft_succ]
    show (2 * (g <<< c)) % 2 ^^^ oy_ap A e (oy_ev A e (f + c) (2 * (g <<< c) / 2)) = 0
    rw [Nat.mul_mod_right, Nat.mul_div_cancel_left _ (by decide), oy_ev_sh h e f g hg c, (h.ap e).z, Nat.xor_self]
abbrev oy_syn (N g dg x : Nat) : Nat := oy_pm g dg (N - dg) x
theorem oy_Cd.lt {N g dg L : Nat} (C : oy_Cd N g dg L) {x : Nat} (hx : x < 2 ^ N) : oy_syn N g dg x < 2 ^ dg := by
  rcases C.2.2 with e | ⟨g1, g2, -⟩
  · subst e
    show oy_pm g dg (dg - dg) x < _
    rw [Nat.sub_self]; exact hx
  · exact oy_pm_lt g1 g2 _ _ (by rw [show dg + (N - dg) = N by have := C.1; omega]; exact hx)
theorem oy_Cd.ltN {N g dg L : Nat} (C : oy_Cd N g dg L) {x : Nat} (hx : x < 2 ^ N) : oy_syn N g dg x < 2 ^ N := Nat.lt_of_lt_of_le (C.lt hx) (Nat.pow_le_pow_right (by decide) C.1)
theorem oy_Cd.idem {N g dg L : Nat} (C : oy_Cd N g dg L) {x : Nat} (hx : x < 2 ^ N) : oy_syn N g dg (oy_syn N g dg x) = oy_syn N g dg x := oy_pm_id _ _ _ _ (C.lt hx)
theorem oy_Cd.dist {N g dg L : Nat} (h : N ∈ oy_L8) (C : oy_Cd N g dg L) {x : Nat} (hx : x < 2 ^ N) (e : oy_syn N g dg x = 0) (hw : oy_pc N x ≤ L) : x = 0 := by
  have dN := C.1
  have n31 : N ≤ 31 := oy_n31 N h
  rcases C.2.2 with e' | ⟨g1, g2, -, -, b, hb⟩
  · subst e'
    have e : oy_pm g dg (dg - dg) x = 0 := e
    rw [Nat.sub_self] at e; exact e
  · refine oy_pc_0 N x hx (oy_bch (oy_fr h) (oy_one h) (b := b) (L := L) (fun j hj => ?_) hw)
    have l := oy_A_lin N
    have := oy_pm_inv (g := g) (dg := dg) (oy_ev_lin l (b + j) N) (N - dg) x (fun c hc => ?_)
    · rw [show oy_pm g dg (N - dg) x = 0 from e, oy_ev_z l] at this
      exact this.symm
    · have e1 := oy_ev_sh l (b + j) 32 g (hb j hj) c
      have lt : g <<< c < 2 ^ N := by
        rw [Nat.shiftLeft_eq]
        calc g * 2 ^ c < 2 ^ (dg + 1) * 2 ^ c := Nat.mul_lt_mul_of_pos_right g2 (Nat.two_pow_pos c)
          _ = 2 ^ (dg + 1 + c) := (Nat.pow_add ..).symm
          _ ≤ 2 ^ N := Nat.pow_le_pow_right (by decide) (by omega)
      have e2 := oy_ev_fuel l (b + j) N (g <<< c) (32 + c - N) lt
      rw [show N + (32 + c - N) = 32 + c by omega] at e2
      exact e2.symm.trans e1
theorem oy_Cd.rot {N g dg L : Nat} (C : oy_Cd N g dg L) (x : Nat) : oy_syn N g dg (oy_rot N (oy_syn N g dg x)) = oy_syn N g dg (oy_rot N x) := by
  have lin : oy_Lin (fun x => oy_pm g dg (N - dg) (oy_rot N x)) := fun x y => by
    show oy_pm g dg (N - dg) (oy_rot N (x ^^^ y)) = _
    rw [oy_rot_lin N, oy_pm_lin]
  refine oy_pm_inv (F := fun x => oy_pm g dg (N - dg) (oy_rot N x)) lin (N - dg) x fun c hc => ?_
  rcases C.2.2 with e | ⟨-, -, -, h, -⟩
  · omega
  · exact h c hc
theorem oy_Cd.ri {N g dg L : Nat} (C : oy_Cd N g dg L) {x y : Nat} (e : oy_syn N g dg x = oy_syn N g dg y) : ∀ i, oy_syn N g dg (oy_ri N i x) = oy_syn N g dg (oy_ri N i y)
  | 0 => e
  | i + 1 => by
    show oy_syn N g dg (oy_rot N (oy_ri N i x)) = oy_syn N g dg (oy_rot N (oy_ri N i y))
    rw [← C.rot, ← C.rot (oy_ri N i y), C.ri e i]
/-- trapping: some turn shows the error, and every turn that shows little shows the error -/
theorem oy_Cd.trap {N g dg L t T e : Nat} (h : N ∈ oy_L8) (C : oy_Cd N g dg L) (he : e < 2 ^ N) (hw : oy_pc N e ≤ T) (hT : T ≤ t) (hk : (N - dg) * T < N) (ht : 2 * t ≤ L) : (∃ i, i < N ∧ oy_pc N (oy_syn N g dg (oy_ri N i e)) ≤ t) ∧ ∀ i, oy_pc N (oy_syn N g dg (oy_ri N i e)) ≤ t → oy_syn N g dg (oy_ri N i e) = oy_ri N i e := by
  have h1 : 1 ≤ N := by omega
  refine ⟨?_, fun i hi => ?_⟩
  · have hk' : (N - dg) * oy_pc N e < N := Nat.lt_of_le_of_lt (Nat.mul_le_mul_left _ hw) hk
    obtain ⟨i, hi, q⟩ := oy_shift h1 (oy_bads h C.1) he hk'
    refine ⟨i, hi, ?_⟩
    rw [show oy_syn N g dg (oy_ri N i e) = oy_ri N i e from oy_pm_id _ _ _ _ q, oy_pc_ri h1 he]
    omega
  · have r := oy_ri_lt h1 he i
    refine oy_xor0 (C.dist h (Nat.xor_lt_two_pow (C.ltN r) r) ?_ ?_)
    · show oy_pm g dg (N - dg) (oy_syn N g dg (oy_ri N i e) ^^^ oy_ri N i e) = 0
      rw [oy_pm_lin]
      show oy_syn N g dg (oy_syn N g dg (oy_ri N i e)) ^^^ oy_syn N g dg (oy_ri N i e) = 0
      rw [C.idem r, Nat.xor_self]
    · have := oy_pc_sub N (oy_syn N g dg (oy_ri N i e)) (oy_ri N i e)
      rw [oy_pc_ri h1 he] at this
      omega

/-! the words as ints -/
theorem own_shB (x : Int32) : ∀ c, c < 32 → (x <<< (Int32.ofNat c &&& 31)).toBitVec = x.toBitVec <<< c
  | 0, _ => rfl
  | 1, _ => rfl
  | 2, _ => rfl
  | 3, _ => rfl
  | 4, _ => rfl
  | 5, _ => rfl
  | 6, _ => rfl
  | 7, _ => rfl
  | 8, _ => rfl
  | 9, _ => rfl
  | 10, _ => rfl
  | 11, _ => rfl
  | 12, _ => rfl
  | 13, _ => rfl
  | 14, _ => rfl
  | 15, _ => rfl
  | 16, _ => rfl
  | 17, _ => rfl
  | 18, _ => rfl
  | 19, _ => rfl
  | 20, _ => rfl
  | 21, _ => rfl
  | 22, _ => rfl
  | 23, _ => rfl
  | 24, _ => rfl
  | 25, _ => rfl
  | 26, _ => rfl
  | 27, _ => rfl
  | 28, _ => rfl
  | 29, _ => rfl
  | 30, _ => rfl
  | 31, _ => rfl
  | k + 32, h => by omega
theorem own_uB (x : Int32) : ∀ c, c < 32 → (XT.ushr x (Int32.ofNat c)).toBitVec = x.toBitVec >>> c
  | 0, _ => rfl
  | 1, _ => rfl
  | 2, _ => rfl
  | 3, _ => rfl
  | 4, _ => rfl
  | 5, _ => rfl
  | 6, _ => rfl
  | 7, _ => rfl
  | 8, _ => rfl
  | 9, _ => rfl
  | 10, _ => rfl
  | 11, _ => rfl
  | 12, _ => rfl
  | 13, _ => rfl
  | 14, _ => rfl
  | 15, _ => rfl
  | 16, _ => rfl
  | 17, _ => rfl
  | 18, _ => rfl
  | 19, _ => rfl
  | 20, _ => rfl
  | 21, _ => rfl
  | 22, _ => rfl
  | 23, _ => rfl
  | 24, _ => rfl
  | 25, _ => rfl
  | 26, _ => rfl
  | 27, _ => rfl
  | 28, _ => rfl
  | 29, _ => rfl
  | 30, _ => rfl
  | 31, _ => rfl
  | k + 32, h => by omega
theorem own_xorN (a b : Nat) : Int32.ofNat a ^^^ Int32.ofNat b = Int32.ofNat (a ^^^ b) := own_bit_ext fun q hq => by
  rw [own_bit_of _ _ hq, Nat.testBit_xor, ← own_bit_of a q hq, ← own_bit_of b q hq]
  unfold own_bit
  rw [Int32.toBitVec_xor, BitVec.getLsbD_xor]
theorem own_andN (a b : Nat) : Int32.ofNat a &&& Int32.ofNat b = Int32.ofNat (a &&& b) := own_bit_ext fun q hq => by
  rw [own_bit_of _ _ hq, Nat.testBit_and, ← own_bit_of a q hq, ← own_bit_of b q hq]
  unfold own_bit
  rw [Int32.toBitVec_and, BitVec.getLsbD_and]
theorem own_orN (a b : Nat) : Int32.ofNat a ||| Int32.ofNat b = Int32.ofNat (a ||| b) := own_bit_ext fun q hq => by
  rw [own_bit_of _ _ hq, Nat.testBit_or, ← own_bit_of a q hq, ← own_bit_of b q hq]
  unfold own_bit
  rw [Int32.toBitVec_or, BitVec.getLsbD_or]
theorem own_shlN (a c : Nat) (hc : c < 32) : Int32.ofNat a <<< (Int32.ofNat c &&& 31) = Int32.ofNat (a <<< c) := own_bit_ext fun q hq => by
  rw [own_bit_of _ _ hq, Nat.testBit_shiftLeft]
  unfold own_bit
  rw [own_shB _ c hc, BitVec.getLsbD_shiftLeft, decide_eq_true hq, Bool.true_and]
  by_cases h : q < c
  · rw [decide_eq_true h, decide_eq_false (by omega)]; rfl
  · rw [decide_eq_false h, decide_eq_true (by omega), Bool.not_false, Bool.true_and, Bool.true_and]
    exact own_bit_of a (q - c) (by omega)
theorem own_ushN (a c : Nat) (ha : a < 2 ^ 32) (hc : c < 32) : XT.ushr (Int32.ofNat a) (Int32.ofNat c) = Int32.ofNat (a >>> c) := own_bit_ext fun q hq => by
  rw [own_bit_of _ _ hq, Nat.testBit_shiftRight]
  unfold own_bit
  rw [own_uB _ c hc, BitVec.getLsbD_ushiftRight]
  by_cases h : c + q < 32
  · exact own_bit_of a (c + q) h
  · rw [oy_lt_bit ha (c + q) (by omega)]
    exact BitVec.getLsbD_of_ge _ _ (by omega)
theorem own_subN {a b : Nat} (h : b ≤ a) (ha : a < 2147483648) : Int32.ofNat a - Int32.ofNat b = Int32.ofNat (a - b) := by
  apply ofN_of
  rw [x32_sub (by rw [ofN_int ha, ofN_int (by omega)]; omega) (by rw [ofN_int ha, ofN_int (by omega)]; omega), ofN_int ha, ofN_int (by omega)]
  omega
theorem own_bt (a c : Nat) (hc : c < 32) : (XT.ushr (Int32.ofNat a) (Int32.ofNat c) &&& 1 = 0) ↔ a.testBit c = false := by
  rw [own_bitN _ c hc, own_bit_of _ _ hc]
theorem own_m1 {v : Int32} {d : Int} (h : v.toInt = d) (h1 : -2147483647 ≤ d) : (v + (-1 : Int32)).toInt = d - 1 := by
  have e : (-1 : Int32).toInt = -1 := by decide
  have := v.toInt_lt
  rw [x32_add (by rw [e]; omega) (by rw [e]; omega), e]; omega
abbrev own_Sd (N g dg L : Nat) (s : St) : Prop := gI s 0 = Int32.ofNat N ∧ gI s 3 = Int32.ofNat (2 ^ N - 1) ∧ gI s 5 = Int32.ofNat g ∧ gI s 6 = Int32.ofNat dg ∧ gI s 7 = Int32.ofNat L ∧ N ∈ oy_L8 ∧ oy_Cd N g dg L
theorem own_Sd.n31 {N g dg L : Nat} {s : St} (h : own_Sd N g dg L s) : N ≤ 31 := oy_n31 N h.2.2.2.2.2.1
theorem oy_n3 : ∀ N ∈ oy_L8, 3 ≤ N := by decide
theorem own_Sd.n3 {N g dg L : Nat} {s : St} (h : own_Sd N g dg L s) : 3 ≤ N := oy_n3 N h.2.2.2.2.2.1
theorem own_Sd.dN {N g dg L : Nat} {s : St} (h : own_Sd N g dg L s) : dg ≤ N := h.2.2.2.2.2.2.1
/-! the remainder -/
theorem own_pm9 {N g dg L : Nat} {s : St} (h : own_Sd N g dg L s) : ∀ (c x : Nat) (v3 : Int32), v3.toInt = (dg : Int) + c - 1 → dg + c ≤ N → Ev (fun n => f_polyMod_9 n (Int32.ofNat x) v3 s) (Int32.ofNat (oy_pm g dg c x))
  | 0, x, v3, hv, hc => by
    have n31 := h.n31
    refine Ev.step (g := fun _ => some (Int32.ofNat x)) (fun n => ?_) (Ev.const rfl)
    show g_polyMod_9 (f_polyMod_9 n) n _ _ _ = _
    unfold g_polyMod_9
    rw [h.2.2.2.1, if_pos (by rw [x32_lt, hv, ofN_int (by omega)]; omega)]
  | c + 1, x, v3, hv, hc => by
    have n31 := h.n31
    have e3 : v3 = Int32.ofNat (dg + c) := ofN_of (by rw [hv]; omega)
    have hv' : (v3 + (-1 : Int32)).toInt = (dg : Int) + c - 1 := by rw [own_m1 hv (by omega)]; omega
    have nl : ¬ v3 < Int32.ofNat dg := by rw [x32_lt, hv, ofN_int (by omega)]; omega
    show Ev _ (Int32.ofNat (oy_pm g dg c (if x.testBit (dg + c) = true then x ^^^ (g <<< c) else x)))
    by_cases b : x.testBit (dg + c) = true
    · rw [if_pos b]
      refine Ev.step (fun n => ?_) (own_pm9 h c (x ^^^ (g <<< c)) (v3 + (-1 : Int32)) hv' (by omega))
      show g_polyMod_9 (f_polyMod_9 n) n _ _ _ = _
      unfold g_polyMod_9 f_polyMod_39 lt
      rw [h.2.2.2.1, if_neg nl, e3, if_neg (fun q => by rw [own_bt x _ (by omega)] at q; rw [q] at b; cases b), own_subN (by omega) (by omega), h.2.2.1]
      dsimp only
      rw [show dg + c - dg = c by omega, own_shlN g c (by omega), own_xorN]
    · rw [if_neg b]
      refine Ev.step (fun n => ?_) (own_pm9 h c x (v3 + (-1 : Int32)) hv' (by omega))
      show g_polyMod_9 (f_polyMod_9 n) n _ _ _ = _
      unfold g_polyMod_9 f_polyMod_39 lt
      rw [h.2.2.2.1, if_neg nl, e3, if_pos ((own_bt x _ (by omega)).mpr (by simpa using b))]
theorem own_pm {N g dg L : Nat} {s : St} (h : own_Sd N g dg L s) (x : Nat) : Ev (fun n => f_polyMod n (Int32.ofNat x) s) (Int32.ofNat (oy_syn N g dg x)) := by
  have n31 := h.n31
  have n3 := h.n3
  have dN := h.dN
  unfold f_polyMod lt
  refine own_pm9 h (N - dg) x _ ?_ (by omega)
  rw [h.1, show (1 : Int32) = Int32.ofNat 1 from rfl, own_subN (by omega) (by omega), ofN_int (by omega)]
  omega
/-! the weight -/
theorem oy_pc_dec : ∀ (f v : Nat), 0 < v → v < 2 ^ f → oy_pc f (v &&& (v - 1)) + 1 = oy_pc f v
  | 0, v, h0, h => by rw [Nat.pow_zero] at h; omega
  | f + 1, v, h0, h => by
    show (v &&& (v - 1)) % 2 + oy_pc f ((v &&& (v - 1)) / 2) + 1 = v % 2 + oy_pc f (v / 2)
    rw [Nat.and_div_two]
    have m : (v &&& (v - 1)) % 2 = (v % 2) &&& ((v - 1) % 2) := by
      have := Nat.and_mod_two_pow (a := v) (b := v - 1) (n := 1)
      simpa using this
    rw [m]
    by_cases c : v % 2 = 1
    · rw [c, show (v - 1) % 2 = 0 by omega, show (v - 1) / 2 = v / 2 by omega, Nat.and_self]
      rw [show (1 &&& 0 : Nat) = 0 from rfl]; omega
    · rw [show v % 2 = 0 by omega, show (v - 1) / 2 = v / 2 - 1 by omega]
      have := oy_pc_dec f (v / 2) (by omega) (by rw [Nat.pow_succ] at h; omega)
      rw [show (v - 1) % 2 = 1 by omega, show (0 &&& 1 : Nat) = 0 from rfl]; omega
theorem own_pc7 (s : St) : ∀ (c cnt v : Nat), oy_pc 31 v = c → v < 2 ^ 31 → cnt + c ≤ 31 → Ev (fun n => f_popcount_7 n (Int32.ofNat cnt) (Int32.ofNat v) (Int32.ofNat cnt) s) (Int32.ofNat (cnt + c)) := by
  intro c
  induction c with
  | zero =>
    intro cnt v hc hv hl
    have : v = 0 := oy_pc_0 31 v hv hc
    subst this
    refine Ev.step (g := fun _ => some (Int32.ofNat (cnt + 0))) (fun n => ?_) (Ev.const rfl)
    show g_popcount_7 (f_popcount_7 n) n _ _ _ _ = _
    unfold g_popcount_7 f_popcount_33
    rw [if_pos ((ofN_ltL (m := 32) (by omega) (by decide)).mpr (by omega)), if_pos (show Int32.ofNat 0 = 0 from rfl)]
    rfl
  | succ c ih =>
    intro cnt v hc hv hl
    have v0 : 0 < v := by
      apply Nat.pos_of_ne_zero
      intro e
      rw [e, oy_pc_z] at hc; omega
    have d := oy_pc_dec 31 v v0 hv
    have := ih (cnt + 1) (v &&& (v - 1)) (by omega) (Nat.lt_of_le_of_lt Nat.and_le_left hv) (by omega)
    rw [show cnt + 1 + c = cnt + (c + 1) by omega] at this
    refine Ev.step (fun n => ?_) this
    show g_popcount_7 (f_popcount_7 n) n _ _ _ _ = _
    unfold g_popcount_7 f_popcount_33 lt
    rw [if_pos ((ofN_ltL (m := 32) (by omega) (by decide)).mpr (by omega)), if_neg (fun q => by have := (ofN_eqL (m := 0) (by omega) (by decide)).mp q; omega)]
    dsimp only
    rw [show (1 : Int32) = Int32.ofNat 1 from rfl, own_subN (by omega) (by omega), own_andN, show Int32.ofNat cnt + Int32.ofNat 1 = Int32.ofNat (cnt + 1) from ofN_succ cnt]
theorem oy_pc_le : ∀ (f x : Nat), oy_pc f x ≤ f
  | 0, x => Nat.le_refl _
  | f + 1, x => by have := oy_pc_le f (x / 2); show x % 2 + oy_pc f (x / 2) ≤ f + 1; omega
theorem own_pcE {N x : Nat} (s : St) (h31 : N ≤ 31) (hx : x < 2 ^ N) : Ev (fun n => f_popcount n (Int32.ofNat x) s) (Int32.ofNat (oy_pc N x)) := by
  have e := oy_pc_fuel N x (31 - N) hx
  rw [show N + (31 - N) = 31 by omega] at e
  have := own_pc7 s (oy_pc 31 x) 0 x rfl (Nat.lt_of_lt_of_le hx (Nat.pow_le_pow_right (by decide) h31)) (by have := oy_pc_le 31 x; omega)
  rw [Nat.zero_add, e] at this
  exact this
/-! the rotation -/
theorem own_mskN {N x : Nat} : Int32.ofNat x &&& Int32.ofNat (2 ^ N - 1) = Int32.ofNat (x % 2 ^ N) := by rw [own_andN, Nat.and_two_pow_sub_one_eq_mod]
theorem own_rotE {N g dg L : Nat} {s : St} (h : own_Sd N g dg L s) {x i : Nat} (hx : x < 2 ^ N) (hi : i ≤ N) : f_rotate (Int32.ofNat x) (Int32.ofNat i) s = some (Int32.ofNat (oy_ri N i x)) := by
  have n31 := h.n31
  have n3 := h.n3
  unfold f_rotate f_rotate_12 lt
  rw [h.1, h.2.1]
  by_cases c0 : i = 0
  · subst c0
    rw [if_neg (by decide), own_mskN, Nat.mod_eq_of_lt hx]; rfl
  · rw [if_pos ((ofN_gtL (m := 0) (by omega) (by decide)).mpr (by omega))]
    by_cases cN : i < N
    · rw [if_pos ((ofN_lt (by omega) (by omega)).mpr cN)]
      dsimp only
      rw [own_subN (by omega) (by omega), own_shlN x i (by omega), own_ushN x (N - i) (Nat.lt_of_lt_of_le hx (Nat.pow_le_pow_right (by decide) (by omega))) (by omega), own_orN, own_mskN, oy_ri_sh (by omega) hx cN]
    · rw [if_neg (fun q => cN ((ofN_lt (by omega) (by omega)).mp q)), own_mskN, Nat.mod_eq_of_lt hx, show i = N by omega, oy_ri_N (by omega) hx]

theorem own_half : ∀ L : Fin 40, Int32.ofNat L.val / 2 = Int32.ofNat (L.val / 2) := by decide +kernel
theorem own_syx {N g dg : Nat} (x y : Nat) : oy_syn N g dg (x ^^^ y) = oy_syn N g dg x ^^^ oy_syn N g dg y := oy_pm_lin g dg (N - dg) x y
theorem own_evP {α : Type} {c : Prop} [Decidable c] {f g : Nat → Option α} {r : α} (h : c) (e : Ev f r) : Ev (fun n => if c then f n else g n) r := Ev.congr (fun n => if_pos h) e
theorem own_evN {α : Type} {c : Prop} [Decidable c] {f g : Nat → Option α} {r : α} (h : ¬ c) (e : Ev g r) : Ev (fun n => if c then f n else g n) r := Ev.congr (fun n => if_neg h) e
/-! decoding -/
theorem own_dec {N g dg L : Nat} {s : St} (h : own_Sd N g dg L s) {c e T : Nat} (hc : c < 2 ^ N) (sc : oy_syn N g dg c = 0) (he : e < 2 ^ N) (hw : oy_pc N e ≤ T) (hT : T ≤ L / 2) (hk : (N - dg) * T < N) : Ev (fun n => f_decode n (Int32.ofNat c ^^^ Int32.ofNat e) s) (Int32.ofNat c) := by
  have n31 := h.n31
  have n3 := h.n3
  have C := h.2.2.2.2.2.2
  have L31 : L ≤ 31 := by have := C.2.1; omega
  have N8 := h.2.2.2.2.2.1
  obtain ⟨⟨i0, hi0, p0⟩, all⟩ := C.trap N8 he hw hT hk (show 2 * (L / 2) ≤ L by omega)
  have hwx : c ^^^ e < 2 ^ N := Nat.xor_lt_two_pow hc he
  have sw : oy_syn N g dg (c ^^^ e) = oy_syn N g dg e := by rw [own_syx, sc, Nat.zero_xor]
  unfold f_decode f_radius lt
  dsimp only
  rw [own_xorN, h.2.1, own_mskN, Nat.mod_eq_of_lt hwx, h.2.2.2.2.1, own_half ⟨L, by omega⟩]
  simp only [Option.bind_some]
  have loop : ∀ k i, i + k = i0 → Ev (fun n => f_decode_15 n (Int32.ofNat (c ^^^ e)) (Int32.ofNat (L / 2)) (Int32.ofNat i) s) (Int32.ofNat c) := by
    intro k
    induction k with
    | zero =>
      intro i hi
      have r := C.ri sw i
      have rl := oy_ri_lt (by omega) hwx i
      have pl := oy_pc_le N (oy_syn N g dg (oy_ri N i e))
      refine Ev.step (fun n => show g_decode_15 (f_decode_15 n) n _ _ _ _ = (f_polyMod n (Int32.ofNat (oy_ri N i (c ^^^ e))) s).bind fun c3 => (f_popcount n c3 s).bind fun c4 => if Int32.ofNat (L / 2) < c4 then f_decode_15 n (Int32.ofNat (c ^^^ e)) (Int32.ofNat (L / 2)) (Int32.ofNat i + 1) s else (f_rotate c3 (Int32.ofNat N - Int32.ofNat i) s).bind fun c7 => some (Int32.ofNat (c ^^^ e) ^^^ c7) from ?_) ?_
      · unfold g_decode_15 lt
        rw [h.1, if_pos ((ofN_lt (by omega) (by omega)).mpr (by omega)), own_rotE h hwx (by omega), Option.bind_some]
      · refine Ev.bind (own_pm h _) ?_
        rw [r]
        have q : oy_pc N (oy_syn N g dg (oy_ri N i e)) ≤ L / 2 := by rw [show i = i0 by omega]; exact p0
        have rle := oy_ri_lt (show 1 ≤ N by omega) he i
        refine Ev.bind (own_pcE s n31 (C.ltN rle)) ?_
        refine own_evN (fun w => by have := (ofN_lt (by omega) (by omega)).mp w; omega) ?_
        rw [all i q, own_subN (by omega) (by omega), own_rotE h rle (by omega), Option.bind_some, oy_ri_back (by omega) he (by omega), own_xorN, Nat.xor_assoc, Nat.xor_self, Nat.xor_zero]
        exact Ev.const rfl
    | succ k ih =>
      intro i hi
      have r := C.ri sw i
      have rl := oy_ri_lt (by omega) hwx i
      have pl := oy_pc_le N (oy_syn N g dg (oy_ri N i e))
      refine Ev.step (fun n => show g_decode_15 (f_decode_15 n) n _ _ _ _ = (f_polyMod n (Int32.ofNat (oy_ri N i (c ^^^ e))) s).bind fun c3 => (f_popcount n c3 s).bind fun c4 => if Int32.ofNat (L / 2) < c4 then f_decode_15 n (Int32.ofNat (c ^^^ e)) (Int32.ofNat (L / 2)) (Int32.ofNat i + 1) s else (f_rotate c3 (Int32.ofNat N - Int32.ofNat i) s).bind fun c7 => some (Int32.ofNat (c ^^^ e) ^^^ c7) from ?_) ?_
      · unfold g_decode_15 lt
        rw [h.1, if_pos ((ofN_lt (by omega) (by omega)).mpr (by omega)), own_rotE h hwx (by omega), Option.bind_some]
      · refine Ev.bind (own_pm h _) ?_
        rw [r]
        have rle := oy_ri_lt (show 1 ≤ N by omega) he i
        refine Ev.bind (own_pcE s n31 (C.ltN rle)) ?_
        by_cases q : oy_pc N (oy_syn N g dg (oy_ri N i e)) ≤ L / 2
        · refine own_evN (fun w => by have := (ofN_lt (by omega) (by omega)).mp w; omega) ?_
          rw [all i q, own_subN (by omega) (by omega), own_rotE h rle (by omega), Option.bind_some, oy_ri_back (by omega) he (by omega), own_xorN, Nat.xor_assoc, Nat.xor_self, Nat.xor_zero]
          exact Ev.const rfl
        · refine own_evP ((ofN_lt (by omega) (by omega)).mpr (by omega)) ?_
          rw [ofN_succ]
          exact ih (i + 1) (by omega)
  exact loop i0 0 (by omega)
/-! encoding -/
theorem own_lm : ∀ k : Fin 32, ((1 : Int32) <<< (Int32.ofNat k.val &&& 31)) - 1 = Int32.ofNat (2 ^ k.val - 1) := by decide +kernel
theorem own_ntE (x : Int32) : x = Int32.ofNat x.toBitVec.toNat := own_bit_ext fun q hq => by
  rw [own_bit_of _ _ hq]; rfl
theorem own_enc {N g dg L : Nat} {s : St} (h : own_Sd N g dg L s) (x : Int32) : ∃ c, c < 2 ^ N ∧ oy_syn N g dg c = 0 ∧ Ev (fun n => f_encode n x s) (Int32.ofNat c) ∧ Ev (fun n => f_syndrome n (Int32.ofNat c) s) 0 ∧ XT.ushr (Int32.ofNat c) (Int32.ofNat dg) = x &&& Int32.ofNat (2 ^ (N - dg) - 1) := by
  have n31 := h.n31
  have n3 := h.n3
  have C := h.2.2.2.2.2.2
  have dN := C.1
  obtain ⟨w, hx⟩ : ∃ w, x = Int32.ofNat w := ⟨_, own_ntE x⟩
  subst hx
  have m1 : w % 2 ^ (N - dg) < 2 ^ (N - dg) := Nat.mod_lt _ (Nat.two_pow_pos _)
  have u1 : (w % 2 ^ (N - dg)) <<< dg < 2 ^ N := by
    rw [Nat.shiftLeft_eq]
    calc (w % 2 ^ (N - dg)) * 2 ^ dg < 2 ^ (N - dg) * 2 ^ dg := Nat.mul_lt_mul_of_pos_right m1 (Nat.two_pow_pos dg)
      _ = 2 ^ (N - dg + dg) := (Nat.pow_add ..).symm
      _ = 2 ^ N := by rw [show N - dg + dg = N by omega]
  generalize hm : w % 2 ^ (N - dg) = m at m1 u1
  have c1 : (m <<< dg) ^^^ oy_syn N g dg (m <<< dg) < 2 ^ N := Nat.xor_lt_two_pow u1 (C.ltN u1)
  have sc : oy_syn N g dg ((m <<< dg) ^^^ oy_syn N g dg (m <<< dg)) = 0 := by rw [own_syx, C.idem u1, Nat.xor_self]
  refine ⟨(m <<< dg) ^^^ oy_syn N g dg (m <<< dg), c1, sc, ?_, ?_, ?_⟩
  · unfold f_encode f_dimension f_lowMask lt
    simp only [Option.bind_some]
    rw [h.1, h.2.2.2.1, own_subN dN (by omega), own_lm ⟨N - dg, by omega⟩, own_subN (by omega) (by omega), show N - (N - dg) = dg by omega, own_mskN, hm, own_shlN m dg (by omega)]
    have fin : Ev (fun n => f_encode_26 n (Int32.ofNat (m <<< dg)) s) (Int32.ofNat ((m <<< dg) ^^^ oy_syn N g dg (m <<< dg))) := by
      unfold f_encode_26
      refine Ev.bind (own_pm h _) ?_
      rw [own_xorN]
      exact Ev.const rfl
    by_cases k0 : N - dg = 0
    · have m0 : m = 0 := by rw [k0, Nat.pow_zero] at m1; omega
      have e0 : Int32.ofNat (m <<< dg) = 0 := by rw [m0, Nat.zero_shiftLeft]; rfl
      refine own_evP (by rw [k0]; rfl) ?_
      rw [e0] at fin
      exact fin
    · exact own_evN (fun q => by have := (ofN_eqL (m := 0) (by omega) (by decide)).mp q; omega) fin
  · unfold f_syndrome lt
    dsimp only
    rw [h.2.1, own_mskN, Nat.mod_eq_of_lt c1]
    refine Ev.bind (own_pm h _) ?_
    rw [sc]
    exact Ev.const rfl
  · rw [own_ushN _ dg (Nat.lt_of_lt_of_le c1 (Nat.pow_le_pow_right (by decide) (by omega))) (by omega), Nat.shiftRight_xor_distrib, Nat.shiftLeft_shiftRight, own_mskN, hm]
    have z : oy_syn N g dg (m <<< dg) >>> dg = 0 := by
      rw [Nat.shiftRight_eq_div_pow]; exact Nat.div_eq_of_lt (C.lt u1)
    rw [z, Nat.xor_zero]
/-! the trapping capability -/
theorem own_dv : ∀ N : Fin 32, ∀ v : Fin 17, 1 ≤ N.val → (Int32.ofNat N.val - 1) / Int32.ofNat (v.val + 1) = Int32.ofNat ((N.val - 1) / (v.val + 1)) := by decide +kernel
theorem own_tr12 {N g dg L : Nat} {s : St} (h : own_Sd N g dg L s) : ∀ v, v ≤ 16 → ∃ T, T ≤ v ∧ (N - dg) * T < N ∧ Ev (fun n => f_trappingCapability_12 n (Int32.ofNat (N - dg)) (Int32.ofNat v) s) (Int32.ofNat T)
  | 0, _ => by
    have n3 := h.n3
    refine ⟨0, Nat.le_refl _, by omega, Ev.step (g := fun _ => some (Int32.ofNat 0)) (fun n => ?_) (Ev.const rfl)⟩
    show g_trappingCapability_12 (f_trappingCapability_12 n) n _ _ _ = _
    unfold g_trappingCapability_12
    rw [if_pos (show Int32.ofNat 0 < 1 by decide)]
    rfl
  | v + 1, hv => by
    have n31 := h.n31
    have n3 := h.n3
    have d := own_dv ⟨N, by omega⟩ ⟨v, by omega⟩ (by show 1 ≤ N; omega)
    dsimp only at d
    have dl : (N - 1) / (v + 1) ≤ N := Nat.le_trans (Nat.div_le_self _ _) (by omega)
    have body : ∀ n, f_trappingCapability_12 (n + 1) (Int32.ofNat (N - dg)) (Int32.ofNat (v + 1)) s = if Int32.ofNat ((N - 1) / (v + 1)) < Int32.ofNat (N - dg) then f_trappingCapability_12 n (Int32.ofNat (N - dg)) (Int32.ofNat v) s else some (Int32.ofNat (v + 1)) := fun n => by
      show g_trappingCapability_12 (f_trappingCapability_12 n) n _ _ _ = _
      unfold g_trappingCapability_12 lt
      have e : Int32.ofNat (v + 1) + (-1 : Int32) = Int32.ofNat v := ofN_of (by rw [own_m1 (ofN_int (by omega)) (by omega)]; omega)
      rw [if_neg (fun q => by have := (ofN_ltL (m := 1) (by omega) (by decide)).mp q; omega), if_neg (fun q => by have := (ofN_eqL (m := 0) (by omega) (by decide)).mp q; omega), h.1, d]
      dsimp only
      rw [e]
    by_cases c : (N - 1) / (v + 1) < N - dg
    · obtain ⟨T, a, b, e⟩ := own_tr12 h v (by omega)
      refine ⟨T, by omega, b, Ev.step (fun n => ?_) e⟩
      rw [body, if_pos ((ofN_lt (by omega) (by omega)).mpr c)]
    · refine ⟨v + 1, Nat.le_refl _, ?_, Ev.step (g := fun _ => some (Int32.ofNat (v + 1))) (fun n => ?_) (Ev.const rfl)⟩
      · have : (N - dg) * (v + 1) ≤ N - 1 := Nat.le_trans (Nat.mul_le_mul_right _ (by omega : N - dg ≤ (N - 1) / (v + 1))) (Nat.div_mul_le_self _ _)
        omega
      · rw [body, if_neg (fun q => c ((ofN_lt (by omega) (by omega)).mp q))]
theorem own_tcE {N g dg L : Nat} {s : St} (h : own_Sd N g dg L s) : ∃ T, T ≤ L / 2 ∧ (N - dg) * T < N ∧ Ev (fun n => f_trappingCapability n s) (Int32.ofNat T) := by
  have n31 := h.n31
  have C := h.2.2.2.2.2.2
  have L31 : L ≤ 31 := by have := C.2.1; omega
  obtain ⟨T, a, b, e⟩ := own_tr12 h (L / 2) (by omega)
  refine ⟨T, a, b, ?_⟩
  unfold f_trappingCapability f_radius f_dimension
  simp only [Option.bind_some]
  rw [h.1, h.2.2.2.1, h.2.2.2.2.1, own_half ⟨L, by omega⟩, own_subN C.1 (by omega)]
  exact e
/-! the least weight -/
theorem own_tzE (s : St) {v k : Nat} (hk : k ≤ 10) (v0 : 0 < v) (hv : v < 2 ^ k) : ∃ d, d < k ∧ Ev (fun n => f_trailingZeros n (Int32.ofNat v) s) (Int32.ofNat d) := by
  have loop : ∀ j i, i + j = k → (∀ q, q < i → v.testBit q = false) → ∃ d, d < k ∧ Ev (fun n => f_trailingZeros_2 n (Int32.ofNat v) (Int32.ofNat i) s) (Int32.ofNat d) := by
    intro j
    induction j with
    | zero =>
      intro i hi hq
      exact absurd (Nat.eq_of_testBit_eq (x := v) (y := 0) fun q => by
        rw [Nat.zero_testBit]
        by_cases c : q < i
        · exact hq q c
        · exact oy_lt_bit hv q (by omega)) (by omega)
    | succ j ih =>
      intro i hi hq
      by_cases b : v.testBit i = true
      · refine ⟨i, by omega, Ev.step (g := fun _ => some (Int32.ofNat i)) (fun n => ?_) (Ev.const rfl)⟩
        show g_trailingZeros_2 (f_trailingZeros_2 n) n _ _ _ = _
        unfold g_trailingZeros_2
        rw [if_pos ((ofN_ltL (m := 32) (by omega) (by decide)).mpr (by omega)), if_neg (fun q => by rw [own_bt v _ (by omega)] at q; rw [q] at b; cases b)]
      · obtain ⟨d, hd, e⟩ := ih (i + 1) (by omega) (fun q hq' => by
          by_cases c : q = i
          · rw [c]; simpa using b
          · exact hq q (by omega))
        refine ⟨d, hd, Ev.step (fun n => ?_) e⟩
        show g_trailingZeros_2 (f_trailingZeros_2 n) n _ _ _ = _
        unfold g_trailingZeros_2 lt
        rw [if_pos ((ofN_ltL (m := 32) (by omega) (by decide)).mpr (by omega)), if_pos ((own_bt v _ (by omega)).mpr (by simpa using b)), ofN_succ]
  exact loop k 0 (by omega) (fun q hq => by omega)
theorem own_en17 {N g dg L : Nat} {s : St} (h : own_Sd N g dg L s) {k : Nat} (hk : k = N - dg) (k10 : k ≤ 10) (k1 : 1 ≤ k) : ∀ (j i best c : Nat), i + j = 2 ^ k → 1 ≤ i → L < best → best ≤ 32 → c < 2 ^ N → oy_syn N g dg c = 0 → ∃ b, L < b ∧ b ≤ 32 ∧ Ev (fun n => f_enumerateMinWeight_17 n (Int32.ofNat best) (Int32.ofNat c) (Int32.ofNat (2 ^ k)) (Int32.ofNat i) s) (Int32.ofNat b) := by
  have n31 := h.n31
  have C := h.2.2.2.2.2.2
  have N8 := h.2.2.2.2.2.1
  have k2 : 2 ^ k ≤ 1024 := Nat.pow_le_pow_right (n := 2) (by decide) k10
  intro j
  induction j with
  | zero =>
    intro i best c hi i1 hb b32 hc sc
    refine ⟨best, hb, b32, Ev.step (g := fun _ => some (Int32.ofNat best)) (fun n => ?_) (Ev.const rfl)⟩
    show g_enumerateMinWeight_17 (f_enumerateMinWeight_17 n) n _ _ _ _ _ = _
    unfold g_enumerateMinWeight_17
    rw [if_neg (fun q => by have := (ofN_lt (by omega) (by omega)).mp q; omega)]
  | succ j ih =>
    intro i best c hi i1 hb b32 hc sc
    obtain ⟨d, hd, ed⟩ := own_tzE s k10 (show 0 < i by omega) (show i < 2 ^ k by omega)
    rcases C.2.2 with e' | ⟨g1, g2, g3, -, -⟩
    · omega
    have glt : g <<< d < 2 ^ N := by
      rw [Nat.shiftLeft_eq]
      calc g * 2 ^ d < 2 ^ (dg + 1) * 2 ^ d := Nat.mul_lt_mul_of_pos_right g2 (Nat.two_pow_pos d)
        _ = 2 ^ (dg + 1 + d) := (Nat.pow_add ..).symm
        _ ≤ 2 ^ N := Nat.pow_le_pow_right (by decide) (by omega)
    have c' : c ^^^ (g <<< d) < 2 ^ N := Nat.xor_lt_two_pow hc glt
    have sc' : oy_syn N g dg (c ^^^ (g <<< d)) = 0 := by
      rw [own_syx, sc, show oy_syn N g dg (g <<< d) = 0 from g3 d (by omega), Nat.xor_self]
    have body : ∀ n, f_enumerateMinWeight_17 (n + 1) (Int32.ofNat best) (Int32.ofNat c) (Int32.ofNat (2 ^ k)) (Int32.ofNat i) s = (f_trailingZeros n (Int32.ofNat i) s).bind fun c2 => (f_popcount n (Int32.ofNat c ^^^ (Int32.ofNat g <<< (c2 &&& 31))) s).bind fun c4 => if 0 < c4 then (if c4 < Int32.ofNat best then f_enumerateMinWeight_17 n c4 (Int32.ofNat c ^^^ (Int32.ofNat g <<< (c2 &&& 31))) (Int32.ofNat (2 ^ k)) (Int32.ofNat i + 1) s else f_enumerateMinWeight_17 n (Int32.ofNat best) (Int32.ofNat c ^^^ (Int32.ofNat g <<< (c2 &&& 31))) (Int32.ofNat (2 ^ k)) (Int32.ofNat i + 1) s) else f_enumerateMinWeight_17 n (Int32.ofNat best) (Int32.ofNat c ^^^ (Int32.ofNat g <<< (c2 &&& 31))) (Int32.ofNat (2 ^ k)) (Int32.ofNat i + 1) s := fun n => by
      show g_enumerateMinWeight_17 (f_enumerateMinWeight_17 n) n _ _ _ _ _ = _
      unfold g_enumerateMinWeight_17 f_enumerateMinWeight_63 lt
      rw [if_pos ((ofN_lt (by omega) (by omega)).mpr (by omega)), h.2.2.1]
    have pl := oy_pc_le N (c ^^^ (g <<< d))
    have go : ∀ b, L < b → b ≤ 32 → ∃ r, L < r ∧ r ≤ 32 ∧ Ev (fun n => f_enumerateMinWeight_17 n (Int32.ofNat b) (Int32.ofNat (c ^^^ (g <<< d))) (Int32.ofNat (2 ^ k)) (Int32.ofNat i + 1) s) (Int32.ofNat r) := fun b q1 q2 => by
      rw [ofN_succ]
      exact ih (i + 1) b (c ^^^ (g <<< d)) (by omega) (by omega) q1 q2 c' sc'
    by_cases z : 0 < oy_pc N (c ^^^ (g <<< d))
    · have far : L < oy_pc N (c ^^^ (g <<< d)) := by
        apply Classical.byContradiction
        intro q
        have := C.dist N8 c' sc' (by omega)
        rw [this, oy_pc_z] at z; omega
      by_cases lb : oy_pc N (c ^^^ (g <<< d)) < best
      · obtain ⟨r, r1, r2, er⟩ := go _ far (by omega)
        refine ⟨r, r1, r2, Ev.step body (Ev.bind ed ?_)⟩
        rw [own_shlN g d (by omega), own_xorN]
        refine Ev.bind (own_pcE s n31 c') ?_
        exact own_evP ((ofN_gtL (m := 0) (by omega) (by decide)).mpr z) (own_evP ((ofN_lt (by omega) (by omega)).mpr lb) er)
      · obtain ⟨r, r1, r2, er⟩ := go best hb b32
        refine ⟨r, r1, r2, Ev.step body (Ev.bind ed ?_)⟩
        rw [own_shlN g d (by omega), own_xorN]
        refine Ev.bind (own_pcE s n31 c') ?_
        exact own_evP ((ofN_gtL (m := 0) (by omega) (by decide)).mpr z) (own_evN (fun q => lb ((ofN_lt (by omega) (by omega)).mp q)) er)
    · obtain ⟨r, r1, r2, er⟩ := go best hb b32
      refine ⟨r, r1, r2, Ev.step body (Ev.bind ed ?_)⟩
      rw [own_shlN g d (by omega), own_xorN]
      refine Ev.bind (own_pcE s n31 c') ?_
      exact own_evN (fun q => z ((ofN_gtL (m := 0) (by omega) (by decide)).mp q)) er
theorem own_mdE {N g dg L : Nat} {s : St} (h : own_Sd N g dg L s) : ∃ m, Ev (fun n => f_minDistance n s) m ∧ (m = -1 ∨ ¬ m < Int32.ofNat L + 1) := by
  have n31 := h.n31
  have n3 := h.n3
  have C := h.2.2.2.2.2.2
  have dN := C.1
  have LN := C.2.1
  unfold f_minDistance f_dimension
  simp only [Option.bind_some]
  rw [h.1, h.2.2.2.1, own_subN dN (by omega)]
  by_cases a : 10 < N - dg
  · refine ⟨-1, ?_, Or.inl rfl⟩
    exact own_evP ((ofN_gtL (m := 10) (by omega) (by decide)).mpr a) (Ev.const rfl)
  rw [ofN_succ L, ofN_succ N]
  have a' := fun q => a ((ofN_gtL (m := 10) (by omega) (by decide)).mp q)
  by_cases b : N - dg = 0
  · refine ⟨Int32.ofNat (N + 1), ?_, Or.inr fun q => by have := (ofN_lt (by omega) (by omega)).mp q; omega⟩
    exact own_evN a' (own_evP ((ofN_eqL (m := 0) (by omega) (by decide)).mpr b) (Ev.const rfl))
  have z : oy_syn N g dg 0 = 0 := (oy_pm_lin g dg (N - dg)).z
  obtain ⟨r, r1, r2, er⟩ := own_en17 h (k := N - dg) rfl (by omega) (by omega) (2 ^ (N - dg) - 1) 1 (N + 1) 0 (by have := Nat.two_pow_pos (N - dg); omega) (by omega) (by omega) (by omega) (Nat.two_pow_pos N) z
  refine ⟨Int32.ofNat r, ?_, Or.inr fun q => by have := (ofN_lt (by omega) (by omega)).mp q; omega⟩
  refine own_evN a' (own_evN (fun q => b ((ofN_eqL (m := 0) (by omega) (by decide)).mp q)) (Ev.bind ?_ (Ev.const rfl)))
  unfold f_enumerateMinWeight lt
  rw [h.1, ofN_succ]
  dsimp only
  rw [show (1 : Int32) <<< (Int32.ofNat (N - dg) &&& 31) = Int32.ofNat (1 <<< (N - dg)) from own_shlN 1 (N - dg) (by omega), Nat.one_shiftLeft]
  exact er

theorem own_ntN : ∀ N : Fin 32, own_nt (Int32.ofNat N.val) = N.val := by decide +kernel
/-- what is known of a state that was reached -/
theorem own_sd {N M : Nat} {s : St} (h : own_H N M s) : ∃ g dg L, own_Sd N g dg L s ∧ ¬ (gI s 5).toInt64 &&& (4294967295 : Int64) = 0 ∧ Ev (fun n => f_L_deg n ((gI s 5).toInt64 &&& (4294967295 : Int64))) (gI s 6) ∧ Ev (fun n => f_L_pmod n (((1 : Int64) <<< ((Int32.ofNat N).toInt64 &&& 63)) ||| (1 : Int64)) ((gI s 5).toInt64 &&& (4294967295 : Int64))) 0 := by
  obtain ⟨g, h8, hm, hc, hz, -⟩ := h
  have n1 := g.1
  have n2 := g.2.1
  obtain ⟨d, M', kk, L3, L4, eb, ek⟩ := own_Nds N h8
  obtain ⟨r0, ec, ef⟩ := own_bex eb
  obtain ⟨r1, c0⟩ := r0
  by_cases q : gA c0 3 = L3 ∧ gA c0 4 = L4 ∧ gI c0 0 = Int32.ofNat N ∧ gI c0 1 = d ∧ gI c0 2 = M' ∧ gI c0 3 = kk
  rotate_left
  · rw [if_neg q] at ef; cases ef
  rw [if_pos q] at ef
  obtain rfl := Option.some.inj ef
  obtain ⟨a3, a4, i0, i1, i2, i3⟩ := q
  have ev0 : Ev (fun n => f_configure n (Int32.ofNat N) st0) (1, c0) := own_le.ev (fun n => own_m_configure n _ _) ec
  obtain ⟨c, evc, zc⟩ := g.2.2.2.2.2 st0 own_st0
  have ecc := Ev.uniq ev0 evc
  have ecc : c0 = c := congrArg Prod.snd ecc
  subst ecc
  have Q := (zc.q (by omega) n2).1
  obtain ⟨u, qu, u4, eu⟩ := hz
  obtain ⟨t', er, ech⟩ := own_bex (ek (gI s 4) (own_ClM h8 n2 hc))
  have S5 : own_S5 u (own_mini st0 (Int32.ofNat N) d M' kk L3 L4 (gI s 4)) := by
    refine ⟨fun j hj => ?_, ?_, ?_⟩
    · by_cases j4 : j = 4
      · subst j4; exact u4
      · have e1 := qu.2.2.2.2.1 j (by omega)
        have e2 := Q.2.2.2.2.1 j (by omega)
        rw [e1, ← e2]
        rcases (by omega : j = 0 ∨ j = 1 ∨ j = 2 ∨ j = 3) with rfl | rfl | rfl | rfl
        · exact i0
        · exact i1
        · exact i2
        · exact i3
    · rw [qu.ar 3 (by decide), ← Q.ar 3 (by decide)]; exact a3
    · rw [qu.ar 4 (by decide), ← Q.ar 4 (by decide)]; exact a4
  have evr : Ev (fun n => f_refresh n (own_mini st0 (Int32.ofNat N) d M' kk L3 L4 (gI s 4))) t' := own_le.ev (fun n => own_m_refresh n _) er
  obtain ⟨D1, h1⟩ := eu
  obtain ⟨D2, h2⟩ := evr
  have S8 : own_S8 s t' := own_refC S5 (h1 (D1 + D2) (by omega)) (h2 (D1 + D2) (by omega))
  have k3 : gI s 3 = kk := (qu.2.2.2.2.1 3 (by decide)).symm.trans (S5.1 3 (by decide))
  have nN : own_nt (Int32.ofNat N) = N := own_ntN ⟨N, by omega⟩
  by_cases q1 : kk = Int32.ofNat (2 ^ own_nt (Int32.ofNat N) - 1)
  rotate_left
  · rw [if_neg q1] at ech; cases ech
  rw [if_pos q1] at ech
  by_cases q2 : oy_good (own_nt (Int32.ofNat N)) (own_nt (gI t' 5)) (own_nt (gI t' 6)) (own_nt (gI t' 7)) (own_nt (gI s 4)) = true
  rotate_left
  · rw [if_neg q2] at ech; cases ech
  rw [if_pos q2] at ech
  rw [nN] at q1 q2
  rw [← S8 5 (by decide), ← S8 6 (by decide), ← S8 7 (by decide)] at q2
  rw [← S8 5 (by decide), ← S8 6 (by decide)] at ech
  refine ⟨own_nt (gI s 5), own_nt (gI s 6), own_nt (gI s 7), ⟨?_, by rw [k3]; exact q1, own_ntE _, own_ntE _, own_ntE _, h8, oy_good_e h8 q2⟩, ?_⟩
  · exact g.self.i0.1
  unfold own_dp lt at ech
  dsimp only at ech
  by_cases z : (gI s 5).toInt64 &&& (4294967295 : Int64) = 0
  · rw [if_pos z] at ech; cases ech
  rw [if_neg z] at ech
  obtain ⟨c10, e10, ech⟩ := own_bex ech
  by_cases q3 : c10 = gI s 6
  rotate_left
  · rw [if_neg q3] at ech; cases ech
  rw [if_pos q3] at ech
  obtain ⟨c12, e12, ech⟩ := own_bex ech
  by_cases q4 : c12 = (0 : Int64)
  rotate_left
  · rw [if_neg q4] at ech; cases ech
  subst q3 q4
  exact ⟨z, own_le.ev (fun n => own_m_L_deg n _) e10, own_le.ev (fun n => own_m_L_pmod n _ _) e12⟩
/-! the check -/
theorem own_cell {a : List Int32} (hl : a.length ≤ 260) (p : Nat) (hp : p ≤ 2000) : ∃ x, f_L_cell (Int32.ofNat p) a = some x := by
  unfold f_L_cell f_L_cell_13
  by_cases c : p < a.length
  · have ltc : Int32.ofNat p < a.length.toInt32 := (own_ltN (i := p) (m := a.length) (by omega) (by omega)).mpr c
    rw [if_pos ltc, rd_at (by omega) (List.getElem?_eq_getElem c)]
    exact ⟨_, rfl⟩
  · have ltc : ¬ Int32.ofNat p < a.length.toInt32 := fun q => c ((own_ltN (i := p) (m := a.length) (by omega) (by omega)).mp q)
    rw [if_neg ltc]
    exact ⟨_, rfl⟩
theorem own_nng (x : Int32) : ∃ w, f_L_nonneg x = some w ∧ 0 ≤ w.toInt := by
  unfold f_L_nonneg
  obtain ⟨k, hk, e⟩ := and_natL x 2147483647 (by decide)
  have e : x &&& 2147483647 = Int32.ofNat k := e
  exact ⟨_, rfl, by rw [e, ofN_int (by omega)]; omega⟩
theorem own_err {N g dg L : Nat} {s : St} (h : own_Sd N g dg L s) {a : List Int32} (hl : a.length ≤ 260) {T c m : Nat} (hc : c < 2 ^ N) (sc : oy_syn N g dg c = 0) (hT : T ≤ L / 2) (hk : (N - dg) * T < N) (hm : m ≤ T) (p q : Nat) (hq : q ≤ 1000) (v9 : Int32) : ∀ (k j e : Nat), j + k = m → e < 2 ^ N → oy_pc N e ≤ j → ∃ D, ∀ n, D ≤ n → ∀ K, f_L_check_241 K n (Int32.ofNat p) (Int32.ofNat N) (Int32.ofNat (N - dg)) (Int32.ofNat T) v9 (Int32.ofNat q) (Int32.ofNat c) (Int32.ofNat m) (Int32.ofNat e) (Int32.ofNat j) a s = K (Int32.ofNat p) (Int32.ofNat N) (Int32.ofNat (N - dg)) (Int32.ofNat T) (v9 + 1) a s := by
  have n31 := h.n31
  have n3 := h.n3
  have LN := h.2.2.2.2.2.2.2.1
  intro k
  induction k with
  | zero =>
    intro j e hj he hw
    obtain ⟨D, hD⟩ := own_dec h hc sc he (Nat.le_trans hw (by omega)) hT hk
    have hD : ∀ n, D ≤ n → f_decode n (Int32.ofNat c ^^^ Int32.ofNat e) s = some (Int32.ofNat c) := hD
    refine ⟨D + 1, fun n hn K => ?_⟩
    obtain ⟨m', rfl⟩ : ∃ m', n = m' + 1 := ⟨n - 1, by omega⟩
    show g_L_check_241 K (f_L_check_241 K m') m' _ _ _ _ _ _ _ _ _ _ _ _ = _
    unfold g_L_check_241 f_L_check_284 lt
    rw [if_neg (fun w => by have := (ofN_lt (by omega) (by omega)).mp w; omega), hD m' (by omega), Option.bind_some, if_pos rfl]
  | succ k ih =>
    intro j e hj he hw
    have eq : Int32.ofNat q + 2 + Int32.ofNat j = Int32.ofNat (q + 2 + j) := by
      rw [show Int32.ofNat q + 2 = Int32.ofNat (q + 2) from (Int32.ofNat_add q 2).symm, (Int32.ofNat_add (q + 2) j).symm]
    obtain ⟨x, ex⟩ := own_cell hl (q + 2 + j) (by omega)
    obtain ⟨w, ew, w0⟩ := own_nng x
    obtain ⟨b, hb, eb⟩ := own_modN w N (by omega) (by omega) w0
    have b2 : 2 ^ b < 2 ^ N := Nat.pow_lt_pow_right (by decide) hb
    have pw := oy_pc_sub N e (2 ^ b)
    have p1 := oy_pc_one N b
    obtain ⟨D, hD⟩ := ih (j + 1) (e ^^^ 2 ^ b) (by omega) (Nat.xor_lt_two_pow he b2) (by omega)
    refine ⟨D + 1, fun n hn K => ?_⟩
    obtain ⟨m', rfl⟩ : ∃ m', n = m' + 1 := ⟨n - 1, by omega⟩
    show g_L_check_241 K (f_L_check_241 K m') m' _ _ _ _ _ _ _ _ _ _ _ _ = _
    unfold g_L_check_241 lt
    rw [if_pos ((ofN_lt (by omega) (by omega)).mpr (by omega)), if_pos ((ofN_ltL (m := 32) (by omega) (by decide)).mpr (by omega)), eq, ex, Option.bind_some, ew, Option.bind_some, if_neg (own_nz (by omega) (by omega)), eb]
    dsimp only
    rw [show (1 : Int32) <<< (Int32.ofNat b &&& 31) = Int32.ofNat (1 <<< b) from own_shlN 1 b (by omega), Nat.one_shiftLeft, own_xorN, ofN_succ]
    exact hD m' (by omega) K
theorem own_rnd {N g dg L : Nat} {s : St} (h : own_Sd N g dg L s) {a : List Int32} (hl : a.length ≤ 260) {T : Nat} (hT : T ≤ L / 2) (hk : (N - dg) * T < N) (p q : Nat) (hq : q ≤ 1000) (v9 t0 : Int32) : ∃ D, ∀ n, D ≤ n → ∀ K, f_L_check_163 K n (Int32.ofNat p) (Int32.ofNat N) (Int32.ofNat (N - dg)) (Int32.ofNat T) v9 (Int32.ofNat q) t0 a s = K (Int32.ofNat p) (Int32.ofNat N) (Int32.ofNat (N - dg)) (Int32.ofNat T) (v9 + 1) a s := by
  have n31 := h.n31
  have n3 := h.n3
  have dN := h.dN
  have LN := h.2.2.2.2.2.2.2.1
  obtain ⟨c, hc, sc, ⟨D1, e1⟩, ⟨D2, e2⟩, e3⟩ := own_enc h t0
  obtain ⟨x, ex⟩ := own_cell hl (q + 1) (by omega)
  obtain ⟨w, ew, w0⟩ := own_nng x
  obtain ⟨m, hm, em⟩ := own_modN w (T + 1) (by omega) (by omega) w0
  obtain ⟨D, hD⟩ := own_err h hl hc sc hT hk (show m ≤ T by omega) p q hq v9 m 0 0 (by omega) (Nat.two_pow_pos N) (by rw [oy_pc_z]; omega)
  have e1 : ∀ n, D1 ≤ n → f_encode n t0 s = some (Int32.ofNat c) := e1
  have e2 : ∀ n, D2 ≤ n → f_syndrome n (Int32.ofNat c) s = some 0 := e2
  refine ⟨D + D1 + D2, fun n hn K => ?_⟩
  have fin : ∀ v13, v13 = Int32.ofNat (2 ^ (N - dg) - 1) → f_L_check_200 K n (Int32.ofNat p) (Int32.ofNat N) (Int32.ofNat (N - dg)) (Int32.ofNat T) v9 (Int32.ofNat q) t0 (Int32.ofNat c) v13 a s = K (Int32.ofNat p) (Int32.ofNat N) (Int32.ofNat (N - dg)) (Int32.ofNat T) (v9 + 1) a s := fun v13 e13 => by
    unfold f_L_check_200 lt
    rw [own_subN (by omega) (by omega), show N - (N - dg) = dg by omega, e13, if_pos e3, ofN_succ q, ex, Option.bind_some, ew, Option.bind_some, ofN_succ T, if_neg (own_nz (by omega) (by omega)), em]
    exact hD n (by omega) K
  unfold f_L_check_163 lt
  rw [e1 n (by omega), Option.bind_some, e2 n (by omega), Option.bind_some, if_pos rfl]
  dsimp only
  by_cases k0 : N - dg = 0
  · rw [if_pos (by rw [k0]; rfl)]
    exact fin 0 (by rw [k0]; rfl)
  · rw [if_neg (fun z => by have := (ofN_eqL (m := 0) (by omega) (by decide)).mp z; omega)]
    exact fin _ (own_lm ⟨N - dg, by omega⟩)
theorem own_chkE {N M : Nat} {s : St} (h : own_H N M s) {a : List Int32} (hl : a.length ≤ 260) (p : Nat) (hp : p ≤ 500) : Ev (fun n => f_L_check n (Int32.ofNat p) a s) 1 := by
  obtain ⟨g, dg, L, S, x8, ed, ep⟩ := own_sd h
  have n31 := S.n31
  have n3 := S.n3
  have dN := S.dN
  have LN := S.2.2.2.2.2.2.2.1
  obtain ⟨T, hT, hk, eT⟩ := own_tcE S
  obtain ⟨md, em, hmd⟩ := own_mdE S
  have rounds : Ev (fun n => f_L_check_125 n (Int32.ofNat p) (Int32.ofNat N) (Int32.ofNat (N - dg)) (Int32.ofNat T) 0 a s) 1 := by
    obtain ⟨x0, ex0⟩ := own_cell hl p (by omega)
    obtain ⟨x1, ex1⟩ := own_cell hl (p + 10) (by omega)
    obtain ⟨D0, h0⟩ := own_rnd S hl hT hk p p (by omega) 0 x0
    obtain ⟨D1, h1⟩ := own_rnd S hl hT hk p (p + 10) (by omega) 1 (x1 * (-1640531535 : Int32))
    refine Ev.step (g := fun n => f_L_check_163 (f_L_check_125 n) n (Int32.ofNat p) (Int32.ofNat N) (Int32.ofNat (N - dg)) (Int32.ofNat T) 0 (Int32.ofNat p) x0 a s) (fun n => ?_) (own_Evq D0 (fun n hn => h0 n hn _) ?_)
    · show g_L_check_125 (f_L_check_125 n) n _ _ _ _ _ _ _ = _
      unfold g_L_check_125 lt
      rw [if_pos (by decide)]
      dsimp only
      rw [if_pos rfl, show Int32.ofNat p + 10 * 0 = Int32.ofNat p from by rw [show (10 : Int32) * 0 = Int32.ofNat 0 from by decide, (Int32.ofNat_add p 0).symm]; rfl, ex0, Option.bind_some]
    · rw [show (0 : Int32) + 1 = 1 by decide]
      refine Ev.step (g := fun n => f_L_check_163 (f_L_check_125 n) n (Int32.ofNat p) (Int32.ofNat N) (Int32.ofNat (N - dg)) (Int32.ofNat T) 1 (Int32.ofNat (p + 10)) (x1 * (-1640531535 : Int32)) a s) (fun n => ?_) (own_Evq D1 (fun n hn => h1 n hn _) ?_)
      · show g_L_check_125 (f_L_check_125 n) n _ _ _ _ _ _ _ = _
        unfold g_L_check_125 lt
        rw [if_pos (by decide)]
        dsimp only
        rw [if_neg (by decide), show Int32.ofNat p + 10 * 1 = Int32.ofNat (p + 10) from by rw [show (10 : Int32) * 1 = Int32.ofNat 10 from by decide, (Int32.ofNat_add p 10).symm], ex1, Option.bind_some]
      · refine Ev.step (g := fun _ => some 1) (fun n => ?_) (Ev.const rfl)
        show g_L_check_125 (f_L_check_125 n) n _ _ _ _ _ _ _ = _
        unfold g_L_check_125
        rw [if_neg (by decide)]
  have tail : Ev (fun n => f_L_check_109 n (Int32.ofNat p) (Int32.ofNat N) (Int32.ofNat (N - dg)) a s) 1 := by
    unfold f_L_check_109
    exact Ev.bind eT (own_evN (ofN_nn (by omega)) rounds)
  unfold f_L_check f_length f_dimension f_generator f_designedDistance lt
  simp only [Option.bind_some]
  rw [S.1, S.2.2.2.1, own_subN dN (by omega)]
  refine own_evN (fun q => by have := (ofN_ltL (m := 3) (by omega) (by decide)).mp q; omega) ?_
  refine own_evN (fun q => by have := (ofN_gtL (m := 31) (by omega) (by decide)).mp q; omega) ?_
  refine own_evN (ofN_nn (by omega)) ?_
  refine own_evN (fun q => by have := (ofN_lt (by omega) (by omega)).mp q; omega) ?_
  refine own_evN x8 ?_
  refine Ev.bind ed ?_
  refine own_evP (by rw [S.2.2.2.1, own_subN (by omega) (by omega), show N - (N - dg) = dg by omega]) ?_
  refine Ev.bind ep ?_
  refine own_evP rfl ?_
  refine Ev.bind em ?_
  by_cases m1 : md = -1
  · exact own_evP m1 tail
  · refine own_evN m1 (own_evN ?_ tail)
    rcases hmd with q | q
    · exact absurd q m1
    · rw [S.2.2.2.2.1]; exact q
/-! the law -/
theorem own_initH : ∃ M s, Ev (fun n => f_init n) s ∧ own_H 7 M s ∧ gI s 4 = 0 := by
  rcases own_confG 7 own_st0 with h0 | ⟨N, M, a, ea, eN, hH, h4⟩
  · exact absurd (h0 1) (by
      intro q
      unfold f_configure at q
      rw [show f_degreeFor 7 st0 = some 3 from rfl, Option.bind_some, if_neg (by decide)] at q
      unfold lt at q
      obtain ⟨c, -, q⟩ := own_bex q
      obtain ⟨c, -, q⟩ := own_bex q
      obtain ⟨c, -, q⟩ := own_bex q
      obtain ⟨c, -, q⟩ := own_bex q
      obtain ⟨c, -, q⟩ := own_bex q
      have this : (1 : Int32) = 0 := congrArg Prod.fst (Option.some.inj q)
      exact absurd this (by decide))
  · have n2 := hH.1.2.1
    obtain rfl : 7 = N := (ofN_eq (i := 7) (by decide) (by omega)).mp eN
    refine ⟨M, a, ?_, hH, h4⟩
    unfold f_init lt
    exact Ev.bind ea (Ev.const rfl)
theorem own_lw {a : List Int32} (hl : a.length ≤ 260) : ∀ (k i p : Nat), i + k = 12 → p = 24 * i → ∀ (N M : Nat) (s : St), own_H N M s → Ev (fun n => f_law_23 n (Int32.ofNat p) (Int32.ofNat i) a s) 1 := by
  intro k
  induction k with
  | zero =>
    intro i p hi hp N M s h
    refine Ev.step (g := fun _ => some 1) (fun n => ?_) (Ev.const rfl)
    show g_law_23 (f_law_23 n) n _ _ _ _ = _
    unfold g_law_23 f_law_211
    rw [if_neg (fun q => by have := (ofN_ltL (m := 12) (by omega) (by decide)).mp q; omega)]
  | succ k ih =>
    intro i p hi hp N M s h
    have n1 := h.1.1
    have n2 := h.1.2.1
    have nxt : ∀ N' M' s', own_H N' M' s' → Ev (fun n => f_law_189 (f_law_23 n) n (Int32.ofNat p) (Int32.ofNat i) a s') 1 := fun N' M' s' h' => by
      unfold f_law_189 lt
      rw [show Int32.ofNat p + 3 = Int32.ofNat (p + 3) from (Int32.ofNat_add _ 3).symm]
      refine Ev.bind (own_chkE h' hl _ (by omega)) ?_
      refine own_evN (by decide) ?_
      rw [show Int32.ofNat p + 24 = Int32.ofNat (p + 24) from (Int32.ofNat_add p 24).symm, ofN_succ]
      exact ih (i + 1) (p + 24) (by omega) (by omega) N' M' s' h'
    have main : Ev (fun n => f_law_42 (f_law_23 n) n (Int32.ofNat p) (Int32.ofNat i) a s) 1 := by
      obtain ⟨x1, e1⟩ := own_cell hl p (by omega)
      obtain ⟨x4, e4⟩ := own_cell hl (p + 1) (by omega)
      obtain ⟨x6, e6⟩ := own_cell hl (p + 2) (by omega)
      obtain ⟨c2, ec2, p2⟩ := own_nng x1
      obtain ⟨c5, ec5, p5⟩ := own_nng x4
      obtain ⟨c7, ec7, p7⟩ := own_nng x6
      have q1 : Int32.ofNat p + 1 = Int32.ofNat (p + 1) := (Int32.ofNat_add p 1).symm
      have q2 : Int32.ofNat p + 2 = Int32.ofNat (p + 2) := (Int32.ofNat_add p 2).symm
      have N1 : Int32.ofNat N + 1 = Int32.ofNat (N + 1) := (Int32.ofNat_add N 1).symm
      have body : ∀ n, f_law_42 (f_law_23 n) n (Int32.ofNat p) (Int32.ofNat i) a s = if c2 % 4 = 0 then (f_L_lenOf c5).bind fun c12 => (f_setLength n c12 s).bind fun c => f_law_189 (f_law_23 n) n (Int32.ofNat p) (Int32.ofNat i) a c.2 else if c2 % 4 = 1 then (if Int32.ofNat N + 2 = 0 then none else (f_addZeros n (c5 % (Int32.ofNat N + 2) - 1) s).bind fun c => f_law_189 (f_law_23 n) n (Int32.ofNat p) (Int32.ofNat i) a c.2) else if c2 % 4 = 2 then (if Int32.ofNat (N + 1) = 0 then none else if Int32.ofNat N + 2 = 0 then none else (f_designBCH n (c5 % Int32.ofNat (N + 1)) (c7 % (Int32.ofNat N + 2)) s).bind fun c => f_law_189 (f_law_23 n) n (Int32.ofNat p) (Int32.ofNat i) a c.2) else (if Int32.ofNat N = 0 then none else if Int32.ofNat (N + 1) / 2 = 0 then none else (f_designBCH n (c5 % Int32.ofNat N) (1 + c7 % (Int32.ofNat (N + 1) / 2)) s).bind fun c => f_law_189 (f_law_23 n) n (Int32.ofNat p) (Int32.ofNat i) a c.2) := fun n => by
        unfold f_law_42 f_length
        rw [e1, Option.bind_some, ec2, Option.bind_some]
        unfold lt
        dsimp only
        rw [q1, e4, Option.bind_some, ec5, Option.bind_some, q2, e6, Option.bind_some, ec7, Option.bind_some, Option.bind_some, h.1.self.i0.1, if_neg (fun q => by have := (ofN_ltL (m := 3) (by omega) (by decide)).mp q; omega), if_neg (fun q => by have := (ofN_gtL (m := 31) (by omega) (by decide)).mp q; omega), N1]
      refine Ev.congr body ?_
      have z1 : ¬ Int32.ofNat (N + 1) = 0 := own_nz (by omega) (by omega)
      have z2 : ¬ Int32.ofNat N + 2 = 0 := by rw [show Int32.ofNat N + 2 = Int32.ofNat (N + 2) from (Int32.ofNat_add N 2).symm]; exact own_nz (by omega) (by omega)
      have z3 : ¬ Int32.ofNat (N + 1) / 2 = 0 := by rw [own_half ⟨N + 1, by omega⟩]; exact own_nz (by show 1 ≤ (N + 1) / 2; omega) (by show (N + 1) / 2 ≤ 300; omega)
      have des : ∀ x d, Ev (fun n => (f_designBCH n x d s).bind fun c => f_law_189 (f_law_23 n) n (Int32.ofNat p) (Int32.ofNat i) a c.2) 1 := fun x d => by
        rcases own_des1 h x d with ⟨-, e⟩ | ⟨b, dn, s', -, -, -, -, -, e, h', -⟩
        · simp only [e, Option.bind_some]
          exact nxt N M s h
        · exact Ev.bind e (nxt N M s' h')
      by_cases x0 : c2 % 4 = 0
      · refine own_evP x0 ?_
        obtain ⟨l, el⟩ : ∃ l, f_L_lenOf c5 = some l := by
          unfold f_L_lenOf
          split <;> (try split) <;> (try split) <;> (try split) <;> (try split) <;> (try split) <;> (try split) <;> exact ⟨_, rfl⟩
        simp only [el, Option.bind_some]
        obtain ⟨r, er, N', M', h'⟩ := own_setL1 h l
        exact Ev.bind er (nxt N' M' r.2 h')
      refine own_evN x0 ?_
      by_cases x1' : c2 % 4 = 1
      · refine own_evP x1' (own_evN z2 ?_)
        rcases own_addZ1 h (c5 % (Int32.ofNat N + 2) - 1) with ⟨-, e⟩ | ⟨i', s', -, -, e, h', -⟩
        · simp only [e, Option.bind_some]
          exact nxt N M s h
        · exact Ev.bind e (nxt N M s' h')
      refine own_evN x1' ?_
      by_cases x2' : c2 % 4 = 2
      · exact own_evP x2' (own_evN z1 (own_evN z2 (des _ _)))
      · exact own_evN x2' (own_evN (own_nz (by omega) (by omega)) (own_evN z3 (des _ _)))
    refine Ev.step (g := fun n => if Int32.ofNat i < 12 then if 0 < Int32.ofNat i then if Int32.ofNat p < a.length.toInt32 then f_law_42 (f_law_23 n) n (Int32.ofNat p) (Int32.ofNat i) a s else some 1 else f_law_42 (f_law_23 n) n (Int32.ofNat p) (Int32.ofNat i) a s else some 1) (fun n => ?_) ?_
    · show g_law_23 (f_law_23 n) n _ _ _ _ = _
      unfold g_law_23 f_law_211
      rfl
    refine own_evP ((ofN_ltL (m := 12) (by omega) (by decide)).mpr (by omega)) ?_
    by_cases c1 : 0 < Int32.ofNat i
    · refine own_evP c1 ?_
      by_cases c2 : Int32.ofNat p < a.length.toInt32
      · exact own_evP c2 main
      · exact own_evN c2 (Ev.const rfl)
    · exact own_evN c1 main

theorem owed (a : List Int32) (hl : a.length ≤ 260) : ∃ fu, f_law fu a = some 1 := by
  obtain ⟨M, s, e, h, h4⟩ := own_initH
  refine Ev.get ?_
  unfold f_law
  refine Ev.bind e ?_
  refine Ev.bind (own_chkE h hl 0 (by omega)) ?_
  exact own_evN (by decide) (own_lw hl 12 0 0 (by omega) (by omega) 7 M s h)

set_option maxRecDepth 65536 in
set_option maxHeartbeats 40000000 in
theorem comes_1 {Post : Tables → Env → Array Value → State → Outcome → State → Prop} (hpost : ∀ tb e args s v u, (limb_1_1.after args s (.returned v) u = true ∧ limb_1_2.after args s (.returned v) u = true ∧ True) → FrameEnd s (.returned v) u (Jvm.fieldLocs frame_1_writes args s ++ Jvm.arrayLocs frame_1_arrays args s ++ Jvm.staticLocs frame_1_statics s) 24 1344 → Post tb e args s (.returned v) u) :
    ArmFor flags0 classFile x code maxLocals ret World_1 tables_1 room_1 Calls_1 rest_1 Pre_1 Post := by
  intro l hfl _ _ p e ha hc hk s m args below hf hA hF happ hP
  obtain ⟨hcalls, hrest, hpre⟩ := hP
  obtain ⟨-, -, -, hnamed, -, -, -, hat⟩ := (Spec.applies_iff hf).mp happ
  obtain ⟨hg, hn⟩ := and_e (Cond.before_iff.mp (show (Jvm.Cond.and given_1 narrow_1).before args s = true from hpre))
  obtain ⟨g0, q0⟩ := and_e hg
  obtain ⟨w0, rfl⟩ : ∃ w0 : Value, args = #[w0] := by
    have hs : args.size = 1 := by simpa [Cond.value, given_1] using g0
    obtain ⟨L⟩ := args
    match L, hs with
    | [w0], _ => exact ⟨w0, rfl⟩
  have hw := fun d (hd : d ∈ tables_1) => atoms_spec (ws := Jvm.Cond.code x code maxLocals ret :: tables_1) hat d (List.mem_cons_of_mem _ hd)
  have hfit : Fit s := fun {y c} hc i hi => by
    obtain ⟨ha, rfl⟩ := Array.getElem?_eq_some_iff.mp hc
    have q := List.all_eq_true.mp ((Array.all_eq_true_iff_forall_mem.mp hF) _ (Array.getElem_mem ha)) i (List.mem_range.mpr hi)
    simpa [Array.getElem?_eq_getElem hi] using q
  obtain ⟨v0, e0, r0⟩ := isR_v q0
  obtain rfl : w0 = v0 := Option.some.inj e0
  obtain ⟨n1, n2⟩ := and_e hn
  obtain ⟨ra, rfl⟩ : ∃ ra, w0 = .ref ra := by
    rcases ref_cases r0 with rfl | ⟨ra, rfl⟩
    · exfalso
      simp only [Cond.value, e0] at n1
      split at n1 <;> cases n1
    · exact ⟨ra, rfl⟩
  obtain ⟨cl, Ar⟩ := Arr.start e0 n1
  obtain ⟨xs, hxs⟩ := script_ints hfit Ar
  have hlen : xs.length ≤ 260 := by
    have e1 : cl.slots.size = xs.length := by rw [← Array.length_toList, hxs, List.length_map]
    exact script_len e0 Ar e1 n2
  obtain ⟨fu, hfu⟩ := owed xs hlen
  obtain ⟨n, o, h1, h2, h3, _, L, rfl, ⟨w, H', rfl, hv, -, -, N⟩, hq⟩ := okLAW l s _ hw fu xs 1 hfu tables_1 s.heap.size (ad1 ra s.heap.size) s.heap (HR.start1 CN lay Ar hxs) p e ha hc hk s m _ below hf ((Spec.applies_iff_loose hf).mp happ).1 ⟨rfl, State.Warmed39.refl s, rfl⟩ trivial
  obtain rfl : w = some (.int 1) := hv
  refine ⟨n, _, h1, h2, h3, hpost _ _ _ _ _ _ ⟨Cond.after_iff.mpr rfl, Cond.after_iff.mpr (eq_i res_at (Term.int_eval (1)) rfl), trivial⟩ ⟨hq.1, hq.2.1, (hq.2.2.sift fun y hy => Or.inr (N y hy)).mono (by decide) (by decide)⟩⟩
theorem main_1_1 : Claimed_1_1 := comes_1 fun _ _ _ _ _ _ h hF => ⟨h.1, hF⟩
theorem main_1_2 : Claimed_1_2 := comes_1 fun _ _ _ _ _ _ h hF => ⟨h.2.1, hF⟩

end Jvm.Pilot.@@N@@
namespace Jvm.Pilot.@@N@@
open Jvm Jvm.ClassFile Sem Op Lib Jvm.Free Jvm.Stand Jvm.Pilot.@@N@@.Jvm.D
/-! MADE BY PROGRAM (witnessworld.py) out of the Statement's table words and the real class files: 9 classes; the members and pool entries that the words name. The judged class is class 1, her method 7. -/
namespace start1
open Jvm.ClassFile
def u (s : String) : CpInfo := .utf8 (stringToUtf16 s)
/-- a pool by its gaps: so many unusable entries, then the entry; so many at the end -/
def gap : Nat → List CpInfo → List CpInfo
  | 0, r => r
  | n + 1, r => .unusable :: gap n r
def poolList (es : List (Nat × CpInfo)) (last : Nat) : List CpInfo := es.foldr (fun e r => gap e.1 (e.2 :: r)) (gap last [])
def pool (es : List (Nat × CpInfo)) (last : Nat) : Array CpInfo := ⟨poolList es last⟩
def fileOf (pool : Array CpInfo) (this : Nat) (attrs : Array Attribute := #[]) (ms : Array MethodInfo := #[]) (fl : Nat := 33) (sup : Nat := 0) (ifs : Array Nat := #[]) (fds : Array FieldInfo := #[]) : ClassFile where
  minorVersion := 0
  majorVersion := 65
  constantPool := pool
  accessFlags := fl
  thisClass := this
  superClass := sup
  interfaces := ifs
  fields := fds
  methods := ms
  attributes := attrs
def plain (name : String) (sup : Option ClassId) : Class where
  name := name
  kind := .ordinary
  loader := none
  accessFlags := 33
  super := sup
  interfaces := #[]
  cf := none
  fields := #[]
  methods := #[]
  instanceTypes := #[]
  staticTypes := #[]
  resolved := #[]
  callSites := []
  init := .initialized
  statics := none
  mirror := none

def pool0 : Array CpInfo := pool [(5, u "<init>"), (0, u "()V"), (1, .class_ 10), (1, u "java/lang/Object")] 113

def k0c0 : Code := { maxStack := 0, maxLocals := 1, code := object_method_1_code, exceptionTable := #[], attributes := #[] }
def k0m0 : Method := { name := "<init>", desc := "()V", sig := { parameters := [], returnType := none }, accessFlags := 1, code := some k0c0 }
/-- java/lang/Object -/
def k0 : Class := { plain "java/lang/Object" none with
  accessFlags := 33
  interfaces := #[]
  cf := some (fileOf pool0 8 #[] #[{ accessFlags := 1, nameIndex := 5, descriptorIndex := 6, attributes := #[] }] 33 0 #[] #[])
  fields := #[]
  methods := #[k0m0]
  instanceTypes := #[]
  staticTypes := #[]
  resolved := Array.replicate 124 none
  statics := none }

def pool1 : Array CpInfo := pool [(2, .class_ 4), (0, .nameAndType 5 6), (0, u "java/lang/Object"), (0, u "<init>"), (0, u "()V"), (0, .integer 2147483647), (0, .methodref 9 10), (0, .class_ 11), (0, .nameAndType 12 13), (0, u "CyclicCodeLabOwnLaw"), (0, u "deg"), (0, u "(J)I"), (0, .methodref 15 16), (0, .class_ 17), (0, .nameAndType 18 19), (0, u "CyclicCodeLab"), (0, u "length"), (0, u "()I"), (0, .methodref 15 21), (0, .nameAndType 22 19), (0, u "dimension"), (0, .methodref 15 24), (0, .nameAndType 25 19), (0, u "generator"), (0, .long 4294967295), (1, .methodref 9 29), (0, .nameAndType 30 31), (0, u "pmod"), (0, u "(JJ)J"), (0, .methodref 15 33), (0, .nameAndType 34 19), (0, u "minDistance"), (0, .methodref 15 36), (0, .nameAndType 37 19), (0, u "designedDistance"), (0, .methodref 15 39), (0, .nameAndType 40 19), (0, u "trappingCapability"), (0, .methodref 9 42), (0, .nameAndType 43 44), (0, u "cell"), (0, u "([II)I"), (0, .integer 2654435761), (0, .methodref 15 47), (0, .nameAndType 48 49), (0, u "encode"), (0, u "(I)I"), (0, .methodref 15 51), (0, .nameAndType 52 49), (0, u "syndrome"), (0, .methodref 9 54), (0, .nameAndType 55 49), (0, u "nonneg"), (0, .methodref 15 57), (0, .nameAndType 58 49), (0, u "decode"), (0, .methodref 15 3), (0, .methodref 9 61), (0, .nameAndType 62 63), (0, u "check"), (0, u "(LCyclicCodeLab;[II)Z"), (0, .methodref 9 65), (0, .nameAndType 66 49), (0, u "lenOf"), (0, .methodref 15 68), (0, .nameAndType 69 70), (0, u "setLength"), (0, u "(I)Z"), (0, .methodref 15 72), (0, .nameAndType 73 70), (0, u "addZeros"), (0, .methodref 15 75), (0, .nameAndType 76 77), (0, u "designBCH"), (0, u "(II)Z"), (5, u "law"), (0, u "([I)Z")] 2

def k1m0 : Method := { name := "<init>", desc := "()V", sig := { parameters := [], returnType := none }, accessFlags := 1, code := none }
def k1c1 : Code := { maxStack := 2, maxLocals := 2, code := method_2_code, exceptionTable := #[], attributes := #[] }
def k1m1 : Method := { name := "cell", desc := "([II)I", sig := { parameters := [(.array .int), .int], returnType := some .int }, accessFlags := 10, code := some k1c1 }
def k1c2 : Code := { maxStack := 2, maxLocals := 1, code := method_3_code, exceptionTable := #[], attributes := #[] }
def k1m2 : Method := { name := "nonneg", desc := "(I)I", sig := { parameters := [.int], returnType := some .int }, accessFlags := 10, code := some k1c2 }
def k1c3 : Code := { maxStack := 2, maxLocals := 1, code := method_4_code, exceptionTable := #[], attributes := #[] }
def k1m3 : Method := { name := "lenOf", desc := "(I)I", sig := { parameters := [.int], returnType := some .int }, accessFlags := 10, code := some k1c3 }
def k1c4 : Code := { maxStack := 4, maxLocals := 4, code := method_5_code, exceptionTable := #[], attributes := #[] }
def k1m4 : Method := { name := "deg", desc := "(J)I", sig := { parameters := [.long], returnType := some .int }, accessFlags := 10, code := some k1c4 }
def k1c5 : Code := { maxStack := 6, maxLocals := 7, code := method_6_code, exceptionTable := #[], attributes := #[] }
def k1m5 : Method := { name := "pmod", desc := "(JJ)J", sig := { parameters := [.long, .long], returnType := some .long }, accessFlags := 10, code := some k1c5 }
def k1c6 : Code := { maxStack := 5, maxLocals := 17, code := method_7_code, exceptionTable := #[], attributes := #[] }
def k1m6 : Method := { name := "check", desc := "(LCyclicCodeLab;[II)Z", sig := { parameters := [(.object "CyclicCodeLab"), (.array .int), .int], returnType := some .boolean }, accessFlags := 10, code := some k1c6 }
def k1c7 : Code := { maxStack := 6, maxLocals := 8, code := code, exceptionTable := #[], attributes := #[] }
def k1m7 : Method := { name := "law", desc := "([I)Z", sig := { parameters := [(.array .int)], returnType := some .boolean }, accessFlags := 9, code := some k1c7 }
/-- CyclicCodeLabOwnLaw -/
def k1 : Class := { plain "CyclicCodeLabOwnLaw" (some 0) with
  accessFlags := 49
  interfaces := #[]
  cf := some (fileOf pool1 9 #[] #[{ accessFlags := 1, nameIndex := 5, descriptorIndex := 6, attributes := #[] }, { accessFlags := 10, nameIndex := 43, descriptorIndex := 44, attributes := #[] }, { accessFlags := 10, nameIndex := 55, descriptorIndex := 49, attributes := #[] }, { accessFlags := 10, nameIndex := 66, descriptorIndex := 49, attributes := #[] }, { accessFlags := 10, nameIndex := 12, descriptorIndex := 13, attributes := #[] }, { accessFlags := 10, nameIndex := 30, descriptorIndex := 31, attributes := #[] }, { accessFlags := 10, nameIndex := 62, descriptorIndex := 63, attributes := #[] }, { accessFlags := 9, nameIndex := 83, descriptorIndex := 84, attributes := #[] }] 49 2 #[] #[])
  fields := #[]
  methods := #[k1m0, k1m1, k1m2, k1m3, k1m4, k1m5, k1m6, k1m7]
  instanceTypes := #[]
  staticTypes := #[]
  resolved := Array.replicate 87 none
  statics := none }

def pool2 : Array CpInfo := pool [(1, .methodref 2 3), (0, .class_ 4), (0, .nameAndType 5 6), (0, u "java/lang/Object"), (0, u "<init>"), (0, u "()V"), (0, .fieldref 8 9), (0, .class_ 10), (0, .nameAndType 11 12), (0, u "CyclicCodeLab"), (0, u "expTab"), (0, u "[I"), (0, .fieldref 8 14), (0, .nameAndType 15 12), (0, u "logTab"), (0, .fieldref 8 17), (0, .nameAndType 18 12), (0, u "cosetTab"), (0, .fieldref 8 20), (0, .nameAndType 21 12), (0, u "leaderTab"), (0, .fieldref 8 23), (0, .nameAndType 24 12), (0, u "minPolyTab"), (0, .fieldref 8 26), (0, .nameAndType 27 12), (0, u "coef"), (0, .methodref 8 29), (0, .nameAndType 30 31), (0, u "configure"), (0, u "(I)Z"), (0, .fieldref 8 33), (0, .nameAndType 34 35), (0, u "n"), (0, u "I"), (0, .fieldref 8 37), (0, .nameAndType 38 35), (0, u "m"), (0, .methodref 8 40), (0, .nameAndType 41 31), (0, u "inRange"), (0, .fieldref 8 43), (0, .nameAndType 44 35), (0, u "zeroSet"), (0, .methodref 8 46), (0, .nameAndType 47 6), (0, u "refresh"), (0, .methodref 8 49), (0, .nameAndType 50 31), (0, u "inZ"), (0, .fieldref 8 52), (0, .nameAndType 53 35), (0, u "gen"), (0, .fieldref 8 55), (0, .nameAndType 56 35), (0, u "degG"), (0, .fieldref 8 58), (0, .nameAndType 59 35), (0, u "runLength"), (0, .methodref 8 61), (0, .nameAndType 62 63), (0, u "dimension"), (0, u "()I"), (0, .methodref 8 65), (0, .nameAndType 66 67), (0, u "enumerateMinWeight"), (0, u "(I)I"), (0, .methodref 8 69), (0, .nameAndType 70 63), (0, u "radius"), (0, .methodref 8 72), (0, .nameAndType 73 67), (0, u "lowMask"), (0, .methodref 8 75), (0, .nameAndType 76 67), (0, u "polyMod"), (0, .fieldref 8 78), (0, .nameAndType 79 35), (0, u "nMask"), (0, .methodref 8 81), (0, .nameAndType 82 83), (0, u "rotate"), (0, u "(II)I"), (0, .methodref 8 85), (0, .nameAndType 86 67), (0, u "popcount"), (0, .methodref 8 88), (0, .nameAndType 89 67), (0, u "degreeFor"), (0, .fieldref 8 91), (0, .nameAndType 92 35), (0, u "order"), (0, .methodref 8 94), (0, .nameAndType 95 6), (0, u "buildField"), (0, .methodref 8 97), (0, .nameAndType 98 6), (0, u "buildCosets"), (0, .methodref 8 100), (0, .nameAndType 101 6), (0, u "buildMinimalPolys"), (0, .methodref 8 103), (0, .nameAndType 104 67), (0, u "fieldPolyFor"), (0, .methodref 8 106), (0, .nameAndType 107 67), (0, u "cosetMaskOf"), (0, .methodref 8 109), (0, .nameAndType 110 67), (0, u "lowestBit"), (0, .methodref 8 112), (0, .nameAndType 113 67), (0, u "minimalPolyOfCoset"), (0, .methodref 8 115), (0, .nameAndType 116 67), (0, u "alphaPow"), (0, .methodref 8 118), (0, .nameAndType 119 120), (0, u "multiplyByLinear"), (0, u "(II)V"), (0, .methodref 8 122), (0, .nameAndType 123 83), (0, u "gfMul"), (0, .methodref 8 125), (0, .nameAndType 126 63), (0, u "computeGenerator"), (0, .methodref 8 128), (0, .nameAndType 129 63), (0, u "computeRunLength"), (0, .methodref 8 131), (0, .nameAndType 132 83), (0, u "clmul"), (0, .methodref 8 134), (0, .nameAndType 135 67), (0, u "trailingZeros"), (0, u "REFUSED"), (2, u "DECODE_FAIL"), (0, u "DEFAULT_LENGTH"), (1, u "MAX_ENUM_DIMENSION"), (1, u "FIELD_POLY_M2"), (0, u "FIELD_POLY_M3"), (1, u "FIELD_POLY_M4"), (1, u "FIELD_POLY_M5"), (1, u "FIELD_POLY_M6"), (1, u "FIELD_POLY_M8"), (3, u "setLength"), (0, u "length"), (4, u "addZeros"), (0, u "designBCH"), (0, u "(II)Z"), (1, u "generator"), (0, u "designedDistance"), (0, u "minDistance"), (0, u "trappingCapability"), (0, u "encode"), (0, u "syndrome"), (0, u "decode")] 2

def k2c0 : Code := { maxStack := 2, maxLocals := 1, code := prog_1_method_1_code, exceptionTable := #[], attributes := #[] }
def k2m0 : Method := { name := "<init>", desc := "()V", sig := { parameters := [], returnType := none }, accessFlags := 1, code := some k2c0 }
def k2c1 : Code := { maxStack := 2, maxLocals := 2, code := prog_1_method_2_code, exceptionTable := #[], attributes := #[] }
def k2m1 : Method := { name := "setLength", desc := "(I)Z", sig := { parameters := [.int], returnType := some .boolean }, accessFlags := 1, code := some k2c1 }
def k2c2 : Code := { maxStack := 1, maxLocals := 1, code := prog_1_method_3_code, exceptionTable := #[], attributes := #[] }
def k2m2 : Method := { name := "length", desc := "()I", sig := { parameters := [], returnType := some .int }, accessFlags := 1, code := some k2c2 }
def k2c3 : Code := { maxStack := 4, maxLocals := 2, code := prog_1_method_7_code, exceptionTable := #[], attributes := #[] }
def k2m3 : Method := { name := "addZeros", desc := "(I)Z", sig := { parameters := [.int], returnType := some .boolean }, accessFlags := 1, code := some k2c3 }
def k2c4 : Code := { maxStack := 3, maxLocals := 6, code := prog_1_method_8_code, exceptionTable := #[], attributes := #[] }
def k2m4 : Method := { name := "designBCH", desc := "(II)Z", sig := { parameters := [.int, .int], returnType := some .boolean }, accessFlags := 1, code := some k2c4 }
def k2c5 : Code := { maxStack := 1, maxLocals := 1, code := prog_1_method_10_code, exceptionTable := #[], attributes := #[] }
def k2m5 : Method := { name := "generator", desc := "()I", sig := { parameters := [], returnType := some .int }, accessFlags := 1, code := some k2c5 }
def k2c6 : Code := { maxStack := 2, maxLocals := 1, code := prog_1_method_11_code, exceptionTable := #[], attributes := #[] }
def k2m6 : Method := { name := "dimension", desc := "()I", sig := { parameters := [], returnType := some .int }, accessFlags := 1, code := some k2c6 }
def k2c7 : Code := { maxStack := 2, maxLocals := 1, code := prog_1_method_12_code, exceptionTable := #[], attributes := #[] }
def k2m7 : Method := { name := "designedDistance", desc := "()I", sig := { parameters := [], returnType := some .int }, accessFlags := 1, code := some k2c7 }
def k2c8 : Code := { maxStack := 2, maxLocals := 2, code := prog_1_method_13_code, exceptionTable := #[], attributes := #[] }
def k2m8 : Method := { name := "minDistance", desc := "()I", sig := { parameters := [], returnType := some .int }, accessFlags := 1, code := some k2c8 }
def k2c9 : Code := { maxStack := 2, maxLocals := 4, code := prog_1_method_14_code, exceptionTable := #[], attributes := #[] }
def k2m9 : Method := { name := "trappingCapability", desc := "()I", sig := { parameters := [], returnType := some .int }, accessFlags := 1, code := some k2c9 }
def k2c10 : Code := { maxStack := 3, maxLocals := 5, code := prog_1_method_15_code, exceptionTable := #[], attributes := #[] }
def k2m10 : Method := { name := "encode", desc := "(I)I", sig := { parameters := [.int], returnType := some .int }, accessFlags := 1, code := some k2c10 }
def k2c11 : Code := { maxStack := 2, maxLocals := 3, code := prog_1_method_16_code, exceptionTable := #[], attributes := #[] }
def k2m11 : Method := { name := "syndrome", desc := "(I)I", sig := { parameters := [.int], returnType := some .int }, accessFlags := 1, code := some k2c11 }
def k2c12 : Code := { maxStack := 4, maxLocals := 8, code := prog_1_method_17_code, exceptionTable := #[], attributes := #[] }
def k2m12 : Method := { name := "decode", desc := "(I)I", sig := { parameters := [.int], returnType := some .int }, accessFlags := 1, code := some k2c12 }
def k2c13 : Code := { maxStack := 3, maxLocals := 3, code := prog_1_method_18_code, exceptionTable := #[], attributes := #[] }
def k2m13 : Method := { name := "configure", desc := "(I)Z", sig := { parameters := [.int], returnType := some .boolean }, accessFlags := 2, code := some k2c13 }
def k2c14 : Code := { maxStack := 1, maxLocals := 2, code := prog_1_method_19_code, exceptionTable := #[], attributes := #[] }
def k2m14 : Method := { name := "degreeFor", desc := "(I)I", sig := { parameters := [.int], returnType := some .int }, accessFlags := 2, code := some k2c14 }
def k2c15 : Code := { maxStack := 1, maxLocals := 2, code := prog_1_method_20_code, exceptionTable := #[], attributes := #[] }
def k2m15 : Method := { name := "fieldPolyFor", desc := "(I)I", sig := { parameters := [.int], returnType := some .int }, accessFlags := 2, code := some k2c15 }
def k2c16 : Code := { maxStack := 3, maxLocals := 5, code := prog_1_method_21_code, exceptionTable := #[], attributes := #[] }
def k2m16 : Method := { name := "buildField", desc := "()V", sig := { parameters := [], returnType := none }, accessFlags := 2, code := some k2c16 }
def k2c17 : Code := { maxStack := 4, maxLocals := 3, code := prog_1_method_22_code, exceptionTable := #[], attributes := #[] }
def k2m17 : Method := { name := "buildCosets", desc := "()V", sig := { parameters := [], returnType := none }, accessFlags := 2, code := some k2c17 }
def k2c18 : Code := { maxStack := 3, maxLocals := 5, code := prog_1_method_23_code, exceptionTable := #[], attributes := #[] }
def k2m18 : Method := { name := "cosetMaskOf", desc := "(I)I", sig := { parameters := [.int], returnType := some .int }, accessFlags := 2, code := some k2c18 }
def k2c19 : Code := { maxStack := 5, maxLocals := 3, code := prog_1_method_24_code, exceptionTable := #[], attributes := #[] }
def k2m19 : Method := { name := "buildMinimalPolys", desc := "()V", sig := { parameters := [], returnType := none }, accessFlags := 2, code := some k2c19 }
def k2c20 : Code := { maxStack := 3, maxLocals := 5, code := prog_1_method_25_code, exceptionTable := #[], attributes := #[] }
def k2m20 : Method := { name := "minimalPolyOfCoset", desc := "(I)I", sig := { parameters := [.int], returnType := some .int }, accessFlags := 2, code := some k2c20 }
def k2c21 : Code := { maxStack := 6, maxLocals := 5, code := prog_1_method_26_code, exceptionTable := #[], attributes := #[] }
def k2m21 : Method := { name := "multiplyByLinear", desc := "(II)V", sig := { parameters := [.int, .int], returnType := none }, accessFlags := 2, code := some k2c21 }
def k2c22 : Code := { maxStack := 3, maxLocals := 4, code := prog_1_method_27_code, exceptionTable := #[], attributes := #[] }
def k2m22 : Method := { name := "alphaPow", desc := "(I)I", sig := { parameters := [.int], returnType := some .int }, accessFlags := 2, code := some k2c22 }
def k2c23 : Code := { maxStack := 4, maxLocals := 4, code := prog_1_method_28_code, exceptionTable := #[], attributes := #[] }
def k2m23 : Method := { name := "gfMul", desc := "(II)I", sig := { parameters := [.int, .int], returnType := some .int }, accessFlags := 2, code := some k2c23 }
def k2c24 : Code := { maxStack := 3, maxLocals := 1, code := prog_1_method_29_code, exceptionTable := #[], attributes := #[] }
def k2m24 : Method := { name := "refresh", desc := "()V", sig := { parameters := [], returnType := none }, accessFlags := 2, code := some k2c24 }
def k2c25 : Code := { maxStack := 4, maxLocals := 3, code := prog_1_method_30_code, exceptionTable := #[], attributes := #[] }
def k2m25 : Method := { name := "computeGenerator", desc := "()I", sig := { parameters := [], returnType := some .int }, accessFlags := 2, code := some k2c25 }
def k2c26 : Code := { maxStack := 3, maxLocals := 4, code := prog_1_method_31_code, exceptionTable := #[], attributes := #[] }
def k2m26 : Method := { name := "computeRunLength", desc := "()I", sig := { parameters := [], returnType := some .int }, accessFlags := 2, code := some k2c26 }
def k2c27 : Code := { maxStack := 2, maxLocals := 1, code := prog_1_method_32_code, exceptionTable := #[], attributes := #[] }
def k2m27 : Method := { name := "radius", desc := "()I", sig := { parameters := [], returnType := some .int }, accessFlags := 2, code := some k2c27 }
def k2c28 : Code := { maxStack := 3, maxLocals := 8, code := prog_1_method_33_code, exceptionTable := #[], attributes := #[] }
def k2m28 : Method := { name := "enumerateMinWeight", desc := "(I)I", sig := { parameters := [.int], returnType := some .int }, accessFlags := 2, code := some k2c28 }
def k2c29 : Code := { maxStack := 4, maxLocals := 4, code := prog_1_method_34_code, exceptionTable := #[], attributes := #[] }
def k2m29 : Method := { name := "polyMod", desc := "(I)I", sig := { parameters := [.int], returnType := some .int }, accessFlags := 2, code := some k2c29 }
def k2c30 : Code := { maxStack := 3, maxLocals := 5, code := prog_1_method_35_code, exceptionTable := #[], attributes := #[] }
def k2m30 : Method := { name := "clmul", desc := "(II)I", sig := { parameters := [.int, .int], returnType := some .int }, accessFlags := 2, code := some k2c30 }
def k2c31 : Code := { maxStack := 4, maxLocals := 4, code := prog_1_method_36_code, exceptionTable := #[], attributes := #[] }
def k2m31 : Method := { name := "rotate", desc := "(II)I", sig := { parameters := [.int, .int], returnType := some .int }, accessFlags := 2, code := some k2c31 }
def k2c32 : Code := { maxStack := 2, maxLocals := 2, code := prog_1_method_37_code, exceptionTable := #[], attributes := #[] }
def k2m32 : Method := { name := "inRange", desc := "(I)Z", sig := { parameters := [.int], returnType := some .boolean }, accessFlags := 2, code := some k2c32 }
def k2c33 : Code := { maxStack := 2, maxLocals := 2, code := prog_1_method_38_code, exceptionTable := #[], attributes := #[] }
def k2m33 : Method := { name := "inZ", desc := "(I)Z", sig := { parameters := [.int], returnType := some .boolean }, accessFlags := 2, code := some k2c33 }
def k2c34 : Code := { maxStack := 2, maxLocals := 2, code := prog_1_method_39_code, exceptionTable := #[], attributes := #[] }
def k2m34 : Method := { name := "lowMask", desc := "(I)I", sig := { parameters := [.int], returnType := some .int }, accessFlags := 2, code := some k2c34 }
def k2c35 : Code := { maxStack := 3, maxLocals := 5, code := prog_1_method_40_code, exceptionTable := #[], attributes := #[] }
def k2m35 : Method := { name := "popcount", desc := "(I)I", sig := { parameters := [.int], returnType := some .int }, accessFlags := 2, code := some k2c35 }
def k2c36 : Code := { maxStack := 2, maxLocals := 3, code := prog_1_method_41_code, exceptionTable := #[], attributes := #[] }
def k2m36 : Method := { name := "lowestBit", desc := "(I)I", sig := { parameters := [.int], returnType := some .int }, accessFlags := 2, code := some k2c36 }
def k2c37 : Code := { maxStack := 2, maxLocals := 3, code := prog_1_method_42_code, exceptionTable := #[], attributes := #[] }
def k2m37 : Method := { name := "trailingZeros", desc := "(I)I", sig := { parameters := [.int], returnType := some .int }, accessFlags := 2, code := some k2c37 }
/-- CyclicCodeLab -/
def k2 : Class := { plain "CyclicCodeLab" (some 0) with
  accessFlags := 49
  interfaces := #[]
  cf := some (fileOf pool2 8 #[] #[{ accessFlags := 1, nameIndex := 5, descriptorIndex := 6, attributes := #[] }, { accessFlags := 1, nameIndex := 157, descriptorIndex := 31, attributes := #[] }, { accessFlags := 1, nameIndex := 158, descriptorIndex := 63, attributes := #[] }, { accessFlags := 1, nameIndex := 163, descriptorIndex := 31, attributes := #[] }, { accessFlags := 1, nameIndex := 164, descriptorIndex := 165, attributes := #[] }, { accessFlags := 1, nameIndex := 167, descriptorIndex := 63, attributes := #[] }, { accessFlags := 1, nameIndex := 62, descriptorIndex := 63, attributes := #[] }, { accessFlags := 1, nameIndex := 168, descriptorIndex := 63, attributes := #[] }, { accessFlags := 1, nameIndex := 169, descriptorIndex := 63, attributes := #[] }, { accessFlags := 1, nameIndex := 170, descriptorIndex := 63, attributes := #[] }, { accessFlags := 1, nameIndex := 171, descriptorIndex := 67, attributes := #[] }, { accessFlags := 1, nameIndex := 172, descriptorIndex := 67, attributes := #[] }, { accessFlags := 1, nameIndex := 173, descriptorIndex := 67, attributes := #[] }, { accessFlags := 2, nameIndex := 30, descriptorIndex := 31, attributes := #[] }, { accessFlags := 2, nameIndex := 89, descriptorIndex := 67, attributes := #[] }, { accessFlags := 2, nameIndex := 104, descriptorIndex := 67, attributes := #[] }, { accessFlags := 2, nameIndex := 95, descriptorIndex := 6, attributes := #[] }, { accessFlags := 2, nameIndex := 98, descriptorIndex := 6, attributes := #[] }, { accessFlags := 2, nameIndex := 107, descriptorIndex := 67, attributes := #[] }, { accessFlags := 2, nameIndex := 101, descriptorIndex := 6, attributes := #[] }, { accessFlags := 2, nameIndex := 113, descriptorIndex := 67, attributes := #[] }, { accessFlags := 2, nameIndex := 119, descriptorIndex := 120, attributes := #[] }, { accessFlags := 2, nameIndex := 116, descriptorIndex := 67, attributes := #[] }, { accessFlags := 2, nameIndex := 123, descriptorIndex := 83, attributes := #[] }, { accessFlags := 2, nameIndex := 47, descriptorIndex := 6, attributes := #[] }, { accessFlags := 2, nameIndex := 126, descriptorIndex := 63, attributes := #[] }, { accessFlags := 2, nameIndex := 129, descriptorIndex := 63, attributes := #[] }, { accessFlags := 2, nameIndex := 70, descriptorIndex := 63, attributes := #[] }, { accessFlags := 2, nameIndex := 66, descriptorIndex := 67, attributes := #[] }, { accessFlags := 2, nameIndex := 76, descriptorIndex := 67, attributes := #[] }, { accessFlags := 2, nameIndex := 132, descriptorIndex := 83, attributes := #[] }, { accessFlags := 2, nameIndex := 82, descriptorIndex := 83, attributes := #[] }, { accessFlags := 2, nameIndex := 41, descriptorIndex := 31, attributes := #[] }, { accessFlags := 2, nameIndex := 50, descriptorIndex := 31, attributes := #[] }, { accessFlags := 2, nameIndex := 73, descriptorIndex := 67, attributes := #[] }, { accessFlags := 2, nameIndex := 86, descriptorIndex := 67, attributes := #[] }, { accessFlags := 2, nameIndex := 110, descriptorIndex := 67, attributes := #[] }, { accessFlags := 2, nameIndex := 135, descriptorIndex := 67, attributes := #[] }] 49 2 #[] #[{ accessFlags := 25, nameIndex := 136, descriptorIndex := 35, attributes := #[] }, { accessFlags := 25, nameIndex := 139, descriptorIndex := 35, attributes := #[] }, { accessFlags := 25, nameIndex := 140, descriptorIndex := 35, attributes := #[] }, { accessFlags := 25, nameIndex := 142, descriptorIndex := 35, attributes := #[] }, { accessFlags := 25, nameIndex := 144, descriptorIndex := 35, attributes := #[] }, { accessFlags := 25, nameIndex := 145, descriptorIndex := 35, attributes := #[] }, { accessFlags := 25, nameIndex := 147, descriptorIndex := 35, attributes := #[] }, { accessFlags := 25, nameIndex := 149, descriptorIndex := 35, attributes := #[] }, { accessFlags := 25, nameIndex := 151, descriptorIndex := 35, attributes := #[] }, { accessFlags := 25, nameIndex := 153, descriptorIndex := 35, attributes := #[] }, { accessFlags := 2, nameIndex := 34, descriptorIndex := 35, attributes := #[] }, { accessFlags := 2, nameIndex := 38, descriptorIndex := 35, attributes := #[] }, { accessFlags := 2, nameIndex := 92, descriptorIndex := 35, attributes := #[] }, { accessFlags := 2, nameIndex := 79, descriptorIndex := 35, attributes := #[] }, { accessFlags := 2, nameIndex := 44, descriptorIndex := 35, attributes := #[] }, { accessFlags := 2, nameIndex := 53, descriptorIndex := 35, attributes := #[] }, { accessFlags := 2, nameIndex := 56, descriptorIndex := 35, attributes := #[] }, { accessFlags := 2, nameIndex := 59, descriptorIndex := 35, attributes := #[] }, { accessFlags := 2, nameIndex := 11, descriptorIndex := 12, attributes := #[] }, { accessFlags := 2, nameIndex := 15, descriptorIndex := 12, attributes := #[] }, { accessFlags := 2, nameIndex := 18, descriptorIndex := 12, attributes := #[] }, { accessFlags := 2, nameIndex := 21, descriptorIndex := 12, attributes := #[] }, { accessFlags := 2, nameIndex := 24, descriptorIndex := 12, attributes := #[] }, { accessFlags := 2, nameIndex := 27, descriptorIndex := 12, attributes := #[] }])
  fields := #[{ name := "REFUSED", type := .int, accessFlags := 25, slot := 0, constantValue := 0 }, { name := "DECODE_FAIL", type := .int, accessFlags := 25, slot := 1, constantValue := 0 }, { name := "DEFAULT_LENGTH", type := .int, accessFlags := 25, slot := 2, constantValue := 0 }, { name := "MAX_ENUM_DIMENSION", type := .int, accessFlags := 25, slot := 3, constantValue := 0 }, { name := "FIELD_POLY_M2", type := .int, accessFlags := 25, slot := 4, constantValue := 0 }, { name := "FIELD_POLY_M3", type := .int, accessFlags := 25, slot := 5, constantValue := 0 }, { name := "FIELD_POLY_M4", type := .int, accessFlags := 25, slot := 6, constantValue := 0 }, { name := "FIELD_POLY_M5", type := .int, accessFlags := 25, slot := 7, constantValue := 0 }, { name := "FIELD_POLY_M6", type := .int, accessFlags := 25, slot := 8, constantValue := 0 }, { name := "FIELD_POLY_M8", type := .int, accessFlags := 25, slot := 9, constantValue := 0 }, { name := "n", type := .int, accessFlags := 2, slot := 0, constantValue := 0 }, { name := "m", type := .int, accessFlags := 2, slot := 1, constantValue := 0 }, { name := "order", type := .int, accessFlags := 2, slot := 2, constantValue := 0 }, { name := "nMask", type := .int, accessFlags := 2, slot := 3, constantValue := 0 }, { name := "zeroSet", type := .int, accessFlags := 2, slot := 4, constantValue := 0 }, { name := "gen", type := .int, accessFlags := 2, slot := 5, constantValue := 0 }, { name := "degG", type := .int, accessFlags := 2, slot := 6, constantValue := 0 }, { name := "runLength", type := .int, accessFlags := 2, slot := 7, constantValue := 0 }, { name := "expTab", type := (.array .int), accessFlags := 2, slot := 8, constantValue := 0 }, { name := "logTab", type := (.array .int), accessFlags := 2, slot := 9, constantValue := 0 }, { name := "cosetTab", type := (.array .int), accessFlags := 2, slot := 10, constantValue := 0 }, { name := "leaderTab", type := (.array .int), accessFlags := 2, slot := 11, constantValue := 0 }, { name := "minPolyTab", type := (.array .int), accessFlags := 2, slot := 12, constantValue := 0 }, { name := "coef", type := (.array .int), accessFlags := 2, slot := 13, constantValue := 0 }]
  methods := #[k2m0, k2m1, k2m2, k2m3, k2m4, k2m5, k2m6, k2m7, k2m8, k2m9, k2m10, k2m11, k2m12, k2m13, k2m14, k2m15, k2m16, k2m17, k2m18, k2m19, k2m20, k2m21, k2m22, k2m23, k2m24, k2m25, k2m26, k2m27, k2m28, k2m29, k2m30, k2m31, k2m32, k2m33, k2m34, k2m35, k2m36, k2m37]
  instanceTypes := #[.int, .int, .int, .int, .int, .int, .int, .int, (.array .int), (.array .int), (.array .int), (.array .int), (.array .int), (.array .int)]
  staticTypes := #[.int, .int, .int, .int, .int, .int, .int, .int, .int, .int]
  resolved := Array.replicate 176 none
  statics := none }

def pool3 : Array CpInfo := pool [(1, u "java/lang/Cloneable"), (0, .class_ 1), (0, u "java/lang/Object"), (0, .class_ 3)] 3

/-- java/lang/Cloneable -/
def k3 : Class := { plain "java/lang/Cloneable" (some 0) with
  accessFlags := 1537
  interfaces := #[]
  cf := some (fileOf pool3 2 #[] #[] 1537 4 #[] #[])
  fields := #[]
  methods := #[]
  instanceTypes := #[]
  staticTypes := #[]
  resolved := Array.replicate 8 none
  statics := none }

def pool4 : Array CpInfo := pool [(1, u "java/io/Serializable"), (0, .class_ 1), (0, u "java/lang/Object"), (0, .class_ 3)] 3

/-- java/io/Serializable -/
def k4 : Class := { plain "java/io/Serializable" (some 0) with
  accessFlags := 1537
  interfaces := #[]
  cf := some (fileOf pool4 2 #[] #[] 1537 4 #[] #[])
  fields := #[]
  methods := #[]
  instanceTypes := #[]
  staticTypes := #[]
  resolved := Array.replicate 8 none
  statics := none }

/-- the primitive byte -/
def k5 : Class := { plain "byte" none with kind := .primitive 'B', accessFlags := 0x411 }
/-- [B -/
def k6 : Class := { plain "[B" (some 0) with kind := .array 5 .byte, interfaces := #[3, 4], accessFlags := 1041 }

/-- the primitive int -/
def k7 : Class := { plain "int" none with kind := .primitive 'I', accessFlags := 0x411 }
/-- [I -/
def k8 : Class := { plain "[I" (some 0) with kind := .array 7 .int, interfaces := #[3, 4], accessFlags := 1041 }

def heap : Heap := #[{ cls := 8, slots := #[.int 1, .int 2, .int 3], vm := .none }]
def classes : Array Class := #[k0, k1, k2, k3, k4, k5, k6, k7, k8]
def interned : List (Array UInt16 × Addr) := []
def slotsUsed : Nat := 3
def theMethod : MethodId := ⟨1, 7⟩
def args0 : Array Value := #[.ref 0]
def aboutOver (below : List Frame) : State where
  vm := { classes := classes, interned := interned.toArray }
  heap := heap
  slotsUsed := slotsUsed
  threads := #[{ frames := .invoking theMethod args0 :: below }]
def below0 : List Frame := [.native { method := ⟨0, 0⟩, args := #[] }]
def about1 : State := aboutOver below0
def p0 : Program := .bare "" "" ""
def e0 : Env := launch0.env 0 0 0
theorem w_frames : about1.frames = Frame.invoking theMethod args0 :: below0 := rfl
set_option maxRecDepth 65536 in
theorem w_args : argsFit about1.vm theMethod args0 = true := by decide +kernel
set_option maxRecDepth 65536 in
theorem w_heap : heapFits about1 = true := by decide +kernel
set_option maxRecDepth 65536 in
theorem w_runnable : about1.curStatus? = some .runnable := by decide +kernel
set_option maxRecDepth 65536 in
theorem w_alone : about1.alone = true := by decide +kernel
set_option maxRecDepth 65536 in
theorem w_named : about1.methodNamed? x = some theMethod := by decide +kernel
set_option maxRecDepth 65536 in
theorem w_hears : about1.hears theMethod below0 = true := by decide +kernel
set_option maxRecDepth 65536 in
theorem w_ripe : about1.ripe theMethod args0 below0 = true := by decide +kernel
theorem w_running : about1.status = .running := rfl
set_option maxRecDepth 65536 in
theorem w_room : about1.hasRoom e0.platform room_1 = true :=
  launch0.hasRoom_least _ room_1 (by decide +kernel) (by decide +kernel) (by decide +kernel) (by decide +kernel) (by decide +kernel) (by decide +kernel)
theorem allAtoms_all (ts : List Jvm.Cond) (a : Array Jvm.Value) (st : Jvm.State) : (allAtoms ts).before a st = ts.all (fun c => c.before a st) := by
  induction ts with
  | nil => rfl
  | cons c t ih =>
    show (Jvm.Cond.and c (allAtoms t)).before a st = _
    rw [Jvm.Cond.before_and, ih, List.all_cons]
def words1 : List Jvm.Cond := Jvm.Cond.code x code maxLocals ret :: tables_1
/-- a 'code' word, met by the world's own term for the bytes: nothing is compared byte by byte -/
theorem code_word {y : MethodName} {bytes : ByteArray} {mx : Nat} {rt : Option FieldType} {a : Array Value} {s : State} {m : MethodId} {meth : Method} {c : Code} (h1 : s.methodNamed? y = some m) (h2 : s.vm.method? m = some meth) (h3 : meth.code = some c) (h4 : c.code = bytes)
    (h5 : (c.maxLocals == mx && c.exceptionTable.isEmpty && decide (c.maxStack ≤ mostOperands) && decide (meth.sig.returnType = rt) && !meth.locks && decide (parseMethodDescriptor y.desc = some meth.sig)) = true) : (Jvm.Cond.code y bytes mx rt).before a s = true := by
  simp only [Bool.and_eq_true, beq_iff_eq, Bool.not_eq_true', decide_eq_true_eq] at h5
  obtain ⟨⟨⟨⟨⟨g1, g2⟩, g3⟩, g4⟩, g5⟩, g6⟩ := h5
  simp [Cond.before, Cond.holds, Cond.value, h1, h2, h3, h4, g1, g2, g3, g4, g5, g6]
def isCode : Jvm.Cond → Bool
  | .code _ _ _ _ => true
  | _ => false
theorem all_split {L : List Jvm.Cond} {P : Jvm.Cond → Bool} (h1 : L.all (fun c => isCode c || P c) = true) (h2 : ∀ c ∈ L.filter isCode, P c = true) : L.all P = true := by
  refine List.all_eq_true.mpr fun c hc => ?_
  have h := List.all_eq_true.mp h1 c hc
  rcases Bool.eq_false_or_eq_true (isCode c) with hi | hi
  · exact h2 c (List.mem_filter.mpr ⟨hc, hi⟩)
  · simpa [hi] using h
set_option maxRecDepth 65536 in
theorem w_c0 : (Jvm.Cond.code x code maxLocals ret).before args0 about1 = true := code_word (m := ⟨1, 7⟩) (meth := k1m7) (c := k1c7) (by decide +kernel) rfl rfl rfl (by decide +kernel)
set_option maxRecDepth 65536 in
theorem w_c1 : (Jvm.Cond.code ({ cls := "CyclicCodeLab", name := "<init>", desc := "()V" } : Jvm.MethodName) prog_1_method_1_code (1 : Nat) (Option.none : Option Jvm.ClassFile.FieldType)).before args0 about1 = true := code_word (m := ⟨2, 0⟩) (meth := k2m0) (c := k2c0) (by decide +kernel) rfl rfl rfl (by decide +kernel)
set_option maxRecDepth 65536 in
theorem w_c2 : (Jvm.Cond.code ({ cls := "java/lang/Object", name := "<init>", desc := "()V" } : Jvm.MethodName) object_method_1_code (1 : Nat) (Option.none : Option Jvm.ClassFile.FieldType)).before args0 about1 = true := code_word (m := ⟨0, 0⟩) (meth := k0m0) (c := k0c0) (by decide +kernel) rfl rfl rfl (by decide +kernel)
set_option maxRecDepth 65536 in
theorem w_c3 : (Jvm.Cond.code ({ cls := "CyclicCodeLab", name := "configure", desc := "(I)Z" } : Jvm.MethodName) prog_1_method_18_code (3 : Nat) (Option.some Jvm.ClassFile.FieldType.boolean)).before args0 about1 = true := code_word (m := ⟨2, 13⟩) (meth := k2m13) (c := k2c13) (by decide +kernel) rfl rfl rfl (by decide +kernel)
set_option maxRecDepth 65536 in
theorem w_c4 : (Jvm.Cond.code ({ cls := "CyclicCodeLab", name := "degreeFor", desc := "(I)I" } : Jvm.MethodName) prog_1_method_19_code (2 : Nat) (Option.some Jvm.ClassFile.FieldType.int)).before args0 about1 = true := code_word (m := ⟨2, 14⟩) (meth := k2m14) (c := k2c14) (by decide +kernel) rfl rfl rfl (by decide +kernel)
set_option maxRecDepth 65536 in
theorem w_c5 : (Jvm.Cond.code ({ cls := "CyclicCodeLab", name := "lowMask", desc := "(I)I" } : Jvm.MethodName) prog_1_method_39_code (2 : Nat) (Option.some Jvm.ClassFile.FieldType.int)).before args0 about1 = true := code_word (m := ⟨2, 34⟩) (meth := k2m34) (c := k2c34) (by decide +kernel) rfl rfl rfl (by decide +kernel)
set_option maxRecDepth 65536 in
theorem w_c6 : (Jvm.Cond.code ({ cls := "CyclicCodeLab", name := "buildField", desc := "()V" } : Jvm.MethodName) prog_1_method_21_code (5 : Nat) (Option.none : Option Jvm.ClassFile.FieldType)).before args0 about1 = true := code_word (m := ⟨2, 16⟩) (meth := k2m16) (c := k2c16) (by decide +kernel) rfl rfl rfl (by decide +kernel)
set_option maxRecDepth 65536 in
theorem w_c7 : (Jvm.Cond.code ({ cls := "CyclicCodeLab", name := "fieldPolyFor", desc := "(I)I" } : Jvm.MethodName) prog_1_method_20_code (2 : Nat) (Option.some Jvm.ClassFile.FieldType.int)).before args0 about1 = true := code_word (m := ⟨2, 15⟩) (meth := k2m15) (c := k2c15) (by decide +kernel) rfl rfl rfl (by decide +kernel)
set_option maxRecDepth 65536 in
theorem w_c8 : (Jvm.Cond.code ({ cls := "CyclicCodeLab", name := "buildCosets", desc := "()V" } : Jvm.MethodName) prog_1_method_22_code (3 : Nat) (Option.none : Option Jvm.ClassFile.FieldType)).before args0 about1 = true := code_word (m := ⟨2, 17⟩) (meth := k2m17) (c := k2c17) (by decide +kernel) rfl rfl rfl (by decide +kernel)
set_option maxRecDepth 65536 in
theorem w_c9 : (Jvm.Cond.code ({ cls := "CyclicCodeLab", name := "cosetMaskOf", desc := "(I)I" } : Jvm.MethodName) prog_1_method_23_code (5 : Nat) (Option.some Jvm.ClassFile.FieldType.int)).before args0 about1 = true := code_word (m := ⟨2, 18⟩) (meth := k2m18) (c := k2c18) (by decide +kernel) rfl rfl rfl (by decide +kernel)
set_option maxRecDepth 65536 in
theorem w_c10 : (Jvm.Cond.code ({ cls := "CyclicCodeLab", name := "lowestBit", desc := "(I)I" } : Jvm.MethodName) prog_1_method_41_code (3 : Nat) (Option.some Jvm.ClassFile.FieldType.int)).before args0 about1 = true := code_word (m := ⟨2, 36⟩) (meth := k2m36) (c := k2c36) (by decide +kernel) rfl rfl rfl (by decide +kernel)
set_option maxRecDepth 65536 in
theorem w_c11 : (Jvm.Cond.code ({ cls := "CyclicCodeLab", name := "buildMinimalPolys", desc := "()V" } : Jvm.MethodName) prog_1_method_24_code (3 : Nat) (Option.none : Option Jvm.ClassFile.FieldType)).before args0 about1 = true := code_word (m := ⟨2, 19⟩) (meth := k2m19) (c := k2c19) (by decide +kernel) rfl rfl rfl (by decide +kernel)
set_option maxRecDepth 65536 in
theorem w_c12 : (Jvm.Cond.code ({ cls := "CyclicCodeLab", name := "minimalPolyOfCoset", desc := "(I)I" } : Jvm.MethodName) prog_1_method_25_code (5 : Nat) (Option.some Jvm.ClassFile.FieldType.int)).before args0 about1 = true := code_word (m := ⟨2, 20⟩) (meth := k2m20) (c := k2c20) (by decide +kernel) rfl rfl rfl (by decide +kernel)
set_option maxRecDepth 65536 in
theorem w_c13 : (Jvm.Cond.code ({ cls := "CyclicCodeLab", name := "alphaPow", desc := "(I)I" } : Jvm.MethodName) prog_1_method_27_code (4 : Nat) (Option.some Jvm.ClassFile.FieldType.int)).before args0 about1 = true := code_word (m := ⟨2, 22⟩) (meth := k2m22) (c := k2c22) (by decide +kernel) rfl rfl rfl (by decide +kernel)
set_option maxRecDepth 65536 in
theorem w_c14 : (Jvm.Cond.code ({ cls := "CyclicCodeLab", name := "multiplyByLinear", desc := "(II)V" } : Jvm.MethodName) prog_1_method_26_code (5 : Nat) (Option.none : Option Jvm.ClassFile.FieldType)).before args0 about1 = true := code_word (m := ⟨2, 21⟩) (meth := k2m21) (c := k2c21) (by decide +kernel) rfl rfl rfl (by decide +kernel)
set_option maxRecDepth 65536 in
theorem w_c15 : (Jvm.Cond.code ({ cls := "CyclicCodeLab", name := "gfMul", desc := "(II)I" } : Jvm.MethodName) prog_1_method_28_code (4 : Nat) (Option.some Jvm.ClassFile.FieldType.int)).before args0 about1 = true := code_word (m := ⟨2, 23⟩) (meth := k2m23) (c := k2c23) (by decide +kernel) rfl rfl rfl (by decide +kernel)
set_option maxRecDepth 65536 in
theorem w_c16 : (Jvm.Cond.code ({ cls := "CyclicCodeLab", name := "refresh", desc := "()V" } : Jvm.MethodName) prog_1_method_29_code (1 : Nat) (Option.none : Option Jvm.ClassFile.FieldType)).before args0 about1 = true := code_word (m := ⟨2, 24⟩) (meth := k2m24) (c := k2c24) (by decide +kernel) rfl rfl rfl (by decide +kernel)
set_option maxRecDepth 65536 in
theorem w_c17 : (Jvm.Cond.code ({ cls := "CyclicCodeLab", name := "popcount", desc := "(I)I" } : Jvm.MethodName) prog_1_method_40_code (5 : Nat) (Option.some Jvm.ClassFile.FieldType.int)).before args0 about1 = true := code_word (m := ⟨2, 35⟩) (meth := k2m35) (c := k2c35) (by decide +kernel) rfl rfl rfl (by decide +kernel)
set_option maxRecDepth 65536 in
theorem w_c18 : (Jvm.Cond.code ({ cls := "CyclicCodeLab", name := "computeGenerator", desc := "()I" } : Jvm.MethodName) prog_1_method_30_code (3 : Nat) (Option.some Jvm.ClassFile.FieldType.int)).before args0 about1 = true := code_word (m := ⟨2, 25⟩) (meth := k2m25) (c := k2c25) (by decide +kernel) rfl rfl rfl (by decide +kernel)
set_option maxRecDepth 65536 in
theorem w_c19 : (Jvm.Cond.code ({ cls := "CyclicCodeLab", name := "inZ", desc := "(I)Z" } : Jvm.MethodName) prog_1_method_38_code (2 : Nat) (Option.some Jvm.ClassFile.FieldType.boolean)).before args0 about1 = true := code_word (m := ⟨2, 33⟩) (meth := k2m33) (c := k2c33) (by decide +kernel) rfl rfl rfl (by decide +kernel)
set_option maxRecDepth 65536 in
theorem w_c20 : (Jvm.Cond.code ({ cls := "CyclicCodeLab", name := "computeRunLength", desc := "()I" } : Jvm.MethodName) prog_1_method_31_code (4 : Nat) (Option.some Jvm.ClassFile.FieldType.int)).before args0 about1 = true := code_word (m := ⟨2, 26⟩) (meth := k2m26) (c := k2c26) (by decide +kernel) rfl rfl rfl (by decide +kernel)
set_option maxRecDepth 65536 in
theorem w_c21 : (Jvm.Cond.code ({ cls := "CyclicCodeLabOwnLaw", name := "check", desc := "(LCyclicCodeLab;[II)Z" } : Jvm.MethodName) method_7_code (17 : Nat) (Option.some Jvm.ClassFile.FieldType.boolean)).before args0 about1 = true := code_word (m := ⟨1, 6⟩) (meth := k1m6) (c := k1c6) (by decide +kernel) rfl rfl rfl (by decide +kernel)
set_option maxRecDepth 65536 in
theorem w_c22 : (Jvm.Cond.code ({ cls := "CyclicCodeLab", name := "length", desc := "()I" } : Jvm.MethodName) prog_1_method_3_code (1 : Nat) (Option.some Jvm.ClassFile.FieldType.int)).before args0 about1 = true := code_word (m := ⟨2, 2⟩) (meth := k2m2) (c := k2c2) (by decide +kernel) rfl rfl rfl (by decide +kernel)
set_option maxRecDepth 65536 in
theorem w_c23 : (Jvm.Cond.code ({ cls := "CyclicCodeLab", name := "dimension", desc := "()I" } : Jvm.MethodName) prog_1_method_11_code (1 : Nat) (Option.some Jvm.ClassFile.FieldType.int)).before args0 about1 = true := code_word (m := ⟨2, 6⟩) (meth := k2m6) (c := k2c6) (by decide +kernel) rfl rfl rfl (by decide +kernel)
set_option maxRecDepth 65536 in
theorem w_c24 : (Jvm.Cond.code ({ cls := "CyclicCodeLab", name := "generator", desc := "()I" } : Jvm.MethodName) prog_1_method_10_code (1 : Nat) (Option.some Jvm.ClassFile.FieldType.int)).before args0 about1 = true := code_word (m := ⟨2, 5⟩) (meth := k2m5) (c := k2c5) (by decide +kernel) rfl rfl rfl (by decide +kernel)
set_option maxRecDepth 65536 in
theorem w_c25 : (Jvm.Cond.code ({ cls := "CyclicCodeLabOwnLaw", name := "deg", desc := "(J)I" } : Jvm.MethodName) method_5_code (4 : Nat) (Option.some Jvm.ClassFile.FieldType.int)).before args0 about1 = true := code_word (m := ⟨1, 4⟩) (meth := k1m4) (c := k1c4) (by decide +kernel) rfl rfl rfl (by decide +kernel)
set_option maxRecDepth 65536 in
theorem w_c26 : (Jvm.Cond.code ({ cls := "CyclicCodeLabOwnLaw", name := "pmod", desc := "(JJ)J" } : Jvm.MethodName) method_6_code (7 : Nat) (Option.some Jvm.ClassFile.FieldType.long)).before args0 about1 = true := code_word (m := ⟨1, 5⟩) (meth := k1m5) (c := k1c5) (by decide +kernel) rfl rfl rfl (by decide +kernel)
set_option maxRecDepth 65536 in
theorem w_c27 : (Jvm.Cond.code ({ cls := "CyclicCodeLab", name := "minDistance", desc := "()I" } : Jvm.MethodName) prog_1_method_13_code (2 : Nat) (Option.some Jvm.ClassFile.FieldType.int)).before args0 about1 = true := code_word (m := ⟨2, 8⟩) (meth := k2m8) (c := k2c8) (by decide +kernel) rfl rfl rfl (by decide +kernel)
set_option maxRecDepth 65536 in
theorem w_c28 : (Jvm.Cond.code ({ cls := "CyclicCodeLab", name := "enumerateMinWeight", desc := "(I)I" } : Jvm.MethodName) prog_1_method_33_code (8 : Nat) (Option.some Jvm.ClassFile.FieldType.int)).before args0 about1 = true := code_word (m := ⟨2, 28⟩) (meth := k2m28) (c := k2c28) (by decide +kernel) rfl rfl rfl (by decide +kernel)
set_option maxRecDepth 65536 in
theorem w_c29 : (Jvm.Cond.code ({ cls := "CyclicCodeLab", name := "trailingZeros", desc := "(I)I" } : Jvm.MethodName) prog_1_method_42_code (3 : Nat) (Option.some Jvm.ClassFile.FieldType.int)).before args0 about1 = true := code_word (m := ⟨2, 37⟩) (meth := k2m37) (c := k2c37) (by decide +kernel) rfl rfl rfl (by decide +kernel)
set_option maxRecDepth 65536 in
theorem w_c30 : (Jvm.Cond.code ({ cls := "CyclicCodeLab", name := "designedDistance", desc := "()I" } : Jvm.MethodName) prog_1_method_12_code (1 : Nat) (Option.some Jvm.ClassFile.FieldType.int)).before args0 about1 = true := code_word (m := ⟨2, 7⟩) (meth := k2m7) (c := k2c7) (by decide +kernel) rfl rfl rfl (by decide +kernel)
set_option maxRecDepth 65536 in
theorem w_c31 : (Jvm.Cond.code ({ cls := "CyclicCodeLab", name := "trappingCapability", desc := "()I" } : Jvm.MethodName) prog_1_method_14_code (4 : Nat) (Option.some Jvm.ClassFile.FieldType.int)).before args0 about1 = true := code_word (m := ⟨2, 9⟩) (meth := k2m9) (c := k2c9) (by decide +kernel) rfl rfl rfl (by decide +kernel)
set_option maxRecDepth 65536 in
theorem w_c32 : (Jvm.Cond.code ({ cls := "CyclicCodeLab", name := "radius", desc := "()I" } : Jvm.MethodName) prog_1_method_32_code (1 : Nat) (Option.some Jvm.ClassFile.FieldType.int)).before args0 about1 = true := code_word (m := ⟨2, 27⟩) (meth := k2m27) (c := k2c27) (by decide +kernel) rfl rfl rfl (by decide +kernel)
set_option maxRecDepth 65536 in
theorem w_c33 : (Jvm.Cond.code ({ cls := "CyclicCodeLabOwnLaw", name := "cell", desc := "([II)I" } : Jvm.MethodName) method_2_code (2 : Nat) (Option.some Jvm.ClassFile.FieldType.int)).before args0 about1 = true := code_word (m := ⟨1, 1⟩) (meth := k1m1) (c := k1c1) (by decide +kernel) rfl rfl rfl (by decide +kernel)
set_option maxRecDepth 65536 in
theorem w_c34 : (Jvm.Cond.code ({ cls := "CyclicCodeLab", name := "encode", desc := "(I)I" } : Jvm.MethodName) prog_1_method_15_code (5 : Nat) (Option.some Jvm.ClassFile.FieldType.int)).before args0 about1 = true := code_word (m := ⟨2, 10⟩) (meth := k2m10) (c := k2c10) (by decide +kernel) rfl rfl rfl (by decide +kernel)
set_option maxRecDepth 65536 in
theorem w_c35 : (Jvm.Cond.code ({ cls := "CyclicCodeLab", name := "polyMod", desc := "(I)I" } : Jvm.MethodName) prog_1_method_34_code (4 : Nat) (Option.some Jvm.ClassFile.FieldType.int)).before args0 about1 = true := code_word (m := ⟨2, 29⟩) (meth := k2m29) (c := k2c29) (by decide +kernel) rfl rfl rfl (by decide +kernel)
set_option maxRecDepth 65536 in
theorem w_c36 : (Jvm.Cond.code ({ cls := "CyclicCodeLab", name := "syndrome", desc := "(I)I" } : Jvm.MethodName) prog_1_method_16_code (3 : Nat) (Option.some Jvm.ClassFile.FieldType.int)).before args0 about1 = true := code_word (m := ⟨2, 11⟩) (meth := k2m11) (c := k2c11) (by decide +kernel) rfl rfl rfl (by decide +kernel)
set_option maxRecDepth 65536 in
theorem w_c37 : (Jvm.Cond.code ({ cls := "CyclicCodeLabOwnLaw", name := "nonneg", desc := "(I)I" } : Jvm.MethodName) method_3_code (1 : Nat) (Option.some Jvm.ClassFile.FieldType.int)).before args0 about1 = true := code_word (m := ⟨1, 2⟩) (meth := k1m2) (c := k1c2) (by decide +kernel) rfl rfl rfl (by decide +kernel)
set_option maxRecDepth 65536 in
theorem w_c38 : (Jvm.Cond.code ({ cls := "CyclicCodeLab", name := "decode", desc := "(I)I" } : Jvm.MethodName) prog_1_method_17_code (8 : Nat) (Option.some Jvm.ClassFile.FieldType.int)).before args0 about1 = true := code_word (m := ⟨2, 12⟩) (meth := k2m12) (c := k2c12) (by decide +kernel) rfl rfl rfl (by decide +kernel)
set_option maxRecDepth 65536 in
theorem w_c39 : (Jvm.Cond.code ({ cls := "CyclicCodeLab", name := "rotate", desc := "(II)I" } : Jvm.MethodName) prog_1_method_36_code (4 : Nat) (Option.some Jvm.ClassFile.FieldType.int)).before args0 about1 = true := code_word (m := ⟨2, 31⟩) (meth := k2m31) (c := k2c31) (by decide +kernel) rfl rfl rfl (by decide +kernel)
set_option maxRecDepth 65536 in
theorem w_c40 : (Jvm.Cond.code ({ cls := "CyclicCodeLab", name := "designBCH", desc := "(II)Z" } : Jvm.MethodName) prog_1_method_8_code (6 : Nat) (Option.some Jvm.ClassFile.FieldType.boolean)).before args0 about1 = true := code_word (m := ⟨2, 4⟩) (meth := k2m4) (c := k2c4) (by decide +kernel) rfl rfl rfl (by decide +kernel)
set_option maxRecDepth 65536 in
theorem w_c41 : (Jvm.Cond.code ({ cls := "CyclicCodeLab", name := "inRange", desc := "(I)Z" } : Jvm.MethodName) prog_1_method_37_code (2 : Nat) (Option.some Jvm.ClassFile.FieldType.boolean)).before args0 about1 = true := code_word (m := ⟨2, 32⟩) (meth := k2m32) (c := k2c32) (by decide +kernel) rfl rfl rfl (by decide +kernel)
set_option maxRecDepth 65536 in
theorem w_c42 : (Jvm.Cond.code ({ cls := "CyclicCodeLab", name := "clmul", desc := "(II)I" } : Jvm.MethodName) prog_1_method_35_code (5 : Nat) (Option.some Jvm.ClassFile.FieldType.int)).before args0 about1 = true := code_word (m := ⟨2, 30⟩) (meth := k2m30) (c := k2c30) (by decide +kernel) rfl rfl rfl (by decide +kernel)
set_option maxRecDepth 65536 in
theorem w_c43 : (Jvm.Cond.code ({ cls := "CyclicCodeLabOwnLaw", name := "lenOf", desc := "(I)I" } : Jvm.MethodName) method_4_code (1 : Nat) (Option.some Jvm.ClassFile.FieldType.int)).before args0 about1 = true := code_word (m := ⟨1, 3⟩) (meth := k1m3) (c := k1c3) (by decide +kernel) rfl rfl rfl (by decide +kernel)
set_option maxRecDepth 65536 in
theorem w_c44 : (Jvm.Cond.code ({ cls := "CyclicCodeLab", name := "setLength", desc := "(I)Z" } : Jvm.MethodName) prog_1_method_2_code (2 : Nat) (Option.some Jvm.ClassFile.FieldType.boolean)).before args0 about1 = true := code_word (m := ⟨2, 1⟩) (meth := k2m1) (c := k2c1) (by decide +kernel) rfl rfl rfl (by decide +kernel)
set_option maxRecDepth 65536 in
theorem w_c45 : (Jvm.Cond.code ({ cls := "CyclicCodeLab", name := "addZeros", desc := "(I)Z" } : Jvm.MethodName) prog_1_method_7_code (2 : Nat) (Option.some Jvm.ClassFile.FieldType.boolean)).before args0 about1 = true := code_word (m := ⟨2, 3⟩) (meth := k2m3) (c := k2c3) (by decide +kernel) rfl rfl rfl (by decide +kernel)
def codes1 : List Jvm.Cond := [Jvm.Cond.code x code maxLocals ret, Jvm.Cond.code ({ cls := "CyclicCodeLab", name := "<init>", desc := "()V" } : Jvm.MethodName) prog_1_method_1_code (1 : Nat) (Option.none : Option Jvm.ClassFile.FieldType), Jvm.Cond.code ({ cls := "java/lang/Object", name := "<init>", desc := "()V" } : Jvm.MethodName) object_method_1_code (1 : Nat) (Option.none : Option Jvm.ClassFile.FieldType), Jvm.Cond.code ({ cls := "CyclicCodeLab", name := "configure", desc := "(I)Z" } : Jvm.MethodName) prog_1_method_18_code (3 : Nat) (Option.some Jvm.ClassFile.FieldType.boolean), Jvm.Cond.code ({ cls := "CyclicCodeLab", name := "degreeFor", desc := "(I)I" } : Jvm.MethodName) prog_1_method_19_code (2 : Nat) (Option.some Jvm.ClassFile.FieldType.int), Jvm.Cond.code ({ cls := "CyclicCodeLab", name := "lowMask", desc := "(I)I" } : Jvm.MethodName) prog_1_method_39_code (2 : Nat) (Option.some Jvm.ClassFile.FieldType.int), Jvm.Cond.code ({ cls := "CyclicCodeLab", name := "buildField", desc := "()V" } : Jvm.MethodName) prog_1_method_21_code (5 : Nat) (Option.none : Option Jvm.ClassFile.FieldType), Jvm.Cond.code ({ cls := "CyclicCodeLab", name := "fieldPolyFor", desc := "(I)I" } : Jvm.MethodName) prog_1_method_20_code (2 : Nat) (Option.some Jvm.ClassFile.FieldType.int), Jvm.Cond.code ({ cls := "CyclicCodeLab", name := "buildCosets", desc := "()V" } : Jvm.MethodName) prog_1_method_22_code (3 : Nat) (Option.none : Option Jvm.ClassFile.FieldType), Jvm.Cond.code ({ cls := "CyclicCodeLab", name := "cosetMaskOf", desc := "(I)I" } : Jvm.MethodName) prog_1_method_23_code (5 : Nat) (Option.some Jvm.ClassFile.FieldType.int), Jvm.Cond.code ({ cls := "CyclicCodeLab", name := "lowestBit", desc := "(I)I" } : Jvm.MethodName) prog_1_method_41_code (3 : Nat) (Option.some Jvm.ClassFile.FieldType.int), Jvm.Cond.code ({ cls := "CyclicCodeLab", name := "buildMinimalPolys", desc := "()V" } : Jvm.MethodName) prog_1_method_24_code (3 : Nat) (Option.none : Option Jvm.ClassFile.FieldType), Jvm.Cond.code ({ cls := "CyclicCodeLab", name := "minimalPolyOfCoset", desc := "(I)I" } : Jvm.MethodName) prog_1_method_25_code (5 : Nat) (Option.some Jvm.ClassFile.FieldType.int), Jvm.Cond.code ({ cls := "CyclicCodeLab", name := "alphaPow", desc := "(I)I" } : Jvm.MethodName) prog_1_method_27_code (4 : Nat) (Option.some Jvm.ClassFile.FieldType.int), Jvm.Cond.code ({ cls := "CyclicCodeLab", name := "multiplyByLinear", desc := "(II)V" } : Jvm.MethodName) prog_1_method_26_code (5 : Nat) (Option.none : Option Jvm.ClassFile.FieldType), Jvm.Cond.code ({ cls := "CyclicCodeLab", name := "gfMul", desc := "(II)I" } : Jvm.MethodName) prog_1_method_28_code (4 : Nat) (Option.some Jvm.ClassFile.FieldType.int), Jvm.Cond.code ({ cls := "CyclicCodeLab", name := "refresh", desc := "()V" } : Jvm.MethodName) prog_1_method_29_code (1 : Nat) (Option.none : Option Jvm.ClassFile.FieldType), Jvm.Cond.code ({ cls := "CyclicCodeLab", name := "popcount", desc := "(I)I" } : Jvm.MethodName) prog_1_method_40_code (5 : Nat) (Option.some Jvm.ClassFile.FieldType.int), Jvm.Cond.code ({ cls := "CyclicCodeLab", name := "computeGenerator", desc := "()I" } : Jvm.MethodName) prog_1_method_30_code (3 : Nat) (Option.some Jvm.ClassFile.FieldType.int), Jvm.Cond.code ({ cls := "CyclicCodeLab", name := "inZ", desc := "(I)Z" } : Jvm.MethodName) prog_1_method_38_code (2 : Nat) (Option.some Jvm.ClassFile.FieldType.boolean), Jvm.Cond.code ({ cls := "CyclicCodeLab", name := "computeRunLength", desc := "()I" } : Jvm.MethodName) prog_1_method_31_code (4 : Nat) (Option.some Jvm.ClassFile.FieldType.int), Jvm.Cond.code ({ cls := "CyclicCodeLabOwnLaw", name := "check", desc := "(LCyclicCodeLab;[II)Z" } : Jvm.MethodName) method_7_code (17 : Nat) (Option.some Jvm.ClassFile.FieldType.boolean), Jvm.Cond.code ({ cls := "CyclicCodeLab", name := "length", desc := "()I" } : Jvm.MethodName) prog_1_method_3_code (1 : Nat) (Option.some Jvm.ClassFile.FieldType.int), Jvm.Cond.code ({ cls := "CyclicCodeLab", name := "dimension", desc := "()I" } : Jvm.MethodName) prog_1_method_11_code (1 : Nat) (Option.some Jvm.ClassFile.FieldType.int), Jvm.Cond.code ({ cls := "CyclicCodeLab", name := "generator", desc := "()I" } : Jvm.MethodName) prog_1_method_10_code (1 : Nat) (Option.some Jvm.ClassFile.FieldType.int), Jvm.Cond.code ({ cls := "CyclicCodeLabOwnLaw", name := "deg", desc := "(J)I" } : Jvm.MethodName) method_5_code (4 : Nat) (Option.some Jvm.ClassFile.FieldType.int), Jvm.Cond.code ({ cls := "CyclicCodeLabOwnLaw", name := "pmod", desc := "(JJ)J" } : Jvm.MethodName) method_6_code (7 : Nat) (Option.some Jvm.ClassFile.FieldType.long), Jvm.Cond.code ({ cls := "CyclicCodeLab", name := "minDistance", desc := "()I" } : Jvm.MethodName) prog_1_method_13_code (2 : Nat) (Option.some Jvm.ClassFile.FieldType.int), Jvm.Cond.code ({ cls := "CyclicCodeLab", name := "enumerateMinWeight", desc := "(I)I" } : Jvm.MethodName) prog_1_method_33_code (8 : Nat) (Option.some Jvm.ClassFile.FieldType.int), Jvm.Cond.code ({ cls := "CyclicCodeLab", name := "trailingZeros", desc := "(I)I" } : Jvm.MethodName) prog_1_method_42_code (3 : Nat) (Option.some Jvm.ClassFile.FieldType.int), Jvm.Cond.code ({ cls := "CyclicCodeLab", name := "designedDistance", desc := "()I" } : Jvm.MethodName) prog_1_method_12_code (1 : Nat) (Option.some Jvm.ClassFile.FieldType.int), Jvm.Cond.code ({ cls := "CyclicCodeLab", name := "trappingCapability", desc := "()I" } : Jvm.MethodName) prog_1_method_14_code (4 : Nat) (Option.some Jvm.ClassFile.FieldType.int), Jvm.Cond.code ({ cls := "CyclicCodeLab", name := "radius", desc := "()I" } : Jvm.MethodName) prog_1_method_32_code (1 : Nat) (Option.some Jvm.ClassFile.FieldType.int), Jvm.Cond.code ({ cls := "CyclicCodeLabOwnLaw", name := "cell", desc := "([II)I" } : Jvm.MethodName) method_2_code (2 : Nat) (Option.some Jvm.ClassFile.FieldType.int), Jvm.Cond.code ({ cls := "CyclicCodeLab", name := "encode", desc := "(I)I" } : Jvm.MethodName) prog_1_method_15_code (5 : Nat) (Option.some Jvm.ClassFile.FieldType.int), Jvm.Cond.code ({ cls := "CyclicCodeLab", name := "polyMod", desc := "(I)I" } : Jvm.MethodName) prog_1_method_34_code (4 : Nat) (Option.some Jvm.ClassFile.FieldType.int), Jvm.Cond.code ({ cls := "CyclicCodeLab", name := "syndrome", desc := "(I)I" } : Jvm.MethodName) prog_1_method_16_code (3 : Nat) (Option.some Jvm.ClassFile.FieldType.int), Jvm.Cond.code ({ cls := "CyclicCodeLabOwnLaw", name := "nonneg", desc := "(I)I" } : Jvm.MethodName) method_3_code (1 : Nat) (Option.some Jvm.ClassFile.FieldType.int), Jvm.Cond.code ({ cls := "CyclicCodeLab", name := "decode", desc := "(I)I" } : Jvm.MethodName) prog_1_method_17_code (8 : Nat) (Option.some Jvm.ClassFile.FieldType.int), Jvm.Cond.code ({ cls := "CyclicCodeLab", name := "rotate", desc := "(II)I" } : Jvm.MethodName) prog_1_method_36_code (4 : Nat) (Option.some Jvm.ClassFile.FieldType.int), Jvm.Cond.code ({ cls := "CyclicCodeLab", name := "designBCH", desc := "(II)Z" } : Jvm.MethodName) prog_1_method_8_code (6 : Nat) (Option.some Jvm.ClassFile.FieldType.boolean), Jvm.Cond.code ({ cls := "CyclicCodeLab", name := "inRange", desc := "(I)Z" } : Jvm.MethodName) prog_1_method_37_code (2 : Nat) (Option.some Jvm.ClassFile.FieldType.boolean), Jvm.Cond.code ({ cls := "CyclicCodeLab", name := "clmul", desc := "(II)I" } : Jvm.MethodName) prog_1_method_35_code (5 : Nat) (Option.some Jvm.ClassFile.FieldType.int), Jvm.Cond.code ({ cls := "CyclicCodeLabOwnLaw", name := "lenOf", desc := "(I)I" } : Jvm.MethodName) method_4_code (1 : Nat) (Option.some Jvm.ClassFile.FieldType.int), Jvm.Cond.code ({ cls := "CyclicCodeLab", name := "setLength", desc := "(I)Z" } : Jvm.MethodName) prog_1_method_2_code (2 : Nat) (Option.some Jvm.ClassFile.FieldType.boolean), Jvm.Cond.code ({ cls := "CyclicCodeLab", name := "addZeros", desc := "(I)Z" } : Jvm.MethodName) prog_1_method_7_code (2 : Nat) (Option.some Jvm.ClassFile.FieldType.boolean)]
set_option maxRecDepth 65536 in
theorem codes_eq : words1.filter isCode = codes1 := rfl
theorem w_codes : ∀ c ∈ words1.filter isCode, c.before args0 about1 = true := by
  rw [codes_eq]
  intro c hc
  simp only [codes1, List.mem_cons, List.not_mem_nil, or_false] at hc
  rcases hc with rfl | rfl | rfl | rfl | rfl | rfl | rfl | rfl | rfl | rfl | rfl | rfl | rfl | rfl | rfl | rfl | rfl | rfl | rfl | rfl | rfl | rfl | rfl | rfl | rfl | rfl | rfl | rfl | rfl | rfl | rfl | rfl | rfl | rfl | rfl | rfl | rfl | rfl | rfl | rfl | rfl | rfl | rfl | rfl | rfl | rfl
  · exact w_c0
  · exact w_c1
  · exact w_c2
  · exact w_c3
  · exact w_c4
  · exact w_c5
  · exact w_c6
  · exact w_c7
  · exact w_c8
  · exact w_c9
  · exact w_c10
  · exact w_c11
  · exact w_c12
  · exact w_c13
  · exact w_c14
  · exact w_c15
  · exact w_c16
  · exact w_c17
  · exact w_c18
  · exact w_c19
  · exact w_c20
  · exact w_c21
  · exact w_c22
  · exact w_c23
  · exact w_c24
  · exact w_c25
  · exact w_c26
  · exact w_c27
  · exact w_c28
  · exact w_c29
  · exact w_c30
  · exact w_c31
  · exact w_c32
  · exact w_c33
  · exact w_c34
  · exact w_c35
  · exact w_c36
  · exact w_c37
  · exact w_c38
  · exact w_c39
  · exact w_c40
  · exact w_c41
  · exact w_c42
  · exact w_c43
  · exact w_c44
  · exact w_c45
set_option maxRecDepth 65536 in
theorem w_t1 : (words1.take 24).all (fun c => isCode c || c.before args0 about1) = true := by decide +kernel
set_option maxRecDepth 65536 in
theorem w_t2 : ((words1.drop 24).take 24).all (fun c => isCode c || c.before args0 about1) = true := by decide +kernel
set_option maxRecDepth 65536 in
theorem w_t3 : (((words1.drop 24).drop 24).take 24).all (fun c => isCode c || c.before args0 about1) = true := by decide +kernel
set_option maxRecDepth 65536 in
theorem w_t4 : ((((words1.drop 24).drop 24).drop 24).take 24).all (fun c => isCode c || c.before args0 about1) = true := by decide +kernel
set_option maxRecDepth 65536 in
theorem w_t5 : (((((words1.drop 24).drop 24).drop 24).drop 24).take 24).all (fun c => isCode c || c.before args0 about1) = true := by decide +kernel
set_option maxRecDepth 65536 in
theorem w_t6 : ((((((words1.drop 24).drop 24).drop 24).drop 24).drop 24).take 24).all (fun c => isCode c || c.before args0 about1) = true := by decide +kernel
set_option maxRecDepth 65536 in
theorem w_t7 : (((((((words1.drop 24).drop 24).drop 24).drop 24).drop 24).drop 24).take 24).all (fun c => isCode c || c.before args0 about1) = true := by decide +kernel
set_option maxRecDepth 65536 in
theorem w_t8 : ((((((((words1.drop 24).drop 24).drop 24).drop 24).drop 24).drop 24).drop 24).take 24).all (fun c => isCode c || c.before args0 about1) = true := by decide +kernel
set_option maxRecDepth 65536 in
theorem w_t9 : (((((((((words1.drop 24).drop 24).drop 24).drop 24).drop 24).drop 24).drop 24).drop 24).take 24).all (fun c => isCode c || c.before args0 about1) = true := by decide +kernel
set_option maxRecDepth 65536 in
theorem w_t10 : (((((((((words1.drop 24).drop 24).drop 24).drop 24).drop 24).drop 24).drop 24).drop 24).drop 24).all (fun c => isCode c || c.before args0 about1) = true := by decide +kernel
theorem w_tables : (allAtoms (Jvm.Cond.code x code maxLocals ret :: tables_1)).before args0 about1 = true := by
  rw [allAtoms_all]
  show words1.all (fun c => c.before args0 about1) = true
  refine all_split ?_ w_codes
  rw [← List.take_append_drop 24 words1, List.all_append, w_t1, ← List.take_append_drop 24 (words1.drop 24), List.all_append, w_t2, ← List.take_append_drop 24 ((words1.drop 24).drop 24), List.all_append, w_t3, ← List.take_append_drop 24 (((words1.drop 24).drop 24).drop 24), List.all_append, w_t4, ← List.take_append_drop 24 ((((words1.drop 24).drop 24).drop 24).drop 24), List.all_append, w_t5, ← List.take_append_drop 24 (((((words1.drop 24).drop 24).drop 24).drop 24).drop 24), List.all_append, w_t6, ← List.take_append_drop 24 ((((((words1.drop 24).drop 24).drop 24).drop 24).drop 24).drop 24), List.all_append, w_t7, ← List.take_append_drop 24 (((((((words1.drop 24).drop 24).drop 24).drop 24).drop 24).drop 24).drop 24), List.all_append, w_t8, ← List.take_append_drop 24 ((((((((words1.drop 24).drop 24).drop 24).drop 24).drop 24).drop 24).drop 24).drop 24), List.all_append, w_t9, w_t10]
  rfl
set_option maxRecDepth 65536 in
theorem w_rest : rest_1_c.before args0 about1 = true := by decide +kernel
set_option maxRecDepth 65536 in
theorem w_case : (Jvm.Cond.and given_1 narrow_1).before args0 about1 = true := by decide +kernel
theorem w_applies : (headSpec (Jvm.Cond.code x code maxLocals ret :: tables_1) room_1).applies x e0.platform about1 = true :=
  (Spec.applies_iff w_frames).mpr ⟨w_running, w_runnable, w_alone, w_named, w_hears, w_ripe, w_room, w_tables⟩
theorem atStart : AtStart classFile x code maxLocals ret World_1 tables_1 room_1 Calls_1 rest_1 Pre_1 launch0 p0 e0 about1 theMethod args0 below0 :=
  ⟨lists_1, trivial, launch0.admits_env _ _ _, launch0.least_env, fairChoices_fair.cas, fairChoices_fair.clock, w_frames, w_args, w_heap, w_applies, trivial, w_rest, w_case⟩
end start1
theorem witness_1 : WitnessClaimed_1 := ⟨start1.p0, start1.e0, start1.about1, start1.theMethod, start1.args0, start1.below0, start1.atStart⟩
end Jvm.Pilot.@@N@@
