import JvmDerived
import JvmDerived.Pilot.@@N@@Statement
import JvmDerived.Pilot.@@N@@Code
set_option linter.unusedVariables false
set_option linter.unusedSimpArgs false
namespace Jvm.Own
open Jvm Jvm.ClassFile Sem Op Lib Jvm.Free Jvm.Stand Jvm.LawKit Jvm.RoadKit Bundle
/-! ## values, cells, heaps of the small view -/
theorem leb {a b : Nat} (h : Nat.ble a b = true) : a ≤ b := Nat.le_of_ble_eq_true h
abbrev dc (b : ByteArray) (pc : Nat) (i : Instr) (n : Nat) : Prop := decode b pc = .ok (i, n)
abbrev OwnC : Type := Sum (List Value) (Sum (List Int32) (Sum (List Int64) (List Int32)))
abbrev cO (vs : List Value) : OwnC := .inl vs
abbrev cI (xs : List Int32) : OwnC := .inr (.inl xs)
abbrev cJ (xs : List Int64) : OwnC := .inr (.inr (.inl xs))
abbrev cZ (xs : List Int32) : OwnC := .inr (.inr (.inr xs))
def rf (ad : Nat → Addr) : Value → Value
  | .ref i => .ref (ad i)
  | .int x => .int x
  | .long x => .long x
  | .float x => .float x
  | .double x => .double x
  | .null => .null
  | .retAddr x => .retAddr x
theorem rf_cat (ad : Nat → Addr) (v : Value) : (rf ad v).category = v.category := by cases v <;> rfl
theorem rf_isRef (ad : Nat → Addr) (v : Value) : (rf ad v).isRef = v.isRef := by cases v <;> rfl
theorem rf_cats (ad : Nat → Addr) (S : List Value) : ((S.map (rf ad)).map fun v => v.category) = S.map fun v => v.category := by
  simp [List.map_map, Function.comp_def, rf_cat]
def CelOk (Z : State) (C : String) (lay : List (String × String)) (ad : Nat → Addr) (h : Heap) (a : Addr) : OwnC → Prop
  | .inl vs => Exa Z h a C ∧ ∀ (i : Nat) (f : String × String) (v : Value), lay[i]? = some f → vs[i]? = some v → Fld Z h a C f.1 f.2 (rf ad v)
  | .inr (.inl xs) => ∃ cl : Cell, Arr Z h a cl .int ∧ cl.slots.toList = xs.map Value.int
  | .inr (.inr (.inl xs)) => ∃ cl : Cell, Arr Z h a cl .long ∧ cl.slots.toList = xs.map Value.long
  | .inr (.inr (.inr xs)) => ∃ cl : Cell, Arr Z h a cl .boolean ∧ cl.slots.toList = xs.map Value.int
def HR (Z : State) (C : String) (lay : List (String × String)) (n0 ro : Nat) (ad : Nat → Addr) (H : List OwnC) (h : Heap) : Prop :=
  (∀ i c, H[i]? = some c → CelOk Z C lay ad h (ad i) c) ∧ (∀ i j, i < H.length → j < H.length → ad i = ad j → i = j) ∧ (∀ t, ad (H.length + t) = h.size + t) ∧ (∀ i, i < H.length → ro ≤ i → n0 ≤ ad i) ∧ n0 ≤ h.size
def Kp (ad : Nat → Addr) (N : Nat) (h h' : Heap) : Prop := h.size ≤ h'.size ∧ ∀ (a : Addr) (c : Cell), h[a]? = some c → (∀ i, i < N → ad i ≠ a) → h'[a]? = some c
theorem CelOk.keep {Z : State} {C : String} {lay : List (String × String)} {ad : Nat → Addr} {h h' : Heap} {a : Addr} {c : OwnC} (q : ∀ cz : Cell, h[a]? = some cz → h'[a]? = some cz) (F : CelOk Z C lay ad h a c) : CelOk Z C lay ad h' a c := by
  rcases c with vs | xs | xs | xs
  · obtain ⟨⟨cell, k, h1, r⟩, F2⟩ := F
    refine ⟨⟨cell, k, q _ h1, r⟩, fun i f v hf hv => ?_⟩
    obtain ⟨cell, cf, k, i, f, h1, r⟩ := F2 i f v hf hv
    exact ⟨cell, cf, k, i, f, q _ h1, r⟩
  all_goals
    obtain ⟨cl, ⟨h1, r⟩, h2⟩ := F
    exact ⟨cl, ⟨q _ h1, r⟩, h2⟩
theorem CelOk.lt {Z : State} {C : String} {lay : List (String × String)} {ad : Nat → Addr} {h : Heap} {a : Addr} {c : OwnC} (F : CelOk Z C lay ad h a c) : a < h.size := by
  rcases c with vs | xs | xs | xs
  · exact F.1.lt
  all_goals
    obtain ⟨cl, A, h2⟩ := F
    exact A.lt
theorem Kp.refl (ad : Nat → Addr) (N : Nat) (h : Heap) : Kp ad N h h := ⟨Nat.le_refl _, fun _ _ q _ => q⟩
theorem get_lt {α : Type} {L : List α} {i : Nat} {c : α} (h : L[i]? = some c) : i < L.length := (List.getElem?_eq_some_iff.mp h).1
section HRs
variable {Z : State} {C : String} {lay : List (String × String)} {n0 ro : Nat} {ad : Nat → Addr} {H H' : List OwnC} {h h' h'' : Heap}
/-- the addresses at or above H.length lie at or above the heap's size -/
theorem HR.new (R : HR Z C lay n0 ro ad H h) {i : Nat} (hi : H.length ≤ i) : h.size ≤ ad i := by
  obtain ⟨t, rfl⟩ := Nat.exists_eq_add_of_le hi
  rw [R.2.2.1 t]; exact Nat.le_add_right _ _
theorem Kp.trans (R : HR Z C lay n0 ro ad H h) (K : Kp ad H.length h h') {N : Nat} (K' : Kp ad N h' h'') : Kp ad H.length h h'' := by
  refine ⟨Nat.le_trans K.1 K'.1, fun a c hc hn => K'.2 a c (K.2 a c hc hn) fun i hi q => ?_⟩
  by_cases hl : i < H.length
  · exact hn i hl q
  · have h1 := R.new (Nat.le_of_not_lt hl)
    rw [q] at h1
    exact absurd (Array.getElem?_eq_some_iff.mp hc).1 (Nat.not_lt.mpr h1)
/-- one cell of the small heap is written anew, at its own address -/
theorem HR.put (R : HR Z C lay n0 ro ad H h) {i : Nat} {c : OwnC} (hi : i < H.length) (hs : h'.size = h.size) (ho : ∀ a cz, a ≠ ad i → h[a]? = some cz → h'[a]? = some cz) (hc : CelOk Z C lay ad h' (ad i) c) :
    HR Z C lay n0 ro ad (H.set i c) h' ∧ Kp ad H.length h h' := by
  refine ⟨⟨fun j c' hj => ?_, fun i' j' hi' hj' => ?_, fun t => ?_, fun i' hi' => ?_, by rw [hs]; exact R.2.2.2.2⟩, by rw [hs]; exact Nat.le_refl _, fun a cz hz hn => ho a cz (fun q => hn i hi q.symm) hz⟩
  · rw [List.getElem?_set] at hj
    by_cases e : i = j
    · subst e
      simp [hi] at hj
      subst hj; exact hc
    · rw [if_neg e] at hj
      exact (R.1 j c' hj).keep fun cz q => ho _ cz (fun q' => e (R.2.1 _ _ hi (get_lt hj) q'.symm)) q
  · simp only [List.length_set] at hi' hj'; exact R.2.1 _ _ hi' hj'
  · rw [List.length_set, hs]; exact R.2.2.1 t
  · simp only [List.length_set] at hi'; exact R.2.2.2.1 _ hi'
/-- a new cell behind all others -/
theorem HR.push (R : HR Z C lay n0 ro ad H h) {c : OwnC} (hs : h'.size = h.size + 1) (hE : Ext h h') (hc : CelOk Z C lay ad h' h.size c) :
    HR Z C lay n0 ro ad (H ++ [c]) h' ∧ Kp ad H.length h h' ∧ ad H.length = h.size := by
  have e0 : ad H.length = h.size := R.2.2.1 0
  refine ⟨⟨fun j c' hj => ?_, fun i j hi hj q => ?_, fun t => ?_, fun i hi hr => ?_, by rw [hs]; exact Nat.le_succ_of_le R.2.2.2.2⟩, ⟨hE.1, fun a cz hz _ => hE.2 _ _ hz⟩, e0⟩
  · by_cases hl : j < H.length
    · rw [List.getElem?_append_left hl] at hj
      exact (R.1 j c' hj).keep fun cz q => hE.2 _ _ q
    · have hl' := get_lt hj
      simp only [List.length_append, List.length_singleton] at hl'
      obtain rfl : j = H.length := by omega
      simp at hj
      subst hj; rw [e0]; exact hc
  · simp only [List.length_append, List.length_singleton] at hi hj
    by_cases h1 : i < H.length
    · by_cases h2 : j < H.length
      · exact R.2.1 _ _ h1 h2 q
      · have a1 := (R.1 i _ (List.getElem?_eq_getElem h1)).lt
        have a2 := R.new (Nat.le_of_not_lt h2)
        rw [q] at a1
        exact absurd a1 (Nat.not_lt.mpr a2)
    · by_cases h2 : j < H.length
      · have a1 := (R.1 j _ (List.getElem?_eq_getElem h2)).lt
        have a2 := R.new (Nat.le_of_not_lt h1)
        rw [q] at a2
        exact absurd a1 (Nat.not_lt.mpr a2)
      · omega
  · rw [hs]
    have := R.2.2.1 (1 + t)
    simp only [List.length_append, List.length_singleton]
    rw [Nat.add_assoc, this]; exact (Nat.add_assoc _ _ _).symm
  · simp only [List.length_append, List.length_singleton] at hi
    by_cases h1 : i < H.length
    · exact R.2.2.2.1 _ h1 hr
    · exact Nat.le_trans R.2.2.2.2 (R.new (Nat.le_of_not_lt h1))
end HRs
/-! ## local variables: 'unset' in the small view says nothing -/
def WFs (f : Nat → Option Slot) : Prop := (∀ i, f i = some .second → ∃ j v, i = j + 1 ∧ f j = some (.val v) ∧ v.category = 2) ∧ ∀ i v, f i = some (.val v) → v.category = 2 → f (i + 1) = some .second
def LR (ad : Nat → Addr) (L : List Slot) (Ls : Array Slot) : Prop :=
  L.length = Ls.size ∧ (∀ (i : Nat) (v : Value), L[i]? = some (.val v) → Ls[i]? = some (.val (rf ad v))) ∧ (∀ i : Nat, L[i]? = some .second → Ls[i]? = some .second) ∧ WFs fun i => Ls[i]?
def kill2 : Slot → Slot
  | .val (.long _) => .unset
  | .val (.double _) => .unset
  | s => s
def killS : Slot → Slot
  | .second => .unset
  | s => s
def hd1 (f : Slot → Slot) : List Slot → List Slot
  | [] => []
  | y :: t => f y :: t
def st1 : List Slot → Nat → Value → List Slot
  | [], _, _ => []
  | _ :: t, 0, v => .val v :: hd1 killS t
  | y :: t, n + 1, v => match n with
    | 0 => kill2 y :: st1 t 0 v
    | k + 1 => y :: st1 t (k + 1) v
def st2 : List Slot → Nat → Value → List Slot
  | [], _, _ => []
  | _ :: t, 0, v => .val v :: (match t with | [] => [] | _ :: t' => .second :: hd1 killS t')
  | y :: t, n + 1, v => match n with
    | 0 => kill2 y :: st2 t 0 v
    | k + 1 => y :: st2 t (k + 1) v
theorem st1_len (v : Value) : ∀ (L : List Slot) (i : Nat), (st1 L i v).length = L.length
  | [], _ => rfl
  | y :: [], 0 => rfl
  | y :: z :: t, 0 => rfl
  | y :: t, 1 => congrArg Nat.succ (st1_len v t 0)
  | y :: t, k + 2 => congrArg Nat.succ (st1_len v t (k + 1))
theorem st2_len (v : Value) : ∀ (L : List Slot) (i : Nat), (st2 L i v).length = L.length
  | [], _ => rfl
  | y :: [], 0 => rfl
  | y :: z :: [], 0 => rfl
  | y :: z :: w :: t, 0 => rfl
  | y :: t, 1 => congrArg Nat.succ (st2_len v t 0)
  | y :: t, k + 2 => congrArg Nat.succ (st2_len v t (k + 1))
theorem kill2_e {y s : Slot} (h : kill2 y = s) (hs : s ≠ .unset) : y = s ∧ ∀ w, s = .val w → w.category = 1 := by
  subst h
  rcases y with _ | _ | w
  · exact absurd rfl hs
  · exact ⟨rfl, fun w h => by cases h⟩
  · cases w <;> first | exact absurd rfl hs | exact ⟨rfl, fun w h => by cases h; rfl⟩
theorem killS_e {y s : Slot} (h : killS y = s) (hs : s ≠ .unset) : y = s ∧ s ≠ .second := by
  subst h
  rcases y with _ | _ | w
  · exact absurd rfl hs
  · exact absurd rfl hs
  · exact ⟨rfl, fun h => by cases h⟩
theorem hd1_e {t : List Slot} {j : Nat} {s : Slot} (h : (hd1 killS t)[j]? = some s) (hs : s ≠ .unset) : t[j]? = some s ∧ (j = 0 → s ≠ .second) := by
  cases t with
  | nil => simp [hd1] at h
  | cons y t =>
    cases j with
    | zero =>
      have h' : killS y = s := by simpa [hd1] using h
      obtain ⟨e1, e2⟩ := killS_e h' hs
      exact ⟨by simp [e1], fun _ => e2⟩
    | succ j => exact ⟨by simpa [hd1] using h, fun q => by cases q⟩
theorem st1_at (v : Value) : ∀ (L : List Slot) (i : Nat), i < L.length → (st1 L i v)[i]? = some (.val v)
  | [], _, h => absurd h (by simp)
  | y :: t, 0, _ => rfl
  | y :: t, 1, h => by simpa [st1] using st1_at v t 0 (by simp at h; omega)
  | y :: t, k + 2, h => by simpa [st1] using st1_at v t (k + 1) (by simp at h; omega)
theorem st1_else (v : Value) : ∀ (L : List Slot) (i j : Nat) (s : Slot), j ≠ i → (st1 L i v)[j]? = some s → s ≠ .unset → L[j]? = some s ∧ (j + 1 = i → ∀ w, s = .val w → w.category = 1) ∧ (j = i + 1 → s ≠ .second)
  | [], _, j, s, _, h, _ => by simp [st1] at h
  | y :: t, 0, 0, s, hj, _, _ => absurd rfl hj
  | y :: t, 0, j + 1, s, hj, h, hs => by
    obtain ⟨e1, e2⟩ := hd1_e (t := t) (j := j) (by simpa [st1] using h) hs
    exact ⟨by simpa using e1, fun q => by omega, fun q => e2 (by omega)⟩
  | y :: t, 1, 0, s, hj, h, hs => by
    obtain ⟨e1, e2⟩ := kill2_e (y := y) (by simpa [st1] using h) hs
    exact ⟨by simp [e1], fun _ => e2, fun q => by omega⟩
  | y :: t, 1, j + 1, s, hj, h, hs => by
    obtain ⟨e1, e2, e3⟩ := st1_else v t 0 j s (by omega) (by simpa [st1] using h) hs
    exact ⟨by simpa using e1, fun q => by omega, fun q => e3 (by omega)⟩
  | y :: t, k + 2, 0, s, hj, h, hs => ⟨by simpa [st1] using h, fun q => by omega, fun q => by omega⟩
  | y :: t, k + 2, j + 1, s, hj, h, hs => by
    obtain ⟨e1, e2, e3⟩ := st1_else v t (k + 1) j s (by omega) (by simpa [st1] using h) hs
    exact ⟨by simpa using e1, fun q => e2 (by omega), fun q => e3 (by omega)⟩
theorem st2_at (v : Value) : ∀ (L : List Slot) (i : Nat), i + 1 < L.length → (st2 L i v)[i]? = some (.val v) ∧ (st2 L i v)[i + 1]? = some .second
  | [], _, h => absurd h (by simp)
  | y :: [], 0, h => absurd h (by simp)
  | y :: z :: t, 0, _ => ⟨rfl, rfl⟩
  | y :: t, 1, h => by simpa [st2] using st2_at v t 0 (by simp at h; omega)
  | y :: t, k + 2, h => by simpa [st2] using st2_at v t (k + 1) (by simp at h; omega)
theorem st2_else (v : Value) : ∀ (L : List Slot) (i j : Nat) (s : Slot), j ≠ i → j ≠ i + 1 → (st2 L i v)[j]? = some s → s ≠ .unset → L[j]? = some s ∧ (j + 1 = i → ∀ w, s = .val w → w.category = 1) ∧ (j = i + 2 → s ≠ .second)
  | [], _, j, s, _, _, h, _ => by simp [st2] at h
  | y :: t, 0, 0, s, hj, _, _, _ => absurd rfl hj
  | y :: t, 0, 1, s, _, hj, _, _ => absurd rfl hj
  | y :: [], 0, j + 2, s, _, _, h, _ => by simp [st2] at h
  | y :: z :: t, 0, j + 2, s, hj, _, h, hs => by
    obtain ⟨e1, e2⟩ := hd1_e (t := t) (j := j) (by simpa [st2] using h) hs
    exact ⟨by simpa using e1, fun q => by omega, fun q => e2 (by omega)⟩
  | y :: t, 1, 0, s, hj, _, h, hs => by
    obtain ⟨e1, e2⟩ := kill2_e (y := y) (by simpa [st2] using h) hs
    exact ⟨by simp [e1], fun _ => e2, fun q => by omega⟩
  | y :: t, 1, j + 1, s, hj, hj', h, hs => by
    obtain ⟨e1, e2, e3⟩ := st2_else v t 0 j s (by omega) (by omega) (by simpa [st2] using h) hs
    exact ⟨by simpa using e1, fun q => by omega, fun q => e3 (by omega)⟩
  | y :: t, k + 2, 0, s, hj, _, h, hs => ⟨by simpa [st2] using h, fun q => by omega, fun q => by omega⟩
  | y :: t, k + 2, j + 1, s, hj, hj', h, hs => by
    obtain ⟨e1, e2, e3⟩ := st2_else v t (k + 1) j s (by omega) (by omega) (by simpa [st2] using h) hs
    exact ⟨by simpa using e1, fun q => e2 (by omega), fun q => e3 (by omega)⟩
theorem setAt_ok {l : Array Slot} {i : Nat} (h : i < l.size) (x : Slot) : setAt l i x = some (l.setIfInBounds i x) := if_pos h
/-- which neighbours a store at i wipes -/
def Bad (Ls : Array Slot) (i j : Nat) : Prop := (j + 1 = i ∧ Ls[i]? = some .second) ∨ (j = i + 1 ∧ ∃ o, Ls[i]? = some (.val o) ∧ o.category = 2)
def Pre1 (Ls Ls1 : Array Slot) (i : Nat) : Prop := Ls1.size = Ls.size ∧ ∀ j, j ≠ i → (¬ Bad Ls i j ∧ Ls1[j]? = Ls[j]?) ∨ (Bad Ls i j ∧ Ls1[j]? = some .unset)
theorem storeLocals_pre {Ls : Array Slot} (wf : WFs fun i => Ls[i]?) {i : Nat} (hi : i < Ls.size) (w : Value) : ∃ Ls1, Pre1 Ls Ls1 i ∧ storeLocals Ls i w = storeSelf Ls1 i w := by
  have hg : Ls[i]? = some Ls[i] := Array.getElem?_eq_getElem hi
  rcases hs : Ls[i] with _ | _ | old
  · rw [hs] at hg
    refine ⟨Ls, ⟨rfl, fun j hj => Or.inl ⟨?_, rfl⟩⟩, ?_⟩
    · rintro (⟨-, q⟩ | ⟨-, o, q, -⟩) <;> (rw [hg] at q; cases q)
    · show (Ls[i]?).bind _ = _; rw [hg]; rfl
  · rw [hs] at hg
    obtain ⟨j0, v, rfl, hv, hc⟩ := wf.1 i hg
    have h0 : j0 < Ls.size := by omega
    refine ⟨Ls.setIfInBounds j0 .unset, ⟨by simp, fun j hj => ?_⟩, ?_⟩
    · by_cases e : j = j0
      · subst e; right; exact ⟨Or.inl ⟨rfl, hg⟩, by simp [h0]⟩
      · left
        refine ⟨?_, by rw [Array.getElem?_setIfInBounds_ne (Ne.symm e)]⟩
        rintro (⟨q', q⟩ | ⟨-, o, q, -⟩)
        · exact e (by omega)
        · rw [hg] at q; cases q
    · show (Ls[j0 + 1]?).bind _ = _; rw [hg]
      show (setAt Ls (j0 + 1 - 1) .unset).bind _ = _
      rw [Nat.add_sub_cancel, setAt_ok h0]; rfl
  · rw [hs] at hg
    by_cases hc : old.category = 2
    · have h1 := wf.2 i old hg hc
      have h1' : i + 1 < Ls.size := (Array.getElem?_eq_some_iff.mp h1).1
      refine ⟨Ls.setIfInBounds (i + 1) .unset, ⟨by simp, fun j hj => ?_⟩, ?_⟩
      · by_cases e : j = i + 1
        · subst e; right; exact ⟨Or.inr ⟨rfl, old, hg, hc⟩, by simp [h1']⟩
        · left
          refine ⟨?_, by rw [Array.getElem?_setIfInBounds_ne (Ne.symm e)]⟩
          rintro (⟨-, q⟩ | ⟨q, -⟩)
          · rw [hg] at q; cases q
          · exact e q
      · show (Ls[i]?).bind _ = _; rw [hg]
        show (if old.category = 2 then _ else _) = _
        rw [if_pos hc]
        show (setAt Ls (i + 1) .unset).bind _ = _
        rw [setAt_ok h1']; rfl
    · refine ⟨Ls, ⟨rfl, fun j hj => Or.inl ⟨?_, rfl⟩⟩, ?_⟩
      · rintro (⟨-, q⟩ | ⟨-, o, q, q'⟩) <;> (rw [hg] at q; cases q)
        exact hc q'
      · show (Ls[i]?).bind _ = _; rw [hg]
        show (if old.category = 2 then _ else _) = _
        rw [if_neg hc]
section St
variable {Ls : Array Slot} {i j : Nat}
/-- a value of one word is not wiped -/
theorem not_bad_val (wf : WFs fun i => Ls[i]?) {w : Value} (hj : Ls[j]? = some (.val w)) (hw : j + 1 = i → w.category = 1) : ¬ Bad Ls i j := by
  rintro (⟨rfl, q⟩ | ⟨rfl, o, q, q'⟩)
  · obtain ⟨j0, v, e, h1, h2⟩ := wf.1 _ q
    obtain rfl : j0 = j := by omega
    cases h1.symm.trans hj
    rw [hw rfl] at h2; cases h2
  · have := wf.2 _ _ q q'
    cases this.symm.trans hj
theorem not_bad_second (wf : WFs fun i => Ls[i]?) (hj : Ls[j]? = some .second) (hne : j ≠ i + 1) : ¬ Bad Ls i j := by
  rintro (⟨rfl, q⟩ | ⟨q, -⟩)
  · obtain ⟨j0, v, e, h1, h2⟩ := wf.1 _ q
    obtain rfl : j0 = j := by omega
    cases h1.symm.trans hj
  · exact hne q
end St
theorem LR.store1 {ad : Nat → Addr} {L : List Slot} {Ls : Array Slot} (hL : LR ad L Ls) {i : Nat} (hi : i < L.length) {v : Value} (hv : v.category = 1) : ∃ Ls', storeLocals Ls i (rf ad v) = some Ls' ∧ LR ad (st1 L i v) Ls' ∧ Ls'.size = Ls.size := by
  obtain ⟨l1, l2, l3, wf⟩ := hL
  have hi' : i < Ls.size := l1 ▸ hi
  have hv' : (rf ad v).category = 1 := by rw [rf_cat]; exact hv
  obtain ⟨Ls1, ⟨p1, p2⟩, e⟩ := storeLocals_pre wf hi' (rf ad v)
  have hi1 : i < Ls1.size := by rw [p1]; exact hi'
  have e2 : storeSelf Ls1 i (rf ad v) = some (Ls1.setIfInBounds i (.val (rf ad v))) := by
    show (setAt Ls1 i _).bind _ = _
    rw [setAt_ok hi1]
    show (if (rf ad v).category = 2 then _ else _) = _
    rw [if_neg (by rw [hv']; decide)]
  have at_i : (Ls1.setIfInBounds i (.val (rf ad v)))[i]? = some (.val (rf ad v)) := by simp [hi1]
  have at_j : ∀ j, j ≠ i → (Ls1.setIfInBounds i (.val (rf ad v)))[j]? = Ls1[j]? := fun j hj => Array.getElem?_setIfInBounds_ne (Ne.symm hj)
  have good : ∀ j, j ≠ i → ¬ Bad Ls i j → (Ls1.setIfInBounds i (.val (rf ad v)))[j]? = Ls[j]? := fun j hj hb => by
    rw [at_j j hj]
    rcases p2 j hj with ⟨-, q⟩ | ⟨q, -⟩
    · exact q
    · exact absurd q hb
  have back : ∀ j s, j ≠ i → s ≠ .unset → (Ls1.setIfInBounds i (.val (rf ad v)))[j]? = some s → ¬ Bad Ls i j ∧ Ls[j]? = some s := fun j s hj hs h => by
    rw [at_j j hj] at h
    rcases p2 j hj with ⟨q, q'⟩ | ⟨-, q⟩
    · exact ⟨q, by rw [← q']; exact h⟩
    · rw [q] at h; cases h; exact absurd rfl hs
  refine ⟨_, e.trans e2, ⟨by rw [st1_len, l1]; simp [p1], fun j w hj => ?_, fun j hj => ?_, fun j hj => ?_, fun j w hj hc => ?_⟩, by simp [p1]⟩
  · by_cases q : j = i
    · subst q
      rw [st1_at v L j hi] at hj
      cases hj; exact at_i
    · obtain ⟨a1, a2, -⟩ := st1_else v L i j _ q hj (by simp)
      have b1 := l2 j w a1
      rw [good j q (not_bad_val wf b1 fun z => by rw [rf_cat]; exact a2 z w rfl)]; exact b1
  · by_cases q : j = i
    · subst q
      rw [st1_at v L j hi] at hj
      cases hj
    · obtain ⟨a1, -, a3⟩ := st1_else v L i j _ q hj (by simp)
      have b1 := l3 j a1
      rw [good j q (not_bad_second wf b1 fun z => a3 z rfl)]; exact b1
  · dsimp only at hj ⊢
    have q : j ≠ i := fun q => by subst q; rw [at_i] at hj; cases hj
    obtain ⟨b1, b2⟩ := back j _ q (by simp) hj
    obtain ⟨j0, v', rfl, h1, h2⟩ := wf.1 j b2
    refine ⟨j0, v', rfl, ?_, h2⟩
    have q0 : j0 ≠ i := fun z => b1 (Or.inr ⟨by omega, v', z ▸ h1, h2⟩)
    rw [good j0 q0 ?_]; exact h1
    rintro (⟨z, -⟩ | ⟨z, o, z1, z2⟩)
    · exact q z
    · have := wf.2 _ _ z1 z2
      rw [← z] at this
      cases this.symm.trans h1
  · dsimp only at hj ⊢
    have q : j ≠ i := fun q => by subst q; rw [at_i] at hj; cases hj; rw [hv'] at hc; cases hc
    obtain ⟨b1, b2⟩ := back j _ q (by simp) hj
    have h1 := wf.2 j w b2 hc
    dsimp only at h1
    have q0 : j + 1 ≠ i := fun z => b1 (Or.inl ⟨z, z ▸ h1⟩)
    rw [good (j + 1) q0 ?_]; exact h1
    rintro (⟨z, z1⟩ | ⟨z, -⟩)
    · obtain ⟨j1, v1, e1, e2, -⟩ := wf.1 _ z1
      obtain rfl : j1 = j + 1 := by omega
      cases h1.symm.trans e2
    · omega
theorem LR.store2 {ad : Nat → Addr} {L : List Slot} {Ls : Array Slot} (hL : LR ad L Ls) {i : Nat} (hi : i + 1 < L.length) {v : Value} (hv : v.category = 2) : ∃ Ls', storeLocals Ls i (rf ad v) = some Ls' ∧ LR ad (st2 L i v) Ls' ∧ Ls'.size = Ls.size := by
  obtain ⟨l1, l2, l3, wf⟩ := hL
  have hi' : i + 1 < Ls.size := l1 ▸ hi
  have hv' : (rf ad v).category = 2 := by rw [rf_cat]; exact hv
  obtain ⟨Ls1, ⟨p1, p2⟩, e⟩ := storeLocals_pre wf (by omega : i < Ls.size) (rf ad v)
  have hi1 : i < Ls1.size := by rw [p1]; omega
  have hi2 : i + 1 < Ls1.size := by rw [p1]; omega
  -- what the second half leaves: two slots, and the one behind wiped where a long began at i + 1
  have key : ∃ Ls', storeSelf Ls1 i (rf ad v) = some Ls' ∧ Ls'.size = Ls1.size ∧ Ls'[i]? = some (.val (rf ad v)) ∧ Ls'[i + 1]? = some .second ∧ ∀ j, j ≠ i → j ≠ i + 1 → (Ls'[j]? = Ls1[j]? ∧ ¬ (j = i + 2 ∧ ∃ o, Ls1[i + 1]? = some (.val o) ∧ o.category = 2)) ∨ (Ls'[j]? = some .unset ∧ j = i + 2 ∧ ∃ o, Ls1[i + 1]? = some (.val o) ∧ o.category = 2) := by
    have n1 : (Ls1.setIfInBounds i (.val (rf ad v)))[i + 1]? = Ls1[i + 1]? := Array.getElem?_setIfInBounds_ne (by omega)
    have g1 : Ls1[i + 1]? = some Ls1[i + 1] := Array.getElem?_eq_getElem hi2
    have open1 : storeSelf Ls1 i (rf ad v) = ((Ls1.setIfInBounds i (.val (rf ad v)))[i + 1]?).bind fun x => match x with
      | .val old => if old.category = 2 then (setAt (Ls1.setIfInBounds i (.val (rf ad v))) (i + 2) .unset).bind fun z => setAt z (i + 1) .second else setAt (Ls1.setIfInBounds i (.val (rf ad v))) (i + 1) .second
      | _ => setAt (Ls1.setIfInBounds i (.val (rf ad v))) (i + 1) .second := by
      show (setAt Ls1 i _).bind _ = _
      rw [setAt_ok hi1]
      show (if (rf ad v).category = 2 then _ else _) = _
      rw [if_pos hv']; rfl
    have plain : (∀ o, Ls1[i + 1]? = some (.val o) → o.category ≠ 2) → storeSelf Ls1 i (rf ad v) = setAt (Ls1.setIfInBounds i (.val (rf ad v))) (i + 1) .second := fun hno => by
      rw [open1, n1, g1]
      rcases hs : Ls1[i + 1] with _ | _ | old
      · rfl
      · rfl
      · show (if old.category = 2 then _ else _) = _
        rw [if_neg (hno old (by rw [g1, hs]))]
    have szz : i + 1 < (Ls1.setIfInBounds i (.val (rf ad v))).size := by simpa using hi2
    by_cases hb : ∃ o, Ls1[i + 1]? = some (.val o) ∧ o.category = 2
    · obtain ⟨o, ho, ho2⟩ := hb
      have b1 : Ls[i + 1]? = some (.val o) := by
        rcases p2 (i + 1) (by omega) with ⟨-, q⟩ | ⟨-, q⟩
        · rw [← q]; exact ho
        · rw [q] at ho; cases ho
      have h3 : i + 2 < Ls1.size := by rw [p1]; exact (Array.getElem?_eq_some_iff.mp (wf.2 _ _ b1 ho2)).1
      refine ⟨((Ls1.setIfInBounds i (.val (rf ad v))).setIfInBounds (i + 2) .unset).setIfInBounds (i + 1) .second, ?_, by simp, ?_, ?_, fun j hj hj' => ?_⟩
      · rw [open1, n1, ho]
        show (if o.category = 2 then _ else _) = _
        rw [if_pos ho2, setAt_ok (by simpa using h3)]
        show setAt _ (i + 1) .second = _
        rw [setAt_ok (by simpa using hi2)]
      · rw [Array.getElem?_setIfInBounds_ne (by omega), Array.getElem?_setIfInBounds_ne (by omega)]; simp [hi1]
      · simp [hi2]
      · rw [Array.getElem?_setIfInBounds_ne (by omega)]
        by_cases z : j = i + 2
        · subst z; right; exact ⟨by simp [h3], rfl, o, ho, ho2⟩
        · left; exact ⟨by rw [Array.getElem?_setIfInBounds_ne (by omega), Array.getElem?_setIfInBounds_ne (by omega)], fun q => z q.1⟩
    · refine ⟨(Ls1.setIfInBounds i (.val (rf ad v))).setIfInBounds (i + 1) .second, ?_, by simp, ?_, ?_, fun j hj hj' => Or.inl ⟨?_, fun q => hb q.2⟩⟩
      · rw [plain fun o ho q => hb ⟨o, ho, q⟩, setAt_ok szz]
      · rw [Array.getElem?_setIfInBounds_ne (by omega)]; simp [hi1]
      · simp [hi2]
      · rw [Array.getElem?_setIfInBounds_ne (by omega), Array.getElem?_setIfInBounds_ne (by omega)]
  obtain ⟨Ls', e2, sz, at_i, at_i1, at_j⟩ := key
  -- i + 1 seen from Ls
  have up : ∀ o, Ls1[i + 1]? = some (.val o) → Ls[i + 1]? = some (.val o) := fun o ho => by
    rcases p2 (i + 1) (by omega) with ⟨-, q⟩ | ⟨-, q⟩
    · rw [← q]; exact ho
    · rw [q] at ho; cases ho
  have good : ∀ j, j ≠ i → j ≠ i + 1 → ¬ Bad Ls i j → ¬ (j = i + 2 ∧ ∃ o, Ls[i + 1]? = some (.val o) ∧ o.category = 2) → Ls'[j]? = Ls[j]? := fun j hj hj' hb hb' => by
    rcases at_j j hj hj' with ⟨q, -⟩ | ⟨-, q1, o, q2, q3⟩
    · rw [q]
      rcases p2 j hj with ⟨-, q⟩ | ⟨q, -⟩
      · exact q
      · exact absurd q hb
    · exact absurd ⟨q1, o, up o q2, q3⟩ hb'
  have back : ∀ j s, j ≠ i → j ≠ i + 1 → s ≠ .unset → Ls'[j]? = some s → ¬ Bad Ls i j ∧ Ls[j]? = some s ∧ ¬ (j = i + 2 ∧ ∃ o, Ls1[i + 1]? = some (.val o) ∧ o.category = 2) := fun j s hj hj' hs h => by
    rcases at_j j hj hj' with ⟨q, q0⟩ | ⟨q, -⟩
    · rw [q] at h
      rcases p2 j hj with ⟨q1, q'⟩ | ⟨-, q'⟩
      · exact ⟨q1, by rw [← q']; exact h, q0⟩
      · rw [q'] at h; cases h; exact absurd rfl hs
    · rw [q] at h; cases h; exact absurd rfl hs
  have s2 := st2_at v L i hi
  refine ⟨_, e.trans e2, ⟨by rw [st2_len, l1, sz, p1], fun j w hj => ?_, fun j hj => ?_, fun j hj => ?_, fun j w hj hc => ?_⟩, by rw [sz, p1]⟩
  · by_cases q : j = i
    · subst q
      rw [s2.1] at hj
      cases hj; exact at_i
    · by_cases q1 : j = i + 1
      · subst q1; rw [s2.2] at hj; cases hj
      · obtain ⟨a1, a2, -⟩ := st2_else v L i j _ q q1 hj (by simp)
        have b1 := l2 j w a1
        rw [good j q q1 (not_bad_val wf b1 fun z => by rw [rf_cat]; exact a2 z w rfl) ?_]; exact b1
        rintro ⟨rfl, o, z1, z2⟩
        have := wf.2 _ _ z1 z2
        cases this.symm.trans b1
  · by_cases q : j = i
    · subst q
      rw [s2.1] at hj
      cases hj
    · by_cases q1 : j = i + 1
      · subst q1; exact at_i1
      · obtain ⟨a1, -, a3⟩ := st2_else v L i j _ q q1 hj (by simp)
        have b1 := l3 j a1
        rw [good j q q1 (not_bad_second wf b1 q1) fun z => a3 z.1 rfl]; exact b1
  · dsimp only at hj ⊢
    by_cases q1 : j = i + 1
    · subst q1; exact ⟨i, _, rfl, at_i, hv'⟩
    have q : j ≠ i := fun q => by subst q; rw [at_i] at hj; cases hj
    obtain ⟨b1, b2, b3⟩ := back j _ q q1 (by simp) hj
    obtain ⟨j0, v', rfl, h1, h2⟩ := wf.1 j b2
    dsimp only at h1
    have q0 : j0 ≠ i := fun z => b1 (Or.inr ⟨by omega, v', z ▸ h1, h2⟩)
    -- j0 = i + 1: then j = i + 2 was wiped
    have q0' : j0 ≠ i + 1 := fun z => by
      subst z
      rcases p2 (i + 1) (by omega) with ⟨-, w1⟩ | ⟨w1, -⟩
      · exact b3 ⟨rfl, v', by rw [w1]; exact h1, h2⟩
      · rcases w1 with ⟨w1, -⟩ | ⟨-, o, w1, w2⟩
        · omega
        · have := wf.2 _ _ w1 w2
          cases this.symm.trans h1
    refine ⟨j0, v', rfl, ?_, h2⟩
    rw [good j0 q0 q0' ?_ ?_]; exact h1
    · rintro (⟨z, -⟩ | ⟨z, -⟩)
      · exact q z
      · exact q0' z
    · rintro ⟨rfl, o, z1, z2⟩
      have := wf.2 _ _ z1 z2
      cases this.symm.trans h1
  · dsimp only at hj ⊢
    by_cases q1 : j = i
    · subst q1; exact at_i1
    have q : j ≠ i + 1 := fun q => by subst q; rw [at_i1] at hj; cases hj
    obtain ⟨b1, b2, -⟩ := back j _ q1 q (by simp) hj
    have h1 := wf.2 j w b2 hc
    dsimp only at h1
    have q0 : j + 1 ≠ i := fun z => b1 (Or.inl ⟨z, z ▸ h1⟩)
    rw [good (j + 1) q0 (by omega) ?_ ?_]; exact h1
    · rintro (⟨z, z1⟩ | ⟨z, -⟩)
      · obtain ⟨j1, v1, e1, e2, -⟩ := wf.1 _ z1
        obtain rfl : j1 = j + 1 := by omega
        cases h1.symm.trans e2
      · omega
    · rintro ⟨z, -⟩; omega
/-! what is known less of -/
def leL : List Slot → List Slot → Prop
  | [], [] => True
  | .unset :: a, _ :: b => leL a b
  | x :: a, y :: b => x = y ∧ leL a b
  | _, _ => False
theorem leL_len : ∀ {A B : List Slot}, leL A B → A.length = B.length
  | [], [], _ => rfl
  | .unset :: a, _ :: b, h => congrArg Nat.succ (leL_len (A := a) (B := b) h)
  | .second :: a, _ :: b, h => congrArg Nat.succ (leL_len (A := a) (B := b) h.2)
  | .val _ :: a, _ :: b, h => congrArg Nat.succ (leL_len (A := a) (B := b) h.2)
theorem leL_get : ∀ {A B : List Slot}, leL A B → ∀ {i : Nat} {s : Slot}, A[i]? = some s → s ≠ .unset → B[i]? = some s
  | [], [], _, i, s, h, _ => by simp at h
  | .unset :: a, _ :: b, _, 0, s, h, hs => by simp at h; exact absurd h.symm hs
  | .unset :: a, _ :: b, hl, i + 1, s, h, hs => by simpa using leL_get (A := a) (B := b) hl (by simpa using h) hs
  | .second :: a, _ :: b, hl, 0, s, h, hs => by simp at h; subst h; simp [← hl.1]
  | .second :: a, _ :: b, hl, i + 1, s, h, hs => by simpa using leL_get (A := a) (B := b) hl.2 (by simpa using h) hs
  | .val _ :: a, _ :: b, hl, 0, s, h, hs => by simp at h; subst h; simp [← hl.1]
  | .val _ :: a, _ :: b, hl, i + 1, s, h, hs => by simpa using leL_get (A := a) (B := b) hl.2 (by simpa using h) hs
theorem LR.weak {ad : Nat → Addr} {A B : List Slot} {Ls : Array Slot} (h : leL A B) (hL : LR ad B Ls) : LR ad A Ls :=
  ⟨(leL_len h).trans hL.1, fun i v q => hL.2.1 i v (leL_get h q (by simp)), fun i q => hL.2.2.1 i (leL_get h q (by simp)), hL.2.2.2⟩
theorem wf_cons {x : Slot} {M : List Slot} (hx : x = .unset ∨ ∃ v, x = .val v ∧ v.category = 1) (h : WFs fun i => M[i]?) : WFs fun i => (x :: M)[i]? := by
  refine ⟨fun i hi => ?_, fun i v hi hc => ?_⟩
  · cases i with
    | zero => rcases hx with rfl | ⟨v, rfl, -⟩ <;> (simp at hi)
    | succ i =>
      obtain ⟨j, v, rfl, h1, h2⟩ := h.1 i (by simpa using hi)
      exact ⟨j + 1, v, rfl, by simpa using h1, h2⟩
  · cases i with
    | zero =>
      rcases hx with rfl | ⟨w, rfl, hw⟩
      · simp at hi
      · simp at hi; subst hi; rw [hw] at hc; cases hc
    | succ i => simpa using h.2 i v (by simpa using hi) hc
theorem wf_cons2 {w : Value} {M : List Slot} (hw : w.category = 2) (h : WFs fun i => M[i]?) : WFs fun i => (.val w :: .second :: M)[i]? := by
  refine ⟨fun i hi => ?_, fun i v hi hc => ?_⟩
  · match i, hi with
    | 0, hi => simp at hi
    | 1, _ => exact ⟨0, w, rfl, rfl, hw⟩
    | i + 2, hi =>
      obtain ⟨j, v, rfl, h1, h2⟩ := h.1 i (by simpa using hi)
      exact ⟨j + 2, v, rfl, by simpa using h1, h2⟩
  · match i, hi with
    | 0, _ => rfl
    | 1, hi => simp at hi
    | i + 2, hi => simpa using h.2 i v (by simpa using hi) hc
/-- the local variables at the entry -/
def laid : List Value → List Slot
  | [] => []
  | v :: vs => if v.category = 2 then .val v :: .second :: laid vs else .val v :: laid vs
def entL (as : List Value) (n : Nat) : List Slot := laid as ++ List.replicate (n - (laid as).length) Slot.unset
theorem laid_rel (ad : Nat → Addr) (k : Nat) : ∀ as : List Value, (laid as ++ List.replicate k Slot.unset).length = (laid (as.map (rf ad)) ++ List.replicate k Slot.unset).length ∧ (∀ (i : Nat) (v : Value), (laid as ++ List.replicate k Slot.unset)[i]? = some (.val v) → (laid (as.map (rf ad)) ++ List.replicate k Slot.unset)[i]? = some (.val (rf ad v))) ∧
    (∀ i : Nat, (laid as ++ List.replicate k Slot.unset)[i]? = some .second → (laid (as.map (rf ad)) ++ List.replicate k Slot.unset)[i]? = some .second) ∧ WFs fun i => (laid (as.map (rf ad)) ++ List.replicate k Slot.unset)[i]?
  | [] => by
    refine ⟨rfl, fun i v h => ?_, fun i h => h, fun i h => ?_, fun i v h => ?_⟩
    · simp [laid, List.getElem?_replicate] at h
    · simp [laid, List.getElem?_replicate] at h
    · simp [laid, List.getElem?_replicate] at h
  | v :: vs => by
    obtain ⟨a1, a2, a3, a4⟩ := laid_rel ad k vs
    have hc : (rf ad v).category = v.category := rf_cat ad v
    by_cases h : v.category = 2
    · have e1 : laid (v :: vs) = .val v :: .second :: laid vs := if_pos h
      have e2 : laid ((v :: vs).map (rf ad)) = .val (rf ad v) :: .second :: laid (vs.map (rf ad)) := if_pos (hc.trans h)
      rw [e1, e2]
      refine ⟨by simpa using a1, fun i w hi => ?_, fun i hi => ?_, wf_cons2 (hc.trans h) a4⟩
      · match i, hi with
        | 0, hi => simp at hi; subst hi; rfl
        | 1, hi => simp at hi
        | i + 2, hi => simpa using a2 i w (by simpa using hi)
      · match i, hi with
        | 0, hi => simp at hi
        | 1, hi => rfl
        | i + 2, hi => simpa using a3 i (by simpa using hi)
    · have e1 : laid (v :: vs) = .val v :: laid vs := if_neg h
      have e2 : laid ((v :: vs).map (rf ad)) = .val (rf ad v) :: laid (vs.map (rf ad)) := if_neg (by rw [hc]; exact h)
      have h1 : (rf ad v).category = 1 := by
        rw [hc]; cases v <;> first | rfl | exact absurd rfl h
      rw [e1, e2]
      refine ⟨by simpa using a1, fun i w hi => ?_, fun i hi => ?_, wf_cons (Or.inr ⟨_, rfl, h1⟩) a4⟩
      · match i, hi with
        | 0, hi => simp at hi; subst hi; rfl
        | i + 1, hi => simpa using a2 i w (by simpa using hi)
      · match i, hi with
        | 0, hi => simp at hi
        | i + 1, hi => simpa using a3 i (by simpa using hi)
theorem laid_foldl : ∀ (as : List Value) (acc : Array Slot), (as.foldl (fun acc v => if v.category = 2 then (acc.push (.val v)).push .second else acc.push (.val v)) acc).toList = acc.toList ++ laid as
  | [], acc => by simp [laid]
  | v :: vs, acc => by
    show (List.foldl _ (if v.category = 2 then (acc.push (.val v)).push .second else acc.push (.val v)) vs : Array Slot).toList = _
    rw [laid_foldl vs]
    by_cases h : v.category = 2
    · rw [if_pos h, show laid (v :: vs) = .val v :: .second :: laid vs from if_pos h]; simp
    · rw [if_neg h, show laid (v :: vs) = .val v :: laid vs from if_neg h]; simp
theorem laid_map_len (ad : Nat → Addr) (as : List Value) : (laid (as.map (rf ad))).length = (laid as).length := by
  have := (laid_rel ad 0 as).1
  simpa using this.symm
theorem entry_LR (ad : Nat → Addr) (as : List Value) (n : Nat) (hn : (laid as).length ≤ n) : LR ad (entL as n) (argsToLocals (as.map (rf ad)).toArray n) ∧ (argsToLocals (as.map (rf ad)).toArray n).size = n := by
  have e : (argsToLocals (as.map (rf ad)).toArray n).toList = laid (as.map (rf ad)) ++ List.replicate (n - (laid as).length) Slot.unset := by
    have e1 := laid_foldl (as.map (rf ad)) #[]
    have e2 : ((as.map (rf ad)).toArray.foldl (fun acc v => if v.category = 2 then (acc.push (.val v)).push .second else acc.push (.val v)) #[] : Array Slot).toList = laid (as.map (rf ad)) := by
      rw [List.foldl_toArray']
      · rw [e1]; rfl
      · rfl
    have e3 : ((as.map (rf ad)).toArray.foldl (fun acc v => if v.category = 2 then (acc.push (.val v)).push .second else acc.push (.val v)) #[] : Array Slot).size = (laid as).length := by
      rw [← Array.length_toList, e2, laid_map_len]
    show (_ ++ Array.replicate (n - _) Slot.unset).toList = _
    rw [Array.toList_append, e2, Array.toList_replicate, e3]
  obtain ⟨a1, a2, a3, a4⟩ := laid_rel ad (n - (laid as).length) as
  have g : ∀ i : Nat, (argsToLocals (as.map (rf ad)).toArray n)[i]? = (laid (as.map (rf ad)) ++ List.replicate (n - (laid as).length) Slot.unset)[i]? := fun i => by rw [← e, Array.getElem?_toList]
  have sz : (argsToLocals (as.map (rf ad)).toArray n).size = (laid (as.map (rf ad)) ++ List.replicate (n - (laid as).length) Slot.unset).length := by rw [← e, Array.length_toList]
  refine ⟨⟨by rw [sz]; exact a1, fun i v h => by rw [g]; exact a2 i v h, fun i h => by rw [g]; exact a3 i h, ?_⟩, by rw [sz, ← a1]; simp; omega⟩
  have : (fun i => (argsToLocals (as.map (rf ad)).toArray n)[i]?) = fun i => (laid (as.map (rf ad)) ++ List.replicate (n - (laid as).length) Slot.unset)[i]? := funext g
  rw [this]; exact a4
/-! ## reading and writing a list as Java does an array -/
def rd {α : Type} (xs : List α) (i : Int32) : Option α := if i < 0 then none else xs[i.toNatClampNeg]?
def wr {α : Type} (xs : List α) (i : Int32) (x : α) : Option (List α) := if i < 0 then none else if i.toNatClampNeg < xs.length then some (xs.set i.toNatClampNeg x) else none
theorem rd_slots {α : Type} {f : α → Value} {sl : Array Value} {xs : List α} (h : sl.toList = xs.map f) {j : Int32} {x : α} (hx : rd xs j = some x) : ¬ (j < 0 ∨ sl.size ≤ j.toNatClampNeg) ∧ sl[j.toNatClampNeg]? = some (f x) := by
  unfold rd at hx
  by_cases hj : j < 0
  · rw [if_pos hj] at hx; cases hx
  · rw [if_neg hj] at hx
    have h1 : sl[j.toNatClampNeg]? = some (f x) := by rw [← Array.getElem?_toList, h, List.getElem?_map, hx]; rfl
    exact ⟨fun q => q.elim hj fun q => absurd (Array.getElem?_eq_some_iff.mp h1).1 (Nat.not_lt.mpr q), h1⟩
theorem wr_slots {α : Type} {f : α → Value} {cl : Cell} {xs xs' : List α} (h : cl.slots.toList = xs.map f) {j : Int32} {x : α} (hx : wr xs j x = some xs') : ¬ (j < 0 ∨ cl.slots.size ≤ j.toNatClampNeg) ∧ (cl.setSlot j.toNatClampNeg (f x)).slots.toList = xs'.map f := by
  unfold wr at hx
  by_cases hj : j < 0
  · rw [if_pos hj] at hx; cases hx
  · rw [if_neg hj] at hx
    by_cases hl : j.toNatClampNeg < xs.length
    · rw [if_pos hl] at hx; cases hx
      have sz : cl.slots.size = xs.length := by rw [← Array.length_toList, h, List.length_map]
      refine ⟨fun q => q.elim hj fun q => by omega, ?_⟩
      show (cl.slots.setIfInBounds _ _).toList = _
      rw [Array.toList_setIfInBounds, h, List.map_set]
    · rw [if_neg hl] at hx; cases hx
/-! ## the walk's promise, said of the small view -/
def Am (Z : State) (own mn : String) (bytes : ByteArray) (maxL : Nat) (ret : Option FieldType) (p : Program) (s : State) (m : MethodId) (meth : Method) (c : Code) : Prop :=
  p.tables.exec = Jvm.exec ∧ Z.Warmed39 s.vm ∧ c.code = bytes ∧ c.maxLocals = maxL ∧ meth.sig.returnType = ret ∧ meth.locks = false ∧ s.vm.findClass own = some m.cls ∧ meth.name = mn
def WP (l : Launch) (Z : State) (C : String) (lay : List (String × String)) (own mn : String) (bytes : ByteArray) (maxL : Nat) (ret : Option FieldType) (R : Room) (n0 ro : Nat) (Q : Option Value → List OwnC → Prop) (k n pc : Nat) (L : List Slot) (S : List Value) (H : List OwnC) : Prop :=
  ∀ (p : Program) (e : Env) (s : State) (m : MethodId) (args : Array Value) (below : List Frame) (meth : Method) (c : Code) (T : State) (locs : List Loc) (ad : Nat → Addr) (Ls : Array Slot),
    Stand p l e R s m args below meth c T locs k n → Am Z own mn bytes maxL ret p s m meth c → HR Z C lay n0 ro ad H T.heap → Fr n0 locs → LR ad L Ls → Ls.size = maxL →
    ∃ (s₂ : State) (v : Option Value) (H' : List OwnC) (locs' : List Loc),
      Steps p.tables e below (T.setTop (mkF m pc Ls (S.map (rf ad)))) s₂ ∧ s₂.status = .running ∧ Ended s₂ below (.returned (v.map (rf ad))) ∧ Q v H' ∧ HR Z C lay n0 ro ad H' s₂.heap ∧ Kp ad H.length T.heap s₂.heap ∧ Fr n0 locs' ∧ FrameEnd s (.returned (v.map (rf ad))) s₂ locs' R.cells R.slots
section Rules
variable {l : Launch} {Z : State} {a0 : Array Value} {C : String} {lay : List (String × String)} {own mn : String} {bytes : ByteArray} {maxL : Nat} {ret : Option FieldType} {R : Room} {n0 ro : Nat} {Q : Option Value → List OwnC → Prop} {k n pc pc' : Nat} {L L' : List Slot} {S S' : List Value} {H H' : List OwnC}
theorem WP.weak (h : leL L' L) (nx : WP l Z C lay own mn bytes maxL ret R n0 ro Q k n pc L' S H) : WP l Z C lay own mn bytes maxL ret R n0 ro Q k n pc L S H :=
  fun p e s m args below meth c T locs ad Ls X A hr N hL hz => nx p e s m args below meth c T locs ad Ls X A hr N (LR.weak h hL) hz
theorem WP.of (hs : ∀ (p : Program) (e : Env) (s : State) (m : MethodId) (args : Array Value) (below : List Frame) (meth : Method) (c : Code) (T : State) (locs : List Loc) (ad : Nat → Addr) (Ls : Array Slot), Stand p l e R s m args below meth c T locs k n → Am Z own mn bytes maxL ret p s m meth c → LR ad L Ls → Ls.size = maxL →
      ∃ Ls', LR ad L' Ls' ∧ Ls'.size = maxL ∧ ∀ t, Steps p.tables e below (T.setTop (mkF m pc' Ls' (S'.map (rf ad)))) t → Steps p.tables e below (T.setTop (mkF m pc Ls (S.map (rf ad)))) t)
    (nx : WP l Z C lay own mn bytes maxL ret R n0 ro Q k n pc' L' S' H) : WP l Z C lay own mn bytes maxL ret R n0 ro Q k n pc L S H := by
  intro p e s m args below meth c T locs ad Ls X A hr N hL hz
  obtain ⟨Ls', hL', hz', st⟩ := hs p e s m args below meth c T locs ad Ls X A hL hz
  obtain ⟨s₂, v, H', locs', h1, h2⟩ := nx p e s m args below meth c T locs ad Ls' X A hr N hL' hz'
  exact ⟨s₂, v, H', locs', st _ h1, h2⟩
theorem WP.iload {j : Nat} {x : Int32} (hd : decode bytes pc = .ok (.iload j, 2)) (hl : L[j]? = some (.val (.int x))) (nx : WP l Z C lay own mn bytes maxL ret R n0 ro Q k n (pc + 2) L (.int x :: S) H) : WP l Z C lay own mn bytes maxL ret R n0 ro Q k n pc L (S) H :=
  WP.of (fun p e s m args below meth c T locs ad Ls X A hL hz => ⟨Ls, hL, hz, fun t ht => XS.iload X.here A.1 rfl (hb A.2.2.1 hd) (hL.2.1 _ _ hl) ht⟩) nx
theorem WP.iloadN {j : Fin 4} {x : Int32} (hd : decode bytes pc = .ok (.iload_n j, 1)) (hl : L[j.val]? = some (.val (.int x))) (nx : WP l Z C lay own mn bytes maxL ret R n0 ro Q k n (pc + 1) L (.int x :: S) H) : WP l Z C lay own mn bytes maxL ret R n0 ro Q k n pc L (S) H :=
  WP.of (fun p e s m args below meth c T locs ad Ls X A hL hz => ⟨Ls, hL, hz, fun t ht => XS.iloadN X.here A.1 rfl (hb A.2.2.1 hd) (hL.2.1 _ _ hl) ht⟩) nx
theorem WP.lload {j : Nat} {x : Int64} (hd : decode bytes pc = .ok (.lload j, 2)) (hl : L[j]? = some (.val (.long x))) (nx : WP l Z C lay own mn bytes maxL ret R n0 ro Q k n (pc + 2) L (.long x :: S) H) : WP l Z C lay own mn bytes maxL ret R n0 ro Q k n pc L (S) H :=
  WP.of (fun p e s m args below meth c T locs ad Ls X A hL hz => ⟨Ls, hL, hz, fun t ht => XT.lload X.here A.1 rfl (hb A.2.2.1 hd) (hL.2.1 _ _ hl) ht⟩) nx
theorem WP.lloadN {j : Fin 4} {x : Int64} (hd : decode bytes pc = .ok (.lload_n j, 1)) (hl : L[j.val]? = some (.val (.long x))) (nx : WP l Z C lay own mn bytes maxL ret R n0 ro Q k n (pc + 1) L (.long x :: S) H) : WP l Z C lay own mn bytes maxL ret R n0 ro Q k n pc L (S) H :=
  WP.of (fun p e s m args below meth c T locs ad Ls X A hL hz => ⟨Ls, hL, hz, fun t ht => XT.lloadN X.here A.1 rfl (hb A.2.2.1 hd) (hL.2.1 _ _ hl) ht⟩) nx
theorem WP.aload {j : Nat} {i : Nat} (hd : decode bytes pc = .ok (.aload j, 2)) (hl : L[j]? = some (.val (.ref i))) (nx : WP l Z C lay own mn bytes maxL ret R n0 ro Q k n (pc + 2) L (.ref i :: S) H) : WP l Z C lay own mn bytes maxL ret R n0 ro Q k n pc L (S) H :=
  WP.of (fun p e s m args below meth c T locs ad Ls X A hL hz => ⟨Ls, hL, hz, fun t ht => XS.aload X.here A.1 rfl (hb A.2.2.1 hd) (hL.2.1 _ _ hl) rfl ht⟩) nx
theorem WP.aloadN {j : Fin 4} {i : Nat} (hd : decode bytes pc = .ok (.aload_n j, 1)) (hl : L[j.val]? = some (.val (.ref i))) (nx : WP l Z C lay own mn bytes maxL ret R n0 ro Q k n (pc + 1) L (.ref i :: S) H) : WP l Z C lay own mn bytes maxL ret R n0 ro Q k n pc L (S) H :=
  WP.of (fun p e s m args below meth c T locs ad Ls X A hL hz => ⟨Ls, hL, hz, fun t ht => XS.aloadN X.here A.1 rfl (hb A.2.2.1 hd) (hL.2.1 _ _ hl) rfl ht⟩) nx
theorem WP.iconst {i : Int} (v : Int32) (hd : decode bytes pc = .ok (.iconst i, 1)) (hv : Int32.ofInt i = v) (nx : WP l Z C lay own mn bytes maxL ret R n0 ro Q k n (pc + 1) L (.int v :: S) H) : WP l Z C lay own mn bytes maxL ret R n0 ro Q k n pc L (S) H :=
  WP.of (fun p e s m args below meth c T locs ad Ls X A hL hz => ⟨Ls, hL, hz, fun t ht => XS.iconst X.here A.1 rfl (hb A.2.2.1 hd) (by rw [hv]; exact ht)⟩) nx
theorem WP.bipush {i : Int} (v : Int32) (hd : decode bytes pc = .ok (.bipush i, 2)) (hv : (Int8.ofInt i).toInt32 = v) (nx : WP l Z C lay own mn bytes maxL ret R n0 ro Q k n (pc + 2) L (.int v :: S) H) : WP l Z C lay own mn bytes maxL ret R n0 ro Q k n pc L (S) H :=
  WP.of (fun p e s m args below meth c T locs ad Ls X A hL hz => ⟨Ls, hL, hz, fun t ht => XS.bipush X.here A.1 rfl (hb A.2.2.1 hd) (by rw [hv]; exact ht)⟩) nx
theorem WP.sipush {i : Int} (v : Int32) (hd : decode bytes pc = .ok (.sipush i, 3)) (hv : (Int16.ofInt i).toInt32 = v) (nx : WP l Z C lay own mn bytes maxL ret R n0 ro Q k n (pc + 3) L (.int v :: S) H) : WP l Z C lay own mn bytes maxL ret R n0 ro Q k n pc L (S) H :=
  WP.of (fun p e s m args below meth c T locs ad Ls X A hL hz => ⟨Ls, hL, hz, fun t ht => XS.sipush X.here A.1 rfl (hb A.2.2.1 hd) (by rw [hv]; exact ht)⟩) nx
theorem WP.lconst {j : Fin 2} (v : Int64) (hd : decode bytes pc = .ok (.lconst j, 1)) (hv : Int64.ofNat j = v) (nx : WP l Z C lay own mn bytes maxL ret R n0 ro Q k n (pc + 1) L (.long v :: S) H) : WP l Z C lay own mn bytes maxL ret R n0 ro Q k n pc L (S) H :=
  WP.of (fun p e s m args below meth c T locs ad Ls X A hL hz => ⟨Ls, hL, hz, fun t ht => XT.lconst X.here A.1 rfl (hb A.2.2.1 hd) (by rw [hv]; exact ht)⟩) nx
theorem WP.ldc {idx : Nat} {v : Int32} (hd : decode bytes pc = .ok (.ldc idx, 2)) (hw : (Cond.constant own idx v).before a0 Z = true) (nx : WP l Z C lay own mn bytes maxL ret R n0 ro Q k n (pc + 2) L (.int v :: S) H) : WP l Z C lay own mn bytes maxL ret R n0 ro Q k n pc L (S) H :=
  WP.of (fun p e s m args below meth c T locs ad Ls X A hL hz => ⟨Ls, hL, hz, fun t ht => X.ldcInt A.1 A.2.2.2.2.2.2.1 (mvT A.2.1 hw) (g := mkF m pc Ls (S.map (rf ad))) rfl (hb A.2.2.1 hd) t ht⟩) nx
theorem WP.ldcw {idx : Nat} {v : Int32} (hd : decode bytes pc = .ok (.ldc_w idx, 3)) (hw : (Cond.constant own idx v).before a0 Z = true) (nx : WP l Z C lay own mn bytes maxL ret R n0 ro Q k n (pc + 3) L (.int v :: S) H) : WP l Z C lay own mn bytes maxL ret R n0 ro Q k n pc L (S) H :=
  WP.of (fun p e s m args below meth c T locs ad Ls X A hL hz => ⟨Ls, hL, hz, fun t ht => X.ldcwInt A.1 A.2.2.2.2.2.2.1 (mvT A.2.1 hw) (g := mkF m pc Ls (S.map (rf ad))) rfl (hb A.2.2.1 hd) t ht⟩) nx
theorem WP.ldc2 {idx : Nat} {v : Int64} (hd : decode bytes pc = .ok (.ldc2_w idx, 3)) (hw : (Cond.constantLong own idx v).before a0 Z = true) (nx : WP l Z C lay own mn bytes maxL ret R n0 ro Q k n (pc + 3) L (.long v :: S) H) : WP l Z C lay own mn bytes maxL ret R n0 ro Q k n pc L (S) H :=
  WP.of (fun p e s m args below meth c T locs ad Ls X A hL hz => ⟨Ls, hL, hz, fun t ht => X.ldc2Long A.1 A.2.2.2.2.2.2.1 (mvT A.2.1 hw) (g := mkF m pc Ls (S.map (rf ad))) rfl (hb A.2.2.1 hd) t ht⟩) nx
theorem WP.iadd {x y : Int32} (hd : decode bytes pc = .ok (.iadd, 1)) (nx : WP l Z C lay own mn bytes maxL ret R n0 ro Q k n (pc + 1) L (.int (x + y) :: S) H) : WP l Z C lay own mn bytes maxL ret R n0 ro Q k n pc L (.int y :: .int x :: S) H :=
  WP.of (fun p e s m args below meth c T locs ad Ls X A hL hz => ⟨Ls, hL, hz, fun t ht => XS.iadd X.here A.1 rfl (hb A.2.2.1 hd) rfl ht⟩) nx
theorem WP.ladd {x y : Int64} (hd : decode bytes pc = .ok (.ladd, 1)) (nx : WP l Z C lay own mn bytes maxL ret R n0 ro Q k n (pc + 1) L (.long (x + y) :: S) H) : WP l Z C lay own mn bytes maxL ret R n0 ro Q k n pc L (.long y :: .long x :: S) H :=
  WP.of (fun p e s m args below meth c T locs ad Ls X A hL hz => ⟨Ls, hL, hz, fun t ht => XT.ladd X.here A.1 rfl (hb A.2.2.1 hd) rfl ht⟩) nx
theorem WP.isub {x y : Int32} (hd : decode bytes pc = .ok (.isub, 1)) (nx : WP l Z C lay own mn bytes maxL ret R n0 ro Q k n (pc + 1) L (.int (x - y) :: S) H) : WP l Z C lay own mn bytes maxL ret R n0 ro Q k n pc L (.int y :: .int x :: S) H :=
  WP.of (fun p e s m args below meth c T locs ad Ls X A hL hz => ⟨Ls, hL, hz, fun t ht => XS.isub X.here A.1 rfl (hb A.2.2.1 hd) rfl ht⟩) nx
theorem WP.lsub {x y : Int64} (hd : decode bytes pc = .ok (.lsub, 1)) (nx : WP l Z C lay own mn bytes maxL ret R n0 ro Q k n (pc + 1) L (.long (x - y) :: S) H) : WP l Z C lay own mn bytes maxL ret R n0 ro Q k n pc L (.long y :: .long x :: S) H :=
  WP.of (fun p e s m args below meth c T locs ad Ls X A hL hz => ⟨Ls, hL, hz, fun t ht => XT.lsub X.here A.1 rfl (hb A.2.2.1 hd) rfl ht⟩) nx
theorem WP.imul {x y : Int32} (hd : decode bytes pc = .ok (.imul, 1)) (nx : WP l Z C lay own mn bytes maxL ret R n0 ro Q k n (pc + 1) L (.int (x * y) :: S) H) : WP l Z C lay own mn bytes maxL ret R n0 ro Q k n pc L (.int y :: .int x :: S) H :=
  WP.of (fun p e s m args below meth c T locs ad Ls X A hL hz => ⟨Ls, hL, hz, fun t ht => XS.imul X.here A.1 rfl (hb A.2.2.1 hd) rfl ht⟩) nx
theorem WP.lmul {x y : Int64} (hd : decode bytes pc = .ok (.lmul, 1)) (nx : WP l Z C lay own mn bytes maxL ret R n0 ro Q k n (pc + 1) L (.long (x * y) :: S) H) : WP l Z C lay own mn bytes maxL ret R n0 ro Q k n pc L (.long y :: .long x :: S) H :=
  WP.of (fun p e s m args below meth c T locs ad Ls X A hL hz => ⟨Ls, hL, hz, fun t ht => XT.lmul X.here A.1 rfl (hb A.2.2.1 hd) rfl ht⟩) nx
theorem WP.iand {x y : Int32} (hd : decode bytes pc = .ok (.iand, 1)) (nx : WP l Z C lay own mn bytes maxL ret R n0 ro Q k n (pc + 1) L (.int (x &&& y) :: S) H) : WP l Z C lay own mn bytes maxL ret R n0 ro Q k n pc L (.int y :: .int x :: S) H :=
  WP.of (fun p e s m args below meth c T locs ad Ls X A hL hz => ⟨Ls, hL, hz, fun t ht => XS.iand X.here A.1 rfl (hb A.2.2.1 hd) rfl ht⟩) nx
theorem WP.land {x y : Int64} (hd : decode bytes pc = .ok (.land, 1)) (nx : WP l Z C lay own mn bytes maxL ret R n0 ro Q k n (pc + 1) L (.long (x &&& y) :: S) H) : WP l Z C lay own mn bytes maxL ret R n0 ro Q k n pc L (.long y :: .long x :: S) H :=
  WP.of (fun p e s m args below meth c T locs ad Ls X A hL hz => ⟨Ls, hL, hz, fun t ht => XT.land X.here A.1 rfl (hb A.2.2.1 hd) rfl ht⟩) nx
theorem WP.ior {x y : Int32} (hd : decode bytes pc = .ok (.ior, 1)) (nx : WP l Z C lay own mn bytes maxL ret R n0 ro Q k n (pc + 1) L (.int (x ||| y) :: S) H) : WP l Z C lay own mn bytes maxL ret R n0 ro Q k n pc L (.int y :: .int x :: S) H :=
  WP.of (fun p e s m args below meth c T locs ad Ls X A hL hz => ⟨Ls, hL, hz, fun t ht => XT.ior X.here A.1 rfl (hb A.2.2.1 hd) rfl ht⟩) nx
theorem WP.lor {x y : Int64} (hd : decode bytes pc = .ok (.lor, 1)) (nx : WP l Z C lay own mn bytes maxL ret R n0 ro Q k n (pc + 1) L (.long (x ||| y) :: S) H) : WP l Z C lay own mn bytes maxL ret R n0 ro Q k n pc L (.long y :: .long x :: S) H :=
  WP.of (fun p e s m args below meth c T locs ad Ls X A hL hz => ⟨Ls, hL, hz, fun t ht => XT.lor X.here A.1 rfl (hb A.2.2.1 hd) rfl ht⟩) nx
theorem WP.ixor {x y : Int32} (hd : decode bytes pc = .ok (.ixor, 1)) (nx : WP l Z C lay own mn bytes maxL ret R n0 ro Q k n (pc + 1) L (.int (x ^^^ y) :: S) H) : WP l Z C lay own mn bytes maxL ret R n0 ro Q k n pc L (.int y :: .int x :: S) H :=
  WP.of (fun p e s m args below meth c T locs ad Ls X A hL hz => ⟨Ls, hL, hz, fun t ht => XT.ixor X.here A.1 rfl (hb A.2.2.1 hd) rfl ht⟩) nx
theorem WP.lxor {x y : Int64} (hd : decode bytes pc = .ok (.lxor, 1)) (nx : WP l Z C lay own mn bytes maxL ret R n0 ro Q k n (pc + 1) L (.long (x ^^^ y) :: S) H) : WP l Z C lay own mn bytes maxL ret R n0 ro Q k n pc L (.long y :: .long x :: S) H :=
  WP.of (fun p e s m args below meth c T locs ad Ls X A hL hz => ⟨Ls, hL, hz, fun t ht => XT.lxor X.here A.1 rfl (hb A.2.2.1 hd) rfl ht⟩) nx
theorem WP.idiv {x y : Int32} (hd : decode bytes pc = .ok (.idiv, 1)) (hy : ¬ y = 0) (nx : WP l Z C lay own mn bytes maxL ret R n0 ro Q k n (pc + 1) L (.int (x / y) :: S) H) : WP l Z C lay own mn bytes maxL ret R n0 ro Q k n pc L (.int y :: .int x :: S) H :=
  WP.of (fun p e s m args below meth c T locs ad Ls X A hL hz => ⟨Ls, hL, hz, fun t ht => XS.idiv X.here A.1 rfl (hb A.2.2.1 hd) rfl hy ht⟩) nx
theorem WP.irem {x y : Int32} (hd : decode bytes pc = .ok (.irem, 1)) (hy : ¬ y = 0) (nx : WP l Z C lay own mn bytes maxL ret R n0 ro Q k n (pc + 1) L (.int (x % y) :: S) H) : WP l Z C lay own mn bytes maxL ret R n0 ro Q k n pc L (.int y :: .int x :: S) H :=
  WP.of (fun p e s m args below meth c T locs ad Ls X A hL hz => ⟨Ls, hL, hz, fun t ht => iremM X A.1 rfl (hb A.2.2.1 hd) rfl hy ht⟩) nx
theorem WP.ldiv {x y : Int64} (hd : decode bytes pc = .ok (.ldiv, 1)) (hy : ¬ y = 0) (nx : WP l Z C lay own mn bytes maxL ret R n0 ro Q k n (pc + 1) L (.long (x / y) :: S) H) : WP l Z C lay own mn bytes maxL ret R n0 ro Q k n pc L (.long y :: .long x :: S) H :=
  WP.of (fun p e s m args below meth c T locs ad Ls X A hL hz => ⟨Ls, hL, hz, fun t ht => XT.ldiv X.here A.1 rfl (hb A.2.2.1 hd) rfl hy ht⟩) nx
theorem lrem_mod (x y : Int64) : x - (x / y) * y = x % y := by
  apply Int64.toInt_inj.mp
  have h1 := Int64.le_toInt (x % y)
  have h2 := Int64.toInt_lt (x % y)
  rw [Int64.toInt_sub, Int64.toInt_mul, Int64.toInt_div, Int.bmod_mul_bmod, Int.sub_bmod_bmod, Int.mul_comm (x.toInt.tdiv y.toInt), ← Int.tmod_def, ← Int64.toInt_mod]
  exact Int.bmod_eq_of_le_mul_two (by omega) (by omega)
theorem WP.lrem {x y : Int64} (hd : decode bytes pc = .ok (.lrem, 1)) (hy : ¬ y = 0) (nx : WP l Z C lay own mn bytes maxL ret R n0 ro Q k n (pc + 1) L (.long (x % y) :: S) H) : WP l Z C lay own mn bytes maxL ret R n0 ro Q k n pc L (.long y :: .long x :: S) H :=
  WP.of (fun p e s m args below meth c T locs ad Ls X A hL hz => ⟨Ls, hL, hz, fun t ht => XT.lrem X.here A.1 rfl (hb A.2.2.1 hd) rfl hy (by rw [lrem_mod]; exact ht)⟩) nx
theorem WP.ishl {x y : Int32} (hd : decode bytes pc = .ok (.ishl, 1)) (nx : WP l Z C lay own mn bytes maxL ret R n0 ro Q k n (pc + 1) L (.int (x <<< (y &&& 31)) :: S) H) : WP l Z C lay own mn bytes maxL ret R n0 ro Q k n pc L (.int y :: .int x :: S) H :=
  WP.of (fun p e s m args below meth c T locs ad Ls X A hL hz => ⟨Ls, hL, hz, fun t ht => XT.ishl X.here A.1 rfl (hb A.2.2.1 hd) rfl ht⟩) nx
theorem WP.ishr {x y : Int32} (hd : decode bytes pc = .ok (.ishr, 1)) (nx : WP l Z C lay own mn bytes maxL ret R n0 ro Q k n (pc + 1) L (.int (x >>> (y &&& 31)) :: S) H) : WP l Z C lay own mn bytes maxL ret R n0 ro Q k n pc L (.int y :: .int x :: S) H :=
  WP.of (fun p e s m args below meth c T locs ad Ls X A hL hz => ⟨Ls, hL, hz, fun t ht => XT.ishr X.here A.1 rfl (hb A.2.2.1 hd) rfl ht⟩) nx
theorem WP.iushr {x y : Int32} (hd : decode bytes pc = .ok (.iushr, 1)) (nx : WP l Z C lay own mn bytes maxL ret R n0 ro Q k n (pc + 1) L (.int (XT.ushr x y) :: S) H) : WP l Z C lay own mn bytes maxL ret R n0 ro Q k n pc L (.int y :: .int x :: S) H :=
  WP.of (fun p e s m args below meth c T locs ad Ls X A hL hz => ⟨Ls, hL, hz, fun t ht => XT.iushr X.here A.1 rfl (hb A.2.2.1 hd) rfl ht⟩) nx
theorem WP.lshl {x : Int64} {y : Int32} (hd : decode bytes pc = .ok (.lshl, 1)) (nx : WP l Z C lay own mn bytes maxL ret R n0 ro Q k n (pc + 1) L (.long (x <<< (y.toInt64 &&& 63)) :: S) H) : WP l Z C lay own mn bytes maxL ret R n0 ro Q k n pc L (.int y :: .long x :: S) H :=
  WP.of (fun p e s m args below meth c T locs ad Ls X A hL hz => ⟨Ls, hL, hz, fun t ht => XT.lshl X.here A.1 rfl (hb A.2.2.1 hd) rfl ht⟩) nx
theorem WP.lshr {x : Int64} {y : Int32} (hd : decode bytes pc = .ok (.lshr, 1)) (nx : WP l Z C lay own mn bytes maxL ret R n0 ro Q k n (pc + 1) L (.long (x >>> (y.toInt64 &&& 63)) :: S) H) : WP l Z C lay own mn bytes maxL ret R n0 ro Q k n pc L (.int y :: .long x :: S) H :=
  WP.of (fun p e s m args below meth c T locs ad Ls X A hL hz => ⟨Ls, hL, hz, fun t ht => XT.lshr X.here A.1 rfl (hb A.2.2.1 hd) rfl ht⟩) nx
theorem WP.lushr {x : Int64} {y : Int32} (hd : decode bytes pc = .ok (.lushr, 1)) (nx : WP l Z C lay own mn bytes maxL ret R n0 ro Q k n (pc + 1) L (.long (XT.ushrL x y) :: S) H) : WP l Z C lay own mn bytes maxL ret R n0 ro Q k n pc L (.int y :: .long x :: S) H :=
  WP.of (fun p e s m args below meth c T locs ad Ls X A hL hz => ⟨Ls, hL, hz, fun t ht => XT.lushr X.here A.1 rfl (hb A.2.2.1 hd) rfl ht⟩) nx
theorem WP.ineg {x : Int32} (hd : decode bytes pc = .ok (.ineg, 1)) (nx : WP l Z C lay own mn bytes maxL ret R n0 ro Q k n (pc + 1) L (.int (-x) :: S) H) : WP l Z C lay own mn bytes maxL ret R n0 ro Q k n pc L (.int x :: S) H :=
  WP.of (fun p e s m args below meth c T locs ad Ls X A hL hz => ⟨Ls, hL, hz, fun t ht => XS.ineg X.here A.1 rfl (hb A.2.2.1 hd) rfl ht⟩) nx
theorem WP.lneg {x : Int64} (hd : decode bytes pc = .ok (.lneg, 1)) (nx : WP l Z C lay own mn bytes maxL ret R n0 ro Q k n (pc + 1) L (.long (-x) :: S) H) : WP l Z C lay own mn bytes maxL ret R n0 ro Q k n pc L (.long x :: S) H :=
  WP.of (fun p e s m args below meth c T locs ad Ls X A hL hz => ⟨Ls, hL, hz, fun t ht => XT.lneg X.here A.1 rfl (hb A.2.2.1 hd) rfl ht⟩) nx
theorem WP.i2l {x : Int32} (hd : decode bytes pc = .ok (.i2l, 1)) (nx : WP l Z C lay own mn bytes maxL ret R n0 ro Q k n (pc + 1) L (.long x.toInt64 :: S) H) : WP l Z C lay own mn bytes maxL ret R n0 ro Q k n pc L (.int x :: S) H :=
  WP.of (fun p e s m args below meth c T locs ad Ls X A hL hz => ⟨Ls, hL, hz, fun t ht => XT.i2l X.here A.1 rfl (hb A.2.2.1 hd) rfl ht⟩) nx
theorem WP.l2i {x : Int64} (hd : decode bytes pc = .ok (.l2i, 1)) (nx : WP l Z C lay own mn bytes maxL ret R n0 ro Q k n (pc + 1) L (.int x.toInt32 :: S) H) : WP l Z C lay own mn bytes maxL ret R n0 ro Q k n pc L (.long x :: S) H :=
  WP.of (fun p e s m args below meth c T locs ad Ls X A hL hz => ⟨Ls, hL, hz, fun t ht => XT.l2i X.here A.1 rfl (hb A.2.2.1 hd) rfl ht⟩) nx
theorem WP.lcmp {x y : Int64} (hd : decode bytes pc = .ok (.lcmp, 1)) (nx : WP l Z C lay own mn bytes maxL ret R n0 ro Q k n (pc + 1) L (.int (XT.cmpL x y) :: S) H) : WP l Z C lay own mn bytes maxL ret R n0 ro Q k n pc L (.long y :: .long x :: S) H :=
  WP.of (fun p e s m args below meth c T locs ad Ls X A hL hz => ⟨Ls, hL, hz, fun t ht => XT.lcmp X.here A.1 rfl (hb A.2.2.1 hd) rfl ht⟩) nx
theorem WP.dup {v : Value} (hd : decode bytes pc = .ok (.dup, 1)) (hc : v.category = 1) (nx : WP l Z C lay own mn bytes maxL ret R n0 ro Q k n (pc + 1) L (v :: v :: S) H) : WP l Z C lay own mn bytes maxL ret R n0 ro Q k n pc L (v :: S) H :=
  WP.of (fun p e s m args below meth c T locs ad Ls X A hL hz => ⟨Ls, hL, hz, fun t ht => XS.dup X.here A.1 rfl (hb A.2.2.1 hd) rfl (by rw [rf_cat]; exact hc) ht⟩) nx
theorem WP.dup2 {v w : Value} (hd : decode bytes pc = .ok (.dup2, 1)) (hc : v.category = 1) (hc' : w.category = 1) (nx : WP l Z C lay own mn bytes maxL ret R n0 ro Q k n (pc + 1) L (v :: w :: v :: w :: S) H) : WP l Z C lay own mn bytes maxL ret R n0 ro Q k n pc L (v :: w :: S) H :=
  WP.of (fun p e s m args below meth c T locs ad Ls X A hL hz => ⟨Ls, hL, hz, fun t ht => XT.dup2 X.here A.1 rfl (hb A.2.2.1 hd) rfl (by rw [rf_cat]; exact hc) (by rw [rf_cat]; exact hc') ht⟩) nx
theorem WP.dup2L {x : Int64} (hd : decode bytes pc = .ok (.dup2, 1)) (nx : WP l Z C lay own mn bytes maxL ret R n0 ro Q k n (pc + 1) L (.long x :: .long x :: S) H) : WP l Z C lay own mn bytes maxL ret R n0 ro Q k n pc L (.long x :: S) H :=
  WP.of (fun p e s m args below meth c T locs ad Ls X A hL hz => ⟨Ls, hL, hz, fun t ht => XT.dup2L X.here A.1 rfl (hb A.2.2.1 hd) rfl ht⟩) nx
theorem WP.pop {v : Value} (hd : decode bytes pc = .ok (.pop, 1)) (hc : v.category = 1) (nx : WP l Z C lay own mn bytes maxL ret R n0 ro Q k n (pc + 1) L (S) H) : WP l Z C lay own mn bytes maxL ret R n0 ro Q k n pc L (v :: S) H :=
  WP.of (fun p e s m args below meth c T locs ad Ls X A hL hz => ⟨Ls, hL, hz, fun t ht => XT.pop X.here A.1 rfl (hb A.2.2.1 hd) rfl (by rw [rf_cat]; exact hc) ht⟩) nx
theorem WP.istore {j : Nat} {x : Int32} (hd : decode bytes pc = .ok (.istore j, 2)) (hi : j < L.length) (hL' : st1 L j (.int x) = L') (nx : WP l Z C lay own mn bytes maxL ret R n0 ro Q k n (pc + 2) L' S H) : WP l Z C lay own mn bytes maxL ret R n0 ro Q k n pc L (.int x :: S) H :=
  WP.of (fun p e s m args below meth c T locs ad Ls X A hL hz => by
    obtain ⟨Ls', e1, e2, e3⟩ := hL.store1 hi (v := .int x) rfl
    exact ⟨Ls', hL' ▸ e2, e3.trans hz, fun t ht => XS.istore X.here A.1 rfl (hb A.2.2.1 hd) rfl e1 ht⟩) nx
theorem WP.istoreN {j : Fin 4} {x : Int32} (hd : decode bytes pc = .ok (.istore_n j, 1)) (hi : j.val < L.length) (hL' : st1 L j.val (.int x) = L') (nx : WP l Z C lay own mn bytes maxL ret R n0 ro Q k n (pc + 1) L' S H) : WP l Z C lay own mn bytes maxL ret R n0 ro Q k n pc L (.int x :: S) H :=
  WP.of (fun p e s m args below meth c T locs ad Ls X A hL hz => by
    obtain ⟨Ls', e1, e2, e3⟩ := hL.store1 hi (v := .int x) rfl
    exact ⟨Ls', hL' ▸ e2, e3.trans hz, fun t ht => XS.istoreN X.here A.1 rfl (hb A.2.2.1 hd) rfl e1 ht⟩) nx
theorem WP.astore {j : Nat} {i : Nat} (hd : decode bytes pc = .ok (.astore j, 2)) (hi : j < L.length) (hL' : st1 L j (.ref i) = L') (nx : WP l Z C lay own mn bytes maxL ret R n0 ro Q k n (pc + 2) L' S H) : WP l Z C lay own mn bytes maxL ret R n0 ro Q k n pc L (.ref i :: S) H :=
  WP.of (fun p e s m args below meth c T locs ad Ls X A hL hz => by
    obtain ⟨Ls', e1, e2, e3⟩ := hL.store1 hi (v := .ref i) rfl
    exact ⟨Ls', hL' ▸ e2, e3.trans hz, fun t ht => XS.astore X.here A.1 rfl (hb A.2.2.1 hd) rfl rfl e1 ht⟩) nx
theorem WP.astoreN {j : Fin 4} {i : Nat} (hd : decode bytes pc = .ok (.astore_n j, 1)) (hi : j.val < L.length) (hL' : st1 L j.val (.ref i) = L') (nx : WP l Z C lay own mn bytes maxL ret R n0 ro Q k n (pc + 1) L' S H) : WP l Z C lay own mn bytes maxL ret R n0 ro Q k n pc L (.ref i :: S) H :=
  WP.of (fun p e s m args below meth c T locs ad Ls X A hL hz => by
    obtain ⟨Ls', e1, e2, e3⟩ := hL.store1 hi (v := .ref i) rfl
    exact ⟨Ls', hL' ▸ e2, e3.trans hz, fun t ht => XS.astoreN X.here A.1 rfl (hb A.2.2.1 hd) rfl rfl e1 ht⟩) nx
theorem WP.lstore {j : Nat} {x : Int64} (hd : decode bytes pc = .ok (.lstore j, 2)) (hi : j + 1 < L.length) (hL' : st2 L j (.long x) = L') (nx : WP l Z C lay own mn bytes maxL ret R n0 ro Q k n (pc + 2) L' S H) : WP l Z C lay own mn bytes maxL ret R n0 ro Q k n pc L (.long x :: S) H :=
  WP.of (fun p e s m args below meth c T locs ad Ls X A hL hz => by
    obtain ⟨Ls', e1, e2, e3⟩ := hL.store2 hi (v := .long x) rfl
    exact ⟨Ls', hL' ▸ e2, e3.trans hz, fun t ht => XT.lstore X.here A.1 rfl (hb A.2.2.1 hd) rfl e1 ht⟩) nx
theorem WP.lstoreN {j : Fin 4} {x : Int64} (hd : decode bytes pc = .ok (.lstore_n j, 1)) (hi : j.val + 1 < L.length) (hL' : st2 L j.val (.long x) = L') (nx : WP l Z C lay own mn bytes maxL ret R n0 ro Q k n (pc + 1) L' S H) : WP l Z C lay own mn bytes maxL ret R n0 ro Q k n pc L (.long x :: S) H :=
  WP.of (fun p e s m args below meth c T locs ad Ls X A hL hz => by
    obtain ⟨Ls', e1, e2, e3⟩ := hL.store2 hi (v := .long x) rfl
    exact ⟨Ls', hL' ▸ e2, e3.trans hz, fun t ht => XT.lstoreN X.here A.1 rfl (hb A.2.2.1 hd) rfl e1 ht⟩) nx
theorem WP.iinc {j : Nat} {cst : Int} {x : Int32} (v : Int32) (hd : decode bytes pc = .ok (.iinc j cst, 3)) (hv : Int32.ofInt cst = v) (hl : L[j]? = some (.val (.int x))) (hL' : st1 L j (.int (x + v)) = L') (nx : WP l Z C lay own mn bytes maxL ret R n0 ro Q k n (pc + 3) L' S H) : WP l Z C lay own mn bytes maxL ret R n0 ro Q k n pc L S H :=
  WP.of (fun p e s m args below meth c T locs ad Ls X A hL hz => by
    subst hv
    obtain ⟨Ls', e1, e2, e3⟩ := hL.store1 (get_lt hl) (v := .int (x + Int32.ofInt cst)) rfl
    exact ⟨Ls', hL' ▸ e2, e3.trans hz, fun t ht => XS.iinc X.here A.1 rfl (hb A.2.2.1 hd) (hL.2.1 _ _ hl) e1 ht⟩) nx
theorem iincW {tb : Tables} [Ours tb] {e : Env} {below : List Frame} {T target : State} {m : MethodId} {c : Code} {g : JFrame} (h : At T m c below) (hx : tb.exec = Jvm.exec) (hg : g.method = m) {k : Nat} {cst : Int} {x : Int32} {l' : Array Slot} (hd : decode c.code g.pc = .ok (.iinc k cst, 6)) (hl : g.locals[k]? = some (.val (.int x))) (hl' : storeLocals g.locals k (.int (x + Int32.ofInt cst)) = some l')
    (hr : Steps tb e below (T.setTop { g with pc := g.pc + 6, locals := l' }) target) : Steps tb e below (T.setTop g) target := by
  subst hg
  jvm_step h [h.top, hx, hd, hl, hl']
  exact hr
theorem WP.iincW {j : Nat} {cst : Int} {x : Int32} (v : Int32) (hd : decode bytes pc = .ok (.iinc j cst, 6)) (hv : Int32.ofInt cst = v) (hl : L[j]? = some (.val (.int x))) (hL' : st1 L j (.int (x + v)) = L') (nx : WP l Z C lay own mn bytes maxL ret R n0 ro Q k n (pc + 6) L' S H) : WP l Z C lay own mn bytes maxL ret R n0 ro Q k n pc L S H :=
  WP.of (fun p e s m args below meth c T locs ad Ls X A hL hz => by
    subst hv
    obtain ⟨Ls', e1, e2, e3⟩ := hL.store1 (get_lt hl) (v := .int (x + Int32.ofInt cst)) rfl
    exact ⟨Ls', hL' ▸ e2, e3.trans hz, fun t ht => Own.iincW X.here A.1 rfl (hb A.2.2.1 hd) (hL.2.1 _ _ hl) e1 ht⟩) nx
theorem WP.goto {o : Int} (hd : decode bytes pc = .ok (.goto o, 3)) (ho : 0 ≤ (pc : Int) + o) (hp : ((pc : Int) + o).toNat = pc') (nx : WP l Z C lay own mn bytes maxL ret R n0 ro Q k n pc' L S H) : WP l Z C lay own mn bytes maxL ret R n0 ro Q k n pc L S H :=
  WP.of (fun p e s m args below meth c T locs ad Ls X A hL hz => ⟨Ls, hL, hz, fun t ht => XS.goto X.here A.1 rfl rfl (hb A.2.2.1 hd) ho hp ht⟩) nx
theorem WP.ifY {cd : ClassFile.Cond} {x : Int32} {o : Int} (hd : decode bytes pc = .ok (.ifCond cd o, 3)) (hc : ifCond.holds cd x = true) (ho : 0 ≤ (pc : Int) + o) (hp : ((pc : Int) + o).toNat = pc') (nx : WP l Z C lay own mn bytes maxL ret R n0 ro Q k n pc' L S H) : WP l Z C lay own mn bytes maxL ret R n0 ro Q k n pc L (.int x :: S) H :=
  WP.of (fun p e s m args below meth c T locs ad Ls X A hL hz => ⟨Ls, hL, hz, fun t ht => XS.ifYes X.here A.1 rfl rfl (hb A.2.2.1 hd) rfl hc ho hp ht⟩) nx
theorem WP.ifN {cd : ClassFile.Cond} {x : Int32} {o : Int} (hd : decode bytes pc = .ok (.ifCond cd o, 3)) (hc : ifCond.holds cd x = false) (nx : WP l Z C lay own mn bytes maxL ret R n0 ro Q k n (pc + 3) L S H) : WP l Z C lay own mn bytes maxL ret R n0 ro Q k n pc L (.int x :: S) H :=
  WP.of (fun p e s m args below meth c T locs ad Ls X A hL hz => ⟨Ls, hL, hz, fun t ht => XS.ifNo X.here A.1 rfl (hb A.2.2.1 hd) rfl hc ht⟩) nx
theorem WP.icmpY {cd : ClassFile.Cond} {x y : Int32} {o : Int} (hd : decode bytes pc = .ok (.if_icmp cd o, 3)) (hc : if_icmp.holds cd x y = true) (ho : 0 ≤ (pc : Int) + o) (hp : ((pc : Int) + o).toNat = pc') (nx : WP l Z C lay own mn bytes maxL ret R n0 ro Q k n pc' L S H) : WP l Z C lay own mn bytes maxL ret R n0 ro Q k n pc L (.int y :: .int x :: S) H :=
  WP.of (fun p e s m args below meth c T locs ad Ls X A hL hz => ⟨Ls, hL, hz, fun t ht => XS.icmpYes X.here A.1 rfl rfl (hb A.2.2.1 hd) rfl hc ho hp ht⟩) nx
theorem WP.icmpN {cd : ClassFile.Cond} {x y : Int32} {o : Int} (hd : decode bytes pc = .ok (.if_icmp cd o, 3)) (hc : if_icmp.holds cd x y = false) (nx : WP l Z C lay own mn bytes maxL ret R n0 ro Q k n (pc + 3) L S H) : WP l Z C lay own mn bytes maxL ret R n0 ro Q k n pc L (.int y :: .int x :: S) H :=
  WP.of (fun p e s m args below meth c T locs ad Ls X A hL hz => ⟨Ls, hL, hz, fun t ht => XS.icmpNo X.here A.1 rfl (hb A.2.2.1 hd) rfl hc ht⟩) nx
theorem WP.nonnull {i : Nat} {o : Int} (hd : decode bytes pc = .ok (.ifnonnull o, 3)) (ho : 0 ≤ (pc : Int) + o) (hp : ((pc : Int) + o).toNat = pc') (nx : WP l Z C lay own mn bytes maxL ret R n0 ro Q k n pc' L S H) : WP l Z C lay own mn bytes maxL ret R n0 ro Q k n pc L (.ref i :: S) H :=
  WP.of (fun p e s m args below meth c T locs ad Ls X A hL hz => ⟨Ls, hL, hz, fun t ht => XT.ifnonnullYes X.here A.1 rfl rfl (hb A.2.2.1 hd) rfl ho hp ht⟩) nx
theorem WP.tswIn {dflt low high o : Int} {offs : Array Int} {len : Nat} {i : Int32} (hd : decode bytes pc = .ok (.tableswitch dflt low high offs, len)) (hin : ¬ (i.toInt < low ∨ i.toInt > high)) (hoff : offs[(i.toInt - low).toNat]? = some o) (ho : 0 ≤ (pc : Int) + o) (hp : ((pc : Int) + o).toNat = pc') (nx : WP l Z C lay own mn bytes maxL ret R n0 ro Q k n pc' L S H) : WP l Z C lay own mn bytes maxL ret R n0 ro Q k n pc L (.int i :: S) H :=
  WP.of (fun p e s m args below meth c T locs ad Ls X A hL hz => ⟨Ls, hL, hz, fun t ht => XS.tswIn X.here A.1 rfl rfl (hb A.2.2.1 hd) rfl hin hoff ho hp ht⟩) nx
theorem WP.tswOut {dflt low high : Int} {offs : Array Int} {len : Nat} {i : Int32} (hd : decode bytes pc = .ok (.tableswitch dflt low high offs, len)) (hout : i.toInt < low ∨ i.toInt > high) (ho : 0 ≤ (pc : Int) + dflt) (hp : ((pc : Int) + dflt).toNat = pc') (nx : WP l Z C lay own mn bytes maxL ret R n0 ro Q k n pc' L S H) : WP l Z C lay own mn bytes maxL ret R n0 ro Q k n pc L (.int i :: S) H :=
  WP.of (fun p e s m args below meth c T locs ad Ls X A hL hz => ⟨Ls, hL, hz, fun t ht => XS.tswOut X.here A.1 rfl rfl (hb A.2.2.1 hd) rfl hout ho hp ht⟩) nx
theorem tsw_miss {i : Int32} {low high : Int} (h : ∀ z : Int, low ≤ z → z ≤ high → ¬ i = Int32.ofInt z) : i.toInt < low ∨ i.toInt > high := by
  by_cases a : i.toInt < low
  · exact Or.inl a
  · by_cases b : i.toInt > high
    · exact Or.inr b
    · exact absurd (by rw [Int32.ofInt_toInt]) (h i.toInt (by omega) (by omega))
theorem WP.moved (hs : ∀ (p : Program) (e : Env) (s : State) (m : MethodId) (args : Array Value) (below : List Frame) (meth : Method) (c : Code) (T : State) (locs : List Loc) (ad : Nat → Addr) (Ls : Array Slot), Stand p l e R s m args below meth c T locs k n → Am Z own mn bytes maxL ret p s m meth c → HR Z C lay n0 ro ad H T.heap → Fr n0 locs → LR ad L Ls → Ls.size = maxL →
      ∃ T' locs', Stand p l e R s m args below meth c T' locs' k' n' ∧ HR Z C lay n0 ro ad H' T'.heap ∧ Kp ad H.length T.heap T'.heap ∧ Fr n0 locs' ∧ ∀ t, Steps p.tables e below (T'.setTop (mkF m pc' Ls (S'.map (rf ad)))) t → Steps p.tables e below (T.setTop (mkF m pc Ls (S.map (rf ad)))) t)
    (nx : WP l Z C lay own mn bytes maxL ret R n0 ro Q k' n' pc' L S' H') : WP l Z C lay own mn bytes maxL ret R n0 ro Q k n pc L S H := by
  intro p e s m args below meth c T locs ad Ls X A hr N hL hz
  obtain ⟨T', locs', X', hr', K, N', st⟩ := hs p e s m args below meth c T locs ad Ls X A hr N hL hz
  obtain ⟨s₂, v, H2, locs2, h1, h2, h3, h4, h5, h6, h7⟩ := nx p e s m args below meth c T' locs' ad Ls X' A hr' N' hL hz
  exact ⟨s₂, v, H2, locs2, st _ h1, h2, h3, h4, h5, Kp.trans hr K h6, h7⟩
theorem WP.getfield {idx i j : Nat} {f d : String} {vs : List Value} {v : Value} (hd : decode bytes pc = .ok (.getfield idx, 3)) (hw : (Cond.fieldLink own idx C f d).before a0 Z = true) (hj : lay[j]? = some (f, d)) (hH : H[i]? = some (.inl vs)) (hv : vs[j]? = some v) (nx : WP l Z C lay own mn bytes maxL ret R n0 ro Q k n (pc + 3) L (v :: S) H) : WP l Z C lay own mn bytes maxL ret R n0 ro Q k n pc L (.ref i :: S) H :=
  WP.moved (fun p e s m args below meth c T locs ad Ls X A hr N hL hz => by
    have F := (hr.1 i _ hH).2 j _ v hj hv
    obtain ⟨T', X', e', st⟩ := getF X A.1 A.2.1 A.2.2.2.2.2.2.1 (host := "") (Or.inl hw) Via.refl rfl F (g := mkF m pc Ls (.ref (ad i) :: S.map (rf ad))) rfl rfl (hb A.2.2.1 hd)
    exact ⟨T', locs, X', by rw [e']; exact hr, by rw [e']; exact Kp.refl _ _ _, N, fun t ht => st t ht⟩) nx
theorem WP.iaload {i : Nat} {xs : List Int32} {j x : Int32} (hd : decode bytes pc = .ok (.iaload, 1)) (hH : H[i]? = some (cI xs)) (hx : rd xs j = some x) (nx : WP l Z C lay own mn bytes maxL ret R n0 ro Q k n (pc + 1) L (.int x :: S) H) : WP l Z C lay own mn bytes maxL ret R n0 ro Q k n pc L (.int j :: .ref i :: S) H :=
  WP.moved (fun p e s m args below meth c T locs ad Ls X A hr N hL hz => by
    obtain ⟨cl, Ar, hsl⟩ := hr.1 i _ hH
    obtain ⟨q1, q2⟩ := rd_slots hsl hx
    exact ⟨T, locs, X, hr, Kp.refl _ _ _, N, fun t ht => X.iaload A.1 (j := j) Ar.1 (State.isArrayOf_alike A.2.1.alike Ar.2.1) Ar.2.2 q1 q2 (g := mkF m pc Ls (.int j :: .ref (ad i) :: S.map (rf ad))) rfl rfl (hb A.2.2.1 hd) _ ht⟩) nx
theorem WP.laload {i : Nat} {xs : List Int64} {j : Int32} {x : Int64} (hd : decode bytes pc = .ok (.laload, 1)) (hH : H[i]? = some (cJ xs)) (hx : rd xs j = some x) (nx : WP l Z C lay own mn bytes maxL ret R n0 ro Q k n (pc + 1) L (.long x :: S) H) : WP l Z C lay own mn bytes maxL ret R n0 ro Q k n pc L (.int j :: .ref i :: S) H :=
  WP.moved (fun p e s m args below meth c T locs ad Ls X A hr N hL hz => by
    obtain ⟨cl, Ar, hsl⟩ := hr.1 i _ hH
    obtain ⟨q1, q2⟩ := rd_slots hsl hx
    exact ⟨T, locs, X, hr, Kp.refl _ _ _, N, fun t ht => X.laload A.1 (j := j) Ar.1 (State.isArrayOf_alike A.2.1.alike Ar.2.1) Ar.2.2 q1 q2 (g := mkF m pc Ls (.int j :: .ref (ad i) :: S.map (rf ad))) rfl rfl (hb A.2.2.1 hd) _ ht⟩) nx
theorem baloadZ {p : Program} {e : Env} {s : State} {m : MethodId} {args : Array Value} {below : List Frame} {meth : Method} {c : Code} {T : State} {locs : List Loc} {cells slots : Nat} (X : Stand p l e R s m args below meth c T locs cells slots) (hexec : p.tables.exec = Jvm.exec) {a : Addr} {cell : Cell} {j : Int32} {v : Value} (hcell : T.heap[a]? = some cell) (harr : s.isArrayOf cell .boolean) (hknown : cell.vm ≠ .unknown)
    (hin : ¬ (j < 0 ∨ cell.slots.size ≤ j.toNatClampNeg)) (hv : cell.slots[j.toNatClampNeg]? = some v) {g : JFrame} (hg : g.method = m) {rest : List Value} (hstack : g.stack = .int j :: .ref a :: rest) (hdg : decode c.code g.pc = .ok (.baload, 1)) (target : State)
    (hrest : Steps p.tables e below (T.setTop { g with pc := g.pc + 1, stack := v :: rest }) target) : Steps p.tables e below (T.setTop g) target := by
  have hT := State.isArrayOf_alike X.warmed.alike harr
  subst hg
  jvm_step X.here [hexec, hdg, baload.wp_booleans (e := e) (s := T) (f := g) X.here.top hstack hcell hT hin hknown hv]
  exact hrest
theorem WP.baload {i : Nat} {xs : List Int32} {j x : Int32} (hd : decode bytes pc = .ok (.baload, 1)) (hH : H[i]? = some (cZ xs)) (hx : rd xs j = some x) (nx : WP l Z C lay own mn bytes maxL ret R n0 ro Q k n (pc + 1) L (.int x :: S) H) : WP l Z C lay own mn bytes maxL ret R n0 ro Q k n pc L (.int j :: .ref i :: S) H :=
  WP.moved (fun p e s m args below meth c T locs ad Ls X A hr N hL hz => by
    obtain ⟨cl, Ar, hsl⟩ := hr.1 i _ hH
    obtain ⟨q1, q2⟩ := rd_slots hsl hx
    exact ⟨T, locs, X, hr, Kp.refl _ _ _, N, fun t ht => baloadZ X A.1 (j := j) Ar.1 (State.isArrayOf_alike A.2.1.alike Ar.2.1) Ar.2.2 q1 q2 (g := mkF m pc Ls (.int j :: .ref (ad i) :: S.map (rf ad))) rfl rfl (hb A.2.2.1 hd) _ ht⟩) nx
theorem WP.arraylength {i : Nat} {xs : List Int32} (hd : decode bytes pc = .ok (.arraylength, 1)) (hH : H[i]? = some (cI xs)) (nx : WP l Z C lay own mn bytes maxL ret R n0 ro Q k n (pc + 1) L (.int xs.length.toInt32 :: S) H) : WP l Z C lay own mn bytes maxL ret R n0 ro Q k n pc L (.ref i :: S) H :=
  WP.moved (fun p e s m args below meth c T locs ad Ls X A hr N hL hz => by
    obtain ⟨cl, Ar, hsl⟩ := hr.1 i _ hH
    have e1 : cl.slots.size = xs.length := by rw [← Array.length_toList, hsl, List.length_map]
    refine ⟨T, locs, X, hr, Kp.refl _ _ _, N, fun t ht => X.arraylength A.1 Ar.1 (State.isArrayOf_alike A.2.1.alike Ar.2.1) (g := mkF m pc Ls (.ref (ad i) :: S.map (rf ad))) rfl rfl (hb A.2.2.1 hd) _ ?_⟩
    rw [e1]; exact ht) nx
theorem WP.iastore {i : Nat} {xs xs' : List Int32} {j : Int32} {x : Int32} (hd : decode bytes pc = .ok (.iastore, 1)) (hH : H[i]? = some (cI xs)) (hi : ro ≤ i) (hx : wr xs j x = some xs') (hH' : H.set i (cI xs') = H') (nx : WP l Z C lay own mn bytes maxL ret R n0 ro Q k n (pc + 1) L S H') : WP l Z C lay own mn bytes maxL ret R n0 ro Q k n pc L (.int x :: .int j :: .ref i :: S) H :=
  WP.moved (fun p e s m args below meth c T locs ad Ls X A hr N hL hz => by
    obtain ⟨cl, Ar, hsl⟩ := hr.1 i _ hH
    obtain ⟨q1, q2⟩ := wr_slots hsl hx
    obtain ⟨T', h', X', e', w, st⟩ := stI X A.1 A.2.1 rfl Ar (j := j) (x := x) q1 (g := mkF m pc Ls (.int x :: .int j :: .ref (ad i) :: S.map (rf ad))) rfl rfl (hb A.2.2.1 hd)
    subst e'
    have hi' := get_lt hH
    have P := hr.put (h' := T'.heap) (c := cI xs') hi' w.size (fun a cz hne q => by
      obtain ⟨c', g1, -, -, -, g5, -⟩ := wr_at w q
      rw [g5 hne] at g1; exact g1) ⟨_, Ar.same w, q2⟩
    exact ⟨T', _, X', hH' ▸ P.1, P.2, Fr.snoc X' N (hr.2.2.2.1 i hi' hi), fun t ht => st t ht⟩) nx
theorem WP.lastore {i : Nat} {xs xs' : List Int64} {j : Int32} {x : Int64} (hd : decode bytes pc = .ok (.lastore, 1)) (hH : H[i]? = some (cJ xs)) (hi : ro ≤ i) (hx : wr xs j x = some xs') (hH' : H.set i (cJ xs') = H') (nx : WP l Z C lay own mn bytes maxL ret R n0 ro Q k n (pc + 1) L S H') : WP l Z C lay own mn bytes maxL ret R n0 ro Q k n pc L (.long x :: .int j :: .ref i :: S) H :=
  WP.moved (fun p e s m args below meth c T locs ad Ls X A hr N hL hz => by
    obtain ⟨cl, Ar, hsl⟩ := hr.1 i _ hH
    obtain ⟨q1, q2⟩ := wr_slots hsl hx
    obtain ⟨T', h', X', e', w, st⟩ := stJ X A.1 A.2.1 rfl Ar (j := j) (x := x) q1 (g := mkF m pc Ls (.long x :: .int j :: .ref (ad i) :: S.map (rf ad))) rfl rfl (hb A.2.2.1 hd)
    subst e'
    have hi' := get_lt hH
    have P := hr.put (h' := T'.heap) (c := cJ xs') hi' w.size (fun a cz hne q => by
      obtain ⟨c', g1, -, -, -, g5, -⟩ := wr_at w q
      rw [g5 hne] at g1; exact g1) ⟨_, Ar.same w, q2⟩
    exact ⟨T', _, X', hH' ▸ P.1, P.2, Fr.snoc X' N (hr.2.2.2.1 i hi' hi), fun t ht => st t ht⟩) nx
theorem WP.bastore {i : Nat} {xs xs' : List Int32} {j : Int32} {x : Int32} (hd : decode bytes pc = .ok (.bastore, 1)) (hH : H[i]? = some (cZ xs)) (hi : ro ≤ i) (hx : wr xs j (x &&& 1) = some xs') (hH' : H.set i (cZ xs') = H') (nx : WP l Z C lay own mn bytes maxL ret R n0 ro Q k n (pc + 1) L S H') : WP l Z C lay own mn bytes maxL ret R n0 ro Q k n pc L (.int x :: .int j :: .ref i :: S) H :=
  WP.moved (fun p e s m args below meth c T locs ad Ls X A hr N hL hz => by
    obtain ⟨cl, Ar, hsl⟩ := hr.1 i _ hH
    obtain ⟨q1, q2⟩ := wr_slots hsl hx
    obtain ⟨T', h', X', e', w, st⟩ := stZ X A.1 A.2.1 rfl Ar (j := j) (x := x) q1 (g := mkF m pc Ls (.int x :: .int j :: .ref (ad i) :: S.map (rf ad))) rfl rfl (hb A.2.2.1 hd)
    subst e'
    have hi' := get_lt hH
    have P := hr.put (h' := T'.heap) (c := cZ xs') hi' w.size (fun a cz hne q => by
      obtain ⟨c', g1, -, -, -, g5, -⟩ := wr_at w q
      rw [g5 hne] at g1; exact g1) ⟨_, Ar.same w, q2⟩
    exact ⟨T', _, X', hH' ▸ P.1, P.2, Fr.snoc X' N (hr.2.2.2.1 i hi' hi), fun t ht => st t ht⟩) nx
/-- a field of the one class is written -/
theorem WP.put {idx i j kk : Nat} {f d : String} {vs : List Value} {v v' old : Value} {ty : FieldType} (hd : decode bytes pc = .ok (.putfield idx, 3)) (hw : (Cond.fieldLink own idx C f d).before a0 Z = true) (hl : (Cond.lays C C f d).before a0 Z = true ∨ ((Cond.laysFinal C C f d).before a0 Z = true ∧ own = C ∧ mn = "<init>")) (wi : (Cond.instantiable C kk).before a0 Z = true)
    (hlay : ∀ (a b : Nat) (f g : String × String), lay[a]? = some f → lay[b]? = some g → a ≠ b → RoadKit.slotOf Z C f.1 f.2 ≠ RoadKit.slotOf Z C g.1 g.2) (hty : parseFieldDescriptor d = some ty) (hn : ∀ ad, narrow ty (rf ad v) = rf ad v') (hf : ∀ ad, fits ty (rf ad v') = true)
    (hj : lay[j]? = some (f, d)) (hH : H[i]? = some (.inl vs)) (hv : vs[j]? = some old) (hi : ro ≤ i) (hH' : H.set i (.inl (vs.set j v')) = H') (nx : WP l Z C lay own mn bytes maxL ret R n0 ro Q k n (pc + 3) L S H') : WP l Z C lay own mn bytes maxL ret R n0 ro Q k n pc L (v :: .ref i :: S) H :=
  WP.moved (fun p e s m args below meth c T locs ad Ls X A hr N hL hz => by
    obtain ⟨E, F⟩ := hr.1 i _ hH
    obtain ⟨T', h', X', e', w, st⟩ := putFN X A.1 A.2.1 A.2.2.2.2.2.2.1 hw Via.refl rfl (F j _ old hj hv) E (hl.imp id fun q => ⟨q.1, q.2.1, A.2.2.2.2.2.2.2.trans q.2.2⟩) wi hty (hn ad) (hf ad) (g := mkF m pc Ls (rf ad v :: .ref (ad i) :: S.map (rf ad))) rfl rfl (hb A.2.2.1 hd)
    subst e'
    have hi' := get_lt hH
    have P := hr.put (h' := T'.heap) (c := .inl (vs.set j v')) hi' w.size (fun a cz hne q => by
      obtain ⟨c', g1, -, -, -, g5, -⟩ := wr_at w q
      rw [g5 hne] at g1; exact g1) ⟨E.wr w, fun a g u hg hu => by
        rw [List.getElem?_set] at hu
        by_cases e : j = a
        · subst e
          cases hj.symm.trans hg
          rw [if_pos rfl, if_pos (get_lt hv)] at hu
          cases hu
          exact (F j _ old hj hv).same w
        · rw [if_neg e] at hu
          exact (F a g u hg hu).other w (Or.inr (hlay a j g (f, d) hg hj (Ne.symm e)))⟩
    exact ⟨T', _, X', hH' ▸ P.1, P.2, Fr.snoc X' N (hr.2.2.2.1 i hi' hi), fun t ht => st t ht⟩) nx
/-- newarray -/
theorem WP.newarray {aty : ArrayType} {c0 : OwnC} {cnt : Int32} (hd : decode bytes pc = .ok (.newarray aty, 2)) (hw : (Cond.arrayClass (newarray.typeOf aty)).before a0 Z = true) (hn : ¬ cnt < 0) (hb8 : cnt.toNatClampNeg * 8 ≤ 536870912) (hc : k + 1 ≤ R.cells) (hl : n + cnt.toNatClampNeg ≤ R.slots)
    (h0 : (aty = .int ∧ c0 = cI (List.replicate cnt.toNatClampNeg 0)) ∨ (aty = .long ∧ c0 = cJ (List.replicate cnt.toNatClampNeg 0)) ∨ (aty = .boolean ∧ c0 = cZ (List.replicate cnt.toNatClampNeg 0)))
    (nx : WP l Z C lay own mn bytes maxL ret R n0 ro Q (k + 1) (n + cnt.toNatClampNeg) (pc + 2) L (.ref H.length :: S) (H ++ [c0])) : WP l Z C lay own mn bytes maxL ret R n0 ro Q k n pc L (.int cnt :: S) H :=
  WP.moved (fun p e s m args below meth c T locs ad Ls X A hr N hL hz => by
    have hcb : componentBytes (newarray.typeOf aty) ≤ 8 := by cases aty <;> decide
    obtain ⟨cA, kA, comp, h1, h2, h3, X', st⟩ := X.newarrayPrim A.1 (mvA A.2.1 hw) (g := mkF m pc Ls (.int cnt :: S.map (rf ad))) rfl (hb A.2.2.1 hd) rfl hn (Nat.le_trans (Nat.mul_le_mul (Nat.le_refl _) hcb) hb8) hc hl
    rw [A.2.1.alike.findClass] at h1
    obtain ⟨kZ, z1, -⟩ := Vm.findClass_spec h1
    obtain ⟨k', z2, z3⟩ := A.2.1.alike.2.2 _ _ z1
    cases h2.symm.trans z2
    have hE : Ext T.heap (T.heap.push { cls := cA, slots := Array.replicate cnt.toNatClampNeg (defaultValue (newarray.typeOf aty)), vm := .none }) := ⟨by simp, fun a c h => by
      rw [Array.getElem?_push_lt (Array.getElem?_eq_some_iff.mp h).1]; exact (Array.getElem?_eq_getElem _).symm.trans h⟩
    have Ar : Arr Z (T.heap.push { cls := cA, slots := Array.replicate cnt.toNatClampNeg (defaultValue (newarray.typeOf aty)), vm := .none }) T.heap.size { cls := cA, slots := Array.replicate cnt.toNatClampNeg (defaultValue (newarray.typeOf aty)), vm := .none } (newarray.typeOf aty) :=
      ⟨by simp, ⟨by simp, kZ, z1, comp, by rw [← h3, z3]⟩, by simp⟩
    have hc0 : CelOk Z C lay ad (T.heap.push { cls := cA, slots := Array.replicate cnt.toNatClampNeg (defaultValue (newarray.typeOf aty)), vm := .none }) T.heap.size c0 := by
      rcases h0 with ⟨rfl, rfl⟩ | ⟨rfl, rfl⟩ | ⟨rfl, rfl⟩
      all_goals exact ⟨_, Ar, by simp [defaultValue, newarray.typeOf]⟩
    have P := hr.push (h' := T.heap.push _) (by simp) hE hc0
    refine ⟨_, locs, X', P.1, P.2.1, N, fun t ht => st t ?_⟩
    have e0 : (List.map (rf ad) (.ref H.length :: S)) = .ref T.heap.size :: S.map (rf ad) := by show (Value.ref (ad H.length) :: _) = _; rw [P.2.2]
    rw [e0] at ht; exact ht) nx
theorem rf_default (ad : Nat → Addr) (ty : FieldType) : rf ad (defaultValue ty) = defaultValue ty := by cases ty <;> rfl
/-- new -/
theorem WP.new {idx kk : Nat} {vs : List Value} (hd : decode bytes pc = .ok (.new idx, 3)) (hw : (Cond.classLink own idx C).before a0 Z = true) (wi : (Cond.instantiable C kk).before a0 Z = true) (wz : (Cond.initialized C).before a0 Z = true) (hc : k + 1 ≤ R.cells) (hl : n + kk ≤ R.slots)
    (h0 : ∀ (i : Nat) (f : String × String) (v : Value), lay[i]? = some f → vs[i]? = some v → Laid Z a0 C C f.1 f.2 ∧ ∃ ty, parseFieldDescriptor f.2 = some ty ∧ v = defaultValue ty)
    (nx : WP l Z C lay own mn bytes maxL ret R n0 ro Q (k + 1) (n + kk) (pc + 3) L (.ref H.length :: S) (H ++ [.inl vs])) : WP l Z C lay own mn bytes maxL ret R n0 ro Q k n pc L S H :=
  WP.moved (fun p e s m args below meth c T locs ad Ls X A hr N hL hz => by
    obtain ⟨vm', cC, kC, h1, h2, h3, h4, X', st⟩ := X.newCold A.1 A.2.2.2.2.2.2.1 (mv A.2.1 hw) (mv A.2.1 wi) (mv A.2.1 wz) (g := mkF m pc Ls (S.map (rf ad))) rfl (hb A.2.2.1 hd) hc hl
    rw [A.2.1.alike.findClass] at h1
    obtain ⟨kZ, z1, -⟩ := Vm.findClass_spec h1
    obtain ⟨k', z2, z3⟩ := A.2.1.alike.2.2 _ _ z1
    cases h2.symm.trans z2
    have ei : kC.instanceTypes = kZ.instanceTypes := by rw [z3]
    have hN : (T.heap.push { cls := cC, slots := kC.instanceTypes.map defaultValue, vm := .none })[T.heap.size]? = some { cls := cC, slots := kC.instanceTypes.map defaultValue, vm := .none } := by simp
    have hE : Ext T.heap (T.heap.push { cls := cC, slots := kC.instanceTypes.map defaultValue, vm := .none }) := ⟨by simp, fun a c h => by
      rw [Array.getElem?_push_lt (Array.getElem?_eq_some_iff.mp h).1]; exact (Array.getElem?_eq_getElem _).symm.trans h⟩
    have hc0 : CelOk Z C lay ad (T.heap.push { cls := cC, slots := kC.instanceTypes.map defaultValue, vm := .none }) T.heap.size (.inl vs) := by
      refine ⟨⟨_, kZ, hN, h1, z1, rfl, fun _ => by simp [ei]⟩, fun i f v hf hv => ?_⟩
      obtain ⟨La, ty, ht, rfl⟩ := h0 i f v hf hv
      obtain ⟨c1, k1, cf, kf, i1, f1, a1, a2, a3, a4, a5, a6, -⟩ := La.spec
      cases h1.symm.trans a1
      cases z1.symm.trans a2
      rw [rf_default]
      exact ⟨_, cf, kf, i1, f1, hN, a3, a4, by simp, rfl, a5, by simp [ei, a6, (State.fieldFound?_type a3 ht).2]⟩
    have P := hr.push (h' := T.heap.push _) (by simp) hE hc0
    refine ⟨_, locs, X', P.1, P.2.1, N, fun t ht => st t ?_⟩
    have e0 : (List.map (rf ad) (.ref H.length :: S)) = .ref T.heap.size :: S.map (rf ad) := by show (Value.ref (ad H.length) :: _) = _; rw [P.2.2]
    rw [e0] at ht; exact ht) nx
/-- Object.<init> -/
theorem WP.initO {idx i : Nat} (hd : decode bytes pc = .ok (.invokespecial idx, 3)) (w1 : (Cond.methodLink own idx Lib.objectInit).before a0 Z = true) (w2 : (Cond.instanceMethod Lib.objectInit).before a0 Z = true) (w3 : (Cond.code Lib.objectInit ⟨#[0xb1]⟩ 1 none).before a0 Z = true) (hf : 1 ≤ R.frames) (hl : (S.map fun v => v.category).sum + 12 ≤ R.locals)
    (nx : WP l Z C lay own mn bytes maxL ret R n0 ro Q k n (pc + 3) L S H) : WP l Z C lay own mn bytes maxL ret R n0 ro Q k n pc L (.ref i :: S) H :=
  WP.moved (fun p e s m args below meth c T locs ad Ls X A hr N hL hz => by
    obtain ⟨T', X', e', st⟩ := RoadKit.initO X A.1 A.2.1 A.2.2.2.2.2.2.1 w1 w2 w3 rfl (g := mkF m pc Ls (.ref (ad i) :: S.map (rf ad))) rfl (hz.trans A.2.2.2.1.symm) rfl (hb A.2.2.1 hd) hf (W := (S.map fun v => v.category).sum) (by show 2 * 0 + _ ≤ _; rw [rf_cats]; omega) hl
    exact ⟨T', locs, X', by rw [e']; exact hr, by rw [e']; exact Kp.refl _ _ _, N, fun t ht => st t ht⟩) nx
theorem WP.leave {v : Option Value} (hk : k ≤ R.cells) (hn : n ≤ R.slots) (hv : ret = none → v = none) (hq : Q v H)
    (hs : ∀ (p : Program) (e : Env) (s : State) (m : MethodId) (args : Array Value) (below : List Frame) (meth : Method) (c : Code) (T : State) (locs : List Loc) (ad : Nat → Addr) (Ls : Array Slot) (fs : List Frame), Stand p l e R s m args below meth c T locs k n → Am Z own mn bytes maxL ret p s m meth c →
      (∀ (f : JFrame) (acts : List Action), f.method = m → f.locked = none → f.entered = [] → (doReturn e (T.setTop f) acts (v.map (rf ad))).1 = T.setFrames fs) → Steps p.tables e below (T.setTop (mkF m pc Ls (S.map (rf ad)))) (T.setFrames fs)) : WP l Z C lay own mn bytes maxL ret R n0 ro Q k n pc L S H := by
  intro p e s m args below meth c T locs ad Ls X A hr N hL hz
  obtain ⟨fs, hr', hrun, hended, hW, hsame⟩ := X.leave (v := v.map (rf ad)) (fun q => by rw [hv (A.2.2.2.2.1.symm.trans q)]; rfl) A.2.2.2.2.2.1
  exact ⟨_, v, H, locs, hs p e s m args below meth c T locs ad Ls fs X A hr', hrun, hended, hq, hr, Kp.refl _ _ _, N, ⟨_, rfl⟩, hW, hsame.mono hk hn⟩
theorem retI' {p : Program} {e : Env} {s : State} {m : MethodId} {args : Array Value} {below : List Frame} {meth : Method} {c : Code} {T : State} {locs : List Loc} {cells slots : Nat} (X : Stand p l e R s m args below meth c T locs cells slots) (hx : p.tables.exec = Jvm.exec) {pc : Nat} {Ls : Array Slot} {z : Int32} {rest : List Value} (hret : meth.sig.returnType = some .int) (hd : decode c.code pc = .ok (.ireturn, 1)) {fs : List Frame}
    (hl : ∀ (f : JFrame) (acts : List Action), f.method = m → f.locked = none → f.entered = [] → (doReturn e (T.setTop f) acts (some (.int z))).1 = T.setFrames fs) : Steps p.tables e below (T.setTop (mkF m pc Ls (.int z :: rest))) (T.setFrames fs) := by
  have hm' : T.vm.method? m = some meth := X.method'
  have hn : narrow .int (.int z) = .int z := rfl
  show Steps p.tables e below (T.setTop { method := m, pc := pc, locals := Ls, stack := _ :: rest, locked := none }) _
  jvm_step X.here [X.here.top, hx, hd, hm', hret, hn]
  first | (intro acts; rw [hl _ acts rfl rfl rfl]) | rw [hl _ _ rfl rfl rfl]
  exact Steps.refl _
theorem WP.ireturn {x : Int32} (hd : decode bytes pc = .ok (.ireturn, 1)) (hret : ret = some .int) (hk : k ≤ R.cells) (hn : n ≤ R.slots) (hq : Q (some (.int x)) H) : WP l Z C lay own mn bytes maxL ret R n0 ro Q k n pc L (.int x :: S) H :=
  WP.leave (v := some (.int x)) hk hn (fun q => by rw [hret] at q; cases q) hq fun p e s m args below meth c T locs ad Ls fs X A hr' => retI' X A.1 (A.2.2.2.2.1.trans hret) (hb A.2.2.1 hd) hr'
theorem WP.zreturn {x : Int32} (hd : decode bytes pc = .ok (.ireturn, 1)) (hret : ret = some .boolean) (hk : k ≤ R.cells) (hn : n ≤ R.slots) (hq : Q (some (.int (x &&& 1))) H) : WP l Z C lay own mn bytes maxL ret R n0 ro Q k n pc L (.int x :: S) H :=
  WP.leave (v := some (.int (x &&& 1))) hk hn (fun q => by rw [hret] at q; cases q) hq fun p e s m args below meth c T locs ad Ls fs X A hr' => retN X A.1 (t := .boolean) (A.2.2.2.2.1.trans hret) (Or.inl rfl) (hb A.2.2.1 hd) hr'
theorem WP.lreturn {x : Int64} (hd : decode bytes pc = .ok (.lreturn, 1)) (hret : ret = some .long) (hk : k ≤ R.cells) (hn : n ≤ R.slots) (hq : Q (some (.long x)) H) : WP l Z C lay own mn bytes maxL ret R n0 ro Q k n pc L [.long x] H :=
  WP.leave (v := some (.long x)) hk hn (fun q => by rw [hret] at q; cases q) hq fun p e s m args below meth c T locs ad Ls fs X A hr' => X.lreturnOut A.1 (A.2.2.2.2.1.trans hret) (hb A.2.2.1 hd) hr'
theorem WP.vreturn (hd : decode bytes pc = .ok (.return_, 1)) (hret : ret = none) (hk : k ≤ R.cells) (hn : n ≤ R.slots) (hq : Q none H) : WP l Z C lay own mn bytes maxL ret R n0 ro Q k n pc L [] H :=
  WP.leave (v := none) hk hn (fun _ => rfl) hq fun p e s m args below meth c T locs ad Ls fs X A hr' => X.returnOut A.1 (A.2.2.2.2.1.trans hret) (hb A.2.2.1 hd) hr'
end Rules
/-! ## a callee's promise, said of the small view -/
def QQ (Z : State) (C : String) (lay : List (String × String)) (n0 ro : Nat) (ad : Nat → Addr) (N : Nat) (h : Heap) (Q : Option Value → List OwnC → Prop) (v : Option Value) (h' : Heap) (L : List Loc) : Prop :=
  ∃ w H', v = w.map (rf ad) ∧ Q w H' ∧ HR Z C lay n0 ro ad H' h' ∧ Kp ad N h h' ∧ Fr n0 L
def CS (l : Launch) (Z : State) (C : String) (lay : List (String × String)) (y : MethodName) (bytes : ByteArray) (maxL : Nat) (ret : Option FieldType) (R : Room) (ro : Nat) (as : List Value) (H : List OwnC) (Q : Option Value → List OwnC → Prop) : Prop :=
  ∀ (ws : List Cond) (n0 : Nat) (ad : Nat → Addr) (h : Heap), HR Z C lay n0 ro ad H h →
    MetFree l y (head1 (Cond.code y bytes maxL ret :: ws) R) (fun a U => a = (as.map (rf ad)).toArray ∧ Z.Warmed39 U.vm ∧ U.heap = h) (fun _ _ _ _ _ => True)
      (fun _ U o U' => ∃ v L, o = .returned v ∧ QQ Z C lay n0 ro ad H.length h Q v U'.heap L ∧ FrameEnd U o U' L R.cells R.slots)
section Calls
variable {l : Launch} {Z : State} {a0 : Array Value} {C : String} {lay : List (String × String)} {own mn : String} {bytes cb : ByteArray} {maxL cm : Nat} {ret cr : Option FieldType} {R Rc : Room} {n0 ro : Nat} {Q Qc : Option Value → List OwnC → Prop} {k n pc pc' : Nat} {L L' : List Slot} {S S0 as : List Value} {H H' : List OwnC} {y : MethodName}
theorem CS.of_wp (hx : plainName y.cls = true) (hn : (laid as).length ≤ maxL) (w : ∀ n0, WP l Z C lay y.cls y.name bytes maxL ret R n0 ro Q 0 0 0 (entL as maxL) [] H) : CS l Z C lay y bytes maxL ret R ro as H Q := by
  intro ws n0 ad h hr
  refine MetFree.of_bodySF (plainFor_of_name hx) hisR ?_
  intro p e s m args below meth c s₁ Bd hml0 hP hK
  obtain ⟨rfl, hZ, hh⟩ := hP
  have e0 : s₁.heap = h := by rw [← hh, Bd.state]; rfl
  obtain ⟨E1, E2⟩ := entry_LR ad as maxL hn
  obtain ⟨s₂, v, H', locs', h1, h2, h3, h4, h5, h6, h7, h8⟩ := w n0 p e s m _ below meth c s₁ [] ad _ (Stand.of_body Bd) ⟨Bd.exec, hZ, Bd.bytes, hml0, Bd.returns, Bd.notSynchronized, findClass_of_methodNamed Bd.named, (name_of_methodNamed Bd.named Bd.method).1⟩ (by rw [e0]; exact hr) (Fr.nil n0) E1 E2
  rw [e0] at h6
  exact ⟨s₂, _, h1, h2, h3, _, locs', rfl, ⟨v, H', rfl, h4, h5, h6, h7⟩, h8⟩
theorem CS.mono (cs : CS l Z C lay y bytes maxL ret R ro as H Q) (h : ∀ v H', Q v H' → Qc v H') : CS l Z C lay y bytes maxL ret R ro as H Qc := by
  intro ws n0 ad hh hr p e ha hc hk s m args below hf happ hP hK
  obtain ⟨N, o, h1, h2, h3, v, L, h4, ⟨w, H', g1, g2, g3⟩, h5⟩ := cs ws n0 ad hh hr p e ha hc hk s m args below hf happ hP hK
  exact ⟨N, o, h1, h2, h3, v, L, h4, ⟨w, H', g1, h _ _ g2, g3⟩, h5⟩
/-- what every call leaves: the walk goes on behind it -/
theorem go_on {p : Program} {e : Env} {s : State} {m : MethodId} {args : Array Value} {below : List Frame} {meth : Method} {c : Code} {T : State} {locs : List Loc} {ad : Nat → Addr} {Ls : Array Slot} {B : Pt} {v : Option Value} {Lc : List Loc} {s₀ : State}
    (nx : ∀ v H', Qc v H' → WP l Z C lay own mn bytes maxL ret R n0 ro Q (k + Rc.cells) (n + Rc.slots) (pc + 3) L (v.toList ++ S) H') (X : Stand p l e R s m args below meth c B.U B.locs B.cells B.slots) (A : Am Z own mn bytes maxL ret p s m meth c) (hr : HR Z C lay n0 ro ad H T.heap) (N : Fr n0 locs) (hL : LR ad L Ls) (hz : Ls.size = maxL)
    (hQ : QQ Z C lay n0 ro ad H.length T.heap Qc v B.U.heap Lc) (e1 : B.locs = locs ++ Lc) (e2 : B.cells = k + Rc.cells) (e3 : B.slots = n + Rc.slots) (st : Steps p.tables e below s₀ (B.U.setTop (mkF m (pc + 3) Ls (v.toList ++ S.map (rf ad))))) :
    ∃ (s₂ : State) (v : Option Value) (H' : List OwnC) (locs' : List Loc), Steps p.tables e below s₀ s₂ ∧ s₂.status = .running ∧ Ended s₂ below (.returned (v.map (rf ad))) ∧ Q v H' ∧ HR Z C lay n0 ro ad H' s₂.heap ∧ Kp ad H.length T.heap s₂.heap ∧ Fr n0 locs' ∧ FrameEnd s (.returned (v.map (rf ad))) s₂ locs' R.cells R.slots := by
  obtain ⟨w, H1, rfl, g2, g3, g4, g5⟩ := hQ
  rw [e1, e2, e3] at X
  obtain ⟨s₂, v, H2, locs2, h1, h2, h3, h4, h5, h6, h7⟩ := nx w H1 g2 p e s m args below meth c B.U _ ad Ls X A g3 (N.app g5) hL hz
  refine ⟨s₂, v, H2, locs2, st.trans ?_, h2, h3, h4, h5, Kp.trans hr g4 h6, h7⟩
  have e0 : (w.toList ++ S).map (rf ad) = (w.map (rf ad)).toList ++ S.map (rf ad) := by cases w <;> rfl
  rw [← e0]; exact h1
theorem stack_of (ad : Nat → Addr) (h : S0 = as.reverse ++ S) : S0.map (rf ad) = (as.map (rf ad)).reverse ++ S.map (rf ad) := by rw [h, List.map_append, List.map_reverse]
theorem stack_of1 {i : Nat} (ad : Nat → Addr) (h : S0 = as.reverse ++ .ref i :: S) : S0.map (rf ad) = (as.map (rf ad)).reverse ++ .ref (ad i) :: S.map (rf ad) := by rw [h, List.map_append, List.map_reverse]; rfl
theorem WP.callS {idx : Nat} (hd : decode bytes pc = .ok (.invokestatic idx, 3)) (w1 : (Cond.methodLink own idx y).before a0 Z = true) (w2 : (Cond.static y).before a0 Z = true) (w3 : (Cond.initialized y.cls).before a0 Z = true) (w4 : (Cond.code y cb cm cr).before a0 Z = true) (hy : y.cls ≠ "java/lang/invoke/MethodHandle" ∧ y.cls ≠ "java/lang/invoke/VarHandle")
    (cs : CS l Z C lay y cb cm cr Rc ro as H Qc) (hS : S0 = as.reverse ++ S) (hlen : ∀ sig, parseMethodDescriptor y.desc = some sig → as.length = sig.parameters.length) (hf : Rc.frames + 1 ≤ R.frames) (hl : (S.map fun v => v.category).sum + (cm + 11) + Rc.locals ≤ R.locals) (hc : k + Rc.cells ≤ R.cells) (hs : n + Rc.slots ≤ R.slots)
    (nx : ∀ v H', Qc v H' → WP l Z C lay own mn bytes maxL ret R n0 ro Q (k + Rc.cells) (n + Rc.slots) (pc + 3) L (v.toList ++ S) H') : WP l Z C lay own mn bytes maxL ret R n0 ro Q k n pc L S0 H := by
  intro p e s m args below meth c T locs ad Ls X A hr N hL hz
  obtain ⟨v, vm₁, B, hW₁, X', ⟨Lc, hQ, e1, e2, e3⟩, st⟩ := Jvm.LawKit.callS X A.1 (y := y) A.2.2.2.2.2.2.1 (mvT A.2.1 w1) (mvT A.2.1 w2) (mvT A.2.1 w3) (mvT A.2.1 w4) hy
    (backOf (W := (S.map fun v => v.category).sum) (cs [] n0 ad T.heap hr) A.2.1 w4 w3 hf hl) (g := mkF m pc Ls (S0.map (rf ad))) rfl (hz.trans A.2.2.2.1.symm) (argsL := as.map (rf ad)) (rest := S.map (rf ad)) (fun sig q => by rw [List.length_map]; exact hlen sig q) (stack_of ad hS) (by show 2 * 0 + _ ≤ _; rw [rf_cats]; omega) (hb A.2.2.1 hd) (fun _ _ => ⟨rfl, rfl, hc, hs⟩)
  exact go_on (T := T) nx X' A hr N hL hz hQ e1 e2 e3 (st _ (Steps.refl _))
theorem WP.callV {idx i : Nat} {vs : List Value} (hd : decode bytes pc = .ok (.invokevirtual idx, 3)) (w1 : (Cond.methodLink own idx y).before a0 Z = true) (w2 : (Cond.declares y).before a0 Z = true) (w3 : (Cond.selects C y y).before a0 Z = true) (w4 : (Cond.instanceMethod y).before a0 Z = true) (w5 : (Cond.code y cb cm cr).before a0 Z = true) (w6 : (Cond.initialized y.cls).before a0 Z = true) (hy : y.cls ≠ "java/lang/invoke/MethodHandle" ∧ y.cls ≠ "java/lang/invoke/VarHandle")
    (hH : H[i]? = some (.inl vs)) (cs : CS l Z C lay y cb cm cr Rc ro (.ref i :: as) H Qc) (hS : S0 = as.reverse ++ .ref i :: S) (hlen : ∀ sig, parseMethodDescriptor y.desc = some sig → as.length = sig.parameters.length) (hf : Rc.frames + 1 ≤ R.frames) (hl : (S.map fun v => v.category).sum + (cm + 11) + Rc.locals ≤ R.locals) (hc : k + Rc.cells ≤ R.cells) (hs : n + Rc.slots ≤ R.slots)
    (nx : ∀ v H', Qc v H' → WP l Z C lay own mn bytes maxL ret R n0 ro Q (k + Rc.cells) (n + Rc.slots) (pc + 3) L (v.toList ++ S) H') : WP l Z C lay own mn bytes maxL ret R n0 ro Q k n pc L S0 H := by
  intro p e s m args below meth c T locs ad Ls X A hr N hL hz
  obtain ⟨cq, kq, qa, qb, qc⟩ := isOf A.2.1 rfl (hr.1 i _ hH).1
  obtain ⟨v, vm₁, B, hW₁, X', ⟨Lc, hQ, e1, e2, e3⟩, st⟩ := X.virtualBack A.1 (y := y) (z := y) A.2.2.2.2.2.2.1 (mvT A.2.1 w1) (mvT A.2.1 w2) (notFace_of_selects (args := #[]) (mvT A.2.1 w3)) (mvT A.2.1 w3) (mvT A.2.1 w4) hy
    (backOf (W := (S.map fun v => v.category).sum) (cs [] n0 ad T.heap hr) A.2.1 w5 w6 hf hl) qa qc (g := mkF m pc Ls (S0.map (rf ad))) rfl (hz.trans A.2.2.2.1.symm) (Steps.refl _) (argsL := as.map (rf ad)) (rest := S.map (rf ad)) (fun sig q => by rw [List.length_map]; exact hlen sig q) (stack_of1 ad hS) (by show 2 * 0 + _ ≤ _; rw [rf_cats]; omega) (hb A.2.2.1 hd) (fun _ _ => ⟨rfl, rfl, hc, hs⟩)
  exact go_on (T := T) nx X' A hr N hL hz hQ e1 e2 e3 st
theorem WP.callP {idx i kk : Nat} {vs : List Value} (hd : decode bytes pc = .ok (.invokevirtual idx, 3)) (w1 : (Cond.methodLink own idx y).before a0 Z = true) (w2 : (Cond.privateMethod y).before a0 Z = true) (wi : (Cond.instantiable y.cls kk).before a0 Z = true) (w4 : (Cond.instanceMethod y).before a0 Z = true) (w5 : (Cond.code y cb cm cr).before a0 Z = true) (w6 : (Cond.initialized y.cls).before a0 Z = true) (hy : y.cls ≠ "java/lang/invoke/MethodHandle" ∧ y.cls ≠ "java/lang/invoke/VarHandle")
    (hH : H[i]? = some (.inl vs)) (cs : CS l Z C lay y cb cm cr Rc ro (.ref i :: as) H Qc) (hS : S0 = as.reverse ++ .ref i :: S) (hlen : ∀ sig, parseMethodDescriptor y.desc = some sig → as.length = sig.parameters.length) (hf : Rc.frames + 1 ≤ R.frames) (hl : (S.map fun v => v.category).sum + (cm + 11) + Rc.locals ≤ R.locals) (hc : k + Rc.cells ≤ R.cells) (hs : n + Rc.slots ≤ R.slots)
    (nx : ∀ v H', Qc v H' → WP l Z C lay own mn bytes maxL ret R n0 ro Q (k + Rc.cells) (n + Rc.slots) (pc + 3) L (v.toList ++ S) H') : WP l Z C lay own mn bytes maxL ret R n0 ro Q k n pc L S0 H := by
  intro p e s m args below meth c T locs ad Ls X A hr N hL hz
  obtain ⟨cq, q, q'⟩ := (hr.1 i _ hH).1.cell
  have hpr : s.PrivateAt y := Cond.privateMethod_at (mvP A.2.1 w2 (args := #[]))
  have hin : (Cond.instanceMethod y).before args s = true := mvT A.2.1 w4
  have hsel : (Cond.selects y.cls y y).before args s = true := by
    have wi' : (Cond.instantiable y.cls kk).before args s = true := mvT A.2.1 wi
    obtain ⟨c1, k1, g1, g2, g3, g4, -⟩ := Cond.instantiable_spec wi'
    have g5 : k1.isInterface = false := by
      cases hq : k1.isInterface
      · rfl
      · rw [hq] at g4; cases g4
    exact selects_self_of_private g1 g2 g5 hpr hin hy
  obtain ⟨v, vm₁, B, hW₁, X', ⟨Lc, hQ, e1, e2, e3⟩, st⟩ := X.privateBack A.1 (y := y) A.2.2.2.2.2.2.1 (mvT A.2.1 w1) hin hsel hpr (mvT A.2.1 w5) hy
    (backOf (W := (S.map fun v => v.category).sum) (cs [] n0 ad T.heap hr) A.2.1 w5 w6 hf hl) (g := mkF m pc Ls (S0.map (rf ad))) rfl (hz.trans A.2.2.2.1.symm) (Steps.refl _) q q' (argsL := as.map (rf ad)) (rest := S.map (rf ad)) (fun sig q => by rw [List.length_map]; exact hlen sig q) (stack_of1 ad hS) (by show 2 * 0 + _ ≤ _; rw [rf_cats]; omega) (hb A.2.2.1 hd) (fun _ _ => ⟨rfl, rfl, hc, hs⟩)
  exact go_on (T := T) nx X' A hr N hL hz hQ e1 e2 e3 st
theorem WP.callI {idx i : Nat} (hd : decode bytes pc = .ok (.invokespecial idx, 3)) (hn1 : y.name = "<init>") (w1 : (Cond.methodLink own idx y).before a0 Z = true) (w4 : (Cond.instanceMethod y).before a0 Z = true) (w5 : (Cond.code y cb cm none).before a0 Z = true) (w6 : (Cond.initialized y.cls).before a0 Z = true) (hy : y.cls ≠ "java/lang/invoke/MethodHandle" ∧ y.cls ≠ "java/lang/invoke/VarHandle")
    (cs : CS l Z C lay y cb cm none Rc ro (.ref i :: as) H Qc) (hS : S0 = as.reverse ++ .ref i :: S) (hlen : ∀ sig, parseMethodDescriptor y.desc = some sig → as.length = sig.parameters.length) (hf : Rc.frames + 1 ≤ R.frames) (hl : (S.map fun v => v.category).sum + (cm + 11) + Rc.locals ≤ R.locals) (hc : k + Rc.cells ≤ R.cells) (hs : n + Rc.slots ≤ R.slots)
    (nx : ∀ v H', Qc v H' → WP l Z C lay own mn bytes maxL ret R n0 ro Q (k + Rc.cells) (n + Rc.slots) (pc + 3) L (v.toList ++ S) H') : WP l Z C lay own mn bytes maxL ret R n0 ro Q k n pc L S0 H := by
  intro p e s m args below meth c T locs ad Ls X A hr N hL hz
  obtain ⟨v, vm₁, B, hW₁, X', ⟨Lc, hQ, e1, e2, e3⟩, st⟩ := X.specialBack A.1 (y := y) hn1 A.2.2.2.2.2.2.1 (mvT A.2.1 w1) (mvT A.2.1 w4) (mvT A.2.1 w5) hy
    (backOf (W := (S.map fun v => v.category).sum) (cs [] n0 ad T.heap hr) A.2.1 w5 w6 hf hl) (g := mkF m pc Ls (S0.map (rf ad))) rfl (hz.trans A.2.2.2.1.symm) (Steps.refl _) (a := ad i) (argsL := as.map (rf ad)) (rest := S.map (rf ad)) (fun sig q => by rw [List.length_map]; exact hlen sig q) (stack_of1 ad hS) (by show 2 * 0 + _ ≤ _; rw [rf_cats]; omega) (hb A.2.2.1 hd) (fun _ _ => ⟨rfl, rfl, hc, hs⟩)
  exact go_on (T := T) nx X' A hr N hL hz hQ e1 e2 e3 st
end Calls
/-! ## a callee that sees a part of the heap -/
def rn (ρ : Nat → Nat) : Value → Value
  | .ref i => .ref (ρ i)
  | .int x => .int x
  | .long x => .long x
  | .float x => .float x
  | .double x => .double x
  | .null => .null
  | .retAddr x => .retAddr x
theorem rf_rn (ad : Nat → Addr) (ρ : Nat → Nat) (v : Value) : rf ad (rn ρ v) = rf (fun j => ad (ρ j)) v := by cases v <;> rfl
def rnC (ρ : Nat → Nat) : OwnC → OwnC
  | .inl vs => .inl (vs.map (rn ρ))
  | .inr x => .inr x
theorem CelOk_rn {Z : State} {C : String} {lay : List (String × String)} {ad : Nat → Addr} {ρ : Nat → Nat} {h : Heap} {a : Addr} {c : OwnC} : CelOk Z C lay ad h a (rnC ρ c) ↔ CelOk Z C lay (fun j => ad (ρ j)) h a c := by
  rcases c with vs | xs | xs | xs
  · constructor
    · rintro ⟨E, F⟩
      refine ⟨E, fun i f v hf hv => ?_⟩
      have := F i f (rn ρ v) hf (by rw [List.getElem?_map, hv]; rfl)
      rwa [rf_rn] at this
    · rintro ⟨E, F⟩
      refine ⟨E, fun i f v hf hv => ?_⟩
      rw [List.getElem?_map] at hv
      obtain ⟨w, hw, rfl⟩ := Option.map_eq_some_iff.mp hv
      rw [rf_rn]; exact F i f w hf hw
  all_goals exact Iff.rfl
def patch (ρ : Nat → Nat) : List Nat → List OwnC → List OwnC → List OwnC
  | [], D, H => H ++ D.map (rnC ρ)
  | i :: is, c :: D, H => patch ρ is D (H.set i (rnC ρ c))
  | _ :: _, [], H => H
theorem patch_len (ρ : Nat → Nat) : ∀ (foot : List Nat) (D H : List OwnC), foot.length ≤ D.length → (patch ρ foot D H).length = H.length + (D.length - foot.length)
  | [], D, H, _ => by simp [patch]
  | i :: is, [], H, h => by simp at h
  | i :: is, c :: D, H, h => by
    show (patch ρ is D (H.set i (rnC ρ c))).length = _
    rw [patch_len ρ is D _ (by simpa using h)]; simp
theorem patch_out (ρ : Nat → Nat) : ∀ (foot : List Nat) (D H : List OwnC) (i : Nat), i < H.length → i ∉ foot → (patch ρ foot D H)[i]? = H[i]?
  | [], D, H, i, hi, _ => by simp [patch, List.getElem?_append_left hi]
  | j :: is, [], H, i, _, _ => rfl
  | j :: is, c :: D, H, i, hi, hn => by
    show (patch ρ is D (H.set j (rnC ρ c)))[i]? = _
    rw [patch_out ρ is D _ i (by simpa using hi) (fun q => hn (List.mem_cons_of_mem _ q)), List.getElem?_set_ne (fun q => hn (by rw [q]; exact List.mem_cons_self ..))]
theorem patch_new (ρ : Nat → Nat) : ∀ (foot : List Nat) (D H : List OwnC) (t : Nat), foot.length ≤ D.length → (patch ρ foot D H)[H.length + t]? = (D[foot.length + t]?).map (rnC ρ)
  | [], D, H, t, _ => by simp [patch, List.getElem?_append_right (Nat.le_add_right _ _)]
  | i :: is, [], H, _, h => by simp at h
  | i :: is, c :: D, H, t, h => by
    show (patch ρ is D (H.set i (rnC ρ c)))[H.length + t]? = _
    have := patch_new ρ is D (H.set i (rnC ρ c)) t (by simpa using h)
    rw [List.length_set] at this
    rw [this]; simp [Nat.add_right_comm _ 1 t]
theorem patch_in (ρ : Nat → Nat) : ∀ (foot : List Nat) (D H : List OwnC) (j i : Nat), foot.Nodup → (∀ x ∈ foot, x < H.length) → foot[j]? = some i → foot.length ≤ D.length → (patch ρ foot D H)[i]? = (D[j]?).map (rnC ρ)
  | [], D, H, j, i, _, _, h, _ => by simp at h
  | x :: is, [], H, j, i, _, _, _, h => by simp at h
  | x :: is, c :: D, H, 0, i, nd, hl, h, _ => by
    obtain rfl : x = i := by simpa using h
    show (patch ρ is D (H.set x (rnC ρ c)))[x]? = _
    rw [patch_out ρ is D _ x (by simpa using hl x (List.mem_cons_self ..)) (List.nodup_cons.mp nd).1]
    simp [hl x (List.mem_cons_self ..)]
  | x :: is, c :: D, H, j + 1, i, nd, hl, h, hd => by
    show (patch ρ is D (H.set x (rnC ρ c)))[i]? = _
    rw [patch_in ρ is D _ j i (List.nodup_cons.mp nd).2 (fun y hy => by simpa using hl y (List.mem_cons_of_mem _ hy)) (by simpa using h) (by simpa using hd)]
    simp
def ro1 (foot : List Nat) (N : Nat) (j : Nat) : Nat := if j < foot.length then foot.getD j 0 else N + (j - foot.length)
theorem ro1_in {foot : List Nat} {N j i : Nat} (h : foot[j]? = some i) : ro1 foot N j = i := by
  have hj := get_lt h
  unfold ro1
  rw [if_pos hj, List.getD_eq_getElem?_getD, h]; rfl
theorem ro1_new (foot : List Nat) (N t : Nat) : ro1 foot N (foot.length + t) = N + t := by
  unfold ro1
  rw [if_neg (by omega)]; omega
theorem CS.frame {l : Launch} {Z : State} {C : String} {lay : List (String × String)} {y : MethodName} {bytes : ByteArray} {maxL : Nat} {ret : Option FieldType} {R : Room} {ro roc : Nat} {as asc : List Value} {H Hc : List OwnC} {Qc : Option Value → List OwnC → Prop} (foot : List Nat)
    (cs : CS l Z C lay y bytes maxL ret R roc asc Hc Qc) (hlen : Hc.length = foot.length) (hnd : foot.Nodup) (hlt : ∀ x ∈ foot, x < H.length) (hcell : foot.map (fun i => H[i]?) = Hc.map (fun c => some (rnC (ro1 foot H.length) c))) (hro : ∀ x ∈ foot.drop roc, ro ≤ x) (has : asc.map (rn (ro1 foot H.length)) = as) :
    CS l Z C lay y bytes maxL ret R ro as H (fun v H' => ∃ vc D, Qc vc D ∧ v = vc.map (rn (ro1 foot H.length)) ∧ H' = patch (ro1 foot H.length) foot D H) := by
  intro ws n0 ad h hr
  obtain ⟨r1, r2, r3, r4, r5⟩ := hr
  have cellAt : ∀ (j i : Nat), foot[j]? = some i → ∃ c, Hc[j]? = some c ∧ H[i]? = some (rnC (ro1 foot H.length) c) := fun j i hj => by
    have h1 : (foot.map (fun i => H[i]?))[j]? = some H[i]? := by rw [List.getElem?_map, hj]; rfl
    rw [hcell, List.getElem?_map] at h1
    obtain ⟨c, e1, e2⟩ := Option.map_eq_some_iff.mp h1
    exact ⟨c, e1, e2.symm⟩
  have idx : ∀ j : Nat, j < foot.length → ∃ i, foot[j]? = some i ∧ i < H.length := fun j hj => ⟨_, List.getElem?_eq_getElem hj, hlt _ (List.getElem_mem hj)⟩
  have hrc : HR Z C lay n0 roc (fun j => ad (ro1 foot H.length j)) Hc h := by
    refine ⟨fun j c hj => ?_, fun i j hi hj q => ?_, fun t => ?_, fun j hj hr => ?_, r5⟩
    · obtain ⟨i, e1, e2⟩ := idx j (hlen ▸ get_lt hj)
      obtain ⟨c', g1, g2⟩ := cellAt j i e1
      cases g1.symm.trans hj
      show CelOk Z C lay (fun j => ad (ro1 foot H.length j)) h (ad (ro1 foot H.length j)) c
      rw [ro1_in e1]
      exact CelOk_rn.mp (r1 i _ g2)
    · rw [hlen] at hi hj
      obtain ⟨i', e1, e2⟩ := idx i hi
      obtain ⟨j', g1, g2⟩ := idx j hj
      dsimp only at q
      rw [ro1_in e1, ro1_in g1] at q
      have q' := r2 _ _ e2 g2 q
      subst q'
      exact (List.getElem?_inj hi hnd).mp (e1.trans g1.symm)
    · dsimp only
      rw [hlen, ro1_new]; exact r3 t
    · rw [hlen] at hj
      obtain ⟨i', e1, e2⟩ := idx j hj
      dsimp only
      rw [ro1_in e1]; refine r4 _ e2 (hro i' (List.mem_of_getElem? (i := j - roc) ?_)); rw [List.getElem?_drop, Nat.add_sub_cancel' hr]; exact e1
  intro p e ha hc hk s m args below hf happ hP hK
  have eas : (asc.map (rf fun j => ad (ro1 foot H.length j))) = as.map (rf ad) := by
    rw [← has, List.map_map]; congr 1; funext v; exact (rf_rn ad _ v).symm
  obtain ⟨N, o, h1, h2, h3, v, L, h4, ⟨w, D, rfl, g2, g3, g4, g5⟩, h5⟩ := cs ws n0 _ h hrc p e ha hc hk s m args below hf happ (by rw [eas]; exact hP) hK
  refine ⟨N, o, h1, h2, h3, _, L, h4, ⟨w.map (rn (ro1 foot H.length)), patch (ro1 foot H.length) foot D H, ?_, ⟨w, D, g2, rfl, rfl⟩, ?_, ?_, g5⟩, h5⟩
  · cases w with
    | none => rfl
    | some w => exact congrArg some (rf_rn ad _ w).symm
  · generalize hU : (stepsAlone p.tables e N s).heap = h' at g3 g4
    obtain ⟨d1, d2, d3, d4, d5⟩ := g3
    have hD : foot.length ≤ D.length := by
      by_cases q : foot.length ≤ D.length
      · exact q
      · exfalso
        obtain ⟨i, e1, e2⟩ := idx D.length (by omega)
        have z := d3 0
        simp only [Nat.add_zero] at z
        rw [ro1_in e1] at z
        obtain ⟨c', -, g2'⟩ := cellAt _ i e1
        have a1 := (r1 i _ g2').lt
        rw [z] at a1
        exact absurd a1 (Nat.not_lt.mpr g4.1)
    have hPl := patch_len (ro1 foot H.length) foot D H hD
    have old : ∀ i, i < H.length → ad i < h.size := fun i hi => (r1 i _ (List.getElem?_eq_getElem hi)).lt
    have new : ∀ i, H.length ≤ i → h.size ≤ ad i := fun i hi => by
      obtain ⟨t, rfl⟩ := Nat.exists_eq_add_of_le hi
      rw [r3 t]; exact Nat.le_add_right _ _
    refine ⟨fun i c hi => ?_, fun i j hi hj q => ?_, fun t => ?_, fun i hi hr => ?_, Nat.le_trans r5 g4.1⟩
    · by_cases hl : i < H.length
      · by_cases hm : i ∈ foot
        · obtain ⟨j, hj⟩ := List.getElem?_of_mem hm
          rw [patch_in _ foot D H j i hnd hlt hj hD] at hi
          obtain ⟨c', e1, rfl⟩ := Option.map_eq_some_iff.mp hi
          have := d1 j c' e1
          dsimp only at this
          rw [ro1_in hj] at this
          exact CelOk_rn.mpr this
        · rw [patch_out _ foot D H i hl hm] at hi
          refine (r1 i c hi).keep fun cz q => g4.2 _ cz q fun j hj q' => ?_
          rw [hlen] at hj
          obtain ⟨i', e1, e2⟩ := idx j hj
          dsimp only at q'
          rw [ro1_in e1] at q'
          have := r2 _ _ e2 hl q'
          subst this
          exact hm (List.mem_of_getElem? e1)
      · obtain ⟨t, rfl⟩ := Nat.exists_eq_add_of_le (Nat.le_of_not_lt hl)
        rw [patch_new _ foot D H t hD] at hi
        obtain ⟨c', e1, rfl⟩ := Option.map_eq_some_iff.mp hi
        have := d1 _ c' e1
        dsimp only at this
        rw [ro1_new] at this
        exact CelOk_rn.mpr this
    · by_cases a1 : i < H.length
      · by_cases a2 : j < H.length
        · exact r2 _ _ a1 a2 q
        · have b1 := old i a1
          rw [q] at b1
          exact absurd b1 (Nat.not_lt.mpr (new j (Nat.le_of_not_lt a2)))
      · by_cases a2 : j < H.length
        · have b1 := new i (Nat.le_of_not_lt a1)
          rw [q] at b1
          exact absurd (old j a2) (Nat.not_lt.mpr b1)
        · obtain ⟨t, rfl⟩ := Nat.exists_eq_add_of_le (Nat.le_of_not_lt a1)
          obtain ⟨t', rfl⟩ := Nat.exists_eq_add_of_le (Nat.le_of_not_lt a2)
          rw [r3, r3] at q; exact congrArg (H.length + ·) (Nat.add_left_cancel q)
    · have z := d3 t
      dsimp only at z
      have e1 : D.length + t = foot.length + (D.length - foot.length + t) := by omega
      rw [e1, ro1_new] at z
      rw [hPl, Nat.add_assoc]; exact z
    · by_cases a1 : i < H.length
      · exact r4 i a1 hr
      · exact Nat.le_trans r5 (new i (Nat.le_of_not_lt a1))
  · refine ⟨g4.1, fun a cz hz hn => g4.2 a cz hz fun j hj q => ?_⟩
    rw [hlen] at hj
    obtain ⟨i', e1, e2⟩ := idx j hj
    dsimp only at q
    rw [ro1_in e1] at q
    exact hn i' e2 q
/-! ## an object's state: ints (and booleans), longs, int[] (and boolean[]), long[], each by a number -/
abbrev St : Type := (Nat → Int32) × (Nat → Int64) × (Nat → List Int32) × (Nat → List Int64)
def upd {α : Type} (f : Nat → α) (i : Nat) (v : α) : Nat → α := fun j => if j = i then v else f j
def gI (s : St) (i : Nat) : Int32 := s.1 i
def gJ (s : St) (i : Nat) : Int64 := s.2.1 i
def gA (s : St) (i : Nat) : List Int32 := s.2.2.1 i
def gB (s : St) (i : Nat) : List Int64 := s.2.2.2 i
def sI (s : St) (i : Nat) (v : Int32) : St := (upd s.1 i v, s.2.1, s.2.2.1, s.2.2.2)
def sJ (s : St) (i : Nat) (v : Int64) : St := (s.1, upd s.2.1 i v, s.2.2.1, s.2.2.2)
def sA (s : St) (i : Nat) (v : List Int32) : St := (s.1, s.2.1, upd s.2.2.1 i v, s.2.2.2)
def sB (s : St) (i : Nat) (v : List Int64) : St := (s.1, s.2.1, s.2.2.1, upd s.2.2.2 i v)
theorem gI_sI (s : St) (i j : Nat) (v : Int32) : gI (sI s i v) j = if j = i then v else gI s j := rfl
theorem gI_sJ (s : St) (i j : Nat) (v : Int64) : gI (sJ s i v) j = gI s j := rfl
theorem gI_sA (s : St) (i j : Nat) (v : List Int32) : gI (sA s i v) j = gI s j := rfl
theorem gI_sB (s : St) (i j : Nat) (v : List Int64) : gI (sB s i v) j = gI s j := rfl
theorem gJ_sI (s : St) (i j : Nat) (v : Int32) : gJ (sI s i v) j = gJ s j := rfl
theorem gJ_sJ (s : St) (i j : Nat) (v : Int64) : gJ (sJ s i v) j = if j = i then v else gJ s j := rfl
theorem gJ_sA (s : St) (i j : Nat) (v : List Int32) : gJ (sA s i v) j = gJ s j := rfl
theorem gJ_sB (s : St) (i j : Nat) (v : List Int64) : gJ (sB s i v) j = gJ s j := rfl
theorem gA_sI (s : St) (i j : Nat) (v : Int32) : gA (sI s i v) j = gA s j := rfl
theorem gA_sJ (s : St) (i j : Nat) (v : Int64) : gA (sJ s i v) j = gA s j := rfl
theorem gA_sA (s : St) (i j : Nat) (v : List Int32) : gA (sA s i v) j = if j = i then v else gA s j := rfl
theorem gA_sB (s : St) (i j : Nat) (v : List Int64) : gA (sB s i v) j = gA s j := rfl
theorem gB_sI (s : St) (i j : Nat) (v : Int32) : gB (sI s i v) j = gB s j := rfl
theorem gB_sJ (s : St) (i j : Nat) (v : Int64) : gB (sJ s i v) j = gB s j := rfl
theorem gB_sA (s : St) (i j : Nat) (v : List Int32) : gB (sA s i v) j = gB s j := rfl
theorem gB_sB (s : St) (i j : Nat) (v : List Int64) : gB (sB s i v) j = if j = i then v else gB s j := rfl
def wrA (s : St) (i : Nat) (j x : Int32) : Option St := (wr (gA s i) j x).map (sA s i)
def wrB (s : St) (i : Nat) (j : Int32) (x : Int64) : Option St := (wr (gB s i) j x).map (sB s i)
theorem wrA_e {s s' : St} {i : Nat} {j x : Int32} (h : wrA s i j x = some s') : ∃ ys, wr (gA s i) j x = some ys ∧ s' = sA s i ys := by
  obtain ⟨ys, h1, h2⟩ := Option.map_eq_some_iff.mp h
  exact ⟨ys, h1, h2.symm⟩
theorem wrB_e {s s' : St} {i : Nat} {j : Int32} {x : Int64} (h : wrB s i j x = some s') : ∃ ys, wr (gB s i) j x = some ys ∧ s' = sB s i ys := by
  obtain ⟨ys, h1, h2⟩ := Option.map_eq_some_iff.mp h
  exact ⟨ys, h1, h2.symm⟩
def lt {α β : Type} (x : α) (f : α → β) : β := f x
theorem lt_e {α β : Type} {x : α} {f : α → β} {r : β} (h : lt x f = r) : ∃ y, y = x ∧ f y = r := ⟨x, rfl, h⟩
theorem ite_e {α : Type} {c : Prop} [Decidable c] {a b r : α} (h : (if c then a else b) = r) : (c ∧ a = r) ∨ (¬ c ∧ b = r) := by
  by_cases hc : c
  · rw [if_pos hc] at h; exact Or.inl ⟨hc, h⟩
  · rw [if_neg hc] at h; exact Or.inr ⟨hc, h⟩
theorem nz_e {α : Type} {c : Prop} [Decidable c] {b : Option α} {r : α} (h : (if c then none else b) = some r) : ¬ c ∧ b = some r := by
  by_cases hc : c
  · rw [if_pos hc] at h; cases h
  · rw [if_neg hc] at h; exact ⟨hc, h⟩
/-! the class's fields -/
def LaidAll (Z : State) (a0 : Array Value) (C : String) : List (String × String) → List Value → Prop
  | f :: fs, v :: vs => (Laid Z a0 C C f.1 f.2 ∧ ∃ ty, parseFieldDescriptor f.2 = some ty ∧ v = defaultValue ty) ∧ LaidAll Z a0 C fs vs
  | [], [] => True
  | _, _ => False
theorem LaidAll.new {Z : State} {a0 : Array Value} {C : String} : ∀ {lay : List (String × String)} {vs : List Value}, LaidAll Z a0 C lay vs → ∀ (i : Nat) (f : String × String) (v : Value), lay[i]? = some f → vs[i]? = some v → Laid Z a0 C C f.1 f.2 ∧ ∃ ty, parseFieldDescriptor f.2 = some ty ∧ v = defaultValue ty
  | [], [], _, i, f, v, h, _ => by simp at h
  | g :: fs, w :: vs, h, 0, f, v, h1, h2 => by
    obtain rfl : g = f := by simpa using h1
    obtain rfl : w = v := by simpa using h2
    exact h.1
  | g :: fs, w :: vs, h, i + 1, f, v, h1, h2 => LaidAll.new h.2 i f v (by simpa using h1) (by simpa using h2)
theorem LaidAll.len {Z : State} {a0 : Array Value} {C : String} : ∀ {lay : List (String × String)} {vs : List Value}, LaidAll Z a0 C lay vs → lay.length = vs.length
  | [], [], _ => rfl
  | g :: fs, w :: vs, h => congrArg Nat.succ (LaidAll.len h.2)
theorem LaidAll.ne {Z : State} {a0 : Array Value} {C : String} {lay : List (String × String)} {vs : List Value} (h : LaidAll Z a0 C lay vs) (nd : (lay.map Prod.fst).Nodup) : ∀ (a b : Nat) (f g : String × String), lay[a]? = some f → lay[b]? = some g → a ≠ b → RoadKit.slotOf Z C f.1 f.2 ≠ RoadKit.slotOf Z C g.1 g.2 := by
  intro a b f g ha hb' hne
  have la := get_lt ha
  have lb := get_lt hb'
  obtain ⟨L1, t1, e1, -⟩ := h.new a f _ ha (List.getElem?_eq_getElem (h.len ▸ la))
  obtain ⟨L2, t2, e2, -⟩ := h.new b g _ hb' (List.getElem?_eq_getElem (h.len ▸ lb))
  refine slot_ne L1 L2 (fun q => hne ?_) e1 e2
  have h1 : (lay.map Prod.fst)[a]? = some f.1 := by rw [List.getElem?_map, ha]; rfl
  have h2 : (lay.map Prod.fst)[b]? = some g.1 := by rw [List.getElem?_map, hb']; rfl
  exact (List.getElem?_inj (by simpa using la) nd).mp (h1.trans (by rw [q]; exact h2.symm))
section Puts
variable {l : Launch} {Z : State} {a0 : Array Value} {C : String} {lay : List (String × String)} {own mn : String} {bytes : ByteArray} {maxL : Nat} {ret : Option FieldType} {R : Room} {n0 ro : Nat} {Q : Option Value → List OwnC → Prop} {k n pc pc' : Nat} {L L' : List Slot} {S S' : List Value} {H H' : List OwnC}
theorem WP.putI {idx i j kk : Nat} {f : String} {vs : List Value} {x : Int32} {old : Value} (hd : decode bytes pc = .ok (.putfield idx, 3)) (hw : (Cond.fieldLink own idx C f "I").before a0 Z = true) (hl : (Cond.lays C C f "I").before a0 Z = true ∨ ((Cond.laysFinal C C f "I").before a0 Z = true ∧ own = C ∧ mn = "<init>")) (wi : (Cond.instantiable C kk).before a0 Z = true)
    (hlay : ∀ (a b : Nat) (f g : String × String), lay[a]? = some f → lay[b]? = some g → a ≠ b → RoadKit.slotOf Z C f.1 f.2 ≠ RoadKit.slotOf Z C g.1 g.2) (hj : lay[j]? = some (f, "I")) (hH : H[i]? = some (.inl vs)) (hv : vs[j]? = some old) (hi : ro ≤ i) (hH' : H.set i (.inl (vs.set j (.int x))) = H') (nx : WP l Z C lay own mn bytes maxL ret R n0 ro Q k n (pc + 3) L S H') : WP l Z C lay own mn bytes maxL ret R n0 ro Q k n pc L (.int x :: .ref i :: S) H :=
  WP.put hd hw hl wi hlay (ty := .int) (by decide) (fun _ => rfl) (fun _ => rfl) hj hH hv hi hH' nx
theorem WP.putJ {idx i j kk : Nat} {f : String} {vs : List Value} {x : Int64} {old : Value} (hd : decode bytes pc = .ok (.putfield idx, 3)) (hw : (Cond.fieldLink own idx C f "J").before a0 Z = true) (hl : (Cond.lays C C f "J").before a0 Z = true ∨ ((Cond.laysFinal C C f "J").before a0 Z = true ∧ own = C ∧ mn = "<init>")) (wi : (Cond.instantiable C kk).before a0 Z = true)
    (hlay : ∀ (a b : Nat) (f g : String × String), lay[a]? = some f → lay[b]? = some g → a ≠ b → RoadKit.slotOf Z C f.1 f.2 ≠ RoadKit.slotOf Z C g.1 g.2) (hj : lay[j]? = some (f, "J")) (hH : H[i]? = some (.inl vs)) (hv : vs[j]? = some old) (hi : ro ≤ i) (hH' : H.set i (.inl (vs.set j (.long x))) = H') (nx : WP l Z C lay own mn bytes maxL ret R n0 ro Q k n (pc + 3) L S H') : WP l Z C lay own mn bytes maxL ret R n0 ro Q k n pc L (.long x :: .ref i :: S) H :=
  WP.put hd hw hl wi hlay (ty := .long) (by decide) (fun _ => rfl) (fun _ => rfl) hj hH hv hi hH' nx
theorem WP.putZ {idx i j kk : Nat} {f : String} {vs : List Value} {x : Int32} {old : Value} (hd : decode bytes pc = .ok (.putfield idx, 3)) (hw : (Cond.fieldLink own idx C f "Z").before a0 Z = true) (hl : (Cond.lays C C f "Z").before a0 Z = true ∨ ((Cond.laysFinal C C f "Z").before a0 Z = true ∧ own = C ∧ mn = "<init>")) (wi : (Cond.instantiable C kk).before a0 Z = true)
    (hlay : ∀ (a b : Nat) (f g : String × String), lay[a]? = some f → lay[b]? = some g → a ≠ b → RoadKit.slotOf Z C f.1 f.2 ≠ RoadKit.slotOf Z C g.1 g.2) (hj : lay[j]? = some (f, "Z")) (hH : H[i]? = some (.inl vs)) (hv : vs[j]? = some old) (hi : ro ≤ i) (hH' : H.set i (.inl (vs.set j (.int (x &&& 1)))) = H') (nx : WP l Z C lay own mn bytes maxL ret R n0 ro Q k n (pc + 3) L S H') : WP l Z C lay own mn bytes maxL ret R n0 ro Q k n pc L (.int x :: .ref i :: S) H :=
  WP.put (v' := .int (x &&& 1)) hd hw hl wi hlay (ty := .boolean) (by decide) (fun _ => rfl) (fun _ => fits_nar_bool x) hj hH hv hi hH' nx
theorem WP.putR {idx i j kk i2 : Nat} {f d : String} {vs : List Value} {old : Value} {ty : FieldType} (hd : decode bytes pc = .ok (.putfield idx, 3)) (hw : (Cond.fieldLink own idx C f d).before a0 Z = true) (hl : (Cond.lays C C f d).before a0 Z = true ∨ ((Cond.laysFinal C C f d).before a0 Z = true ∧ own = C ∧ mn = "<init>")) (wi : (Cond.instantiable C kk).before a0 Z = true)
    (hlay : ∀ (a b : Nat) (f g : String × String), lay[a]? = some f → lay[b]? = some g → a ≠ b → RoadKit.slotOf Z C f.1 f.2 ≠ RoadKit.slotOf Z C g.1 g.2) (hty : parseFieldDescriptor d = some ty) (hn : ∀ a, narrow ty (.ref a) = .ref a) (hf : ∀ a, fits ty (.ref a) = true) (hj : lay[j]? = some (f, d)) (hH : H[i]? = some (.inl vs)) (hv : vs[j]? = some old) (hi : ro ≤ i) (hH' : H.set i (.inl (vs.set j (.ref i2))) = H') (nx : WP l Z C lay own mn bytes maxL ret R n0 ro Q k n (pc + 3) L S H') : WP l Z C lay own mn bytes maxL ret R n0 ro Q k n pc L (.ref i2 :: .ref i :: S) H :=
  WP.put (v' := .ref i2) hd hw hl wi hlay hty (fun ad => hn (ad i2)) (fun ad => hf (ad i2)) hj hH hv hi hH' nx
end Puts
/-! ## the start of a law -/
theorem HR.start0 (s : State) (C : String) (lay : List (String × String)) : HR s C lay s.heap.size 0 (fun t => s.heap.size + t) [] s.heap :=
  ⟨fun i c h => by simp at h, fun i j h => by simp at h, fun t => by simp, fun i h => by simp at h, Nat.le_refl _⟩
theorem script_ints {s : State} {a : Addr} {c : Cell} (hf : Fit s) (A : Arr s s.heap a c .int) : ∃ xs : List Int32, c.slots.toList = xs.map Value.int := by
  have h : ∀ v ∈ c.slots.toList, ∃ x : Int32, v = Value.int x := fun v hv => by
    obtain ⟨i, hi, e⟩ := List.mem_iff_getElem.mp hv
    have hi' : i < c.slots.size := by simpa using hi
    have q := hf A.1 hi'
    obtain ⟨hs, k, hk, comp, hkind⟩ := A.2.1
    have e2 : s.slotType? c.cls c.vm i = some .int := by
      cases hq : c.vm <;> first | exact absurd hq (hs _) | simp [State.slotType?, hk, hkind]
    have e3 : c.slots[i] = v := by rw [← e]; simp
    have q2 : fits .int v = true := by rw [← e3]; simpa [State.fitsSlot, e2] using q
    exact fit_I q2 (by simp)
  generalize c.slots.toList = L at h
  induction L with
  | nil => exact ⟨[], rfl⟩
  | cons v L ih =>
    obtain ⟨x, rfl⟩ := h v (List.mem_cons_self ..)
    obtain ⟨xs, rfl⟩ := ih fun w hw => h w (List.mem_cons_of_mem _ hw)
    exact ⟨x :: xs, rfl⟩
def ad1 (a N : Nat) : Nat → Addr
  | 0 => a
  | t + 1 => N + t
theorem HR.start1 {s : State} (C : String) (lay : List (String × String)) {a : Addr} {c : Cell} {xs : List Int32} (A : Arr s s.heap a c .int) (hx : c.slots.toList = xs.map Value.int) : HR s C lay s.heap.size 1 (ad1 a s.heap.size) [cI xs] s.heap := by
  refine ⟨fun i cc h => ?_, fun i j hi hj _ => ?_, fun t => ?_, fun i hi hr => ?_, Nat.le_refl _⟩
  · have hi := get_lt h
    simp at hi; subst hi
    simp at h; subst h
    exact ⟨c, A, hx⟩
  · simp at hi hj; omega
  · show ad1 a s.heap.size (1 + t) = _; rw [Nat.add_comm 1 t]; rfl
  · simp at hi; omega
theorem script_len {s : State} {a : Addr} {c : Cell} {n : Nat} {args : Array Value} {t : Term} (ev : t.eval args s none [] s = some (.ref a)) (A : Arr s s.heap a c .int) (e1 : c.slots.size = n) (h : (Cond.le (Term.length t) (Term.int (260 : Int32))).value args s none s [] = some true) : n ≤ 260 := by
  have hat := A.fin (Vm.Alike.refl _)
  have hl : (Term.length t).eval args s none [] s = if n < 2 ^ 31 then some (.int n.toInt32) else none := by
    simp only [Term.eval, ev, hat, Option.bind_eq_bind, Option.bind_some, e1]; rfl
  by_cases hn : n < 2 ^ 31
  · rw [if_pos hn] at hl
    have h1 := gotT (Cond.le_ints hl (Term.int_eval (260 : Int32))) h
    have h2 : n.toInt32.toInt = n := by
      show (Int32.ofNat n).toInt = n
      exact Int32.toInt_ofNat_of_lt hn
    have h3 := Int32.le_iff_toInt_le.mp h1
    rw [h2] at h3
    have : (260 : Int32).toInt = 260 := by decide
    omega
  · rw [if_neg hn] at hl
    simp [Cond.value, hl] at h
/-! ## plain laws -/
/-- with fuel enough it answers r -/
def Ev {α : Type} (f : Nat → Option α) (r : α) : Prop := ∃ N, ∀ n, N ≤ n → f n = some r
theorem Ev.const {α : Type} {x : Option α} {r : α} (h : x = some r) : Ev (fun _ => x) r := ⟨0, fun _ _ => h⟩
theorem Ev.get {α : Type} {f : Nat → Option α} {r : α} (h : Ev f r) : ∃ n, f n = some r := by obtain ⟨N, h⟩ := h; exact ⟨N, h N (Nat.le_refl _)⟩
theorem Ev.step {α : Type} {f g : Nat → Option α} {r : α} (e : ∀ n, f (n + 1) = g n) (h : Ev g r) : Ev f r := by
  obtain ⟨N, h⟩ := h
  refine ⟨N + 1, fun n hn => ?_⟩
  cases n with
  | zero => omega
  | succ n => rw [e n]; exact h n (by omega)
theorem Ev.congr {α : Type} {f g : Nat → Option α} {r : α} (e : ∀ n, f n = g n) (h : Ev g r) : Ev f r := by
  obtain ⟨N, h⟩ := h
  exact ⟨N, fun n hn => (e n).trans (h n hn)⟩
theorem Ev.bind {α β : Type} {f : Nat → Option β} {g : Nat → β → Option α} {c : β} {r : α} (h1 : Ev f c) (h2 : Ev (fun n => g n c) r) : Ev (fun n => (f n).bind (g n)) r := by
  obtain ⟨N, h1⟩ := h1
  obtain ⟨M, h2⟩ := h2
  refine ⟨N + M, fun n hn => ?_⟩
  show (f n).bind (g n) = some r
  rw [h1 n (by omega)]; exact h2 n (by omega)
theorem Ev.uniq {α : Type} {f : Nat → Option α} {r r' : α} (h : Ev f r) (h' : Ev f r') : r = r' := by
  obtain ⟨N, h⟩ := h
  obtain ⟨M, h'⟩ := h'
  exact Option.some.inj ((h (N + M) (by omega)).symm.trans (h' (N + M) (by omega)))
/-! Int32 as Int -/
theorem x32_lt {x y : Int32} : x < y ↔ x.toInt < y.toInt := Int32.lt_iff_toInt_lt
theorem x32_eq {x y : Int32} : x = y ↔ x.toInt = y.toInt := Int32.toInt_inj.symm
theorem x32_add {x y : Int32} (h1 : -2147483648 ≤ x.toInt + y.toInt) (h2 : x.toInt + y.toInt < 2147483648) : (x + y).toInt = x.toInt + y.toInt := by
  rw [Int32.toInt_add]; exact Int.bmod_eq_of_le (by omega) (by omega)
theorem x32_sub {x y : Int32} (h1 : -2147483648 ≤ x.toInt - y.toInt) (h2 : x.toInt - y.toInt < 2147483648) : (x - y).toInt = x.toInt - y.toInt := by
  rw [Int32.toInt_sub]; exact Int.bmod_eq_of_le (by omega) (by omega)
theorem x32_mul {x y : Int32} (h1 : -2147483648 ≤ x.toInt * y.toInt) (h2 : x.toInt * y.toInt < 2147483648) : (x * y).toInt = x.toInt * y.toInt := by
  rw [Int32.toInt_mul]; exact Int.bmod_eq_of_le (by omega) (by omega)
theorem clamp_nat (x : Int32) : x.toNatClampNeg = x.toInt.toNat := rfl
/-! reading and writing -/
theorem rd_of {α : Type} {xs : List α} {i : Int32} {k : Nat} {x : α} (hi : i.toInt = k) (h : xs[k]? = some x) : rd xs i = some x := by
  have h0 : ¬ i < 0 := by rw [x32_lt, hi]; show ¬ (k : Int) < 0; omega
  unfold rd
  rw [if_neg h0, clamp_nat, hi]; exact h
theorem wr_of {α : Type} {xs : List α} {i : Int32} {k : Nat} (x : α) (hi : i.toInt = k) (h : k < xs.length) : wr xs i x = some (xs.set k x) := by
  have h0 : ¬ i < 0 := by rw [x32_lt, hi]; show ¬ (k : Int) < 0; omega
  unfold wr
  rw [if_neg h0, clamp_nat, hi]; exact if_pos h
theorem wrA_of {s : St} {f : Nat} {i : Int32} {k : Nat} (x : Int32) (hi : i.toInt = k) (h : k < (gA s f).length) : wrA s f i x = some (sA s f ((gA s f).set k x)) := by
  unfold wrA; rw [wr_of x hi h]; rfl
theorem wrB_of {s : St} {f : Nat} {i : Int32} {k : Nat} (x : Int64) (hi : i.toInt = k) (h : k < (gB s f).length) : wrB s f i x = some (sB s f ((gB s f).set k x)) := by
  unfold wrB; rw [wr_of x hi h]; rfl
theorem nn_of {i : Int32} (h : ¬ i < 0) : ∃ k : Nat, i.toInt = k := ⟨i.toInt.toNat, by
  rw [x32_lt] at h
  have : (0 : Int32).toInt = 0 := by decide
  omega⟩
theorem Ev.all {α : Type} {f : Nat → Option α} {r : α} (h : ∀ n, f n = some r) : Ev f r := ⟨0, fun n _ => h n⟩
theorem ofN_int {k : Nat} (h : k < 2147483648) : (Int32.ofNat k).toInt = k := Int32.toInt_ofNat_of_lt (by omega)
theorem ofN_lt {i m : Nat} (hi : i < 2147483648) (hm : m < 2147483648) : Int32.ofNat i < Int32.ofNat m ↔ i < m := by
  rw [x32_lt, ofN_int hi, ofN_int hm]; omega
theorem ofN_succ (k : Nat) : Int32.ofNat k + 1 = Int32.ofNat (k + 1) := (Int32.ofNat_add k 1).symm
theorem ofN_eq {i m : Nat} (hi : i < 2147483648) (hm : m < 2147483648) : Int32.ofNat i = Int32.ofNat m ↔ i = m := by
  rw [x32_eq, ofN_int hi, ofN_int hm]; omega
theorem ofN_of {x : Int32} {k : Nat} (h : x.toInt = k) : x = Int32.ofNat k := by
  have h2 := Int32.toInt_lt x
  rw [x32_eq, ofN_int (by omega)]; exact h
/-- a loop that counts up to N -/
theorem loop_up {α σ : Type} {F : Nat → Int32 → σ → Option α} {E : Nat → σ → Option α} {N : Nat} (Inv : Nat → σ → Prop)
    (hstep : ∀ (i : Nat) (s : σ), i < N → Inv i s → ∃ s', Inv (i + 1) s' ∧ ∀ n, F (n + 1) (Int32.ofNat i) s = F n (Int32.ofNat (i + 1)) s')
    (hend : ∀ s, Inv N s → ∀ n, F (n + 1) (Int32.ofNat N) s = E n s) : ∀ (k i : Nat) (s : σ), i + k = N → Inv i s → ∃ s', Inv N s' ∧ ∀ r, Ev (fun n => E n s') r → Ev (fun n => F n (Int32.ofNat i) s) r := by
  intro k
  induction k with
  | zero =>
    intro i s hi h
    obtain rfl : i = N := by omega
    exact ⟨s, h, fun r hr => Ev.step (hend s h) hr⟩
  | succ k ih =>
    intro i s hi h
    obtain ⟨s', h1, h2⟩ := hstep i s (by omega) h
    obtain ⟨s2, h3, h4⟩ := ih (i + 1) s' (by omega) h1
    exact ⟨s2, h3, fun r hr => Ev.step h2 (h4 r hr)⟩
theorem set_len {α : Type} (xs : List α) (k : Nat) (x : α) : (xs.set k x).length = xs.length := List.length_set
theorem ofN_ltL {i m : Nat} (hi : i < 2147483648) (hm : m < 2147483648) : Int32.ofNat i < (OfNat.ofNat m : Int32) ↔ i < m := ofN_lt hi hm
theorem ofN_gtL {i m : Nat} (hi : i < 2147483648) (hm : m < 2147483648) : (OfNat.ofNat m : Int32) < Int32.ofNat i ↔ m < i := ofN_lt hm hi
theorem ofN_eqL {i m : Nat} (hi : i < 2147483648) (hm : m < 2147483648) : Int32.ofNat i = (OfNat.ofNat m : Int32) ↔ i = m := ofN_eq hi hm
theorem ofN_nn {i : Nat} (hi : i < 2147483648) : ¬ Int32.ofNat i < 0 := fun h => Nat.not_lt_zero _ ((ofN_ltL hi (by decide)).mp h)
theorem lit_int {m : Nat} (hm : m < 2147483648) : (OfNat.ofNat m : Int32).toInt = m := ofN_int hm
theorem upd_upd {α : Type} (f : Nat → α) (i : Nat) (x y : α) : upd (upd f i x) i y = upd f i y := by
  funext j; unfold upd; by_cases h : j = i <;> simp [h]
theorem upd_self {α : Type} (f : Nat → α) (i : Nat) : upd f i (f i) = f := by
  funext j; unfold upd; by_cases h : j = i <;> simp [h]
theorem sA_sA (s : St) (i : Nat) (x y : List Int32) : sA (sA s i x) i y = sA s i y := by unfold sA; dsimp only; rw [upd_upd]
theorem sB_sB (s : St) (i : Nat) (x y : List Int64) : sB (sB s i x) i y = sB s i y := by unfold sB; dsimp only; rw [upd_upd]
theorem sI_sI (s : St) (i : Nat) (x y : Int32) : sI (sI s i x) i y = sI s i y := by unfold sI; dsimp only; rw [upd_upd]
theorem sA_self {s : St} {i : Nat} {x : List Int32} (h : gA s i = x) : sA s i x = s := by
  subst h; unfold sA gA; rw [upd_self]
theorem sB_self {s : St} {i : Nat} {x : List Int64} (h : gB s i = x) : sB s i x = s := by
  subst h; unfold sB gB; rw [upd_self]
theorem sI_self {s : St} {i : Nat} {x : Int32} (h : gI s i = x) : sI s i x = s := by
  subst h; unfold sI gI; rw [upd_self]
theorem fill_set {α : Type} (a b : α) (n i : Nat) (h : i < n) : (List.replicate i a ++ List.replicate (n - i) b).set i a = List.replicate (i + 1) a ++ List.replicate (n - (i + 1)) b := by
  rw [List.set_append_right _ _ (by simp), List.length_replicate, Nat.sub_self]
  obtain ⟨m, hm⟩ : ∃ m, n - i = m + 1 := ⟨n - i - 1, by omega⟩
  have hm2 : n - (i + 1) = m := by omega
  rw [hm, hm2, List.replicate_succ, List.set_cons_zero, List.replicate_succ', List.append_assoc]; rfl
theorem and_nat (x : Int32) (m : Nat) (hm : m < 2147483648) : ∃ k, k ≤ m ∧ (x &&& Int32.ofNat m) = Int32.ofNat k := by
  refine ⟨(x.toBitVec &&& BitVec.ofNat 32 m).toNat, ?_, ?_⟩
  · rw [BitVec.toNat_and, BitVec.toNat_ofNat, Nat.mod_eq_of_lt (by omega)]
    exact Nat.and_le_right
  · apply Int32.toBitVec_inj.mp
    show x.toBitVec &&& BitVec.ofNat 32 m = BitVec.ofNat 32 _
    rw [BitVec.ofNat_toNat, BitVec.setWidth_eq]
theorem and_natL (x : Int32) (m : Nat) (hm : m < 2147483648) : ∃ k, k ≤ m ∧ (x &&& (OfNat.ofNat m : Int32)) = Int32.ofNat k := and_nat x m hm
theorem nat_lt {i : Int32} {m : Nat} (h : ¬ i < 0) (h2 : i < (OfNat.ofNat m : Int32)) (hm : m < 2147483648) : ∃ k : Nat, k < m ∧ i = Int32.ofNat k := by
  obtain ⟨k, hk⟩ := nn_of h
  rw [x32_lt, lit_int hm, hk] at h2
  exact ⟨k, by omega, ofN_of hk⟩
theorem nat_le {i : Int32} {m : Nat} (h : ¬ i < 0) (h2 : ¬ (OfNat.ofNat m : Int32) < i) (hm : m < 2147483648) : ∃ k : Nat, k ≤ m ∧ i = Int32.ofNat k := by
  obtain ⟨k, hk⟩ := nn_of h
  rw [x32_lt, lit_int hm, hk] at h2
  exact ⟨k, by omega, ofN_of hk⟩
theorem rd_at {α : Type} {xs : List α} {k : Nat} {x : α} (hk : k < 2147483648) (h : xs[k]? = some x) : rd xs (Int32.ofNat k) = some x := rd_of (ofN_int hk) h
theorem wr_at' {α : Type} {xs : List α} {k : Nat} (x : α) (hk : k < 2147483648) (h : k < xs.length) : wr xs (Int32.ofNat k) x = some (xs.set k x) := wr_of x (ofN_int hk) h
theorem rep_get {α : Type} {n k : Nat} (a : α) (h : k < n) : (List.replicate n a)[k]? = some a := by rw [List.getElem?_replicate, if_pos h]
theorem get_set_self {α : Type} {xs : List α} {k : Nat} (x : α) (h : k < xs.length) : (xs.set k x)[k]? = some x := by rw [List.getElem?_set_self h]
theorem get_set_ne {α : Type} {xs : List α} {k j : Nat} (x : α) (h : k ≠ j) : (xs.set k x)[j]? = xs[j]? := List.getElem?_set_ne h
theorem upd_comm {α : Type} (f : Nat → α) {i j : Nat} (h : i ≠ j) (x y : α) : upd (upd f i x) j y = upd (upd f j y) i x := by
  funext m; unfold upd
  by_cases h1 : m = j
  · subst h1; rw [if_pos rfl, if_neg (Ne.symm h), if_pos rfl]
  · rw [if_neg h1]; by_cases h2 : m = i
    · rw [if_pos h2, if_pos h2]
    · rw [if_neg h2, if_neg h2, if_neg h1]
theorem sA_comm {s : St} {i j : Nat} (h : i ≠ j) {x y : List Int32} : sA (sA s i x) j y = sA (sA s j y) i x := by unfold sA; dsimp only; rw [upd_comm _ h]
theorem sB_comm {s : St} {i j : Nat} (h : i ≠ j) {x y : List Int64} : sB (sB s i x) j y = sB (sB s j y) i x := by unfold sB; dsimp only; rw [upd_comm _ h]
theorem sI_comm {s : St} {i j : Nat} (h : i ≠ j) {x y : Int32} : sI (sI s i x) j y = sI (sI s j y) i x := by unfold sI; dsimp only; rw [upd_comm _ h]
theorem sJ_self {s : St} {i : Nat} {x : Int64} (h : gJ s i = x) : sJ s i x = s := by
  subst h; unfold sJ gJ; rw [upd_self]
theorem wrA_nop {s : St} {f N k : Nat} {v : Int32} (h : gA s f = List.replicate N v) (hk : k < N) (hN : N ≤ 2147483647) : wrA s f (Int32.ofNat k) v = some s := by
  rw [wrA_of (k := k) v (ofN_int (by omega)) (by rw [h, List.length_replicate]; exact hk), sA_self (by rw [h, List.set_replicate_self])]
theorem wrB_nop {s : St} {f N k : Nat} {v : Int64} (h : gB s f = List.replicate N v) (hk : k < N) (hN : N ≤ 2147483647) : wrB s f (Int32.ofNat k) v = some s := by
  rw [wrB_of (k := k) v (ofN_int (by omega)) (by rw [h, List.length_replicate]; exact hk), sB_self (by rw [h, List.set_replicate_self])]
/-- a loop that fills -/
theorem wrA_fill {s : St} {f N k : Nat} {u v : Int32} (hk : k < N) (hN : N ≤ 2147483647) : wrA (sA s f (List.replicate k v ++ List.replicate (N - k) u)) f (Int32.ofNat k) v = some (sA s f (List.replicate (k + 1) v ++ List.replicate (N - (k + 1)) u)) := by
  rw [wrA_of (k := k) v (ofN_int (by omega)) (by rw [gA_sA, if_pos rfl]; simp; omega), gA_sA, if_pos rfl, fill_set _ _ _ _ hk, sA_sA]
theorem fill_start {s : St} {f N : Nat} {u v : Int32} (h : gA s f = List.replicate N u) : s = sA s f (List.replicate 0 v ++ List.replicate (N - 0) u) := (sA_self (by rw [h]; rfl)).symm
theorem fill_end {s : St} {f N : Nat} {u v : Int32} : sA s f (List.replicate N v ++ List.replicate (N - N) u) = sA s f (List.replicate N v) := by rw [Nat.sub_self]; simp
theorem x32_neg {x : Int32} (h : -2147483648 < x.toInt) : (-x).toInt = -x.toInt := by
  have := Int32.toInt_lt x
  rw [Int32.toInt_neg]; exact Int.bmod_eq_of_le (by omega) (by omega)
theorem x64_neg {x : Int64} (h : -9223372036854775808 < x.toInt) : (-x).toInt = -x.toInt := by
  have := Int64.toInt_lt x
  rw [Int64.toInt_neg]; exact Int.bmod_eq_of_le (by omega) (by omega)
theorem x64_lt {x y : Int64} : x < y ↔ x.toInt < y.toInt := Int64.lt_iff_toInt_lt
theorem x64_eq {x y : Int64} : x = y ↔ x.toInt = y.toInt := Int64.toInt_inj.symm
theorem x64_add {x y : Int64} (h1 : -9223372036854775808 ≤ x.toInt + y.toInt) (h2 : x.toInt + y.toInt < 9223372036854775808) : (x + y).toInt = x.toInt + y.toInt := by
  rw [Int64.toInt_add]; exact Int.bmod_eq_of_le (by omega) (by omega)
theorem x64_sub {x y : Int64} (h1 : -9223372036854775808 ≤ x.toInt - y.toInt) (h2 : x.toInt - y.toInt < 9223372036854775808) : (x - y).toInt = x.toInt - y.toInt := by
  rw [Int64.toInt_sub]; exact Int.bmod_eq_of_le (by omega) (by omega)
theorem x64_mul {x y : Int64} (h1 : -9223372036854775808 ≤ x.toInt * y.toInt) (h2 : x.toInt * y.toInt < 9223372036854775808) : (x * y).toInt = x.toInt * y.toInt := by
  rw [Int64.toInt_mul]; exact Int.bmod_eq_of_le (by omega) (by omega)
end Jvm.Own
namespace Jvm.Pilot.@@N@@
open Jvm Jvm.ClassFile Sem Op Lib Jvm.Free Jvm.Stand Jvm.LawKit Jvm.RoadKit Bundle Jvm.Pilot.@@N@@.Jvm.D Jvm.Own
abbrev HW (a0 : Array Value) (Z : State) : Prop := ∀ d ∈ tables_1, d.before a0 Z = true
abbrev CN : String := "FatPointerC"
def lay : List (String × String) := [("memCells", "I"), ("maxDepth", "I"), ("nTok", "I"), ("tokK", "[I"), ("tokV", "[I"), ("compiled", "Z"), ("status", "I"), ("trapSite", "I"), ("framesAt", "I"), ("resKind", "I"), ("resVal", "I"), ("resSize", "I"), ("outN", "I"), ("outVals", "[I"), ("fnDef", "[Z"), ("fnTok", "[I"), ("fnParams", "[I"), ("fnObjCount", "[I"), ("fnFrame", "[I"), ("fnBody", "[I"), ("nameIdx", "[I"), ("nameArr", "[Z"), ("fnObjSize", "[I"), ("callArgs", "[I"), ("matchEnd", "[I"), ("braceOwner", "[I"), ("pp", "I"), ("pok", "Z"), ("curFn", "I"), ("openStack", "[I"), ("cellK", "[I"), ("cellV", "[I"), ("cellO", "[I"), ("objBase", "[I"), ("objSize", "[I"), ("objAlive", "[Z"), ("nextObj", "I"), ("frFunc", "[I"), ("frFirst", "[I"), ("frBase", "[I"), ("frRetPc", "[I"), ("frTarget", "[I"), ("depth", "I"), ("liveCells", "I"), ("fuel", "I"), ("running", "Z"), ("regK", "[I"), ("regV", "[I"), ("regO", "[I"), ("argK", "[I"), ("argV", "[I"), ("argO", "[I")]
abbrev vs0 : List Value := [.int 0, .int 0, .int 0, .null, .null, .int 0, .int 0, .int 0, .int 0, .int 0, .int 0, .int 0, .int 0, .null, .null, .null, .null, .null, .null, .null, .null, .null, .null, .null, .null, .null, .int 0, .int 0, .int 0, .null, .null, .null, .null, .null, .null, .null, .int 0, .null, .null, .null, .null, .null, .int 0, .int 0, .int 0, .int 0, .null, .null, .null, .null, .null, .null]
abbrev Hb (b : Nat) (s : St) : List OwnC := [cO [.int (gI s 0), .int (gI s 1), .int (gI s 2), .ref (b + 1), .ref (b + 2), .int (gI s 3), .int (gI s 4), .int (gI s 5), .int (gI s 6), .int (gI s 7), .int (gI s 8), .int (gI s 9), .int (gI s 10), .ref (b + 3), .ref (b + 4), .ref (b + 5), .ref (b + 6), .ref (b + 7), .ref (b + 8), .ref (b + 9), .ref (b + 10), .ref (b + 11), .ref (b + 12), .ref (b + 13), .ref (b + 14), .ref (b + 15), .int (gI s 11), .int (gI s 12), .int (gI s 13), .ref (b + 16), .ref (b + 17), .ref (b + 18), .ref (b + 19), .ref (b + 20), .ref (b + 21), .ref (b + 22), .int (gI s 14), .ref (b + 23), .ref (b + 24), .ref (b + 25), .ref (b + 26), .ref (b + 27), .int (gI s 15), .int (gI s 16), .int (gI s 17), .int (gI s 18), .ref (b + 28), .ref (b + 29), .ref (b + 30), .ref (b + 31), .ref (b + 32), .ref (b + 33)], cI (gA s 0), cI (gA s 1), cI (gA s 2), cZ (gA s 3), cI (gA s 4), cI (gA s 5), cI (gA s 6), cI (gA s 7), cI (gA s 8), cI (gA s 9), cZ (gA s 10), cI (gA s 11), cI (gA s 12), cI (gA s 13), cI (gA s 14), cI (gA s 15), cI (gA s 16), cI (gA s 17), cI (gA s 18), cI (gA s 19), cI (gA s 20), cZ (gA s 21), cI (gA s 22), cI (gA s 23), cI (gA s 24), cI (gA s 25), cI (gA s 26), cI (gA s 27), cI (gA s 28), cI (gA s 29), cI (gA s 30), cI (gA s 31), cI (gA s 32)]
def st0 : St := (fun _ => 0, fun _ => 0, fun i => ([List.replicate 256 0, List.replicate 256 0, List.replicate 16 0, List.replicate 4 0, List.replicate 4 0, List.replicate 4 0, List.replicate 4 0, List.replicate 4 0, List.replicate 4 0, List.replicate 32 0, List.replicate 32 0, List.replicate 32 0, List.replicate 256 0, List.replicate 256 0, List.replicate 256 0, List.replicate 16 0, List.replicate 64 0, List.replicate 64 0, List.replicate 64 0, List.replicate 4096 0, List.replicate 4096 0, List.replicate 4096 0, List.replicate 8 0, List.replicate 8 0, List.replicate 8 0, List.replicate 8 0, List.replicate 8 0, List.replicate 4 0, List.replicate 4 0, List.replicate 4 0, List.replicate 8 0, List.replicate 8 0, List.replicate 8 0] : List (List Int32)).getD i [], fun i => ([] : List (List Int64)).getD i [])
theorem m_0 : (Jvm.Cond.classLink "FatPointerCL2" (7 : Nat) "FatPointerC") ∈ tables_1 := List.mem_of_getElem? (i := 0) rfl
theorem m_1 : (Jvm.Cond.instantiable "FatPointerC" (52 : Nat)) ∈ tables_1 := List.mem_of_getElem? (i := 1) rfl
theorem m_2 : (Jvm.Cond.initialized "FatPointerC") ∈ tables_1 := List.mem_of_getElem? (i := 2) rfl
theorem m_3 : (Jvm.Cond.methodLink "FatPointerCL2" (9 : Nat) ({ cls := "FatPointerC", name := "<init>", desc := "(II)V" } : Jvm.MethodName)) ∈ tables_1 := List.mem_of_getElem? (i := 3) rfl
theorem m_4 : (Jvm.Cond.instanceMethod ({ cls := "FatPointerC", name := "<init>", desc := "(II)V" } : Jvm.MethodName)) ∈ tables_1 := List.mem_of_getElem? (i := 4) rfl
theorem m_5 : (Jvm.Cond.code ({ cls := "FatPointerC", name := "<init>", desc := "(II)V" } : Jvm.MethodName) prog_1_method_1_code (5 : Nat) (Option.none : Option Jvm.ClassFile.FieldType)) ∈ tables_1 := List.mem_of_getElem? (i := 5) rfl
theorem m_6 : (Jvm.Cond.methodLink "FatPointerC" (1 : Nat) ({ cls := "java/lang/Object", name := "<init>", desc := "()V" } : Jvm.MethodName)) ∈ tables_1 := List.mem_of_getElem? (i := 6) rfl
theorem m_7 : (Jvm.Cond.instanceMethod ({ cls := "java/lang/Object", name := "<init>", desc := "()V" } : Jvm.MethodName)) ∈ tables_1 := List.mem_of_getElem? (i := 7) rfl
theorem m_8 : (Jvm.Cond.code ({ cls := "java/lang/Object", name := "<init>", desc := "()V" } : Jvm.MethodName) object_method_1_code (1 : Nat) (Option.none : Option Jvm.ClassFile.FieldType)) ∈ tables_1 := List.mem_of_getElem? (i := 8) rfl
theorem m_9 : (Jvm.Cond.arrayClass Jvm.ClassFile.FieldType.int) ∈ tables_1 := List.mem_of_getElem? (i := 9) rfl
theorem m_10 : (Jvm.Cond.fieldLink "FatPointerC" (7 : Nat) "FatPointerC" "tokK" "[I") ∈ tables_1 := List.mem_of_getElem? (i := 10) rfl
theorem m_11 : (Jvm.Cond.lays "FatPointerC" "FatPointerC" "tokK" "[I") ∈ tables_1 := List.mem_of_getElem? (i := 11) rfl
theorem m_12 : (Jvm.Cond.fieldLink "FatPointerC" (13 : Nat) "FatPointerC" "tokV" "[I") ∈ tables_1 := List.mem_of_getElem? (i := 12) rfl
theorem m_13 : (Jvm.Cond.lays "FatPointerC" "FatPointerC" "tokV" "[I") ∈ tables_1 := List.mem_of_getElem? (i := 13) rfl
theorem m_14 : (Jvm.Cond.fieldLink "FatPointerC" (16 : Nat) "FatPointerC" "outVals" "[I") ∈ tables_1 := List.mem_of_getElem? (i := 14) rfl
theorem m_15 : (Jvm.Cond.lays "FatPointerC" "FatPointerC" "outVals" "[I") ∈ tables_1 := List.mem_of_getElem? (i := 15) rfl
theorem m_16 : (Jvm.Cond.arrayClass Jvm.ClassFile.FieldType.boolean) ∈ tables_1 := List.mem_of_getElem? (i := 16) rfl
theorem m_17 : (Jvm.Cond.fieldLink "FatPointerC" (19 : Nat) "FatPointerC" "fnDef" "[Z") ∈ tables_1 := List.mem_of_getElem? (i := 17) rfl
theorem m_18 : (Jvm.Cond.lays "FatPointerC" "FatPointerC" "fnDef" "[Z") ∈ tables_1 := List.mem_of_getElem? (i := 18) rfl
theorem m_19 : (Jvm.Cond.fieldLink "FatPointerC" (23 : Nat) "FatPointerC" "fnTok" "[I") ∈ tables_1 := List.mem_of_getElem? (i := 19) rfl
theorem m_20 : (Jvm.Cond.lays "FatPointerC" "FatPointerC" "fnTok" "[I") ∈ tables_1 := List.mem_of_getElem? (i := 20) rfl
theorem m_21 : (Jvm.Cond.fieldLink "FatPointerC" (26 : Nat) "FatPointerC" "fnParams" "[I") ∈ tables_1 := List.mem_of_getElem? (i := 21) rfl
theorem m_22 : (Jvm.Cond.lays "FatPointerC" "FatPointerC" "fnParams" "[I") ∈ tables_1 := List.mem_of_getElem? (i := 22) rfl
theorem m_23 : (Jvm.Cond.fieldLink "FatPointerC" (29 : Nat) "FatPointerC" "fnObjCount" "[I") ∈ tables_1 := List.mem_of_getElem? (i := 23) rfl
theorem m_24 : (Jvm.Cond.lays "FatPointerC" "FatPointerC" "fnObjCount" "[I") ∈ tables_1 := List.mem_of_getElem? (i := 24) rfl
theorem m_25 : (Jvm.Cond.fieldLink "FatPointerC" (32 : Nat) "FatPointerC" "fnFrame" "[I") ∈ tables_1 := List.mem_of_getElem? (i := 25) rfl
theorem m_26 : (Jvm.Cond.lays "FatPointerC" "FatPointerC" "fnFrame" "[I") ∈ tables_1 := List.mem_of_getElem? (i := 26) rfl
theorem m_27 : (Jvm.Cond.fieldLink "FatPointerC" (35 : Nat) "FatPointerC" "fnBody" "[I") ∈ tables_1 := List.mem_of_getElem? (i := 27) rfl
theorem m_28 : (Jvm.Cond.lays "FatPointerC" "FatPointerC" "fnBody" "[I") ∈ tables_1 := List.mem_of_getElem? (i := 28) rfl
theorem m_29 : (Jvm.Cond.fieldLink "FatPointerC" (38 : Nat) "FatPointerC" "nameIdx" "[I") ∈ tables_1 := List.mem_of_getElem? (i := 29) rfl
theorem m_30 : (Jvm.Cond.lays "FatPointerC" "FatPointerC" "nameIdx" "[I") ∈ tables_1 := List.mem_of_getElem? (i := 30) rfl
theorem m_31 : (Jvm.Cond.fieldLink "FatPointerC" (41 : Nat) "FatPointerC" "nameArr" "[Z") ∈ tables_1 := List.mem_of_getElem? (i := 31) rfl
theorem m_32 : (Jvm.Cond.lays "FatPointerC" "FatPointerC" "nameArr" "[Z") ∈ tables_1 := List.mem_of_getElem? (i := 32) rfl
theorem m_33 : (Jvm.Cond.fieldLink "FatPointerC" (44 : Nat) "FatPointerC" "fnObjSize" "[I") ∈ tables_1 := List.mem_of_getElem? (i := 33) rfl
theorem m_34 : (Jvm.Cond.lays "FatPointerC" "FatPointerC" "fnObjSize" "[I") ∈ tables_1 := List.mem_of_getElem? (i := 34) rfl
theorem m_35 : (Jvm.Cond.fieldLink "FatPointerC" (47 : Nat) "FatPointerC" "callArgs" "[I") ∈ tables_1 := List.mem_of_getElem? (i := 35) rfl
theorem m_36 : (Jvm.Cond.lays "FatPointerC" "FatPointerC" "callArgs" "[I") ∈ tables_1 := List.mem_of_getElem? (i := 36) rfl
theorem m_37 : (Jvm.Cond.fieldLink "FatPointerC" (50 : Nat) "FatPointerC" "matchEnd" "[I") ∈ tables_1 := List.mem_of_getElem? (i := 37) rfl
theorem m_38 : (Jvm.Cond.lays "FatPointerC" "FatPointerC" "matchEnd" "[I") ∈ tables_1 := List.mem_of_getElem? (i := 38) rfl
theorem m_39 : (Jvm.Cond.fieldLink "FatPointerC" (53 : Nat) "FatPointerC" "braceOwner" "[I") ∈ tables_1 := List.mem_of_getElem? (i := 39) rfl
theorem m_40 : (Jvm.Cond.lays "FatPointerC" "FatPointerC" "braceOwner" "[I") ∈ tables_1 := List.mem_of_getElem? (i := 40) rfl
theorem m_41 : (Jvm.Cond.fieldLink "FatPointerC" (56 : Nat) "FatPointerC" "openStack" "[I") ∈ tables_1 := List.mem_of_getElem? (i := 41) rfl
theorem m_42 : (Jvm.Cond.lays "FatPointerC" "FatPointerC" "openStack" "[I") ∈ tables_1 := List.mem_of_getElem? (i := 42) rfl
theorem m_43 : (Jvm.Cond.fieldLink "FatPointerC" (59 : Nat) "FatPointerC" "cellK" "[I") ∈ tables_1 := List.mem_of_getElem? (i := 43) rfl
theorem m_44 : (Jvm.Cond.lays "FatPointerC" "FatPointerC" "cellK" "[I") ∈ tables_1 := List.mem_of_getElem? (i := 44) rfl
theorem m_45 : (Jvm.Cond.fieldLink "FatPointerC" (62 : Nat) "FatPointerC" "cellV" "[I") ∈ tables_1 := List.mem_of_getElem? (i := 45) rfl
theorem m_46 : (Jvm.Cond.lays "FatPointerC" "FatPointerC" "cellV" "[I") ∈ tables_1 := List.mem_of_getElem? (i := 46) rfl
theorem m_47 : (Jvm.Cond.fieldLink "FatPointerC" (65 : Nat) "FatPointerC" "cellO" "[I") ∈ tables_1 := List.mem_of_getElem? (i := 47) rfl
theorem m_48 : (Jvm.Cond.lays "FatPointerC" "FatPointerC" "cellO" "[I") ∈ tables_1 := List.mem_of_getElem? (i := 48) rfl
theorem m_49 : (Jvm.Cond.fieldLink "FatPointerC" (68 : Nat) "FatPointerC" "objBase" "[I") ∈ tables_1 := List.mem_of_getElem? (i := 49) rfl
theorem m_50 : (Jvm.Cond.lays "FatPointerC" "FatPointerC" "objBase" "[I") ∈ tables_1 := List.mem_of_getElem? (i := 50) rfl
theorem m_51 : (Jvm.Cond.fieldLink "FatPointerC" (71 : Nat) "FatPointerC" "objSize" "[I") ∈ tables_1 := List.mem_of_getElem? (i := 51) rfl
theorem m_52 : (Jvm.Cond.lays "FatPointerC" "FatPointerC" "objSize" "[I") ∈ tables_1 := List.mem_of_getElem? (i := 52) rfl
theorem m_53 : (Jvm.Cond.fieldLink "FatPointerC" (74 : Nat) "FatPointerC" "objAlive" "[Z") ∈ tables_1 := List.mem_of_getElem? (i := 53) rfl
theorem m_54 : (Jvm.Cond.lays "FatPointerC" "FatPointerC" "objAlive" "[Z") ∈ tables_1 := List.mem_of_getElem? (i := 54) rfl
theorem m_55 : (Jvm.Cond.fieldLink "FatPointerC" (77 : Nat) "FatPointerC" "frFunc" "[I") ∈ tables_1 := List.mem_of_getElem? (i := 55) rfl
theorem m_56 : (Jvm.Cond.lays "FatPointerC" "FatPointerC" "frFunc" "[I") ∈ tables_1 := List.mem_of_getElem? (i := 56) rfl
theorem m_57 : (Jvm.Cond.fieldLink "FatPointerC" (80 : Nat) "FatPointerC" "frFirst" "[I") ∈ tables_1 := List.mem_of_getElem? (i := 57) rfl
theorem m_58 : (Jvm.Cond.lays "FatPointerC" "FatPointerC" "frFirst" "[I") ∈ tables_1 := List.mem_of_getElem? (i := 58) rfl
theorem m_59 : (Jvm.Cond.fieldLink "FatPointerC" (83 : Nat) "FatPointerC" "frBase" "[I") ∈ tables_1 := List.mem_of_getElem? (i := 59) rfl
theorem m_60 : (Jvm.Cond.lays "FatPointerC" "FatPointerC" "frBase" "[I") ∈ tables_1 := List.mem_of_getElem? (i := 60) rfl
theorem m_61 : (Jvm.Cond.fieldLink "FatPointerC" (86 : Nat) "FatPointerC" "frRetPc" "[I") ∈ tables_1 := List.mem_of_getElem? (i := 61) rfl
theorem m_62 : (Jvm.Cond.lays "FatPointerC" "FatPointerC" "frRetPc" "[I") ∈ tables_1 := List.mem_of_getElem? (i := 62) rfl
theorem m_63 : (Jvm.Cond.fieldLink "FatPointerC" (89 : Nat) "FatPointerC" "frTarget" "[I") ∈ tables_1 := List.mem_of_getElem? (i := 63) rfl
theorem m_64 : (Jvm.Cond.lays "FatPointerC" "FatPointerC" "frTarget" "[I") ∈ tables_1 := List.mem_of_getElem? (i := 64) rfl
theorem m_65 : (Jvm.Cond.fieldLink "FatPointerC" (92 : Nat) "FatPointerC" "regK" "[I") ∈ tables_1 := List.mem_of_getElem? (i := 65) rfl
theorem m_66 : (Jvm.Cond.lays "FatPointerC" "FatPointerC" "regK" "[I") ∈ tables_1 := List.mem_of_getElem? (i := 66) rfl
theorem m_67 : (Jvm.Cond.fieldLink "FatPointerC" (95 : Nat) "FatPointerC" "regV" "[I") ∈ tables_1 := List.mem_of_getElem? (i := 67) rfl
theorem m_68 : (Jvm.Cond.lays "FatPointerC" "FatPointerC" "regV" "[I") ∈ tables_1 := List.mem_of_getElem? (i := 68) rfl
theorem m_69 : (Jvm.Cond.fieldLink "FatPointerC" (98 : Nat) "FatPointerC" "regO" "[I") ∈ tables_1 := List.mem_of_getElem? (i := 69) rfl
theorem m_70 : (Jvm.Cond.lays "FatPointerC" "FatPointerC" "regO" "[I") ∈ tables_1 := List.mem_of_getElem? (i := 70) rfl
theorem m_71 : (Jvm.Cond.fieldLink "FatPointerC" (101 : Nat) "FatPointerC" "argK" "[I") ∈ tables_1 := List.mem_of_getElem? (i := 71) rfl
theorem m_72 : (Jvm.Cond.lays "FatPointerC" "FatPointerC" "argK" "[I") ∈ tables_1 := List.mem_of_getElem? (i := 72) rfl
theorem m_73 : (Jvm.Cond.fieldLink "FatPointerC" (104 : Nat) "FatPointerC" "argV" "[I") ∈ tables_1 := List.mem_of_getElem? (i := 73) rfl
theorem m_74 : (Jvm.Cond.lays "FatPointerC" "FatPointerC" "argV" "[I") ∈ tables_1 := List.mem_of_getElem? (i := 74) rfl
theorem m_75 : (Jvm.Cond.fieldLink "FatPointerC" (107 : Nat) "FatPointerC" "argO" "[I") ∈ tables_1 := List.mem_of_getElem? (i := 75) rfl
theorem m_76 : (Jvm.Cond.lays "FatPointerC" "FatPointerC" "argO" "[I") ∈ tables_1 := List.mem_of_getElem? (i := 76) rfl
theorem m_77 : (Jvm.Cond.fieldLink "FatPointerC" (110 : Nat) "FatPointerC" "memCells" "I") ∈ tables_1 := List.mem_of_getElem? (i := 77) rfl
theorem m_78 : (Jvm.Cond.lays "FatPointerC" "FatPointerC" "memCells" "I") ∈ tables_1 := List.mem_of_getElem? (i := 78) rfl
theorem m_79 : (Jvm.Cond.fieldLink "FatPointerC" (114 : Nat) "FatPointerC" "maxDepth" "I") ∈ tables_1 := List.mem_of_getElem? (i := 79) rfl
theorem m_80 : (Jvm.Cond.lays "FatPointerC" "FatPointerC" "maxDepth" "I") ∈ tables_1 := List.mem_of_getElem? (i := 80) rfl
theorem m_81 : (Jvm.Cond.methodLink "FatPointerC" (117 : Nat) ({ cls := "FatPointerC", name := "clearResults", desc := "()V" } : Jvm.MethodName)) ∈ tables_1 := List.mem_of_getElem? (i := 81) rfl
theorem m_82 : (Jvm.Cond.instanceMethod ({ cls := "FatPointerC", name := "clearResults", desc := "()V" } : Jvm.MethodName)) ∈ tables_1 := List.mem_of_getElem? (i := 82) rfl
theorem m_83 : (Jvm.Cond.privateMethod ({ cls := "FatPointerC", name := "clearResults", desc := "()V" } : Jvm.MethodName)) ∈ tables_1 := List.mem_of_getElem? (i := 83) rfl
theorem m_84 : (Jvm.Cond.code ({ cls := "FatPointerC", name := "clearResults", desc := "()V" } : Jvm.MethodName) prog_1_method_15_code (1 : Nat) (Option.none : Option Jvm.ClassFile.FieldType)) ∈ tables_1 := List.mem_of_getElem? (i := 84) rfl
theorem m_85 : (Jvm.Cond.fieldLink "FatPointerC" (150 : Nat) "FatPointerC" "status" "I") ∈ tables_1 := List.mem_of_getElem? (i := 85) rfl
theorem m_86 : (Jvm.Cond.lays "FatPointerC" "FatPointerC" "status" "I") ∈ tables_1 := List.mem_of_getElem? (i := 86) rfl
theorem m_87 : (Jvm.Cond.fieldLink "FatPointerC" (162 : Nat) "FatPointerC" "trapSite" "I") ∈ tables_1 := List.mem_of_getElem? (i := 87) rfl
theorem m_88 : (Jvm.Cond.lays "FatPointerC" "FatPointerC" "trapSite" "I") ∈ tables_1 := List.mem_of_getElem? (i := 88) rfl
theorem m_89 : (Jvm.Cond.fieldLink "FatPointerC" (165 : Nat) "FatPointerC" "framesAt" "I") ∈ tables_1 := List.mem_of_getElem? (i := 89) rfl
theorem m_90 : (Jvm.Cond.lays "FatPointerC" "FatPointerC" "framesAt" "I") ∈ tables_1 := List.mem_of_getElem? (i := 90) rfl
theorem m_91 : (Jvm.Cond.fieldLink "FatPointerC" (168 : Nat) "FatPointerC" "resKind" "I") ∈ tables_1 := List.mem_of_getElem? (i := 91) rfl
theorem m_92 : (Jvm.Cond.lays "FatPointerC" "FatPointerC" "resKind" "I") ∈ tables_1 := List.mem_of_getElem? (i := 92) rfl
theorem m_93 : (Jvm.Cond.fieldLink "FatPointerC" (171 : Nat) "FatPointerC" "resVal" "I") ∈ tables_1 := List.mem_of_getElem? (i := 93) rfl
theorem m_94 : (Jvm.Cond.lays "FatPointerC" "FatPointerC" "resVal" "I") ∈ tables_1 := List.mem_of_getElem? (i := 94) rfl
theorem m_95 : (Jvm.Cond.fieldLink "FatPointerC" (174 : Nat) "FatPointerC" "resSize" "I") ∈ tables_1 := List.mem_of_getElem? (i := 95) rfl
theorem m_96 : (Jvm.Cond.lays "FatPointerC" "FatPointerC" "resSize" "I") ∈ tables_1 := List.mem_of_getElem? (i := 96) rfl
theorem m_97 : (Jvm.Cond.fieldLink "FatPointerC" (177 : Nat) "FatPointerC" "outN" "I") ∈ tables_1 := List.mem_of_getElem? (i := 97) rfl
theorem m_98 : (Jvm.Cond.lays "FatPointerC" "FatPointerC" "outN" "I") ∈ tables_1 := List.mem_of_getElem? (i := 98) rfl
theorem m_99 : (Jvm.Cond.methodLink "FatPointerCL2" (12 : Nat) ({ cls := "FatPointerC", name := "tok", desc := "(II)Z" } : Jvm.MethodName)) ∈ tables_1 := List.mem_of_getElem? (i := 99) rfl
theorem m_100 : (Jvm.Cond.declares ({ cls := "FatPointerC", name := "tok", desc := "(II)Z" } : Jvm.MethodName)) ∈ tables_1 := List.mem_of_getElem? (i := 100) rfl
theorem m_101 : (Jvm.Cond.instanceMethod ({ cls := "FatPointerC", name := "tok", desc := "(II)Z" } : Jvm.MethodName)) ∈ tables_1 := List.mem_of_getElem? (i := 101) rfl
theorem m_102 : (Jvm.Cond.selects "FatPointerC" ({ cls := "FatPointerC", name := "tok", desc := "(II)Z" } : Jvm.MethodName) ({ cls := "FatPointerC", name := "tok", desc := "(II)Z" } : Jvm.MethodName)) ∈ tables_1 := List.mem_of_getElem? (i := 102) rfl
theorem m_103 : (Jvm.Cond.code ({ cls := "FatPointerC", name := "tok", desc := "(II)Z" } : Jvm.MethodName) prog_1_method_3_code (4 : Nat) (Option.some Jvm.ClassFile.FieldType.boolean)) ∈ tables_1 := List.mem_of_getElem? (i := 103) rfl
theorem m_104 : (Jvm.Cond.fieldLink "FatPointerC" (120 : Nat) "FatPointerC" "nTok" "I") ∈ tables_1 := List.mem_of_getElem? (i := 104) rfl
theorem m_105 : (Jvm.Cond.lays "FatPointerC" "FatPointerC" "nTok" "I") ∈ tables_1 := List.mem_of_getElem? (i := 105) rfl
theorem m_106 : (Jvm.Cond.fieldLink "FatPointerC" (123 : Nat) "FatPointerC" "compiled" "Z") ∈ tables_1 := List.mem_of_getElem? (i := 106) rfl
theorem m_107 : (Jvm.Cond.lays "FatPointerC" "FatPointerC" "compiled" "Z") ∈ tables_1 := List.mem_of_getElem? (i := 107) rfl
theorem m_108 : (Jvm.Cond.methodLink "FatPointerCL2" (16 : Nat) ({ cls := "FatPointerC", name := "compile", desc := "()Z" } : Jvm.MethodName)) ∈ tables_1 := List.mem_of_getElem? (i := 108) rfl
theorem m_109 : (Jvm.Cond.declares ({ cls := "FatPointerC", name := "compile", desc := "()Z" } : Jvm.MethodName)) ∈ tables_1 := List.mem_of_getElem? (i := 109) rfl
theorem m_110 : (Jvm.Cond.instanceMethod ({ cls := "FatPointerC", name := "compile", desc := "()Z" } : Jvm.MethodName)) ∈ tables_1 := List.mem_of_getElem? (i := 110) rfl
theorem m_111 : (Jvm.Cond.selects "FatPointerC" ({ cls := "FatPointerC", name := "compile", desc := "()Z" } : Jvm.MethodName) ({ cls := "FatPointerC", name := "compile", desc := "()Z" } : Jvm.MethodName)) ∈ tables_1 := List.mem_of_getElem? (i := 111) rfl
theorem m_112 : (Jvm.Cond.code ({ cls := "FatPointerC", name := "compile", desc := "()Z" } : Jvm.MethodName) prog_1_method_5_code (1 : Nat) (Option.some Jvm.ClassFile.FieldType.boolean)) ∈ tables_1 := List.mem_of_getElem? (i := 112) rfl
theorem m_113 : (Jvm.Cond.methodLink "FatPointerC" (127 : Nat) ({ cls := "FatPointerC", name := "parseProgram", desc := "()Z" } : Jvm.MethodName)) ∈ tables_1 := List.mem_of_getElem? (i := 113) rfl
theorem m_114 : (Jvm.Cond.instanceMethod ({ cls := "FatPointerC", name := "parseProgram", desc := "()Z" } : Jvm.MethodName)) ∈ tables_1 := List.mem_of_getElem? (i := 114) rfl
theorem m_115 : (Jvm.Cond.privateMethod ({ cls := "FatPointerC", name := "parseProgram", desc := "()Z" } : Jvm.MethodName)) ∈ tables_1 := List.mem_of_getElem? (i := 115) rfl
theorem m_116 : (Jvm.Cond.code ({ cls := "FatPointerC", name := "parseProgram", desc := "()Z" } : Jvm.MethodName) prog_1_method_18_code (2 : Nat) (Option.some Jvm.ClassFile.FieldType.boolean)) ∈ tables_1 := List.mem_of_getElem? (i := 116) rfl
theorem m_117 : (Jvm.Cond.fieldLink "FatPointerC" (180 : Nat) "FatPointerC" "pok" "Z") ∈ tables_1 := List.mem_of_getElem? (i := 117) rfl
theorem m_118 : (Jvm.Cond.lays "FatPointerC" "FatPointerC" "pok" "Z") ∈ tables_1 := List.mem_of_getElem? (i := 118) rfl
theorem m_119 : (Jvm.Cond.fieldLink "FatPointerC" (183 : Nat) "FatPointerC" "pp" "I") ∈ tables_1 := List.mem_of_getElem? (i := 119) rfl
theorem m_120 : (Jvm.Cond.lays "FatPointerC" "FatPointerC" "pp" "I") ∈ tables_1 := List.mem_of_getElem? (i := 120) rfl
theorem m_121 : (Jvm.Cond.methodLink "FatPointerC" (186 : Nat) ({ cls := "FatPointerC", name := "parseFunc", desc := "()V" } : Jvm.MethodName)) ∈ tables_1 := List.mem_of_getElem? (i := 121) rfl
theorem m_122 : (Jvm.Cond.instanceMethod ({ cls := "FatPointerC", name := "parseFunc", desc := "()V" } : Jvm.MethodName)) ∈ tables_1 := List.mem_of_getElem? (i := 122) rfl
theorem m_123 : (Jvm.Cond.privateMethod ({ cls := "FatPointerC", name := "parseFunc", desc := "()V" } : Jvm.MethodName)) ∈ tables_1 := List.mem_of_getElem? (i := 123) rfl
theorem m_124 : (Jvm.Cond.code ({ cls := "FatPointerC", name := "parseFunc", desc := "()V" } : Jvm.MethodName) prog_1_method_21_code (3 : Nat) (Option.none : Option Jvm.ClassFile.FieldType)) ∈ tables_1 := List.mem_of_getElem? (i := 124) rfl
theorem m_125 : (Jvm.Cond.methodLink "FatPointerC" (195 : Nat) ({ cls := "FatPointerC", name := "expect", desc := "(I)V" } : Jvm.MethodName)) ∈ tables_1 := List.mem_of_getElem? (i := 125) rfl
theorem m_126 : (Jvm.Cond.instanceMethod ({ cls := "FatPointerC", name := "expect", desc := "(I)V" } : Jvm.MethodName)) ∈ tables_1 := List.mem_of_getElem? (i := 126) rfl
theorem m_127 : (Jvm.Cond.privateMethod ({ cls := "FatPointerC", name := "expect", desc := "(I)V" } : Jvm.MethodName)) ∈ tables_1 := List.mem_of_getElem? (i := 127) rfl
theorem m_128 : (Jvm.Cond.code ({ cls := "FatPointerC", name := "expect", desc := "(I)V" } : Jvm.MethodName) prog_1_method_20_code (2 : Nat) (Option.none : Option Jvm.ClassFile.FieldType)) ∈ tables_1 := List.mem_of_getElem? (i := 128) rfl
theorem m_129 : (Jvm.Cond.methodLink "FatPointerC" (192 : Nat) ({ cls := "FatPointerC", name := "kindAt", desc := "(I)I" } : Jvm.MethodName)) ∈ tables_1 := List.mem_of_getElem? (i := 129) rfl
theorem m_130 : (Jvm.Cond.instanceMethod ({ cls := "FatPointerC", name := "kindAt", desc := "(I)I" } : Jvm.MethodName)) ∈ tables_1 := List.mem_of_getElem? (i := 130) rfl
theorem m_131 : (Jvm.Cond.privateMethod ({ cls := "FatPointerC", name := "kindAt", desc := "(I)I" } : Jvm.MethodName)) ∈ tables_1 := List.mem_of_getElem? (i := 131) rfl
theorem m_132 : (Jvm.Cond.code ({ cls := "FatPointerC", name := "kindAt", desc := "(I)I" } : Jvm.MethodName) prog_1_method_16_code (2 : Nat) (Option.some Jvm.ClassFile.FieldType.int)) ∈ tables_1 := List.mem_of_getElem? (i := 132) rfl
theorem m_133 : (Jvm.Cond.methodLink "FatPointerC" (199 : Nat) ({ cls := "FatPointerC", name := "valAt", desc := "(I)I" } : Jvm.MethodName)) ∈ tables_1 := List.mem_of_getElem? (i := 133) rfl
theorem m_134 : (Jvm.Cond.instanceMethod ({ cls := "FatPointerC", name := "valAt", desc := "(I)I" } : Jvm.MethodName)) ∈ tables_1 := List.mem_of_getElem? (i := 134) rfl
theorem m_135 : (Jvm.Cond.privateMethod ({ cls := "FatPointerC", name := "valAt", desc := "(I)I" } : Jvm.MethodName)) ∈ tables_1 := List.mem_of_getElem? (i := 135) rfl
theorem m_136 : (Jvm.Cond.code ({ cls := "FatPointerC", name := "valAt", desc := "(I)I" } : Jvm.MethodName) prog_1_method_17_code (2 : Nat) (Option.some Jvm.ClassFile.FieldType.int)) ∈ tables_1 := List.mem_of_getElem? (i := 136) rfl
theorem m_137 : (Jvm.Cond.fieldLink "FatPointerC" (202 : Nat) "FatPointerC" "curFn" "I") ∈ tables_1 := List.mem_of_getElem? (i := 137) rfl
theorem m_138 : (Jvm.Cond.lays "FatPointerC" "FatPointerC" "curFn" "I") ∈ tables_1 := List.mem_of_getElem? (i := 138) rfl
theorem m_139 : (Jvm.Cond.methodLink "FatPointerC" (205 : Nat) ({ cls := "FatPointerC", name := "parseParams", desc := "()V" } : Jvm.MethodName)) ∈ tables_1 := List.mem_of_getElem? (i := 139) rfl
theorem m_140 : (Jvm.Cond.instanceMethod ({ cls := "FatPointerC", name := "parseParams", desc := "()V" } : Jvm.MethodName)) ∈ tables_1 := List.mem_of_getElem? (i := 140) rfl
theorem m_141 : (Jvm.Cond.privateMethod ({ cls := "FatPointerC", name := "parseParams", desc := "()V" } : Jvm.MethodName)) ∈ tables_1 := List.mem_of_getElem? (i := 141) rfl
theorem m_142 : (Jvm.Cond.code ({ cls := "FatPointerC", name := "parseParams", desc := "()V" } : Jvm.MethodName) prog_1_method_22_code (2 : Nat) (Option.none : Option Jvm.ClassFile.FieldType)) ∈ tables_1 := List.mem_of_getElem? (i := 142) rfl
theorem m_143 : (Jvm.Cond.methodLink "FatPointerC" (208 : Nat) ({ cls := "FatPointerC", name := "parseDecls", desc := "()V" } : Jvm.MethodName)) ∈ tables_1 := List.mem_of_getElem? (i := 143) rfl
theorem m_144 : (Jvm.Cond.instanceMethod ({ cls := "FatPointerC", name := "parseDecls", desc := "()V" } : Jvm.MethodName)) ∈ tables_1 := List.mem_of_getElem? (i := 144) rfl
theorem m_145 : (Jvm.Cond.privateMethod ({ cls := "FatPointerC", name := "parseDecls", desc := "()V" } : Jvm.MethodName)) ∈ tables_1 := List.mem_of_getElem? (i := 145) rfl
theorem m_146 : (Jvm.Cond.code ({ cls := "FatPointerC", name := "parseDecls", desc := "()V" } : Jvm.MethodName) prog_1_method_23_code (5 : Nat) (Option.none : Option Jvm.ClassFile.FieldType)) ∈ tables_1 := List.mem_of_getElem? (i := 146) rfl
theorem m_147 : (Jvm.Cond.methodLink "FatPointerC" (211 : Nat) ({ cls := "FatPointerC", name := "parseBody", desc := "()V" } : Jvm.MethodName)) ∈ tables_1 := List.mem_of_getElem? (i := 147) rfl
theorem m_148 : (Jvm.Cond.instanceMethod ({ cls := "FatPointerC", name := "parseBody", desc := "()V" } : Jvm.MethodName)) ∈ tables_1 := List.mem_of_getElem? (i := 148) rfl
theorem m_149 : (Jvm.Cond.privateMethod ({ cls := "FatPointerC", name := "parseBody", desc := "()V" } : Jvm.MethodName)) ∈ tables_1 := List.mem_of_getElem? (i := 149) rfl
theorem m_150 : (Jvm.Cond.code ({ cls := "FatPointerC", name := "parseBody", desc := "()V" } : Jvm.MethodName) prog_1_method_27_code (5 : Nat) (Option.none : Option Jvm.ClassFile.FieldType)) ∈ tables_1 := List.mem_of_getElem? (i := 150) rfl
theorem m_151 : (Jvm.Cond.methodLink "FatPointerC" (189 : Nat) ({ cls := "FatPointerC", name := "checkCalls", desc := "()Z" } : Jvm.MethodName)) ∈ tables_1 := List.mem_of_getElem? (i := 151) rfl
theorem m_152 : (Jvm.Cond.instanceMethod ({ cls := "FatPointerC", name := "checkCalls", desc := "()Z" } : Jvm.MethodName)) ∈ tables_1 := List.mem_of_getElem? (i := 152) rfl
theorem m_153 : (Jvm.Cond.privateMethod ({ cls := "FatPointerC", name := "checkCalls", desc := "()Z" } : Jvm.MethodName)) ∈ tables_1 := List.mem_of_getElem? (i := 153) rfl
theorem m_154 : (Jvm.Cond.code ({ cls := "FatPointerC", name := "checkCalls", desc := "()Z" } : Jvm.MethodName) prog_1_method_19_code (4 : Nat) (Option.some Jvm.ClassFile.FieldType.boolean)) ∈ tables_1 := List.mem_of_getElem? (i := 154) rfl
theorem m_155 : (Jvm.Cond.methodLink "FatPointerCL2" (20 : Nat) ({ cls := "FatPointerC", name := "run", desc := "()I" } : Jvm.MethodName)) ∈ tables_1 := List.mem_of_getElem? (i := 155) rfl
theorem m_156 : (Jvm.Cond.declares ({ cls := "FatPointerC", name := "run", desc := "()I" } : Jvm.MethodName)) ∈ tables_1 := List.mem_of_getElem? (i := 156) rfl
theorem m_157 : (Jvm.Cond.instanceMethod ({ cls := "FatPointerC", name := "run", desc := "()I" } : Jvm.MethodName)) ∈ tables_1 := List.mem_of_getElem? (i := 157) rfl
theorem m_158 : (Jvm.Cond.selects "FatPointerC" ({ cls := "FatPointerC", name := "run", desc := "()I" } : Jvm.MethodName) ({ cls := "FatPointerC", name := "run", desc := "()I" } : Jvm.MethodName)) ∈ tables_1 := List.mem_of_getElem? (i := 158) rfl
theorem m_159 : (Jvm.Cond.code ({ cls := "FatPointerC", name := "run", desc := "()I" } : Jvm.MethodName) prog_1_method_6_code (3 : Nat) (Option.some Jvm.ClassFile.FieldType.int)) ∈ tables_1 := List.mem_of_getElem? (i := 159) rfl
theorem m_160 : (Jvm.Cond.methodLink "FatPointerCL2" (24 : Nat) ({ cls := "FatPointerC", name := "tokenCount", desc := "()I" } : Jvm.MethodName)) ∈ tables_1 := List.mem_of_getElem? (i := 160) rfl
theorem m_161 : (Jvm.Cond.declares ({ cls := "FatPointerC", name := "tokenCount", desc := "()I" } : Jvm.MethodName)) ∈ tables_1 := List.mem_of_getElem? (i := 161) rfl
theorem m_162 : (Jvm.Cond.instanceMethod ({ cls := "FatPointerC", name := "tokenCount", desc := "()I" } : Jvm.MethodName)) ∈ tables_1 := List.mem_of_getElem? (i := 162) rfl
theorem m_163 : (Jvm.Cond.selects "FatPointerC" ({ cls := "FatPointerC", name := "tokenCount", desc := "()I" } : Jvm.MethodName) ({ cls := "FatPointerC", name := "tokenCount", desc := "()I" } : Jvm.MethodName)) ∈ tables_1 := List.mem_of_getElem? (i := 163) rfl
theorem m_164 : (Jvm.Cond.code ({ cls := "FatPointerC", name := "tokenCount", desc := "()I" } : Jvm.MethodName) prog_1_method_4_code (1 : Nat) (Option.some Jvm.ClassFile.FieldType.int)) ∈ tables_1 := List.mem_of_getElem? (i := 164) rfl
theorem m_165 : (Jvm.Cond.fieldLink "FatPointerC" (131 : Nat) "FatPointerC" "depth" "I") ∈ tables_1 := List.mem_of_getElem? (i := 165) rfl
theorem m_166 : (Jvm.Cond.lays "FatPointerC" "FatPointerC" "depth" "I") ∈ tables_1 := List.mem_of_getElem? (i := 166) rfl
theorem m_167 : (Jvm.Cond.fieldLink "FatPointerC" (134 : Nat) "FatPointerC" "liveCells" "I") ∈ tables_1 := List.mem_of_getElem? (i := 167) rfl
theorem m_168 : (Jvm.Cond.lays "FatPointerC" "FatPointerC" "liveCells" "I") ∈ tables_1 := List.mem_of_getElem? (i := 168) rfl
theorem m_169 : (Jvm.Cond.fieldLink "FatPointerC" (137 : Nat) "FatPointerC" "nextObj" "I") ∈ tables_1 := List.mem_of_getElem? (i := 169) rfl
theorem m_170 : (Jvm.Cond.lays "FatPointerC" "FatPointerC" "nextObj" "I") ∈ tables_1 := List.mem_of_getElem? (i := 170) rfl
theorem m_171 : (Jvm.Cond.fieldLink "FatPointerC" (140 : Nat) "FatPointerC" "fuel" "I") ∈ tables_1 := List.mem_of_getElem? (i := 171) rfl
theorem m_172 : (Jvm.Cond.lays "FatPointerC" "FatPointerC" "fuel" "I") ∈ tables_1 := List.mem_of_getElem? (i := 172) rfl
theorem m_173 : (Jvm.Cond.fieldLink "FatPointerC" (143 : Nat) "FatPointerC" "running" "Z") ∈ tables_1 := List.mem_of_getElem? (i := 173) rfl
theorem m_174 : (Jvm.Cond.lays "FatPointerC" "FatPointerC" "running" "Z") ∈ tables_1 := List.mem_of_getElem? (i := 174) rfl
theorem m_175 : (Jvm.Cond.methodLink "FatPointerC" (153 : Nat) ({ cls := "FatPointerC", name := "pushFrame", desc := "(III)V" } : Jvm.MethodName)) ∈ tables_1 := List.mem_of_getElem? (i := 175) rfl
theorem m_176 : (Jvm.Cond.instanceMethod ({ cls := "FatPointerC", name := "pushFrame", desc := "(III)V" } : Jvm.MethodName)) ∈ tables_1 := List.mem_of_getElem? (i := 176) rfl
theorem m_177 : (Jvm.Cond.privateMethod ({ cls := "FatPointerC", name := "pushFrame", desc := "(III)V" } : Jvm.MethodName)) ∈ tables_1 := List.mem_of_getElem? (i := 177) rfl
theorem m_178 : (Jvm.Cond.code ({ cls := "FatPointerC", name := "pushFrame", desc := "(III)V" } : Jvm.MethodName) prog_1_method_65_code (12 : Nat) (Option.none : Option Jvm.ClassFile.FieldType)) ∈ tables_1 := List.mem_of_getElem? (i := 178) rfl
theorem m_179 : (Jvm.Cond.constant "FatPointerC" (157 : Nat) (1048576 : Int32)) ∈ tables_1 := List.mem_of_getElem? (i := 179) rfl
theorem m_180 : (Jvm.Cond.methodLink "FatPointerC" (158 : Nat) ({ cls := "FatPointerC", name := "step", desc := "(I)I" } : Jvm.MethodName)) ∈ tables_1 := List.mem_of_getElem? (i := 180) rfl
theorem m_181 : (Jvm.Cond.instanceMethod ({ cls := "FatPointerC", name := "step", desc := "(I)I" } : Jvm.MethodName)) ∈ tables_1 := List.mem_of_getElem? (i := 181) rfl
theorem m_182 : (Jvm.Cond.privateMethod ({ cls := "FatPointerC", name := "step", desc := "(I)I" } : Jvm.MethodName)) ∈ tables_1 := List.mem_of_getElem? (i := 182) rfl
theorem m_183 : (Jvm.Cond.code ({ cls := "FatPointerC", name := "step", desc := "(I)I" } : Jvm.MethodName) prog_1_method_56_code (3 : Nat) (Option.some Jvm.ClassFile.FieldType.int)) ∈ tables_1 := List.mem_of_getElem? (i := 183) rfl
theorem m_184 : (Jvm.Cond.methodLink "FatPointerC" (320 : Nat) ({ cls := "FatPointerC", name := "execRbrace", desc := "(I)I" } : Jvm.MethodName)) ∈ tables_1 := List.mem_of_getElem? (i := 184) rfl
theorem m_185 : (Jvm.Cond.instanceMethod ({ cls := "FatPointerC", name := "execRbrace", desc := "(I)I" } : Jvm.MethodName)) ∈ tables_1 := List.mem_of_getElem? (i := 185) rfl
theorem m_186 : (Jvm.Cond.privateMethod ({ cls := "FatPointerC", name := "execRbrace", desc := "(I)I" } : Jvm.MethodName)) ∈ tables_1 := List.mem_of_getElem? (i := 186) rfl
theorem m_187 : (Jvm.Cond.code ({ cls := "FatPointerC", name := "execRbrace", desc := "(I)I" } : Jvm.MethodName) prog_1_method_63_code (3 : Nat) (Option.some Jvm.ClassFile.FieldType.int)) ∈ tables_1 := List.mem_of_getElem? (i := 187) rfl
theorem m_188 : (Jvm.Cond.methodLink "FatPointerC" (335 : Nat) ({ cls := "FatPointerC", name := "doReturn", desc := "(III)I" } : Jvm.MethodName)) ∈ tables_1 := List.mem_of_getElem? (i := 188) rfl
theorem m_189 : (Jvm.Cond.instanceMethod ({ cls := "FatPointerC", name := "doReturn", desc := "(III)I" } : Jvm.MethodName)) ∈ tables_1 := List.mem_of_getElem? (i := 189) rfl
theorem m_190 : (Jvm.Cond.privateMethod ({ cls := "FatPointerC", name := "doReturn", desc := "(III)I" } : Jvm.MethodName)) ∈ tables_1 := List.mem_of_getElem? (i := 190) rfl
theorem m_191 : (Jvm.Cond.code ({ cls := "FatPointerC", name := "doReturn", desc := "(III)I" } : Jvm.MethodName) prog_1_method_66_code (7 : Nat) (Option.some Jvm.ClassFile.FieldType.int)) ∈ tables_1 := List.mem_of_getElem? (i := 191) rfl
theorem laid0 {Z : State} {a0 : Array Value} (hw : HW a0 Z) : LaidAll Z a0 CN lay vs0 :=
  ⟨⟨Or.inl (hw _ m_78), .int, by decide, rfl⟩, ⟨Or.inl (hw _ m_80), .int, by decide, rfl⟩, ⟨Or.inl (hw _ m_105), .int, by decide, rfl⟩, ⟨Or.inl (hw _ m_11), .array .int, by decide, rfl⟩, ⟨Or.inl (hw _ m_13), .array .int, by decide, rfl⟩, ⟨Or.inl (hw _ m_107), .boolean, by decide, rfl⟩, ⟨Or.inl (hw _ m_86), .int, by decide, rfl⟩, ⟨Or.inl (hw _ m_88), .int, by decide, rfl⟩, ⟨Or.inl (hw _ m_90), .int, by decide, rfl⟩, ⟨Or.inl (hw _ m_92), .int, by decide, rfl⟩, ⟨Or.inl (hw _ m_94), .int, by decide, rfl⟩, ⟨Or.inl (hw _ m_96), .int, by decide, rfl⟩, ⟨Or.inl (hw _ m_98), .int, by decide, rfl⟩, ⟨Or.inl (hw _ m_15), .array .int, by decide, rfl⟩, ⟨Or.inl (hw _ m_18), .array .boolean, by decide, rfl⟩, ⟨Or.inl (hw _ m_20), .array .int, by decide, rfl⟩, ⟨Or.inl (hw _ m_22), .array .int, by decide, rfl⟩, ⟨Or.inl (hw _ m_24), .array .int, by decide, rfl⟩, ⟨Or.inl (hw _ m_26), .array .int, by decide, rfl⟩, ⟨Or.inl (hw _ m_28), .array .int, by decide, rfl⟩, ⟨Or.inl (hw _ m_30), .array .int, by decide, rfl⟩, ⟨Or.inl (hw _ m_32), .array .boolean, by decide, rfl⟩, ⟨Or.inl (hw _ m_34), .array .int, by decide, rfl⟩, ⟨Or.inl (hw _ m_36), .array .int, by decide, rfl⟩, ⟨Or.inl (hw _ m_38), .array .int, by decide, rfl⟩, ⟨Or.inl (hw _ m_40), .array .int, by decide, rfl⟩, ⟨Or.inl (hw _ m_120), .int, by decide, rfl⟩, ⟨Or.inl (hw _ m_118), .boolean, by decide, rfl⟩, ⟨Or.inl (hw _ m_138), .int, by decide, rfl⟩, ⟨Or.inl (hw _ m_42), .array .int, by decide, rfl⟩, ⟨Or.inl (hw _ m_44), .array .int, by decide, rfl⟩, ⟨Or.inl (hw _ m_46), .array .int, by decide, rfl⟩, ⟨Or.inl (hw _ m_48), .array .int, by decide, rfl⟩, ⟨Or.inl (hw _ m_50), .array .int, by decide, rfl⟩, ⟨Or.inl (hw _ m_52), .array .int, by decide, rfl⟩, ⟨Or.inl (hw _ m_54), .array .boolean, by decide, rfl⟩, ⟨Or.inl (hw _ m_170), .int, by decide, rfl⟩, ⟨Or.inl (hw _ m_56), .array .int, by decide, rfl⟩, ⟨Or.inl (hw _ m_58), .array .int, by decide, rfl⟩, ⟨Or.inl (hw _ m_60), .array .int, by decide, rfl⟩, ⟨Or.inl (hw _ m_62), .array .int, by decide, rfl⟩, ⟨Or.inl (hw _ m_64), .array .int, by decide, rfl⟩, ⟨Or.inl (hw _ m_166), .int, by decide, rfl⟩, ⟨Or.inl (hw _ m_168), .int, by decide, rfl⟩, ⟨Or.inl (hw _ m_172), .int, by decide, rfl⟩, ⟨Or.inl (hw _ m_174), .boolean, by decide, rfl⟩, ⟨Or.inl (hw _ m_66), .array .int, by decide, rfl⟩, ⟨Or.inl (hw _ m_68), .array .int, by decide, rfl⟩, ⟨Or.inl (hw _ m_70), .array .int, by decide, rfl⟩, ⟨Or.inl (hw _ m_72), .array .int, by decide, rfl⟩, ⟨Or.inl (hw _ m_74), .array .int, by decide, rfl⟩, ⟨Or.inl (hw _ m_76), .array .int, by decide, rfl⟩, trivial⟩
theorem hlay {Z : State} {a0 : Array Value} (hw : HW a0 Z) : ∀ (a b : Nat) (f g : String × String), lay[a]? = some f → lay[b]? = some g → a ≠ b → RoadKit.slotOf Z CN f.1 f.2 ≠ RoadKit.slotOf Z CN g.1 g.2 := (laid0 hw).ne (by decide)
theorem vs0_ok {Z : State} {a0 : Array Value} (hw : HW a0 Z) : ∀ (i : Nat) (f : String × String) (v : Value), lay[i]? = some f → vs0[i]? = some v → Laid Z a0 CN CN f.1 f.2 ∧ ∃ ty, parseFieldDescriptor f.2 = some ty ∧ v = defaultValue ty := (laid0 hw).new
theorem pn_cls : plainName CN = true := by first | (simp [plainName, overriddenIn]; done) | decide +kernel
theorem pn_law : plainName "FatPointerCL2" = true := by first | (simp [plainName, overriddenIn]; done) | decide +kernel
theorem d1_0 : dc prog_1_method_15_code 0 (.aload_n 0) 1 := by decide +kernel
theorem d1_1 : dc prog_1_method_15_code 1 (.iconst (-1)) 1 := by decide +kernel
theorem d1_2 : dc prog_1_method_15_code 2 (.putfield 150) 3 := by decide +kernel
theorem d1_5 : dc prog_1_method_15_code 5 (.aload_n 0) 1 := by decide +kernel
theorem d1_6 : dc prog_1_method_15_code 6 (.iconst (-1)) 1 := by decide +kernel
theorem d1_7 : dc prog_1_method_15_code 7 (.putfield 162) 3 := by decide +kernel
theorem d1_10 : dc prog_1_method_15_code 10 (.aload_n 0) 1 := by decide +kernel
theorem d1_11 : dc prog_1_method_15_code 11 (.iconst 0) 1 := by decide +kernel
theorem d1_12 : dc prog_1_method_15_code 12 (.putfield 165) 3 := by decide +kernel
theorem d1_15 : dc prog_1_method_15_code 15 (.aload_n 0) 1 := by decide +kernel
theorem d1_16 : dc prog_1_method_15_code 16 (.iconst (-1)) 1 := by decide +kernel
theorem d1_17 : dc prog_1_method_15_code 17 (.putfield 168) 3 := by decide +kernel
theorem d1_20 : dc prog_1_method_15_code 20 (.aload_n 0) 1 := by decide +kernel
theorem d1_21 : dc prog_1_method_15_code 21 (.iconst 0) 1 := by decide +kernel
theorem d1_22 : dc prog_1_method_15_code 22 (.putfield 171) 3 := by decide +kernel
theorem d1_25 : dc prog_1_method_15_code 25 (.aload_n 0) 1 := by decide +kernel
theorem d1_26 : dc prog_1_method_15_code 26 (.iconst 0) 1 := by decide +kernel
theorem d1_27 : dc prog_1_method_15_code 27 (.putfield 174) 3 := by decide +kernel
theorem d1_30 : dc prog_1_method_15_code 30 (.aload_n 0) 1 := by decide +kernel
theorem d1_31 : dc prog_1_method_15_code 31 (.iconst 0) 1 := by decide +kernel
theorem d1_32 : dc prog_1_method_15_code 32 (.putfield 177) 3 := by decide +kernel
theorem d1_35 : dc prog_1_method_15_code 35 (.return_) 1 := by decide +kernel
abbrev y1 : MethodName := ⟨"FatPointerC", "clearResults", "()V"⟩
theorem hy1 : y1.cls ≠ "java/lang/invoke/MethodHandle" ∧ y1.cls ≠ "java/lang/invoke/VarHandle" := by decide
theorem pd1 : parseMethodDescriptor y1.desc = some ⟨[], none⟩ := by decide +kernel
abbrev R1 : Room := { frames := 0, cells := 0, slots := 0, locals := 0 }
abbrev P1 (r : St) : Option Value → List OwnC → Prop := fun v H' => v = none ∧ H' = (Hb 0 r)
abbrev W1 (l : Launch) (Z : State) (n0 : Nat) (Q : Option Value → List OwnC → Prop) (k n pc : Nat) (L : List Slot) (S : List Value) (H : List OwnC) : Prop := WP l Z CN lay "FatPointerC" "clearResults" prog_1_method_15_code 1 (none) R1 n0 0 Q k n pc L S H
def f_clearResults (s : St) : Option (St) :=
  lt (sI s 4 (-1 : Int32)) fun s1 =>
  lt (sI s1 5 (-1 : Int32)) fun s2 =>
  lt (sI s2 6 (0 : Int32)) fun s3 =>
  lt (sI s3 7 (-1 : Int32)) fun s4 =>
  lt (sI s4 8 (0 : Int32)) fun s5 =>
  lt (sI s5 9 (0 : Int32)) fun s6 =>
  lt (sI s6 10 (0 : Int32)) fun s7 =>
  some s7
set_option maxRecDepth 65536 in
set_option maxHeartbeats 4000000 in
theorem ok1 (l : Launch) (Z : State) (a0 : Array Value) (hw : HW a0 Z) (s : St) (r : St) (h : f_clearResults s = some r) : CS l Z CN lay y1 prog_1_method_15_code 1 (none) R1 0 [.ref 0] (Hb 0 s) (P1 r) := by
  refine CS.of_wp pn_cls (leb rfl) fun n0 => ?_
  show W1 l Z n0 (P1 r) 0 0 0 [.val (.ref 0)] [] (Hb 0 s)
  unfold f_clearResults at h
  refine WP.aloadN d1_0 rfl ?_
  refine WP.iconst (-1 : Int32) d1_1 rfl ?_
  obtain ⟨s1, es1, h⟩ := lt_e h
  refine WP.putI (i := 0) (j := 6) (H' := (Hb 0 s1)) d1_2 (hw _ m_85) (Or.inl (hw _ m_86)) (hw _ m_1) (hlay hw) rfl rfl rfl (leb rfl) (by subst es1; rfl) ?_
  refine WP.aloadN d1_5 rfl ?_
  refine WP.iconst (-1 : Int32) d1_6 rfl ?_
  obtain ⟨s2, es2, h⟩ := lt_e h
  refine WP.putI (i := 0) (j := 7) (H' := (Hb 0 s2)) d1_7 (hw _ m_87) (Or.inl (hw _ m_88)) (hw _ m_1) (hlay hw) rfl rfl rfl (leb rfl) (by subst es2; rfl) ?_
  refine WP.aloadN d1_10 rfl ?_
  refine WP.iconst (0 : Int32) d1_11 rfl ?_
  obtain ⟨s3, es3, h⟩ := lt_e h
  refine WP.putI (i := 0) (j := 8) (H' := (Hb 0 s3)) d1_12 (hw _ m_89) (Or.inl (hw _ m_90)) (hw _ m_1) (hlay hw) rfl rfl rfl (leb rfl) (by subst es3; rfl) ?_
  refine WP.aloadN d1_15 rfl ?_
  refine WP.iconst (-1 : Int32) d1_16 rfl ?_
  obtain ⟨s4, es4, h⟩ := lt_e h
  refine WP.putI (i := 0) (j := 9) (H' := (Hb 0 s4)) d1_17 (hw _ m_91) (Or.inl (hw _ m_92)) (hw _ m_1) (hlay hw) rfl rfl rfl (leb rfl) (by subst es4; rfl) ?_
  refine WP.aloadN d1_20 rfl ?_
  refine WP.iconst (0 : Int32) d1_21 rfl ?_
  obtain ⟨s5, es5, h⟩ := lt_e h
  refine WP.putI (i := 0) (j := 10) (H' := (Hb 0 s5)) d1_22 (hw _ m_93) (Or.inl (hw _ m_94)) (hw _ m_1) (hlay hw) rfl rfl rfl (leb rfl) (by subst es5; rfl) ?_
  refine WP.aloadN d1_25 rfl ?_
  refine WP.iconst (0 : Int32) d1_26 rfl ?_
  obtain ⟨s6, es6, h⟩ := lt_e h
  refine WP.putI (i := 0) (j := 11) (H' := (Hb 0 s6)) d1_27 (hw _ m_95) (Or.inl (hw _ m_96)) (hw _ m_1) (hlay hw) rfl rfl rfl (leb rfl) (by subst es6; rfl) ?_
  refine WP.aloadN d1_30 rfl ?_
  refine WP.iconst (0 : Int32) d1_31 rfl ?_
  obtain ⟨s7, es7, h⟩ := lt_e h
  refine WP.putI (i := 0) (j := 12) (H' := (Hb 0 s7)) d1_32 (hw _ m_97) (Or.inl (hw _ m_98)) (hw _ m_1) (hlay hw) rfl rfl rfl (leb rfl) (by subst es7; rfl) ?_
  cases h
  exact WP.vreturn d1_35 rfl (leb rfl) (leb rfl) ⟨rfl, rfl⟩
theorem d0_0 : dc prog_1_method_1_code 0 (.aload_n 0) 1 := by decide +kernel
theorem d0_1 : dc prog_1_method_1_code 1 (.invokespecial 1) 3 := by decide +kernel
theorem d0_4 : dc prog_1_method_1_code 4 (.aload_n 0) 1 := by decide +kernel
theorem d0_5 : dc prog_1_method_1_code 5 (.sipush 256) 3 := by decide +kernel
theorem d0_8 : dc prog_1_method_1_code 8 (.newarray .int) 2 := by decide +kernel
theorem d0_10 : dc prog_1_method_1_code 10 (.putfield 7) 3 := by decide +kernel
theorem d0_13 : dc prog_1_method_1_code 13 (.aload_n 0) 1 := by decide +kernel
theorem d0_14 : dc prog_1_method_1_code 14 (.sipush 256) 3 := by decide +kernel
theorem d0_17 : dc prog_1_method_1_code 17 (.newarray .int) 2 := by decide +kernel
theorem d0_19 : dc prog_1_method_1_code 19 (.putfield 13) 3 := by decide +kernel
theorem d0_22 : dc prog_1_method_1_code 22 (.aload_n 0) 1 := by decide +kernel
theorem d0_23 : dc prog_1_method_1_code 23 (.bipush 16) 2 := by decide +kernel
theorem d0_25 : dc prog_1_method_1_code 25 (.newarray .int) 2 := by decide +kernel
theorem d0_27 : dc prog_1_method_1_code 27 (.putfield 16) 3 := by decide +kernel
theorem d0_30 : dc prog_1_method_1_code 30 (.aload_n 0) 1 := by decide +kernel
theorem d0_31 : dc prog_1_method_1_code 31 (.iconst 4) 1 := by decide +kernel
theorem d0_32 : dc prog_1_method_1_code 32 (.newarray .boolean) 2 := by decide +kernel
theorem d0_34 : dc prog_1_method_1_code 34 (.putfield 19) 3 := by decide +kernel
theorem d0_37 : dc prog_1_method_1_code 37 (.aload_n 0) 1 := by decide +kernel
theorem d0_38 : dc prog_1_method_1_code 38 (.iconst 4) 1 := by decide +kernel
theorem d0_39 : dc prog_1_method_1_code 39 (.newarray .int) 2 := by decide +kernel
theorem d0_41 : dc prog_1_method_1_code 41 (.putfield 23) 3 := by decide +kernel
theorem d0_44 : dc prog_1_method_1_code 44 (.aload_n 0) 1 := by decide +kernel
theorem d0_45 : dc prog_1_method_1_code 45 (.iconst 4) 1 := by decide +kernel
theorem d0_46 : dc prog_1_method_1_code 46 (.newarray .int) 2 := by decide +kernel
theorem d0_48 : dc prog_1_method_1_code 48 (.putfield 26) 3 := by decide +kernel
theorem d0_51 : dc prog_1_method_1_code 51 (.aload_n 0) 1 := by decide +kernel
theorem d0_52 : dc prog_1_method_1_code 52 (.iconst 4) 1 := by decide +kernel
theorem d0_53 : dc prog_1_method_1_code 53 (.newarray .int) 2 := by decide +kernel
theorem d0_55 : dc prog_1_method_1_code 55 (.putfield 29) 3 := by decide +kernel
theorem d0_58 : dc prog_1_method_1_code 58 (.aload_n 0) 1 := by decide +kernel
theorem d0_59 : dc prog_1_method_1_code 59 (.iconst 4) 1 := by decide +kernel
theorem d0_60 : dc prog_1_method_1_code 60 (.newarray .int) 2 := by decide +kernel
theorem d0_62 : dc prog_1_method_1_code 62 (.putfield 32) 3 := by decide +kernel
theorem d0_65 : dc prog_1_method_1_code 65 (.aload_n 0) 1 := by decide +kernel
theorem d0_66 : dc prog_1_method_1_code 66 (.iconst 4) 1 := by decide +kernel
theorem d0_67 : dc prog_1_method_1_code 67 (.newarray .int) 2 := by decide +kernel
theorem d0_69 : dc prog_1_method_1_code 69 (.putfield 35) 3 := by decide +kernel
theorem d0_72 : dc prog_1_method_1_code 72 (.aload_n 0) 1 := by decide +kernel
theorem d0_73 : dc prog_1_method_1_code 73 (.bipush 32) 2 := by decide +kernel
theorem d0_75 : dc prog_1_method_1_code 75 (.newarray .int) 2 := by decide +kernel
theorem d0_77 : dc prog_1_method_1_code 77 (.putfield 38) 3 := by decide +kernel
theorem d0_80 : dc prog_1_method_1_code 80 (.aload_n 0) 1 := by decide +kernel
theorem d0_81 : dc prog_1_method_1_code 81 (.bipush 32) 2 := by decide +kernel
theorem d0_83 : dc prog_1_method_1_code 83 (.newarray .boolean) 2 := by decide +kernel
theorem d0_85 : dc prog_1_method_1_code 85 (.putfield 41) 3 := by decide +kernel
theorem d0_88 : dc prog_1_method_1_code 88 (.aload_n 0) 1 := by decide +kernel
theorem d0_89 : dc prog_1_method_1_code 89 (.bipush 32) 2 := by decide +kernel
theorem d0_91 : dc prog_1_method_1_code 91 (.newarray .int) 2 := by decide +kernel
theorem d0_93 : dc prog_1_method_1_code 93 (.putfield 44) 3 := by decide +kernel
theorem d0_96 : dc prog_1_method_1_code 96 (.aload_n 0) 1 := by decide +kernel
theorem d0_97 : dc prog_1_method_1_code 97 (.sipush 256) 3 := by decide +kernel
theorem d0_100 : dc prog_1_method_1_code 100 (.newarray .int) 2 := by decide +kernel
theorem d0_102 : dc prog_1_method_1_code 102 (.putfield 47) 3 := by decide +kernel
theorem d0_105 : dc prog_1_method_1_code 105 (.aload_n 0) 1 := by decide +kernel
theorem d0_106 : dc prog_1_method_1_code 106 (.sipush 256) 3 := by decide +kernel
theorem d0_109 : dc prog_1_method_1_code 109 (.newarray .int) 2 := by decide +kernel
theorem d0_111 : dc prog_1_method_1_code 111 (.putfield 50) 3 := by decide +kernel
theorem d0_114 : dc prog_1_method_1_code 114 (.aload_n 0) 1 := by decide +kernel
theorem d0_115 : dc prog_1_method_1_code 115 (.sipush 256) 3 := by decide +kernel
theorem d0_118 : dc prog_1_method_1_code 118 (.newarray .int) 2 := by decide +kernel
theorem d0_120 : dc prog_1_method_1_code 120 (.putfield 53) 3 := by decide +kernel
theorem d0_123 : dc prog_1_method_1_code 123 (.aload_n 0) 1 := by decide +kernel
theorem d0_124 : dc prog_1_method_1_code 124 (.bipush 16) 2 := by decide +kernel
theorem d0_126 : dc prog_1_method_1_code 126 (.newarray .int) 2 := by decide +kernel
theorem d0_128 : dc prog_1_method_1_code 128 (.putfield 56) 3 := by decide +kernel
theorem d0_131 : dc prog_1_method_1_code 131 (.aload_n 0) 1 := by decide +kernel
theorem d0_132 : dc prog_1_method_1_code 132 (.bipush 64) 2 := by decide +kernel
theorem d0_134 : dc prog_1_method_1_code 134 (.newarray .int) 2 := by decide +kernel
theorem d0_136 : dc prog_1_method_1_code 136 (.putfield 59) 3 := by decide +kernel
theorem d0_139 : dc prog_1_method_1_code 139 (.aload_n 0) 1 := by decide +kernel
theorem d0_140 : dc prog_1_method_1_code 140 (.bipush 64) 2 := by decide +kernel
theorem d0_142 : dc prog_1_method_1_code 142 (.newarray .int) 2 := by decide +kernel
theorem d0_144 : dc prog_1_method_1_code 144 (.putfield 62) 3 := by decide +kernel
theorem d0_147 : dc prog_1_method_1_code 147 (.aload_n 0) 1 := by decide +kernel
theorem d0_148 : dc prog_1_method_1_code 148 (.bipush 64) 2 := by decide +kernel
theorem d0_150 : dc prog_1_method_1_code 150 (.newarray .int) 2 := by decide +kernel
theorem d0_152 : dc prog_1_method_1_code 152 (.putfield 65) 3 := by decide +kernel
theorem d0_155 : dc prog_1_method_1_code 155 (.aload_n 0) 1 := by decide +kernel
theorem d0_156 : dc prog_1_method_1_code 156 (.sipush 4096) 3 := by decide +kernel
theorem d0_159 : dc prog_1_method_1_code 159 (.newarray .int) 2 := by decide +kernel
theorem d0_161 : dc prog_1_method_1_code 161 (.putfield 68) 3 := by decide +kernel
theorem d0_164 : dc prog_1_method_1_code 164 (.aload_n 0) 1 := by decide +kernel
theorem d0_165 : dc prog_1_method_1_code 165 (.sipush 4096) 3 := by decide +kernel
theorem d0_168 : dc prog_1_method_1_code 168 (.newarray .int) 2 := by decide +kernel
theorem d0_170 : dc prog_1_method_1_code 170 (.putfield 71) 3 := by decide +kernel
theorem d0_173 : dc prog_1_method_1_code 173 (.aload_n 0) 1 := by decide +kernel
theorem d0_174 : dc prog_1_method_1_code 174 (.sipush 4096) 3 := by decide +kernel
theorem d0_177 : dc prog_1_method_1_code 177 (.newarray .boolean) 2 := by decide +kernel
theorem d0_179 : dc prog_1_method_1_code 179 (.putfield 74) 3 := by decide +kernel
theorem d0_182 : dc prog_1_method_1_code 182 (.aload_n 0) 1 := by decide +kernel
theorem d0_183 : dc prog_1_method_1_code 183 (.bipush 8) 2 := by decide +kernel
theorem d0_185 : dc prog_1_method_1_code 185 (.newarray .int) 2 := by decide +kernel
theorem d0_187 : dc prog_1_method_1_code 187 (.putfield 77) 3 := by decide +kernel
theorem d0_190 : dc prog_1_method_1_code 190 (.aload_n 0) 1 := by decide +kernel
theorem d0_191 : dc prog_1_method_1_code 191 (.bipush 8) 2 := by decide +kernel
theorem d0_193 : dc prog_1_method_1_code 193 (.newarray .int) 2 := by decide +kernel
theorem d0_195 : dc prog_1_method_1_code 195 (.putfield 80) 3 := by decide +kernel
theorem d0_198 : dc prog_1_method_1_code 198 (.aload_n 0) 1 := by decide +kernel
theorem d0_199 : dc prog_1_method_1_code 199 (.bipush 8) 2 := by decide +kernel
theorem d0_201 : dc prog_1_method_1_code 201 (.newarray .int) 2 := by decide +kernel
theorem d0_203 : dc prog_1_method_1_code 203 (.putfield 83) 3 := by decide +kernel
theorem d0_206 : dc prog_1_method_1_code 206 (.aload_n 0) 1 := by decide +kernel
theorem d0_207 : dc prog_1_method_1_code 207 (.bipush 8) 2 := by decide +kernel
theorem d0_209 : dc prog_1_method_1_code 209 (.newarray .int) 2 := by decide +kernel
theorem d0_211 : dc prog_1_method_1_code 211 (.putfield 86) 3 := by decide +kernel
theorem d0_214 : dc prog_1_method_1_code 214 (.aload_n 0) 1 := by decide +kernel
theorem d0_215 : dc prog_1_method_1_code 215 (.bipush 8) 2 := by decide +kernel
theorem d0_217 : dc prog_1_method_1_code 217 (.newarray .int) 2 := by decide +kernel
theorem d0_219 : dc prog_1_method_1_code 219 (.putfield 89) 3 := by decide +kernel
theorem d0_222 : dc prog_1_method_1_code 222 (.aload_n 0) 1 := by decide +kernel
theorem d0_223 : dc prog_1_method_1_code 223 (.iconst 4) 1 := by decide +kernel
theorem d0_224 : dc prog_1_method_1_code 224 (.newarray .int) 2 := by decide +kernel
theorem d0_226 : dc prog_1_method_1_code 226 (.putfield 92) 3 := by decide +kernel
theorem d0_229 : dc prog_1_method_1_code 229 (.aload_n 0) 1 := by decide +kernel
theorem d0_230 : dc prog_1_method_1_code 230 (.iconst 4) 1 := by decide +kernel
theorem d0_231 : dc prog_1_method_1_code 231 (.newarray .int) 2 := by decide +kernel
theorem d0_233 : dc prog_1_method_1_code 233 (.putfield 95) 3 := by decide +kernel
theorem d0_236 : dc prog_1_method_1_code 236 (.aload_n 0) 1 := by decide +kernel
theorem d0_237 : dc prog_1_method_1_code 237 (.iconst 4) 1 := by decide +kernel
theorem d0_238 : dc prog_1_method_1_code 238 (.newarray .int) 2 := by decide +kernel
theorem d0_240 : dc prog_1_method_1_code 240 (.putfield 98) 3 := by decide +kernel
theorem d0_243 : dc prog_1_method_1_code 243 (.aload_n 0) 1 := by decide +kernel
theorem d0_244 : dc prog_1_method_1_code 244 (.bipush 8) 2 := by decide +kernel
theorem d0_246 : dc prog_1_method_1_code 246 (.newarray .int) 2 := by decide +kernel
theorem d0_248 : dc prog_1_method_1_code 248 (.putfield 101) 3 := by decide +kernel
theorem d0_251 : dc prog_1_method_1_code 251 (.aload_n 0) 1 := by decide +kernel
theorem d0_252 : dc prog_1_method_1_code 252 (.bipush 8) 2 := by decide +kernel
theorem d0_254 : dc prog_1_method_1_code 254 (.newarray .int) 2 := by decide +kernel
theorem d0_256 : dc prog_1_method_1_code 256 (.putfield 104) 3 := by decide +kernel
theorem d0_259 : dc prog_1_method_1_code 259 (.aload_n 0) 1 := by decide +kernel
theorem d0_260 : dc prog_1_method_1_code 260 (.bipush 8) 2 := by decide +kernel
theorem d0_262 : dc prog_1_method_1_code 262 (.newarray .int) 2 := by decide +kernel
theorem d0_264 : dc prog_1_method_1_code 264 (.putfield 107) 3 := by decide +kernel
theorem d0_267 : dc prog_1_method_1_code 267 (.iload_n 1) 1 := by decide +kernel
theorem d0_268 : dc prog_1_method_1_code 268 (.istore_n 3) 1 := by decide +kernel
theorem d0_269 : dc prog_1_method_1_code 269 (.iload_n 3) 1 := by decide +kernel
theorem d0_270 : dc prog_1_method_1_code 270 (.bipush 8) 2 := by decide +kernel
theorem d0_272 : dc prog_1_method_1_code 272 (.if_icmp .ge 6) 3 := by decide +kernel
theorem d0_275 : dc prog_1_method_1_code 275 (.bipush 8) 2 := by decide +kernel
theorem d0_277 : dc prog_1_method_1_code 277 (.istore_n 3) 1 := by decide +kernel
theorem d0_278 : dc prog_1_method_1_code 278 (.iload_n 3) 1 := by decide +kernel
theorem d0_279 : dc prog_1_method_1_code 279 (.bipush 64) 2 := by decide +kernel
theorem d0_281 : dc prog_1_method_1_code 281 (.if_icmp .le 6) 3 := by decide +kernel
theorem d0_284 : dc prog_1_method_1_code 284 (.bipush 64) 2 := by decide +kernel
theorem d0_286 : dc prog_1_method_1_code 286 (.istore_n 3) 1 := by decide +kernel
theorem d0_287 : dc prog_1_method_1_code 287 (.aload_n 0) 1 := by decide +kernel
theorem d0_288 : dc prog_1_method_1_code 288 (.iload_n 3) 1 := by decide +kernel
theorem d0_289 : dc prog_1_method_1_code 289 (.putfield 110) 3 := by decide +kernel
theorem d0_292 : dc prog_1_method_1_code 292 (.iload_n 2) 1 := by decide +kernel
theorem d0_293 : dc prog_1_method_1_code 293 (.istore 4) 2 := by decide +kernel
theorem d0_295 : dc prog_1_method_1_code 295 (.iload 4) 2 := by decide +kernel
theorem d0_297 : dc prog_1_method_1_code 297 (.iconst 1) 1 := by decide +kernel
theorem d0_298 : dc prog_1_method_1_code 298 (.if_icmp .ge 6) 3 := by decide +kernel
theorem d0_301 : dc prog_1_method_1_code 301 (.iconst 1) 1 := by decide +kernel
theorem d0_302 : dc prog_1_method_1_code 302 (.istore 4) 2 := by decide +kernel
theorem d0_304 : dc prog_1_method_1_code 304 (.iload 4) 2 := by decide +kernel
theorem d0_306 : dc prog_1_method_1_code 306 (.bipush 8) 2 := by decide +kernel
theorem d0_308 : dc prog_1_method_1_code 308 (.if_icmp .le 7) 3 := by decide +kernel
theorem d0_311 : dc prog_1_method_1_code 311 (.bipush 8) 2 := by decide +kernel
theorem d0_313 : dc prog_1_method_1_code 313 (.istore 4) 2 := by decide +kernel
theorem d0_315 : dc prog_1_method_1_code 315 (.aload_n 0) 1 := by decide +kernel
theorem d0_316 : dc prog_1_method_1_code 316 (.iload 4) 2 := by decide +kernel
theorem d0_318 : dc prog_1_method_1_code 318 (.putfield 114) 3 := by decide +kernel
theorem d0_321 : dc prog_1_method_1_code 321 (.aload_n 0) 1 := by decide +kernel
theorem d0_322 : dc prog_1_method_1_code 322 (.invokevirtual 117) 3 := by decide +kernel
theorem d0_325 : dc prog_1_method_1_code 325 (.return_) 1 := by decide +kernel
abbrev y0 : MethodName := ⟨"FatPointerC", "<init>", "(II)V"⟩
theorem hy0 : y0.cls ≠ "java/lang/invoke/MethodHandle" ∧ y0.cls ≠ "java/lang/invoke/VarHandle" := by decide
theorem pd0 : parseMethodDescriptor y0.desc = some ⟨[.int, .int], none⟩ := by decide +kernel
abbrev R0 : Room := { frames := 1, cells := 33, slots := 13988, locals := 12 }
abbrev P0 (r : St) : Option Value → List OwnC → Prop := fun v H' => v = none ∧ H' = (Hb 0 r)
abbrev W0 (l : Launch) (Z : State) (n0 : Nat) (Q : Option Value → List OwnC → Prop) (k n pc : Nat) (L : List Slot) (S : List Value) (H : List OwnC) : Prop := WP l Z CN lay "FatPointerC" "<init>" prog_1_method_1_code 5 (none) R0 n0 0 Q k n pc L S H
def f_init_315 (v4 : Int32) (s : St) : Option (St) :=
  lt (sI s 1 v4) fun s1 =>
  (f_clearResults s1).bind fun c2 =>
  some c2
set_option maxRecDepth 65536 in
set_option maxHeartbeats 4000000 in
theorem ok0_315 (l : Launch) (Z : State) (a0 : Array Value) (hw : HW a0 Z) (n0 : Nat) (v4 : Int32) (s : St) (r : St) (h : f_init_315 v4 s = some r) : W0 l Z n0 (P0 r) 33 13988 315 [.val (.ref 0), .unset, .unset, .unset, .val (.int v4)] [] (Hb 0 s) := by
  unfold f_init_315 at h
  refine WP.aloadN d0_315 rfl ?_
  refine WP.iload d0_316 rfl ?_
  obtain ⟨s1, es1, h⟩ := lt_e h
  refine WP.putI (i := 0) (j := 1) (H' := (Hb 0 s1)) d0_318 (hw _ m_79) (Or.inl (hw _ m_80)) (hw _ m_1) (hlay hw) rfl rfl rfl (leb rfl) (by subst es1; rfl) ?_
  refine WP.aloadN d0_321 rfl ?_
  obtain ⟨c2, hc2, h⟩ := Option.bind_eq_some_iff.mp h
  refine WP.callP (i := 0) (y := y1) (as := []) (S := []) d0_322 (hw _ m_81) (hw _ m_83) (hw _ m_1) (hw _ m_82) (hw _ m_84) (hw _ m_2) hy1 rfl (ok1 l Z a0 hw s1 _ hc2) rfl (lenOf pd1 rfl) (leb rfl) (leb rfl) (leb rfl) (leb rfl) ?_
  rintro _ _ ⟨rfl, rfl⟩
  show W0 l Z n0 (P0 r) 33 13988 325 [.val (.ref 0), .unset, .unset, .unset, .val (.int v4)] [] (Hb 0 c2)
  cases h
  exact WP.vreturn d0_325 rfl (leb rfl) (leb rfl) ⟨rfl, rfl⟩
def f_init_304 (v4 : Int32) (s : St) : Option (St) :=
  if (8 : Int32) < v4 then
    f_init_315 (8 : Int32) s
  else
    f_init_315 v4 s
set_option maxRecDepth 65536 in
set_option maxHeartbeats 4000000 in
theorem ok0_304 (l : Launch) (Z : State) (a0 : Array Value) (hw : HW a0 Z) (n0 : Nat) (v4 : Int32) (s : St) (r : St) (h : f_init_304 v4 s = some r) : W0 l Z n0 (P0 r) 33 13988 304 [.val (.ref 0), .unset, .unset, .unset, .val (.int v4)] [] (Hb 0 s) := by
  unfold f_init_304 at h
  refine WP.iload d0_304 rfl ?_
  refine WP.bipush (8 : Int32) d0_306 rfl ?_
  rcases ite_e h with ⟨hc1, h⟩ | ⟨hc1, h⟩
  ·
    refine WP.icmpN d0_308 (XT.ii_le_f hc1) ?_
    refine WP.bipush (8 : Int32) d0_311 rfl ?_
    refine WP.istore (L' := [.val (.ref 0), .unset, .unset, .unset, .val (.int (8 : Int32))]) d0_313 (leb rfl) rfl ?_
    exact WP.weak (L' := [.val (.ref 0), .unset, .unset, .unset, .val (.int (8 : Int32))]) ⟨rfl, rfl, trivial⟩ (ok0_315 l Z a0 hw n0 (8 : Int32) s _ h)
  ·
    refine WP.icmpY (pc' := 315) d0_308 (XT.ii_le_t hc1) (by decide) rfl ?_
    exact WP.weak (L' := [.val (.ref 0), .unset, .unset, .unset, .val (.int v4)]) ⟨rfl, rfl, trivial⟩ (ok0_315 l Z a0 hw n0 v4 s _ h)
def f_init_287 (v2 : Int32) (v3 : Int32) (s : St) : Option (St) :=
  lt (sI s 0 v3) fun s1 =>
  if v2 < (1 : Int32) then
    f_init_304 (1 : Int32) s1
  else
    f_init_304 v2 s1
set_option maxRecDepth 65536 in
set_option maxHeartbeats 4000000 in
theorem ok0_287 (l : Launch) (Z : State) (a0 : Array Value) (hw : HW a0 Z) (n0 : Nat) (v2 : Int32) (v3 : Int32) (s : St) (r : St) (h : f_init_287 v2 v3 s = some r) : W0 l Z n0 (P0 r) 33 13988 287 [.val (.ref 0), .unset, .val (.int v2), .val (.int v3), .unset] [] (Hb 0 s) := by
  unfold f_init_287 at h
  refine WP.aloadN d0_287 rfl ?_
  refine WP.iloadN d0_288 rfl ?_
  obtain ⟨s1, es1, h⟩ := lt_e h
  refine WP.putI (i := 0) (j := 0) (H' := (Hb 0 s1)) d0_289 (hw _ m_77) (Or.inl (hw _ m_78)) (hw _ m_1) (hlay hw) rfl rfl rfl (leb rfl) (by subst es1; rfl) ?_
  refine WP.iloadN d0_292 rfl ?_
  refine WP.istore (L' := [.val (.ref 0), .unset, .val (.int v2), .val (.int v3), .val (.int v2)]) d0_293 (leb rfl) rfl ?_
  refine WP.iload d0_295 rfl ?_
  refine WP.iconst (1 : Int32) d0_297 rfl ?_
  rcases ite_e h with ⟨hc2, h⟩ | ⟨hc2, h⟩
  ·
    refine WP.icmpN d0_298 (XT.ii_ge_f hc2) ?_
    refine WP.iconst (1 : Int32) d0_301 rfl ?_
    refine WP.istore (L' := [.val (.ref 0), .unset, .val (.int v2), .val (.int v3), .val (.int (1 : Int32))]) d0_302 (leb rfl) rfl ?_
    exact WP.weak (L' := [.val (.ref 0), .unset, .unset, .unset, .val (.int (1 : Int32))]) ⟨rfl, rfl, trivial⟩ (ok0_304 l Z a0 hw n0 (1 : Int32) s1 _ h)
  ·
    refine WP.icmpY (pc' := 304) d0_298 (XT.ii_ge_t hc2) (by decide) rfl ?_
    exact WP.weak (L' := [.val (.ref 0), .unset, .unset, .unset, .val (.int v2)]) ⟨rfl, rfl, trivial⟩ (ok0_304 l Z a0 hw n0 v2 s1 _ h)
def f_init_278 (v2 : Int32) (v3 : Int32) (s : St) : Option (St) :=
  if (64 : Int32) < v3 then
    f_init_287 v2 (64 : Int32) s
  else
    f_init_287 v2 v3 s
set_option maxRecDepth 65536 in
set_option maxHeartbeats 4000000 in
theorem ok0_278 (l : Launch) (Z : State) (a0 : Array Value) (hw : HW a0 Z) (n0 : Nat) (v2 : Int32) (v3 : Int32) (s : St) (r : St) (h : f_init_278 v2 v3 s = some r) : W0 l Z n0 (P0 r) 33 13988 278 [.val (.ref 0), .unset, .val (.int v2), .val (.int v3), .unset] [] (Hb 0 s) := by
  unfold f_init_278 at h
  refine WP.iloadN d0_278 rfl ?_
  refine WP.bipush (64 : Int32) d0_279 rfl ?_
  rcases ite_e h with ⟨hc1, h⟩ | ⟨hc1, h⟩
  ·
    refine WP.icmpN d0_281 (XT.ii_le_f hc1) ?_
    refine WP.bipush (64 : Int32) d0_284 rfl ?_
    refine WP.istoreN (L' := [.val (.ref 0), .unset, .val (.int v2), .val (.int (64 : Int32)), .unset]) d0_286 (leb rfl) rfl ?_
    exact WP.weak (L' := [.val (.ref 0), .unset, .val (.int v2), .val (.int (64 : Int32)), .unset]) ⟨rfl, rfl, rfl, trivial⟩ (ok0_287 l Z a0 hw n0 v2 (64 : Int32) s _ h)
  ·
    refine WP.icmpY (pc' := 287) d0_281 (XT.ii_le_t hc1) (by decide) rfl ?_
    exact WP.weak (L' := [.val (.ref 0), .unset, .val (.int v2), .val (.int v3), .unset]) ⟨rfl, rfl, rfl, trivial⟩ (ok0_287 l Z a0 hw n0 v2 v3 s _ h)
def f_init (p1 : Int32) (p2 : Int32) : Option (St) :=
  lt (st0) fun s1 =>
  if p1 < (8 : Int32) then
    f_init_278 p2 (8 : Int32) s1
  else
    f_init_278 p2 p1 s1
set_option maxRecDepth 65536 in
set_option maxHeartbeats 4000000 in
theorem ok0 (l : Launch) (Z : State) (a0 : Array Value) (hw : HW a0 Z) (p1 : Int32) (p2 : Int32) (r : St) (h : f_init p1 p2 = some r) : CS l Z CN lay y0 prog_1_method_1_code 5 (none) R0 0 [.ref 0, .int p1, .int p2] [cO vs0] (P0 r) := by
  refine CS.of_wp pn_cls (leb rfl) fun n0 => ?_
  show W0 l Z n0 (P0 r) 0 0 0 [.val (.ref 0), .val (.int p1), .val (.int p2), .unset, .unset] [] [cO vs0]
  unfold f_init at h
  refine WP.aloadN d0_0 rfl ?_
  refine WP.initO d0_1 (hw _ m_6) (hw _ m_7) (hw _ m_8) (leb rfl) (leb rfl) ?_
  refine WP.aloadN d0_4 rfl ?_
  refine WP.sipush (256 : Int32) d0_5 rfl ?_
  refine WP.newarray d0_8 (hw _ m_9) (by decide) (leb rfl) (leb rfl) (leb rfl) (Or.inl ⟨rfl, rfl⟩) ?_
  show W0 l Z n0 (P0 r) 1 256 10 [.val (.ref 0), .val (.int p1), .val (.int p2), .unset, .unset] [.ref 1, .ref 0] ([cO [.int (0 : Int32), .int (0 : Int32), .int (0 : Int32), .null, .null, .int (0 : Int32), .int (0 : Int32), .int (0 : Int32), .int (0 : Int32), .int (0 : Int32), .int (0 : Int32), .int (0 : Int32), .int (0 : Int32), .null, .null, .null, .null, .null, .null, .null, .null, .null, .null, .null, .null, .null, .int (0 : Int32), .int (0 : Int32), .int (0 : Int32), .null, .null, .null, .null, .null, .null, .null, .int (0 : Int32), .null, .null, .null, .null, .null, .int (0 : Int32), .int (0 : Int32), .int (0 : Int32), .int (0 : Int32), .null, .null, .null, .null, .null, .null], cI (List.replicate 256 0)] : List OwnC)
  refine WP.putR (ty := .array .int) (i := 0) (j := 3) (H' := ([cO [.int (0 : Int32), .int (0 : Int32), .int (0 : Int32), .ref 1, .null, .int (0 : Int32), .int (0 : Int32), .int (0 : Int32), .int (0 : Int32), .int (0 : Int32), .int (0 : Int32), .int (0 : Int32), .int (0 : Int32), .null, .null, .null, .null, .null, .null, .null, .null, .null, .null, .null, .null, .null, .int (0 : Int32), .int (0 : Int32), .int (0 : Int32), .null, .null, .null, .null, .null, .null, .null, .int (0 : Int32), .null, .null, .null, .null, .null, .int (0 : Int32), .int (0 : Int32), .int (0 : Int32), .int (0 : Int32), .null, .null, .null, .null, .null, .null], cI (List.replicate 256 0)] : List OwnC)) d0_10 (hw _ m_10) (Or.inl (hw _ m_11)) (hw _ m_1) (hlay hw) (by decide) (fun _ => rfl) (fun _ => rfl) rfl rfl rfl (leb rfl) rfl ?_
  refine WP.aloadN d0_13 rfl ?_
  refine WP.sipush (256 : Int32) d0_14 rfl ?_
  refine WP.newarray d0_17 (hw _ m_9) (by decide) (leb rfl) (leb rfl) (leb rfl) (Or.inl ⟨rfl, rfl⟩) ?_
  show W0 l Z n0 (P0 r) 2 512 19 [.val (.ref 0), .val (.int p1), .val (.int p2), .unset, .unset] [.ref 2, .ref 0] ([cO [.int (0 : Int32), .int (0 : Int32), .int (0 : Int32), .ref 1, .null, .int (0 : Int32), .int (0 : Int32), .int (0 : Int32), .int (0 : Int32), .int (0 : Int32), .int (0 : Int32), .int (0 : Int32), .int (0 : Int32), .null, .null, .null, .null, .null, .null, .null, .null, .null, .null, .null, .null, .null, .int (0 : Int32), .int (0 : Int32), .int (0 : Int32), .null, .null, .null, .null, .null, .null, .null, .int (0 : Int32), .null, .null, .null, .null, .null, .int (0 : Int32), .int (0 : Int32), .int (0 : Int32), .int (0 : Int32), .null, .null, .null, .null, .null, .null], cI (List.replicate 256 0), cI (List.replicate 256 0)] : List OwnC)
  refine WP.putR (ty := .array .int) (i := 0) (j := 4) (H' := ([cO [.int (0 : Int32), .int (0 : Int32), .int (0 : Int32), .ref 1, .ref 2, .int (0 : Int32), .int (0 : Int32), .int (0 : Int32), .int (0 : Int32), .int (0 : Int32), .int (0 : Int32), .int (0 : Int32), .int (0 : Int32), .null, .null, .null, .null, .null, .null, .null, .null, .null, .null, .null, .null, .null, .int (0 : Int32), .int (0 : Int32), .int (0 : Int32), .null, .null, .null, .null, .null, .null, .null, .int (0 : Int32), .null, .null, .null, .null, .null, .int (0 : Int32), .int (0 : Int32), .int (0 : Int32), .int (0 : Int32), .null, .null, .null, .null, .null, .null], cI (List.replicate 256 0), cI (List.replicate 256 0)] : List OwnC)) d0_19 (hw _ m_12) (Or.inl (hw _ m_13)) (hw _ m_1) (hlay hw) (by decide) (fun _ => rfl) (fun _ => rfl) rfl rfl rfl (leb rfl) rfl ?_
  refine WP.aloadN d0_22 rfl ?_
  refine WP.bipush (16 : Int32) d0_23 rfl ?_
  refine WP.newarray d0_25 (hw _ m_9) (by decide) (leb rfl) (leb rfl) (leb rfl) (Or.inl ⟨rfl, rfl⟩) ?_
  show W0 l Z n0 (P0 r) 3 528 27 [.val (.ref 0), .val (.int p1), .val (.int p2), .unset, .unset] [.ref 3, .ref 0] ([cO [.int (0 : Int32), .int (0 : Int32), .int (0 : Int32), .ref 1, .ref 2, .int (0 : Int32), .int (0 : Int32), .int (0 : Int32), .int (0 : Int32), .int (0 : Int32), .int (0 : Int32), .int (0 : Int32), .int (0 : Int32), .null, .null, .null, .null, .null, .null, .null, .null, .null, .null, .null, .null, .null, .int (0 : Int32), .int (0 : Int32), .int (0 : Int32), .null, .null, .null, .null, .null, .null, .null, .int (0 : Int32), .null, .null, .null, .null, .null, .int (0 : Int32), .int (0 : Int32), .int (0 : Int32), .int (0 : Int32), .null, .null, .null, .null, .null, .null], cI (List.replicate 256 0), cI (List.replicate 256 0), cI (List.replicate 16 0)] : List OwnC)
  refine WP.putR (ty := .array .int) (i := 0) (j := 13) (H' := ([cO [.int (0 : Int32), .int (0 : Int32), .int (0 : Int32), .ref 1, .ref 2, .int (0 : Int32), .int (0 : Int32), .int (0 : Int32), .int (0 : Int32), .int (0 : Int32), .int (0 : Int32), .int (0 : Int32), .int (0 : Int32), .ref 3, .null, .null, .null, .null, .null, .null, .null, .null, .null, .null, .null, .null, .int (0 : Int32), .int (0 : Int32), .int (0 : Int32), .null, .null, .null, .null, .null, .null, .null, .int (0 : Int32), .null, .null, .null, .null, .null, .int (0 : Int32), .int (0 : Int32), .int (0 : Int32), .int (0 : Int32), .null, .null, .null, .null, .null, .null], cI (List.replicate 256 0), cI (List.replicate 256 0), cI (List.replicate 16 0)] : List OwnC)) d0_27 (hw _ m_14) (Or.inl (hw _ m_15)) (hw _ m_1) (hlay hw) (by decide) (fun _ => rfl) (fun _ => rfl) rfl rfl rfl (leb rfl) rfl ?_
  refine WP.aloadN d0_30 rfl ?_
  refine WP.iconst (4 : Int32) d0_31 rfl ?_
  refine WP.newarray d0_32 (hw _ m_16) (by decide) (leb rfl) (leb rfl) (leb rfl) (Or.inr (Or.inr ⟨rfl, rfl⟩)) ?_
  show W0 l Z n0 (P0 r) 4 532 34 [.val (.ref 0), .val (.int p1), .val (.int p2), .unset, .unset] [.ref 4, .ref 0] ([cO [.int (0 : Int32), .int (0 : Int32), .int (0 : Int32), .ref 1, .ref 2, .int (0 : Int32), .int (0 : Int32), .int (0 : Int32), .int (0 : Int32), .int (0 : Int32), .int (0 : Int32), .int (0 : Int32), .int (0 : Int32), .ref 3, .null, .null, .null, .null, .null, .null, .null, .null, .null, .null, .null, .null, .int (0 : Int32), .int (0 : Int32), .int (0 : Int32), .null, .null, .null, .null, .null, .null, .null, .int (0 : Int32), .null, .null, .null, .null, .null, .int (0 : Int32), .int (0 : Int32), .int (0 : Int32), .int (0 : Int32), .null, .null, .null, .null, .null, .null], cI (List.replicate 256 0), cI (List.replicate 256 0), cI (List.replicate 16 0), cZ (List.replicate 4 0)] : List OwnC)
  refine WP.putR (ty := .array .boolean) (i := 0) (j := 14) (H' := ([cO [.int (0 : Int32), .int (0 : Int32), .int (0 : Int32), .ref 1, .ref 2, .int (0 : Int32), .int (0 : Int32), .int (0 : Int32), .int (0 : Int32), .int (0 : Int32), .int (0 : Int32), .int (0 : Int32), .int (0 : Int32), .ref 3, .ref 4, .null, .null, .null, .null, .null, .null, .null, .null, .null, .null, .null, .int (0 : Int32), .int (0 : Int32), .int (0 : Int32), .null, .null, .null, .null, .null, .null, .null, .int (0 : Int32), .null, .null, .null, .null, .null, .int (0 : Int32), .int (0 : Int32), .int (0 : Int32), .int (0 : Int32), .null, .null, .null, .null, .null, .null], cI (List.replicate 256 0), cI (List.replicate 256 0), cI (List.replicate 16 0), cZ (List.replicate 4 0)] : List OwnC)) d0_34 (hw _ m_17) (Or.inl (hw _ m_18)) (hw _ m_1) (hlay hw) (by decide) (fun _ => rfl) (fun _ => rfl) rfl rfl rfl (leb rfl) rfl ?_
  refine WP.aloadN d0_37 rfl ?_
  refine WP.iconst (4 : Int32) d0_38 rfl ?_
  refine WP.newarray d0_39 (hw _ m_9) (by decide) (leb rfl) (leb rfl) (leb rfl) (Or.inl ⟨rfl, rfl⟩) ?_
  show W0 l Z n0 (P0 r) 5 536 41 [.val (.ref 0), .val (.int p1), .val (.int p2), .unset, .unset] [.ref 5, .ref 0] ([cO [.int (0 : Int32), .int (0 : Int32), .int (0 : Int32), .ref 1, .ref 2, .int (0 : Int32), .int (0 : Int32), .int (0 : Int32), .int (0 : Int32), .int (0 : Int32), .int (0 : Int32), .int (0 : Int32), .int (0 : Int32), .ref 3, .ref 4, .null, .null, .null, .null, .null, .null, .null, .null, .null, .null, .null, .int (0 : Int32), .int (0 : Int32), .int (0 : Int32), .null, .null, .null, .null, .null, .null, .null, .int (0 : Int32), .null, .null, .null, .null, .null, .int (0 : Int32), .int (0 : Int32), .int (0 : Int32), .int (0 : Int32), .null, .null, .null, .null, .null, .null], cI (List.replicate 256 0), cI (List.replicate 256 0), cI (List.replicate 16 0), cZ (List.replicate 4 0), cI (List.replicate 4 0)] : List OwnC)
  refine WP.putR (ty := .array .int) (i := 0) (j := 15) (H' := ([cO [.int (0 : Int32), .int (0 : Int32), .int (0 : Int32), .ref 1, .ref 2, .int (0 : Int32), .int (0 : Int32), .int (0 : Int32), .int (0 : Int32), .int (0 : Int32), .int (0 : Int32), .int (0 : Int32), .int (0 : Int32), .ref 3, .ref 4, .ref 5, .null, .null, .null, .null, .null, .null, .null, .null, .null, .null, .int (0 : Int32), .int (0 : Int32), .int (0 : Int32), .null, .null, .null, .null, .null, .null, .null, .int (0 : Int32), .null, .null, .null, .null, .null, .int (0 : Int32), .int (0 : Int32), .int (0 : Int32), .int (0 : Int32), .null, .null, .null, .null, .null, .null], cI (List.replicate 256 0), cI (List.replicate 256 0), cI (List.replicate 16 0), cZ (List.replicate 4 0), cI (List.replicate 4 0)] : List OwnC)) d0_41 (hw _ m_19) (Or.inl (hw _ m_20)) (hw _ m_1) (hlay hw) (by decide) (fun _ => rfl) (fun _ => rfl) rfl rfl rfl (leb rfl) rfl ?_
  refine WP.aloadN d0_44 rfl ?_
  refine WP.iconst (4 : Int32) d0_45 rfl ?_
  refine WP.newarray d0_46 (hw _ m_9) (by decide) (leb rfl) (leb rfl) (leb rfl) (Or.inl ⟨rfl, rfl⟩) ?_
  show W0 l Z n0 (P0 r) 6 540 48 [.val (.ref 0), .val (.int p1), .val (.int p2), .unset, .unset] [.ref 6, .ref 0] ([cO [.int (0 : Int32), .int (0 : Int32), .int (0 : Int32), .ref 1, .ref 2, .int (0 : Int32), .int (0 : Int32), .int (0 : Int32), .int (0 : Int32), .int (0 : Int32), .int (0 : Int32), .int (0 : Int32), .int (0 : Int32), .ref 3, .ref 4, .ref 5, .null, .null, .null, .null, .null, .null, .null, .null, .null, .null, .int (0 : Int32), .int (0 : Int32), .int (0 : Int32), .null, .null, .null, .null, .null, .null, .null, .int (0 : Int32), .null, .null, .null, .null, .null, .int (0 : Int32), .int (0 : Int32), .int (0 : Int32), .int (0 : Int32), .null, .null, .null, .null, .null, .null], cI (List.replicate 256 0), cI (List.replicate 256 0), cI (List.replicate 16 0), cZ (List.replicate 4 0), cI (List.replicate 4 0), cI (List.replicate 4 0)] : List OwnC)
  refine WP.putR (ty := .array .int) (i := 0) (j := 16) (H' := ([cO [.int (0 : Int32), .int (0 : Int32), .int (0 : Int32), .ref 1, .ref 2, .int (0 : Int32), .int (0 : Int32), .int (0 : Int32), .int (0 : Int32), .int (0 : Int32), .int (0 : Int32), .int (0 : Int32), .int (0 : Int32), .ref 3, .ref 4, .ref 5, .ref 6, .null, .null, .null, .null, .null, .null, .null, .null, .null, .int (0 : Int32), .int (0 : Int32), .int (0 : Int32), .null, .null, .null, .null, .null, .null, .null, .int (0 : Int32), .null, .null, .null, .null, .null, .int (0 : Int32), .int (0 : Int32), .int (0 : Int32), .int (0 : Int32), .null, .null, .null, .null, .null, .null], cI (List.replicate 256 0), cI (List.replicate 256 0), cI (List.replicate 16 0), cZ (List.replicate 4 0), cI (List.replicate 4 0), cI (List.replicate 4 0)] : List OwnC)) d0_48 (hw _ m_21) (Or.inl (hw _ m_22)) (hw _ m_1) (hlay hw) (by decide) (fun _ => rfl) (fun _ => rfl) rfl rfl rfl (leb rfl) rfl ?_
  refine WP.aloadN d0_51 rfl ?_
  refine WP.iconst (4 : Int32) d0_52 rfl ?_
  refine WP.newarray d0_53 (hw _ m_9) (by decide) (leb rfl) (leb rfl) (leb rfl) (Or.inl ⟨rfl, rfl⟩) ?_
  show W0 l Z n0 (P0 r) 7 544 55 [.val (.ref 0), .val (.int p1), .val (.int p2), .unset, .unset] [.ref 7, .ref 0] ([cO [.int (0 : Int32), .int (0 : Int32), .int (0 : Int32), .ref 1, .ref 2, .int (0 : Int32), .int (0 : Int32), .int (0 : Int32), .int (0 : Int32), .int (0 : Int32), .int (0 : Int32), .int (0 : Int32), .int (0 : Int32), .ref 3, .ref 4, .ref 5, .ref 6, .null, .null, .null, .null, .null, .null, .null, .null, .null, .int (0 : Int32), .int (0 : Int32), .int (0 : Int32), .null, .null, .null, .null, .null, .null, .null, .int (0 : Int32), .null, .null, .null, .null, .null, .int (0 : Int32), .int (0 : Int32), .int (0 : Int32), .int (0 : Int32), .null, .null, .null, .null, .null, .null], cI (List.replicate 256 0), cI (List.replicate 256 0), cI (List.replicate 16 0), cZ (List.replicate 4 0), cI (List.replicate 4 0), cI (List.replicate 4 0), cI (List.replicate 4 0)] : List OwnC)
  refine WP.putR (ty := .array .int) (i := 0) (j := 17) (H' := ([cO [.int (0 : Int32), .int (0 : Int32), .int (0 : Int32), .ref 1, .ref 2, .int (0 : Int32), .int (0 : Int32), .int (0 : Int32), .int (0 : Int32), .int (0 : Int32), .int (0 : Int32), .int (0 : Int32), .int (0 : Int32), .ref 3, .ref 4, .ref 5, .ref 6, .ref 7, .null, .null, .null, .null, .null, .null, .null, .null, .int (0 : Int32), .int (0 : Int32), .int (0 : Int32), .null, .null, .null, .null, .null, .null, .null, .int (0 : Int32), .null, .null, .null, .null, .null, .int (0 : Int32), .int (0 : Int32), .int (0 : Int32), .int (0 : Int32), .null, .null, .null, .null, .null, .null], cI (List.replicate 256 0), cI (List.replicate 256 0), cI (List.replicate 16 0), cZ (List.replicate 4 0), cI (List.replicate 4 0), cI (List.replicate 4 0), cI (List.replicate 4 0)] : List OwnC)) d0_55 (hw _ m_23) (Or.inl (hw _ m_24)) (hw _ m_1) (hlay hw) (by decide) (fun _ => rfl) (fun _ => rfl) rfl rfl rfl (leb rfl) rfl ?_
  refine WP.aloadN d0_58 rfl ?_
  refine WP.iconst (4 : Int32) d0_59 rfl ?_
  refine WP.newarray d0_60 (hw _ m_9) (by decide) (leb rfl) (leb rfl) (leb rfl) (Or.inl ⟨rfl, rfl⟩) ?_
  show W0 l Z n0 (P0 r) 8 548 62 [.val (.ref 0), .val (.int p1), .val (.int p2), .unset, .unset] [.ref 8, .ref 0] ([cO [.int (0 : Int32), .int (0 : Int32), .int (0 : Int32), .ref 1, .ref 2, .int (0 : Int32), .int (0 : Int32), .int (0 : Int32), .int (0 : Int32), .int (0 : Int32), .int (0 : Int32), .int (0 : Int32), .int (0 : Int32), .ref 3, .ref 4, .ref 5, .ref 6, .ref 7, .null, .null, .null, .null, .null, .null, .null, .null, .int (0 : Int32), .int (0 : Int32), .int (0 : Int32), .null, .null, .null, .null, .null, .null, .null, .int (0 : Int32), .null, .null, .null, .null, .null, .int (0 : Int32), .int (0 : Int32), .int (0 : Int32), .int (0 : Int32), .null, .null, .null, .null, .null, .null], cI (List.replicate 256 0), cI (List.replicate 256 0), cI (List.replicate 16 0), cZ (List.replicate 4 0), cI (List.replicate 4 0), cI (List.replicate 4 0), cI (List.replicate 4 0), cI (List.replicate 4 0)] : List OwnC)
  refine WP.putR (ty := .array .int) (i := 0) (j := 18) (H' := ([cO [.int (0 : Int32), .int (0 : Int32), .int (0 : Int32), .ref 1, .ref 2, .int (0 : Int32), .int (0 : Int32), .int (0 : Int32), .int (0 : Int32), .int (0 : Int32), .int (0 : Int32), .int (0 : Int32), .int (0 : Int32), .ref 3, .ref 4, .ref 5, .ref 6, .ref 7, .ref 8, .null, .null, .null, .null, .null, .null, .null, .int (0 : Int32), .int (0 : Int32), .int (0 : Int32), .null, .null, .null, .null, .null, .null, .null, .int (0 : Int32), .null, .null, .null, .null, .null, .int (0 : Int32), .int (0 : Int32), .int (0 : Int32), .int (0 : Int32), .null, .null, .null, .null, .null, .null], cI (List.replicate 256 0), cI (List.replicate 256 0), cI (List.replicate 16 0), cZ (List.replicate 4 0), cI (List.replicate 4 0), cI (List.replicate 4 0), cI (List.replicate 4 0), cI (List.replicate 4 0)] : List OwnC)) d0_62 (hw _ m_25) (Or.inl (hw _ m_26)) (hw _ m_1) (hlay hw) (by decide) (fun _ => rfl) (fun _ => rfl) rfl rfl rfl (leb rfl) rfl ?_
  refine WP.aloadN d0_65 rfl ?_
  refine WP.iconst (4 : Int32) d0_66 rfl ?_
  refine WP.newarray d0_67 (hw _ m_9) (by decide) (leb rfl) (leb rfl) (leb rfl) (Or.inl ⟨rfl, rfl⟩) ?_
  show W0 l Z n0 (P0 r) 9 552 69 [.val (.ref 0), .val (.int p1), .val (.int p2), .unset, .unset] [.ref 9, .ref 0] ([cO [.int (0 : Int32), .int (0 : Int32), .int (0 : Int32), .ref 1, .ref 2, .int (0 : Int32), .int (0 : Int32), .int (0 : Int32), .int (0 : Int32), .int (0 : Int32), .int (0 : Int32), .int (0 : Int32), .int (0 : Int32), .ref 3, .ref 4, .ref 5, .ref 6, .ref 7, .ref 8, .null, .null, .null, .null, .null, .null, .null, .int (0 : Int32), .int (0 : Int32), .int (0 : Int32), .null, .null, .null, .null, .null, .null, .null, .int (0 : Int32), .null, .null, .null, .null, .null, .int (0 : Int32), .int (0 : Int32), .int (0 : Int32), .int (0 : Int32), .null, .null, .null, .null, .null, .null], cI (List.replicate 256 0), cI (List.replicate 256 0), cI (List.replicate 16 0), cZ (List.replicate 4 0), cI (List.replicate 4 0), cI (List.replicate 4 0), cI (List.replicate 4 0), cI (List.replicate 4 0), cI (List.replicate 4 0)] : List OwnC)
  refine WP.putR (ty := .array .int) (i := 0) (j := 19) (H' := ([cO [.int (0 : Int32), .int (0 : Int32), .int (0 : Int32), .ref 1, .ref 2, .int (0 : Int32), .int (0 : Int32), .int (0 : Int32), .int (0 : Int32), .int (0 : Int32), .int (0 : Int32), .int (0 : Int32), .int (0 : Int32), .ref 3, .ref 4, .ref 5, .ref 6, .ref 7, .ref 8, .ref 9, .null, .null, .null, .null, .null, .null, .int (0 : Int32), .int (0 : Int32), .int (0 : Int32), .null, .null, .null, .null, .null, .null, .null, .int (0 : Int32), .null, .null, .null, .null, .null, .int (0 : Int32), .int (0 : Int32), .int (0 : Int32), .int (0 : Int32), .null, .null, .null, .null, .null, .null], cI (List.replicate 256 0), cI (List.replicate 256 0), cI (List.replicate 16 0), cZ (List.replicate 4 0), cI (List.replicate 4 0), cI (List.replicate 4 0), cI (List.replicate 4 0), cI (List.replicate 4 0), cI (List.replicate 4 0)] : List OwnC)) d0_69 (hw _ m_27) (Or.inl (hw _ m_28)) (hw _ m_1) (hlay hw) (by decide) (fun _ => rfl) (fun _ => rfl) rfl rfl rfl (leb rfl) rfl ?_
  refine WP.aloadN d0_72 rfl ?_
  refine WP.bipush (32 : Int32) d0_73 rfl ?_
  refine WP.newarray d0_75 (hw _ m_9) (by decide) (leb rfl) (leb rfl) (leb rfl) (Or.inl ⟨rfl, rfl⟩) ?_
  show W0 l Z n0 (P0 r) 10 584 77 [.val (.ref 0), .val (.int p1), .val (.int p2), .unset, .unset] [.ref 10, .ref 0] ([cO [.int (0 : Int32), .int (0 : Int32), .int (0 : Int32), .ref 1, .ref 2, .int (0 : Int32), .int (0 : Int32), .int (0 : Int32), .int (0 : Int32), .int (0 : Int32), .int (0 : Int32), .int (0 : Int32), .int (0 : Int32), .ref 3, .ref 4, .ref 5, .ref 6, .ref 7, .ref 8, .ref 9, .null, .null, .null, .null, .null, .null, .int (0 : Int32), .int (0 : Int32), .int (0 : Int32), .null, .null, .null, .null, .null, .null, .null, .int (0 : Int32), .null, .null, .null, .null, .null, .int (0 : Int32), .int (0 : Int32), .int (0 : Int32), .int (0 : Int32), .null, .null, .null, .null, .null, .null], cI (List.replicate 256 0), cI (List.replicate 256 0), cI (List.replicate 16 0), cZ (List.replicate 4 0), cI (List.replicate 4 0), cI (List.replicate 4 0), cI (List.replicate 4 0), cI (List.replicate 4 0), cI (List.replicate 4 0), cI (List.replicate 32 0)] : List OwnC)
  refine WP.putR (ty := .array .int) (i := 0) (j := 20) (H' := ([cO [.int (0 : Int32), .int (0 : Int32), .int (0 : Int32), .ref 1, .ref 2, .int (0 : Int32), .int (0 : Int32), .int (0 : Int32), .int (0 : Int32), .int (0 : Int32), .int (0 : Int32), .int (0 : Int32), .int (0 : Int32), .ref 3, .ref 4, .ref 5, .ref 6, .ref 7, .ref 8, .ref 9, .ref 10, .null, .null, .null, .null, .null, .int (0 : Int32), .int (0 : Int32), .int (0 : Int32), .null, .null, .null, .null, .null, .null, .null, .int (0 : Int32), .null, .null, .null, .null, .null, .int (0 : Int32), .int (0 : Int32), .int (0 : Int32), .int (0 : Int32), .null, .null, .null, .null, .null, .null], cI (List.replicate 256 0), cI (List.replicate 256 0), cI (List.replicate 16 0), cZ (List.replicate 4 0), cI (List.replicate 4 0), cI (List.replicate 4 0), cI (List.replicate 4 0), cI (List.replicate 4 0), cI (List.replicate 4 0), cI (List.replicate 32 0)] : List OwnC)) d0_77 (hw _ m_29) (Or.inl (hw _ m_30)) (hw _ m_1) (hlay hw) (by decide) (fun _ => rfl) (fun _ => rfl) rfl rfl rfl (leb rfl) rfl ?_
  refine WP.aloadN d0_80 rfl ?_
  refine WP.bipush (32 : Int32) d0_81 rfl ?_
  refine WP.newarray d0_83 (hw _ m_16) (by decide) (leb rfl) (leb rfl) (leb rfl) (Or.inr (Or.inr ⟨rfl, rfl⟩)) ?_
  show W0 l Z n0 (P0 r) 11 616 85 [.val (.ref 0), .val (.int p1), .val (.int p2), .unset, .unset] [.ref 11, .ref 0] ([cO [.int (0 : Int32), .int (0 : Int32), .int (0 : Int32), .ref 1, .ref 2, .int (0 : Int32), .int (0 : Int32), .int (0 : Int32), .int (0 : Int32), .int (0 : Int32), .int (0 : Int32), .int (0 : Int32), .int (0 : Int32), .ref 3, .ref 4, .ref 5, .ref 6, .ref 7, .ref 8, .ref 9, .ref 10, .null, .null, .null, .null, .null, .int (0 : Int32), .int (0 : Int32), .int (0 : Int32), .null, .null, .null, .null, .null, .null, .null, .int (0 : Int32), .null, .null, .null, .null, .null, .int (0 : Int32), .int (0 : Int32), .int (0 : Int32), .int (0 : Int32), .null, .null, .null, .null, .null, .null], cI (List.replicate 256 0), cI (List.replicate 256 0), cI (List.replicate 16 0), cZ (List.replicate 4 0), cI (List.replicate 4 0), cI (List.replicate 4 0), cI (List.replicate 4 0), cI (List.replicate 4 0), cI (List.replicate 4 0), cI (List.replicate 32 0), cZ (List.replicate 32 0)] : List OwnC)
  refine WP.putR (ty := .array .boolean) (i := 0) (j := 21) (H' := ([cO [.int (0 : Int32), .int (0 : Int32), .int (0 : Int32), .ref 1, .ref 2, .int (0 : Int32), .int (0 : Int32), .int (0 : Int32), .int (0 : Int32), .int (0 : Int32), .int (0 : Int32), .int (0 : Int32), .int (0 : Int32), .ref 3, .ref 4, .ref 5, .ref 6, .ref 7, .ref 8, .ref 9, .ref 10, .ref 11, .null, .null, .null, .null, .int (0 : Int32), .int (0 : Int32), .int (0 : Int32), .null, .null, .null, .null, .null, .null, .null, .int (0 : Int32), .null, .null, .null, .null, .null, .int (0 : Int32), .int (0 : Int32), .int (0 : Int32), .int (0 : Int32), .null, .null, .null, .null, .null, .null], cI (List.replicate 256 0), cI (List.replicate 256 0), cI (List.replicate 16 0), cZ (List.replicate 4 0), cI (List.replicate 4 0), cI (List.replicate 4 0), cI (List.replicate 4 0), cI (List.replicate 4 0), cI (List.replicate 4 0), cI (List.replicate 32 0), cZ (List.replicate 32 0)] : List OwnC)) d0_85 (hw _ m_31) (Or.inl (hw _ m_32)) (hw _ m_1) (hlay hw) (by decide) (fun _ => rfl) (fun _ => rfl) rfl rfl rfl (leb rfl) rfl ?_
  refine WP.aloadN d0_88 rfl ?_
  refine WP.bipush (32 : Int32) d0_89 rfl ?_
  refine WP.newarray d0_91 (hw _ m_9) (by decide) (leb rfl) (leb rfl) (leb rfl) (Or.inl ⟨rfl, rfl⟩) ?_
  show W0 l Z n0 (P0 r) 12 648 93 [.val (.ref 0), .val (.int p1), .val (.int p2), .unset, .unset] [.ref 12, .ref 0] ([cO [.int (0 : Int32), .int (0 : Int32), .int (0 : Int32), .ref 1, .ref 2, .int (0 : Int32), .int (0 : Int32), .int (0 : Int32), .int (0 : Int32), .int (0 : Int32), .int (0 : Int32), .int (0 : Int32), .int (0 : Int32), .ref 3, .ref 4, .ref 5, .ref 6, .ref 7, .ref 8, .ref 9, .ref 10, .ref 11, .null, .null, .null, .null, .int (0 : Int32), .int (0 : Int32), .int (0 : Int32), .null, .null, .null, .null, .null, .null, .null, .int (0 : Int32), .null, .null, .null, .null, .null, .int (0 : Int32), .int (0 : Int32), .int (0 : Int32), .int (0 : Int32), .null, .null, .null, .null, .null, .null], cI (List.replicate 256 0), cI (List.replicate 256 0), cI (List.replicate 16 0), cZ (List.replicate 4 0), cI (List.replicate 4 0), cI (List.replicate 4 0), cI (List.replicate 4 0), cI (List.replicate 4 0), cI (List.replicate 4 0), cI (List.replicate 32 0), cZ (List.replicate 32 0), cI (List.replicate 32 0)] : List OwnC)
  refine WP.putR (ty := .array .int) (i := 0) (j := 22) (H' := ([cO [.int (0 : Int32), .int (0 : Int32), .int (0 : Int32), .ref 1, .ref 2, .int (0 : Int32), .int (0 : Int32), .int (0 : Int32), .int (0 : Int32), .int (0 : Int32), .int (0 : Int32), .int (0 : Int32), .int (0 : Int32), .ref 3, .ref 4, .ref 5, .ref 6, .ref 7, .ref 8, .ref 9, .ref 10, .ref 11, .ref 12, .null, .null, .null, .int (0 : Int32), .int (0 : Int32), .int (0 : Int32), .null, .null, .null, .null, .null, .null, .null, .int (0 : Int32), .null, .null, .null, .null, .null, .int (0 : Int32), .int (0 : Int32), .int (0 : Int32), .int (0 : Int32), .null, .null, .null, .null, .null, .null], cI (List.replicate 256 0), cI (List.replicate 256 0), cI (List.replicate 16 0), cZ (List.replicate 4 0), cI (List.replicate 4 0), cI (List.replicate 4 0), cI (List.replicate 4 0), cI (List.replicate 4 0), cI (List.replicate 4 0), cI (List.replicate 32 0), cZ (List.replicate 32 0), cI (List.replicate 32 0)] : List OwnC)) d0_93 (hw _ m_33) (Or.inl (hw _ m_34)) (hw _ m_1) (hlay hw) (by decide) (fun _ => rfl) (fun _ => rfl) rfl rfl rfl (leb rfl) rfl ?_
  refine WP.aloadN d0_96 rfl ?_
  refine WP.sipush (256 : Int32) d0_97 rfl ?_
  refine WP.newarray d0_100 (hw _ m_9) (by decide) (leb rfl) (leb rfl) (leb rfl) (Or.inl ⟨rfl, rfl⟩) ?_
  show W0 l Z n0 (P0 r) 13 904 102 [.val (.ref 0), .val (.int p1), .val (.int p2), .unset, .unset] [.ref 13, .ref 0] ([cO [.int (0 : Int32), .int (0 : Int32), .int (0 : Int32), .ref 1, .ref 2, .int (0 : Int32), .int (0 : Int32), .int (0 : Int32), .int (0 : Int32), .int (0 : Int32), .int (0 : Int32), .int (0 : Int32), .int (0 : Int32), .ref 3, .ref 4, .ref 5, .ref 6, .ref 7, .ref 8, .ref 9, .ref 10, .ref 11, .ref 12, .null, .null, .null, .int (0 : Int32), .int (0 : Int32), .int (0 : Int32), .null, .null, .null, .null, .null, .null, .null, .int (0 : Int32), .null, .null, .null, .null, .null, .int (0 : Int32), .int (0 : Int32), .int (0 : Int32), .int (0 : Int32), .null, .null, .null, .null, .null, .null], cI (List.replicate 256 0), cI (List.replicate 256 0), cI (List.replicate 16 0), cZ (List.replicate 4 0), cI (List.replicate 4 0), cI (List.replicate 4 0), cI (List.replicate 4 0), cI (List.replicate 4 0), cI (List.replicate 4 0), cI (List.replicate 32 0), cZ (List.replicate 32 0), cI (List.replicate 32 0), cI (List.replicate 256 0)] : List OwnC)
  refine WP.putR (ty := .array .int) (i := 0) (j := 23) (H' := ([cO [.int (0 : Int32), .int (0 : Int32), .int (0 : Int32), .ref 1, .ref 2, .int (0 : Int32), .int (0 : Int32), .int (0 : Int32), .int (0 : Int32), .int (0 : Int32), .int (0 : Int32), .int (0 : Int32), .int (0 : Int32), .ref 3, .ref 4, .ref 5, .ref 6, .ref 7, .ref 8, .ref 9, .ref 10, .ref 11, .ref 12, .ref 13, .null, .null, .int (0 : Int32), .int (0 : Int32), .int (0 : Int32), .null, .null, .null, .null, .null, .null, .null, .int (0 : Int32), .null, .null, .null, .null, .null, .int (0 : Int32), .int (0 : Int32), .int (0 : Int32), .int (0 : Int32), .null, .null, .null, .null, .null, .null], cI (List.replicate 256 0), cI (List.replicate 256 0), cI (List.replicate 16 0), cZ (List.replicate 4 0), cI (List.replicate 4 0), cI (List.replicate 4 0), cI (List.replicate 4 0), cI (List.replicate 4 0), cI (List.replicate 4 0), cI (List.replicate 32 0), cZ (List.replicate 32 0), cI (List.replicate 32 0), cI (List.replicate 256 0)] : List OwnC)) d0_102 (hw _ m_35) (Or.inl (hw _ m_36)) (hw _ m_1) (hlay hw) (by decide) (fun _ => rfl) (fun _ => rfl) rfl rfl rfl (leb rfl) rfl ?_
  refine WP.aloadN d0_105 rfl ?_
  refine WP.sipush (256 : Int32) d0_106 rfl ?_
  refine WP.newarray d0_109 (hw _ m_9) (by decide) (leb rfl) (leb rfl) (leb rfl) (Or.inl ⟨rfl, rfl⟩) ?_
  show W0 l Z n0 (P0 r) 14 1160 111 [.val (.ref 0), .val (.int p1), .val (.int p2), .unset, .unset] [.ref 14, .ref 0] ([cO [.int (0 : Int32), .int (0 : Int32), .int (0 : Int32), .ref 1, .ref 2, .int (0 : Int32), .int (0 : Int32), .int (0 : Int32), .int (0 : Int32), .int (0 : Int32), .int (0 : Int32), .int (0 : Int32), .int (0 : Int32), .ref 3, .ref 4, .ref 5, .ref 6, .ref 7, .ref 8, .ref 9, .ref 10, .ref 11, .ref 12, .ref 13, .null, .null, .int (0 : Int32), .int (0 : Int32), .int (0 : Int32), .null, .null, .null, .null, .null, .null, .null, .int (0 : Int32), .null, .null, .null, .null, .null, .int (0 : Int32), .int (0 : Int32), .int (0 : Int32), .int (0 : Int32), .null, .null, .null, .null, .null, .null], cI (List.replicate 256 0), cI (List.replicate 256 0), cI (List.replicate 16 0), cZ (List.replicate 4 0), cI (List.replicate 4 0), cI (List.replicate 4 0), cI (List.replicate 4 0), cI (List.replicate 4 0), cI (List.replicate 4 0), cI (List.replicate 32 0), cZ (List.replicate 32 0), cI (List.replicate 32 0), cI (List.replicate 256 0), cI (List.replicate 256 0)] : List OwnC)
  refine WP.putR (ty := .array .int) (i := 0) (j := 24) (H' := ([cO [.int (0 : Int32), .int (0 : Int32), .int (0 : Int32), .ref 1, .ref 2, .int (0 : Int32), .int (0 : Int32), .int (0 : Int32), .int (0 : Int32), .int (0 : Int32), .int (0 : Int32), .int (0 : Int32), .int (0 : Int32), .ref 3, .ref 4, .ref 5, .ref 6, .ref 7, .ref 8, .ref 9, .ref 10, .ref 11, .ref 12, .ref 13, .ref 14, .null, .int (0 : Int32), .int (0 : Int32), .int (0 : Int32), .null, .null, .null, .null, .null, .null, .null, .int (0 : Int32), .null, .null, .null, .null, .null, .int (0 : Int32), .int (0 : Int32), .int (0 : Int32), .int (0 : Int32), .null, .null, .null, .null, .null, .null], cI (List.replicate 256 0), cI (List.replicate 256 0), cI (List.replicate 16 0), cZ (List.replicate 4 0), cI (List.replicate 4 0), cI (List.replicate 4 0), cI (List.replicate 4 0), cI (List.replicate 4 0), cI (List.replicate 4 0), cI (List.replicate 32 0), cZ (List.replicate 32 0), cI (List.replicate 32 0), cI (List.replicate 256 0), cI (List.replicate 256 0)] : List OwnC)) d0_111 (hw _ m_37) (Or.inl (hw _ m_38)) (hw _ m_1) (hlay hw) (by decide) (fun _ => rfl) (fun _ => rfl) rfl rfl rfl (leb rfl) rfl ?_
  refine WP.aloadN d0_114 rfl ?_
  refine WP.sipush (256 : Int32) d0_115 rfl ?_
  refine WP.newarray d0_118 (hw _ m_9) (by decide) (leb rfl) (leb rfl) (leb rfl) (Or.inl ⟨rfl, rfl⟩) ?_
  show W0 l Z n0 (P0 r) 15 1416 120 [.val (.ref 0), .val (.int p1), .val (.int p2), .unset, .unset] [.ref 15, .ref 0] ([cO [.int (0 : Int32), .int (0 : Int32), .int (0 : Int32), .ref 1, .ref 2, .int (0 : Int32), .int (0 : Int32), .int (0 : Int32), .int (0 : Int32), .int (0 : Int32), .int (0 : Int32), .int (0 : Int32), .int (0 : Int32), .ref 3, .ref 4, .ref 5, .ref 6, .ref 7, .ref 8, .ref 9, .ref 10, .ref 11, .ref 12, .ref 13, .ref 14, .null, .int (0 : Int32), .int (0 : Int32), .int (0 : Int32), .null, .null, .null, .null, .null, .null, .null, .int (0 : Int32), .null, .null, .null, .null, .null, .int (0 : Int32), .int (0 : Int32), .int (0 : Int32), .int (0 : Int32), .null, .null, .null, .null, .null, .null], cI (List.replicate 256 0), cI (List.replicate 256 0), cI (List.replicate 16 0), cZ (List.replicate 4 0), cI (List.replicate 4 0), cI (List.replicate 4 0), cI (List.replicate 4 0), cI (List.replicate 4 0), cI (List.replicate 4 0), cI (List.replicate 32 0), cZ (List.replicate 32 0), cI (List.replicate 32 0), cI (List.replicate 256 0), cI (List.replicate 256 0), cI (List.replicate 256 0)] : List OwnC)
  refine WP.putR (ty := .array .int) (i := 0) (j := 25) (H' := ([cO [.int (0 : Int32), .int (0 : Int32), .int (0 : Int32), .ref 1, .ref 2, .int (0 : Int32), .int (0 : Int32), .int (0 : Int32), .int (0 : Int32), .int (0 : Int32), .int (0 : Int32), .int (0 : Int32), .int (0 : Int32), .ref 3, .ref 4, .ref 5, .ref 6, .ref 7, .ref 8, .ref 9, .ref 10, .ref 11, .ref 12, .ref 13, .ref 14, .ref 15, .int (0 : Int32), .int (0 : Int32), .int (0 : Int32), .null, .null, .null, .null, .null, .null, .null, .int (0 : Int32), .null, .null, .null, .null, .null, .int (0 : Int32), .int (0 : Int32), .int (0 : Int32), .int (0 : Int32), .null, .null, .null, .null, .null, .null], cI (List.replicate 256 0), cI (List.replicate 256 0), cI (List.replicate 16 0), cZ (List.replicate 4 0), cI (List.replicate 4 0), cI (List.replicate 4 0), cI (List.replicate 4 0), cI (List.replicate 4 0), cI (List.replicate 4 0), cI (List.replicate 32 0), cZ (List.replicate 32 0), cI (List.replicate 32 0), cI (List.replicate 256 0), cI (List.replicate 256 0), cI (List.replicate 256 0)] : List OwnC)) d0_120 (hw _ m_39) (Or.inl (hw _ m_40)) (hw _ m_1) (hlay hw) (by decide) (fun _ => rfl) (fun _ => rfl) rfl rfl rfl (leb rfl) rfl ?_
  refine WP.aloadN d0_123 rfl ?_
  refine WP.bipush (16 : Int32) d0_124 rfl ?_
  refine WP.newarray d0_126 (hw _ m_9) (by decide) (leb rfl) (leb rfl) (leb rfl) (Or.inl ⟨rfl, rfl⟩) ?_
  show W0 l Z n0 (P0 r) 16 1432 128 [.val (.ref 0), .val (.int p1), .val (.int p2), .unset, .unset] [.ref 16, .ref 0] ([cO [.int (0 : Int32), .int (0 : Int32), .int (0 : Int32), .ref 1, .ref 2, .int (0 : Int32), .int (0 : Int32), .int (0 : Int32), .int (0 : Int32), .int (0 : Int32), .int (0 : Int32), .int (0 : Int32), .int (0 : Int32), .ref 3, .ref 4, .ref 5, .ref 6, .ref 7, .ref 8, .ref 9, .ref 10, .ref 11, .ref 12, .ref 13, .ref 14, .ref 15, .int (0 : Int32), .int (0 : Int32), .int (0 : Int32), .null, .null, .null, .null, .null, .null, .null, .int (0 : Int32), .null, .null, .null, .null, .null, .int (0 : Int32), .int (0 : Int32), .int (0 : Int32), .int (0 : Int32), .null, .null, .null, .null, .null, .null], cI (List.replicate 256 0), cI (List.replicate 256 0), cI (List.replicate 16 0), cZ (List.replicate 4 0), cI (List.replicate 4 0), cI (List.replicate 4 0), cI (List.replicate 4 0), cI (List.replicate 4 0), cI (List.replicate 4 0), cI (List.replicate 32 0), cZ (List.replicate 32 0), cI (List.replicate 32 0), cI (List.replicate 256 0), cI (List.replicate 256 0), cI (List.replicate 256 0), cI (List.replicate 16 0)] : List OwnC)
  refine WP.putR (ty := .array .int) (i := 0) (j := 29) (H' := ([cO [.int (0 : Int32), .int (0 : Int32), .int (0 : Int32), .ref 1, .ref 2, .int (0 : Int32), .int (0 : Int32), .int (0 : Int32), .int (0 : Int32), .int (0 : Int32), .int (0 : Int32), .int (0 : Int32), .int (0 : Int32), .ref 3, .ref 4, .ref 5, .ref 6, .ref 7, .ref 8, .ref 9, .ref 10, .ref 11, .ref 12, .ref 13, .ref 14, .ref 15, .int (0 : Int32), .int (0 : Int32), .int (0 : Int32), .ref 16, .null, .null, .null, .null, .null, .null, .int (0 : Int32), .null, .null, .null, .null, .null, .int (0 : Int32), .int (0 : Int32), .int (0 : Int32), .int (0 : Int32), .null, .null, .null, .null, .null, .null], cI (List.replicate 256 0), cI (List.replicate 256 0), cI (List.replicate 16 0), cZ (List.replicate 4 0), cI (List.replicate 4 0), cI (List.replicate 4 0), cI (List.replicate 4 0), cI (List.replicate 4 0), cI (List.replicate 4 0), cI (List.replicate 32 0), cZ (List.replicate 32 0), cI (List.replicate 32 0), cI (List.replicate 256 0), cI (List.replicate 256 0), cI (List.replicate 256 0), cI (List.replicate 16 0)] : List OwnC)) d0_128 (hw _ m_41) (Or.inl (hw _ m_42)) (hw _ m_1) (hlay hw) (by decide) (fun _ => rfl) (fun _ => rfl) rfl rfl rfl (leb rfl) rfl ?_
  refine WP.aloadN d0_131 rfl ?_
  refine WP.bipush (64 : Int32) d0_132 rfl ?_
  refine WP.newarray d0_134 (hw _ m_9) (by decide) (leb rfl) (leb rfl) (leb rfl) (Or.inl ⟨rfl, rfl⟩) ?_
  show W0 l Z n0 (P0 r) 17 1496 136 [.val (.ref 0), .val (.int p1), .val (.int p2), .unset, .unset] [.ref 17, .ref 0] ([cO [.int (0 : Int32), .int (0 : Int32), .int (0 : Int32), .ref 1, .ref 2, .int (0 : Int32), .int (0 : Int32), .int (0 : Int32), .int (0 : Int32), .int (0 : Int32), .int (0 : Int32), .int (0 : Int32), .int (0 : Int32), .ref 3, .ref 4, .ref 5, .ref 6, .ref 7, .ref 8, .ref 9, .ref 10, .ref 11, .ref 12, .ref 13, .ref 14, .ref 15, .int (0 : Int32), .int (0 : Int32), .int (0 : Int32), .ref 16, .null, .null, .null, .null, .null, .null, .int (0 : Int32), .null, .null, .null, .null, .null, .int (0 : Int32), .int (0 : Int32), .int (0 : Int32), .int (0 : Int32), .null, .null, .null, .null, .null, .null], cI (List.replicate 256 0), cI (List.replicate 256 0), cI (List.replicate 16 0), cZ (List.replicate 4 0), cI (List.replicate 4 0), cI (List.replicate 4 0), cI (List.replicate 4 0), cI (List.replicate 4 0), cI (List.replicate 4 0), cI (List.replicate 32 0), cZ (List.replicate 32 0), cI (List.replicate 32 0), cI (List.replicate 256 0), cI (List.replicate 256 0), cI (List.replicate 256 0), cI (List.replicate 16 0), cI (List.replicate 64 0)] : List OwnC)
  refine WP.putR (ty := .array .int) (i := 0) (j := 30) (H' := ([cO [.int (0 : Int32), .int (0 : Int32), .int (0 : Int32), .ref 1, .ref 2, .int (0 : Int32), .int (0 : Int32), .int (0 : Int32), .int (0 : Int32), .int (0 : Int32), .int (0 : Int32), .int (0 : Int32), .int (0 : Int32), .ref 3, .ref 4, .ref 5, .ref 6, .ref 7, .ref 8, .ref 9, .ref 10, .ref 11, .ref 12, .ref 13, .ref 14, .ref 15, .int (0 : Int32), .int (0 : Int32), .int (0 : Int32), .ref 16, .ref 17, .null, .null, .null, .null, .null, .int (0 : Int32), .null, .null, .null, .null, .null, .int (0 : Int32), .int (0 : Int32), .int (0 : Int32), .int (0 : Int32), .null, .null, .null, .null, .null, .null], cI (List.replicate 256 0), cI (List.replicate 256 0), cI (List.replicate 16 0), cZ (List.replicate 4 0), cI (List.replicate 4 0), cI (List.replicate 4 0), cI (List.replicate 4 0), cI (List.replicate 4 0), cI (List.replicate 4 0), cI (List.replicate 32 0), cZ (List.replicate 32 0), cI (List.replicate 32 0), cI (List.replicate 256 0), cI (List.replicate 256 0), cI (List.replicate 256 0), cI (List.replicate 16 0), cI (List.replicate 64 0)] : List OwnC)) d0_136 (hw _ m_43) (Or.inl (hw _ m_44)) (hw _ m_1) (hlay hw) (by decide) (fun _ => rfl) (fun _ => rfl) rfl rfl rfl (leb rfl) rfl ?_
  refine WP.aloadN d0_139 rfl ?_
  refine WP.bipush (64 : Int32) d0_140 rfl ?_
  refine WP.newarray d0_142 (hw _ m_9) (by decide) (leb rfl) (leb rfl) (leb rfl) (Or.inl ⟨rfl, rfl⟩) ?_
  show W0 l Z n0 (P0 r) 18 1560 144 [.val (.ref 0), .val (.int p1), .val (.int p2), .unset, .unset] [.ref 18, .ref 0] ([cO [.int (0 : Int32), .int (0 : Int32), .int (0 : Int32), .ref 1, .ref 2, .int (0 : Int32), .int (0 : Int32), .int (0 : Int32), .int (0 : Int32), .int (0 : Int32), .int (0 : Int32), .int (0 : Int32), .int (0 : Int32), .ref 3, .ref 4, .ref 5, .ref 6, .ref 7, .ref 8, .ref 9, .ref 10, .ref 11, .ref 12, .ref 13, .ref 14, .ref 15, .int (0 : Int32), .int (0 : Int32), .int (0 : Int32), .ref 16, .ref 17, .null, .null, .null, .null, .null, .int (0 : Int32), .null, .null, .null, .null, .null, .int (0 : Int32), .int (0 : Int32), .int (0 : Int32), .int (0 : Int32), .null, .null, .null, .null, .null, .null], cI (List.replicate 256 0), cI (List.replicate 256 0), cI (List.replicate 16 0), cZ (List.replicate 4 0), cI (List.replicate 4 0), cI (List.replicate 4 0), cI (List.replicate 4 0), cI (List.replicate 4 0), cI (List.replicate 4 0), cI (List.replicate 32 0), cZ (List.replicate 32 0), cI (List.replicate 32 0), cI (List.replicate 256 0), cI (List.replicate 256 0), cI (List.replicate 256 0), cI (List.replicate 16 0), cI (List.replicate 64 0), cI (List.replicate 64 0)] : List OwnC)
  refine WP.putR (ty := .array .int) (i := 0) (j := 31) (H' := ([cO [.int (0 : Int32), .int (0 : Int32), .int (0 : Int32), .ref 1, .ref 2, .int (0 : Int32), .int (0 : Int32), .int (0 : Int32), .int (0 : Int32), .int (0 : Int32), .int (0 : Int32), .int (0 : Int32), .int (0 : Int32), .ref 3, .ref 4, .ref 5, .ref 6, .ref 7, .ref 8, .ref 9, .ref 10, .ref 11, .ref 12, .ref 13, .ref 14, .ref 15, .int (0 : Int32), .int (0 : Int32), .int (0 : Int32), .ref 16, .ref 17, .ref 18, .null, .null, .null, .null, .int (0 : Int32), .null, .null, .null, .null, .null, .int (0 : Int32), .int (0 : Int32), .int (0 : Int32), .int (0 : Int32), .null, .null, .null, .null, .null, .null], cI (List.replicate 256 0), cI (List.replicate 256 0), cI (List.replicate 16 0), cZ (List.replicate 4 0), cI (List.replicate 4 0), cI (List.replicate 4 0), cI (List.replicate 4 0), cI (List.replicate 4 0), cI (List.replicate 4 0), cI (List.replicate 32 0), cZ (List.replicate 32 0), cI (List.replicate 32 0), cI (List.replicate 256 0), cI (List.replicate 256 0), cI (List.replicate 256 0), cI (List.replicate 16 0), cI (List.replicate 64 0), cI (List.replicate 64 0)] : List OwnC)) d0_144 (hw _ m_45) (Or.inl (hw _ m_46)) (hw _ m_1) (hlay hw) (by decide) (fun _ => rfl) (fun _ => rfl) rfl rfl rfl (leb rfl) rfl ?_
  refine WP.aloadN d0_147 rfl ?_
  refine WP.bipush (64 : Int32) d0_148 rfl ?_
  refine WP.newarray d0_150 (hw _ m_9) (by decide) (leb rfl) (leb rfl) (leb rfl) (Or.inl ⟨rfl, rfl⟩) ?_
  show W0 l Z n0 (P0 r) 19 1624 152 [.val (.ref 0), .val (.int p1), .val (.int p2), .unset, .unset] [.ref 19, .ref 0] ([cO [.int (0 : Int32), .int (0 : Int32), .int (0 : Int32), .ref 1, .ref 2, .int (0 : Int32), .int (0 : Int32), .int (0 : Int32), .int (0 : Int32), .int (0 : Int32), .int (0 : Int32), .int (0 : Int32), .int (0 : Int32), .ref 3, .ref 4, .ref 5, .ref 6, .ref 7, .ref 8, .ref 9, .ref 10, .ref 11, .ref 12, .ref 13, .ref 14, .ref 15, .int (0 : Int32), .int (0 : Int32), .int (0 : Int32), .ref 16, .ref 17, .ref 18, .null, .null, .null, .null, .int (0 : Int32), .null, .null, .null, .null, .null, .int (0 : Int32), .int (0 : Int32), .int (0 : Int32), .int (0 : Int32), .null, .null, .null, .null, .null, .null], cI (List.replicate 256 0), cI (List.replicate 256 0), cI (List.replicate 16 0), cZ (List.replicate 4 0), cI (List.replicate 4 0), cI (List.replicate 4 0), cI (List.replicate 4 0), cI (List.replicate 4 0), cI (List.replicate 4 0), cI (List.replicate 32 0), cZ (List.replicate 32 0), cI (List.replicate 32 0), cI (List.replicate 256 0), cI (List.replicate 256 0), cI (List.replicate 256 0), cI (List.replicate 16 0), cI (List.replicate 64 0), cI (List.replicate 64 0), cI (List.replicate 64 0)] : List OwnC)
  refine WP.putR (ty := .array .int) (i := 0) (j := 32) (H' := ([cO [.int (0 : Int32), .int (0 : Int32), .int (0 : Int32), .ref 1, .ref 2, .int (0 : Int32), .int (0 : Int32), .int (0 : Int32), .int (0 : Int32), .int (0 : Int32), .int (0 : Int32), .int (0 : Int32), .int (0 : Int32), .ref 3, .ref 4, .ref 5, .ref 6, .ref 7, .ref 8, .ref 9, .ref 10, .ref 11, .ref 12, .ref 13, .ref 14, .ref 15, .int (0 : Int32), .int (0 : Int32), .int (0 : Int32), .ref 16, .ref 17, .ref 18, .ref 19, .null, .null, .null, .int (0 : Int32), .null, .null, .null, .null, .null, .int (0 : Int32), .int (0 : Int32), .int (0 : Int32), .int (0 : Int32), .null, .null, .null, .null, .null, .null], cI (List.replicate 256 0), cI (List.replicate 256 0), cI (List.replicate 16 0), cZ (List.replicate 4 0), cI (List.replicate 4 0), cI (List.replicate 4 0), cI (List.replicate 4 0), cI (List.replicate 4 0), cI (List.replicate 4 0), cI (List.replicate 32 0), cZ (List.replicate 32 0), cI (List.replicate 32 0), cI (List.replicate 256 0), cI (List.replicate 256 0), cI (List.replicate 256 0), cI (List.replicate 16 0), cI (List.replicate 64 0), cI (List.replicate 64 0), cI (List.replicate 64 0)] : List OwnC)) d0_152 (hw _ m_47) (Or.inl (hw _ m_48)) (hw _ m_1) (hlay hw) (by decide) (fun _ => rfl) (fun _ => rfl) rfl rfl rfl (leb rfl) rfl ?_
  refine WP.aloadN d0_155 rfl ?_
  refine WP.sipush (4096 : Int32) d0_156 rfl ?_
  refine WP.newarray d0_159 (hw _ m_9) (by decide) (leb rfl) (leb rfl) (leb rfl) (Or.inl ⟨rfl, rfl⟩) ?_
  show W0 l Z n0 (P0 r) 20 5720 161 [.val (.ref 0), .val (.int p1), .val (.int p2), .unset, .unset] [.ref 20, .ref 0] ([cO [.int (0 : Int32), .int (0 : Int32), .int (0 : Int32), .ref 1, .ref 2, .int (0 : Int32), .int (0 : Int32), .int (0 : Int32), .int (0 : Int32), .int (0 : Int32), .int (0 : Int32), .int (0 : Int32), .int (0 : Int32), .ref 3, .ref 4, .ref 5, .ref 6, .ref 7, .ref 8, .ref 9, .ref 10, .ref 11, .ref 12, .ref 13, .ref 14, .ref 15, .int (0 : Int32), .int (0 : Int32), .int (0 : Int32), .ref 16, .ref 17, .ref 18, .ref 19, .null, .null, .null, .int (0 : Int32), .null, .null, .null, .null, .null, .int (0 : Int32), .int (0 : Int32), .int (0 : Int32), .int (0 : Int32), .null, .null, .null, .null, .null, .null], cI (List.replicate 256 0), cI (List.replicate 256 0), cI (List.replicate 16 0), cZ (List.replicate 4 0), cI (List.replicate 4 0), cI (List.replicate 4 0), cI (List.replicate 4 0), cI (List.replicate 4 0), cI (List.replicate 4 0), cI (List.replicate 32 0), cZ (List.replicate 32 0), cI (List.replicate 32 0), cI (List.replicate 256 0), cI (List.replicate 256 0), cI (List.replicate 256 0), cI (List.replicate 16 0), cI (List.replicate 64 0), cI (List.replicate 64 0), cI (List.replicate 64 0), cI (List.replicate 4096 0)] : List OwnC)
  refine WP.putR (ty := .array .int) (i := 0) (j := 33) (H' := ([cO [.int (0 : Int32), .int (0 : Int32), .int (0 : Int32), .ref 1, .ref 2, .int (0 : Int32), .int (0 : Int32), .int (0 : Int32), .int (0 : Int32), .int (0 : Int32), .int (0 : Int32), .int (0 : Int32), .int (0 : Int32), .ref 3, .ref 4, .ref 5, .ref 6, .ref 7, .ref 8, .ref 9, .ref 10, .ref 11, .ref 12, .ref 13, .ref 14, .ref 15, .int (0 : Int32), .int (0 : Int32), .int (0 : Int32), .ref 16, .ref 17, .ref 18, .ref 19, .ref 20, .null, .null, .int (0 : Int32), .null, .null, .null, .null, .null, .int (0 : Int32), .int (0 : Int32), .int (0 : Int32), .int (0 : Int32), .null, .null, .null, .null, .null, .null], cI (List.replicate 256 0), cI (List.replicate 256 0), cI (List.replicate 16 0), cZ (List.replicate 4 0), cI (List.replicate 4 0), cI (List.replicate 4 0), cI (List.replicate 4 0), cI (List.replicate 4 0), cI (List.replicate 4 0), cI (List.replicate 32 0), cZ (List.replicate 32 0), cI (List.replicate 32 0), cI (List.replicate 256 0), cI (List.replicate 256 0), cI (List.replicate 256 0), cI (List.replicate 16 0), cI (List.replicate 64 0), cI (List.replicate 64 0), cI (List.replicate 64 0), cI (List.replicate 4096 0)] : List OwnC)) d0_161 (hw _ m_49) (Or.inl (hw _ m_50)) (hw _ m_1) (hlay hw) (by decide) (fun _ => rfl) (fun _ => rfl) rfl rfl rfl (leb rfl) rfl ?_
  refine WP.aloadN d0_164 rfl ?_
  refine WP.sipush (4096 : Int32) d0_165 rfl ?_
  refine WP.newarray d0_168 (hw _ m_9) (by decide) (leb rfl) (leb rfl) (leb rfl) (Or.inl ⟨rfl, rfl⟩) ?_
  show W0 l Z n0 (P0 r) 21 9816 170 [.val (.ref 0), .val (.int p1), .val (.int p2), .unset, .unset] [.ref 21, .ref 0] ([cO [.int (0 : Int32), .int (0 : Int32), .int (0 : Int32), .ref 1, .ref 2, .int (0 : Int32), .int (0 : Int32), .int (0 : Int32), .int (0 : Int32), .int (0 : Int32), .int (0 : Int32), .int (0 : Int32), .int (0 : Int32), .ref 3, .ref 4, .ref 5, .ref 6, .ref 7, .ref 8, .ref 9, .ref 10, .ref 11, .ref 12, .ref 13, .ref 14, .ref 15, .int (0 : Int32), .int (0 : Int32), .int (0 : Int32), .ref 16, .ref 17, .ref 18, .ref 19, .ref 20, .null, .null, .int (0 : Int32), .null, .null, .null, .null, .null, .int (0 : Int32), .int (0 : Int32), .int (0 : Int32), .int (0 : Int32), .null, .null, .null, .null, .null, .null], cI (List.replicate 256 0), cI (List.replicate 256 0), cI (List.replicate 16 0), cZ (List.replicate 4 0), cI (List.replicate 4 0), cI (List.replicate 4 0), cI (List.replicate 4 0), cI (List.replicate 4 0), cI (List.replicate 4 0), cI (List.replicate 32 0), cZ (List.replicate 32 0), cI (List.replicate 32 0), cI (List.replicate 256 0), cI (List.replicate 256 0), cI (List.replicate 256 0), cI (List.replicate 16 0), cI (List.replicate 64 0), cI (List.replicate 64 0), cI (List.replicate 64 0), cI (List.replicate 4096 0), cI (List.replicate 4096 0)] : List OwnC)
  refine WP.putR (ty := .array .int) (i := 0) (j := 34) (H' := ([cO [.int (0 : Int32), .int (0 : Int32), .int (0 : Int32), .ref 1, .ref 2, .int (0 : Int32), .int (0 : Int32), .int (0 : Int32), .int (0 : Int32), .int (0 : Int32), .int (0 : Int32), .int (0 : Int32), .int (0 : Int32), .ref 3, .ref 4, .ref 5, .ref 6, .ref 7, .ref 8, .ref 9, .ref 10, .ref 11, .ref 12, .ref 13, .ref 14, .ref 15, .int (0 : Int32), .int (0 : Int32), .int (0 : Int32), .ref 16, .ref 17, .ref 18, .ref 19, .ref 20, .ref 21, .null, .int (0 : Int32), .null, .null, .null, .null, .null, .int (0 : Int32), .int (0 : Int32), .int (0 : Int32), .int (0 : Int32), .null, .null, .null, .null, .null, .null], cI (List.replicate 256 0), cI (List.replicate 256 0), cI (List.replicate 16 0), cZ (List.replicate 4 0), cI (List.replicate 4 0), cI (List.replicate 4 0), cI (List.replicate 4 0), cI (List.replicate 4 0), cI (List.replicate 4 0), cI (List.replicate 32 0), cZ (List.replicate 32 0), cI (List.replicate 32 0), cI (List.replicate 256 0), cI (List.replicate 256 0), cI (List.replicate 256 0), cI (List.replicate 16 0), cI (List.replicate 64 0), cI (List.replicate 64 0), cI (List.replicate 64 0), cI (List.replicate 4096 0), cI (List.replicate 4096 0)] : List OwnC)) d0_170 (hw _ m_51) (Or.inl (hw _ m_52)) (hw _ m_1) (hlay hw) (by decide) (fun _ => rfl) (fun _ => rfl) rfl rfl rfl (leb rfl) rfl ?_
  refine WP.aloadN d0_173 rfl ?_
  refine WP.sipush (4096 : Int32) d0_174 rfl ?_
  refine WP.newarray d0_177 (hw _ m_16) (by decide) (leb rfl) (leb rfl) (leb rfl) (Or.inr (Or.inr ⟨rfl, rfl⟩)) ?_
  show W0 l Z n0 (P0 r) 22 13912 179 [.val (.ref 0), .val (.int p1), .val (.int p2), .unset, .unset] [.ref 22, .ref 0] ([cO [.int (0 : Int32), .int (0 : Int32), .int (0 : Int32), .ref 1, .ref 2, .int (0 : Int32), .int (0 : Int32), .int (0 : Int32), .int (0 : Int32), .int (0 : Int32), .int (0 : Int32), .int (0 : Int32), .int (0 : Int32), .ref 3, .ref 4, .ref 5, .ref 6, .ref 7, .ref 8, .ref 9, .ref 10, .ref 11, .ref 12, .ref 13, .ref 14, .ref 15, .int (0 : Int32), .int (0 : Int32), .int (0 : Int32), .ref 16, .ref 17, .ref 18, .ref 19, .ref 20, .ref 21, .null, .int (0 : Int32), .null, .null, .null, .null, .null, .int (0 : Int32), .int (0 : Int32), .int (0 : Int32), .int (0 : Int32), .null, .null, .null, .null, .null, .null], cI (List.replicate 256 0), cI (List.replicate 256 0), cI (List.replicate 16 0), cZ (List.replicate 4 0), cI (List.replicate 4 0), cI (List.replicate 4 0), cI (List.replicate 4 0), cI (List.replicate 4 0), cI (List.replicate 4 0), cI (List.replicate 32 0), cZ (List.replicate 32 0), cI (List.replicate 32 0), cI (List.replicate 256 0), cI (List.replicate 256 0), cI (List.replicate 256 0), cI (List.replicate 16 0), cI (List.replicate 64 0), cI (List.replicate 64 0), cI (List.replicate 64 0), cI (List.replicate 4096 0), cI (List.replicate 4096 0), cZ (List.replicate 4096 0)] : List OwnC)
  refine WP.putR (ty := .array .boolean) (i := 0) (j := 35) (H' := ([cO [.int (0 : Int32), .int (0 : Int32), .int (0 : Int32), .ref 1, .ref 2, .int (0 : Int32), .int (0 : Int32), .int (0 : Int32), .int (0 : Int32), .int (0 : Int32), .int (0 : Int32), .int (0 : Int32), .int (0 : Int32), .ref 3, .ref 4, .ref 5, .ref 6, .ref 7, .ref 8, .ref 9, .ref 10, .ref 11, .ref 12, .ref 13, .ref 14, .ref 15, .int (0 : Int32), .int (0 : Int32), .int (0 : Int32), .ref 16, .ref 17, .ref 18, .ref 19, .ref 20, .ref 21, .ref 22, .int (0 : Int32), .null, .null, .null, .null, .null, .int (0 : Int32), .int (0 : Int32), .int (0 : Int32), .int (0 : Int32), .null, .null, .null, .null, .null, .null], cI (List.replicate 256 0), cI (List.replicate 256 0), cI (List.replicate 16 0), cZ (List.replicate 4 0), cI (List.replicate 4 0), cI (List.replicate 4 0), cI (List.replicate 4 0), cI (List.replicate 4 0), cI (List.replicate 4 0), cI (List.replicate 32 0), cZ (List.replicate 32 0), cI (List.replicate 32 0), cI (List.replicate 256 0), cI (List.replicate 256 0), cI (List.replicate 256 0), cI (List.replicate 16 0), cI (List.replicate 64 0), cI (List.replicate 64 0), cI (List.replicate 64 0), cI (List.replicate 4096 0), cI (List.replicate 4096 0), cZ (List.replicate 4096 0)] : List OwnC)) d0_179 (hw _ m_53) (Or.inl (hw _ m_54)) (hw _ m_1) (hlay hw) (by decide) (fun _ => rfl) (fun _ => rfl) rfl rfl rfl (leb rfl) rfl ?_
  refine WP.aloadN d0_182 rfl ?_
  refine WP.bipush (8 : Int32) d0_183 rfl ?_
  refine WP.newarray d0_185 (hw _ m_9) (by decide) (leb rfl) (leb rfl) (leb rfl) (Or.inl ⟨rfl, rfl⟩) ?_
  show W0 l Z n0 (P0 r) 23 13920 187 [.val (.ref 0), .val (.int p1), .val (.int p2), .unset, .unset] [.ref 23, .ref 0] ([cO [.int (0 : Int32), .int (0 : Int32), .int (0 : Int32), .ref 1, .ref 2, .int (0 : Int32), .int (0 : Int32), .int (0 : Int32), .int (0 : Int32), .int (0 : Int32), .int (0 : Int32), .int (0 : Int32), .int (0 : Int32), .ref 3, .ref 4, .ref 5, .ref 6, .ref 7, .ref 8, .ref 9, .ref 10, .ref 11, .ref 12, .ref 13, .ref 14, .ref 15, .int (0 : Int32), .int (0 : Int32), .int (0 : Int32), .ref 16, .ref 17, .ref 18, .ref 19, .ref 20, .ref 21, .ref 22, .int (0 : Int32), .null, .null, .null, .null, .null, .int (0 : Int32), .int (0 : Int32), .int (0 : Int32), .int (0 : Int32), .null, .null, .null, .null, .null, .null], cI (List.replicate 256 0), cI (List.replicate 256 0), cI (List.replicate 16 0), cZ (List.replicate 4 0), cI (List.replicate 4 0), cI (List.replicate 4 0), cI (List.replicate 4 0), cI (List.replicate 4 0), cI (List.replicate 4 0), cI (List.replicate 32 0), cZ (List.replicate 32 0), cI (List.replicate 32 0), cI (List.replicate 256 0), cI (List.replicate 256 0), cI (List.replicate 256 0), cI (List.replicate 16 0), cI (List.replicate 64 0), cI (List.replicate 64 0), cI (List.replicate 64 0), cI (List.replicate 4096 0), cI (List.replicate 4096 0), cZ (List.replicate 4096 0), cI (List.replicate 8 0)] : List OwnC)
  refine WP.putR (ty := .array .int) (i := 0) (j := 37) (H' := ([cO [.int (0 : Int32), .int (0 : Int32), .int (0 : Int32), .ref 1, .ref 2, .int (0 : Int32), .int (0 : Int32), .int (0 : Int32), .int (0 : Int32), .int (0 : Int32), .int (0 : Int32), .int (0 : Int32), .int (0 : Int32), .ref 3, .ref 4, .ref 5, .ref 6, .ref 7, .ref 8, .ref 9, .ref 10, .ref 11, .ref 12, .ref 13, .ref 14, .ref 15, .int (0 : Int32), .int (0 : Int32), .int (0 : Int32), .ref 16, .ref 17, .ref 18, .ref 19, .ref 20, .ref 21, .ref 22, .int (0 : Int32), .ref 23, .null, .null, .null, .null, .int (0 : Int32), .int (0 : Int32), .int (0 : Int32), .int (0 : Int32), .null, .null, .null, .null, .null, .null], cI (List.replicate 256 0), cI (List.replicate 256 0), cI (List.replicate 16 0), cZ (List.replicate 4 0), cI (List.replicate 4 0), cI (List.replicate 4 0), cI (List.replicate 4 0), cI (List.replicate 4 0), cI (List.replicate 4 0), cI (List.replicate 32 0), cZ (List.replicate 32 0), cI (List.replicate 32 0), cI (List.replicate 256 0), cI (List.replicate 256 0), cI (List.replicate 256 0), cI (List.replicate 16 0), cI (List.replicate 64 0), cI (List.replicate 64 0), cI (List.replicate 64 0), cI (List.replicate 4096 0), cI (List.replicate 4096 0), cZ (List.replicate 4096 0), cI (List.replicate 8 0)] : List OwnC)) d0_187 (hw _ m_55) (Or.inl (hw _ m_56)) (hw _ m_1) (hlay hw) (by decide) (fun _ => rfl) (fun _ => rfl) rfl rfl rfl (leb rfl) rfl ?_
  refine WP.aloadN d0_190 rfl ?_
  refine WP.bipush (8 : Int32) d0_191 rfl ?_
  refine WP.newarray d0_193 (hw _ m_9) (by decide) (leb rfl) (leb rfl) (leb rfl) (Or.inl ⟨rfl, rfl⟩) ?_
  show W0 l Z n0 (P0 r) 24 13928 195 [.val (.ref 0), .val (.int p1), .val (.int p2), .unset, .unset] [.ref 24, .ref 0] ([cO [.int (0 : Int32), .int (0 : Int32), .int (0 : Int32), .ref 1, .ref 2, .int (0 : Int32), .int (0 : Int32), .int (0 : Int32), .int (0 : Int32), .int (0 : Int32), .int (0 : Int32), .int (0 : Int32), .int (0 : Int32), .ref 3, .ref 4, .ref 5, .ref 6, .ref 7, .ref 8, .ref 9, .ref 10, .ref 11, .ref 12, .ref 13, .ref 14, .ref 15, .int (0 : Int32), .int (0 : Int32), .int (0 : Int32), .ref 16, .ref 17, .ref 18, .ref 19, .ref 20, .ref 21, .ref 22, .int (0 : Int32), .ref 23, .null, .null, .null, .null, .int (0 : Int32), .int (0 : Int32), .int (0 : Int32), .int (0 : Int32), .null, .null, .null, .null, .null, .null], cI (List.replicate 256 0), cI (List.replicate 256 0), cI (List.replicate 16 0), cZ (List.replicate 4 0), cI (List.replicate 4 0), cI (List.replicate 4 0), cI (List.replicate 4 0), cI (List.replicate 4 0), cI (List.replicate 4 0), cI (List.replicate 32 0), cZ (List.replicate 32 0), cI (List.replicate 32 0), cI (List.replicate 256 0), cI (List.replicate 256 0), cI (List.replicate 256 0), cI (List.replicate 16 0), cI (List.replicate 64 0), cI (List.replicate 64 0), cI (List.replicate 64 0), cI (List.replicate 4096 0), cI (List.replicate 4096 0), cZ (List.replicate 4096 0), cI (List.replicate 8 0), cI (List.replicate 8 0)] : List OwnC)
  refine WP.putR (ty := .array .int) (i := 0) (j := 38) (H' := ([cO [.int (0 : Int32), .int (0 : Int32), .int (0 : Int32), .ref 1, .ref 2, .int (0 : Int32), .int (0 : Int32), .int (0 : Int32), .int (0 : Int32), .int (0 : Int32), .int (0 : Int32), .int (0 : Int32), .int (0 : Int32), .ref 3, .ref 4, .ref 5, .ref 6, .ref 7, .ref 8, .ref 9, .ref 10, .ref 11, .ref 12, .ref 13, .ref 14, .ref 15, .int (0 : Int32), .int (0 : Int32), .int (0 : Int32), .ref 16, .ref 17, .ref 18, .ref 19, .ref 20, .ref 21, .ref 22, .int (0 : Int32), .ref 23, .ref 24, .null, .null, .null, .int (0 : Int32), .int (0 : Int32), .int (0 : Int32), .int (0 : Int32), .null, .null, .null, .null, .null, .null], cI (List.replicate 256 0), cI (List.replicate 256 0), cI (List.replicate 16 0), cZ (List.replicate 4 0), cI (List.replicate 4 0), cI (List.replicate 4 0), cI (List.replicate 4 0), cI (List.replicate 4 0), cI (List.replicate 4 0), cI (List.replicate 32 0), cZ (List.replicate 32 0), cI (List.replicate 32 0), cI (List.replicate 256 0), cI (List.replicate 256 0), cI (List.replicate 256 0), cI (List.replicate 16 0), cI (List.replicate 64 0), cI (List.replicate 64 0), cI (List.replicate 64 0), cI (List.replicate 4096 0), cI (List.replicate 4096 0), cZ (List.replicate 4096 0), cI (List.replicate 8 0), cI (List.replicate 8 0)] : List OwnC)) d0_195 (hw _ m_57) (Or.inl (hw _ m_58)) (hw _ m_1) (hlay hw) (by decide) (fun _ => rfl) (fun _ => rfl) rfl rfl rfl (leb rfl) rfl ?_
  refine WP.aloadN d0_198 rfl ?_
  refine WP.bipush (8 : Int32) d0_199 rfl ?_
  refine WP.newarray d0_201 (hw _ m_9) (by decide) (leb rfl) (leb rfl) (leb rfl) (Or.inl ⟨rfl, rfl⟩) ?_
  show W0 l Z n0 (P0 r) 25 13936 203 [.val (.ref 0), .val (.int p1), .val (.int p2), .unset, .unset] [.ref 25, .ref 0] ([cO [.int (0 : Int32), .int (0 : Int32), .int (0 : Int32), .ref 1, .ref 2, .int (0 : Int32), .int (0 : Int32), .int (0 : Int32), .int (0 : Int32), .int (0 : Int32), .int (0 : Int32), .int (0 : Int32), .int (0 : Int32), .ref 3, .ref 4, .ref 5, .ref 6, .ref 7, .ref 8, .ref 9, .ref 10, .ref 11, .ref 12, .ref 13, .ref 14, .ref 15, .int (0 : Int32), .int (0 : Int32), .int (0 : Int32), .ref 16, .ref 17, .ref 18, .ref 19, .ref 20, .ref 21, .ref 22, .int (0 : Int32), .ref 23, .ref 24, .null, .null, .null, .int (0 : Int32), .int (0 : Int32), .int (0 : Int32), .int (0 : Int32), .null, .null, .null, .null, .null, .null], cI (List.replicate 256 0), cI (List.replicate 256 0), cI (List.replicate 16 0), cZ (List.replicate 4 0), cI (List.replicate 4 0), cI (List.replicate 4 0), cI (List.replicate 4 0), cI (List.replicate 4 0), cI (List.replicate 4 0), cI (List.replicate 32 0), cZ (List.replicate 32 0), cI (List.replicate 32 0), cI (List.replicate 256 0), cI (List.replicate 256 0), cI (List.replicate 256 0), cI (List.replicate 16 0), cI (List.replicate 64 0), cI (List.replicate 64 0), cI (List.replicate 64 0), cI (List.replicate 4096 0), cI (List.replicate 4096 0), cZ (List.replicate 4096 0), cI (List.replicate 8 0), cI (List.replicate 8 0), cI (List.replicate 8 0)] : List OwnC)
  refine WP.putR (ty := .array .int) (i := 0) (j := 39) (H' := ([cO [.int (0 : Int32), .int (0 : Int32), .int (0 : Int32), .ref 1, .ref 2, .int (0 : Int32), .int (0 : Int32), .int (0 : Int32), .int (0 : Int32), .int (0 : Int32), .int (0 : Int32), .int (0 : Int32), .int (0 : Int32), .ref 3, .ref 4, .ref 5, .ref 6, .ref 7, .ref 8, .ref 9, .ref 10, .ref 11, .ref 12, .ref 13, .ref 14, .ref 15, .int (0 : Int32), .int (0 : Int32), .int (0 : Int32), .ref 16, .ref 17, .ref 18, .ref 19, .ref 20, .ref 21, .ref 22, .int (0 : Int32), .ref 23, .ref 24, .ref 25, .null, .null, .int (0 : Int32), .int (0 : Int32), .int (0 : Int32), .int (0 : Int32), .null, .null, .null, .null, .null, .null], cI (List.replicate 256 0), cI (List.replicate 256 0), cI (List.replicate 16 0), cZ (List.replicate 4 0), cI (List.replicate 4 0), cI (List.replicate 4 0), cI (List.replicate 4 0), cI (List.replicate 4 0), cI (List.replicate 4 0), cI (List.replicate 32 0), cZ (List.replicate 32 0), cI (List.replicate 32 0), cI (List.replicate 256 0), cI (List.replicate 256 0), cI (List.replicate 256 0), cI (List.replicate 16 0), cI (List.replicate 64 0), cI (List.replicate 64 0), cI (List.replicate 64 0), cI (List.replicate 4096 0), cI (List.replicate 4096 0), cZ (List.replicate 4096 0), cI (List.replicate 8 0), cI (List.replicate 8 0), cI (List.replicate 8 0)] : List OwnC)) d0_203 (hw _ m_59) (Or.inl (hw _ m_60)) (hw _ m_1) (hlay hw) (by decide) (fun _ => rfl) (fun _ => rfl) rfl rfl rfl (leb rfl) rfl ?_
  refine WP.aloadN d0_206 rfl ?_
  refine WP.bipush (8 : Int32) d0_207 rfl ?_
  refine WP.newarray d0_209 (hw _ m_9) (by decide) (leb rfl) (leb rfl) (leb rfl) (Or.inl ⟨rfl, rfl⟩) ?_
  show W0 l Z n0 (P0 r) 26 13944 211 [.val (.ref 0), .val (.int p1), .val (.int p2), .unset, .unset] [.ref 26, .ref 0] ([cO [.int (0 : Int32), .int (0 : Int32), .int (0 : Int32), .ref 1, .ref 2, .int (0 : Int32), .int (0 : Int32), .int (0 : Int32), .int (0 : Int32), .int (0 : Int32), .int (0 : Int32), .int (0 : Int32), .int (0 : Int32), .ref 3, .ref 4, .ref 5, .ref 6, .ref 7, .ref 8, .ref 9, .ref 10, .ref 11, .ref 12, .ref 13, .ref 14, .ref 15, .int (0 : Int32), .int (0 : Int32), .int (0 : Int32), .ref 16, .ref 17, .ref 18, .ref 19, .ref 20, .ref 21, .ref 22, .int (0 : Int32), .ref 23, .ref 24, .ref 25, .null, .null, .int (0 : Int32), .int (0 : Int32), .int (0 : Int32), .int (0 : Int32), .null, .null, .null, .null, .null, .null], cI (List.replicate 256 0), cI (List.replicate 256 0), cI (List.replicate 16 0), cZ (List.replicate 4 0), cI (List.replicate 4 0), cI (List.replicate 4 0), cI (List.replicate 4 0), cI (List.replicate 4 0), cI (List.replicate 4 0), cI (List.replicate 32 0), cZ (List.replicate 32 0), cI (List.replicate 32 0), cI (List.replicate 256 0), cI (List.replicate 256 0), cI (List.replicate 256 0), cI (List.replicate 16 0), cI (List.replicate 64 0), cI (List.replicate 64 0), cI (List.replicate 64 0), cI (List.replicate 4096 0), cI (List.replicate 4096 0), cZ (List.replicate 4096 0), cI (List.replicate 8 0), cI (List.replicate 8 0), cI (List.replicate 8 0), cI (List.replicate 8 0)] : List OwnC)
  refine WP.putR (ty := .array .int) (i := 0) (j := 40) (H' := ([cO [.int (0 : Int32), .int (0 : Int32), .int (0 : Int32), .ref 1, .ref 2, .int (0 : Int32), .int (0 : Int32), .int (0 : Int32), .int (0 : Int32), .int (0 : Int32), .int (0 : Int32), .int (0 : Int32), .int (0 : Int32), .ref 3, .ref 4, .ref 5, .ref 6, .ref 7, .ref 8, .ref 9, .ref 10, .ref 11, .ref 12, .ref 13, .ref 14, .ref 15, .int (0 : Int32), .int (0 : Int32), .int (0 : Int32), .ref 16, .ref 17, .ref 18, .ref 19, .ref 20, .ref 21, .ref 22, .int (0 : Int32), .ref 23, .ref 24, .ref 25, .ref 26, .null, .int (0 : Int32), .int (0 : Int32), .int (0 : Int32), .int (0 : Int32), .null, .null, .null, .null, .null, .null], cI (List.replicate 256 0), cI (List.replicate 256 0), cI (List.replicate 16 0), cZ (List.replicate 4 0), cI (List.replicate 4 0), cI (List.replicate 4 0), cI (List.replicate 4 0), cI (List.replicate 4 0), cI (List.replicate 4 0), cI (List.replicate 32 0), cZ (List.replicate 32 0), cI (List.replicate 32 0), cI (List.replicate 256 0), cI (List.replicate 256 0), cI (List.replicate 256 0), cI (List.replicate 16 0), cI (List.replicate 64 0), cI (List.replicate 64 0), cI (List.replicate 64 0), cI (List.replicate 4096 0), cI (List.replicate 4096 0), cZ (List.replicate 4096 0), cI (List.replicate 8 0), cI (List.replicate 8 0), cI (List.replicate 8 0), cI (List.replicate 8 0)] : List OwnC)) d0_211 (hw _ m_61) (Or.inl (hw _ m_62)) (hw _ m_1) (hlay hw) (by decide) (fun _ => rfl) (fun _ => rfl) rfl rfl rfl (leb rfl) rfl ?_
  refine WP.aloadN d0_214 rfl ?_
  refine WP.bipush (8 : Int32) d0_215 rfl ?_
  refine WP.newarray d0_217 (hw _ m_9) (by decide) (leb rfl) (leb rfl) (leb rfl) (Or.inl ⟨rfl, rfl⟩) ?_
  show W0 l Z n0 (P0 r) 27 13952 219 [.val (.ref 0), .val (.int p1), .val (.int p2), .unset, .unset] [.ref 27, .ref 0] ([cO [.int (0 : Int32), .int (0 : Int32), .int (0 : Int32), .ref 1, .ref 2, .int (0 : Int32), .int (0 : Int32), .int (0 : Int32), .int (0 : Int32), .int (0 : Int32), .int (0 : Int32), .int (0 : Int32), .int (0 : Int32), .ref 3, .ref 4, .ref 5, .ref 6, .ref 7, .ref 8, .ref 9, .ref 10, .ref 11, .ref 12, .ref 13, .ref 14, .ref 15, .int (0 : Int32), .int (0 : Int32), .int (0 : Int32), .ref 16, .ref 17, .ref 18, .ref 19, .ref 20, .ref 21, .ref 22, .int (0 : Int32), .ref 23, .ref 24, .ref 25, .ref 26, .null, .int (0 : Int32), .int (0 : Int32), .int (0 : Int32), .int (0 : Int32), .null, .null, .null, .null, .null, .null], cI (List.replicate 256 0), cI (List.replicate 256 0), cI (List.replicate 16 0), cZ (List.replicate 4 0), cI (List.replicate 4 0), cI (List.replicate 4 0), cI (List.replicate 4 0), cI (List.replicate 4 0), cI (List.replicate 4 0), cI (List.replicate 32 0), cZ (List.replicate 32 0), cI (List.replicate 32 0), cI (List.replicate 256 0), cI (List.replicate 256 0), cI (List.replicate 256 0), cI (List.replicate 16 0), cI (List.replicate 64 0), cI (List.replicate 64 0), cI (List.replicate 64 0), cI (List.replicate 4096 0), cI (List.replicate 4096 0), cZ (List.replicate 4096 0), cI (List.replicate 8 0), cI (List.replicate 8 0), cI (List.replicate 8 0), cI (List.replicate 8 0), cI (List.replicate 8 0)] : List OwnC)
  refine WP.putR (ty := .array .int) (i := 0) (j := 41) (H' := ([cO [.int (0 : Int32), .int (0 : Int32), .int (0 : Int32), .ref 1, .ref 2, .int (0 : Int32), .int (0 : Int32), .int (0 : Int32), .int (0 : Int32), .int (0 : Int32), .int (0 : Int32), .int (0 : Int32), .int (0 : Int32), .ref 3, .ref 4, .ref 5, .ref 6, .ref 7, .ref 8, .ref 9, .ref 10, .ref 11, .ref 12, .ref 13, .ref 14, .ref 15, .int (0 : Int32), .int (0 : Int32), .int (0 : Int32), .ref 16, .ref 17, .ref 18, .ref 19, .ref 20, .ref 21, .ref 22, .int (0 : Int32), .ref 23, .ref 24, .ref 25, .ref 26, .ref 27, .int (0 : Int32), .int (0 : Int32), .int (0 : Int32), .int (0 : Int32), .null, .null, .null, .null, .null, .null], cI (List.replicate 256 0), cI (List.replicate 256 0), cI (List.replicate 16 0), cZ (List.replicate 4 0), cI (List.replicate 4 0), cI (List.replicate 4 0), cI (List.replicate 4 0), cI (List.replicate 4 0), cI (List.replicate 4 0), cI (List.replicate 32 0), cZ (List.replicate 32 0), cI (List.replicate 32 0), cI (List.replicate 256 0), cI (List.replicate 256 0), cI (List.replicate 256 0), cI (List.replicate 16 0), cI (List.replicate 64 0), cI (List.replicate 64 0), cI (List.replicate 64 0), cI (List.replicate 4096 0), cI (List.replicate 4096 0), cZ (List.replicate 4096 0), cI (List.replicate 8 0), cI (List.replicate 8 0), cI (List.replicate 8 0), cI (List.replicate 8 0), cI (List.replicate 8 0)] : List OwnC)) d0_219 (hw _ m_63) (Or.inl (hw _ m_64)) (hw _ m_1) (hlay hw) (by decide) (fun _ => rfl) (fun _ => rfl) rfl rfl rfl (leb rfl) rfl ?_
  refine WP.aloadN d0_222 rfl ?_
  refine WP.iconst (4 : Int32) d0_223 rfl ?_
  refine WP.newarray d0_224 (hw _ m_9) (by decide) (leb rfl) (leb rfl) (leb rfl) (Or.inl ⟨rfl, rfl⟩) ?_
  show W0 l Z n0 (P0 r) 28 13956 226 [.val (.ref 0), .val (.int p1), .val (.int p2), .unset, .unset] [.ref 28, .ref 0] ([cO [.int (0 : Int32), .int (0 : Int32), .int (0 : Int32), .ref 1, .ref 2, .int (0 : Int32), .int (0 : Int32), .int (0 : Int32), .int (0 : Int32), .int (0 : Int32), .int (0 : Int32), .int (0 : Int32), .int (0 : Int32), .ref 3, .ref 4, .ref 5, .ref 6, .ref 7, .ref 8, .ref 9, .ref 10, .ref 11, .ref 12, .ref 13, .ref 14, .ref 15, .int (0 : Int32), .int (0 : Int32), .int (0 : Int32), .ref 16, .ref 17, .ref 18, .ref 19, .ref 20, .ref 21, .ref 22, .int (0 : Int32), .ref 23, .ref 24, .ref 25, .ref 26, .ref 27, .int (0 : Int32), .int (0 : Int32), .int (0 : Int32), .int (0 : Int32), .null, .null, .null, .null, .null, .null], cI (List.replicate 256 0), cI (List.replicate 256 0), cI (List.replicate 16 0), cZ (List.replicate 4 0), cI (List.replicate 4 0), cI (List.replicate 4 0), cI (List.replicate 4 0), cI (List.replicate 4 0), cI (List.replicate 4 0), cI (List.replicate 32 0), cZ (List.replicate 32 0), cI (List.replicate 32 0), cI (List.replicate 256 0), cI (List.replicate 256 0), cI (List.replicate 256 0), cI (List.replicate 16 0), cI (List.replicate 64 0), cI (List.replicate 64 0), cI (List.replicate 64 0), cI (List.replicate 4096 0), cI (List.replicate 4096 0), cZ (List.replicate 4096 0), cI (List.replicate 8 0), cI (List.replicate 8 0), cI (List.replicate 8 0), cI (List.replicate 8 0), cI (List.replicate 8 0), cI (List.replicate 4 0)] : List OwnC)
  refine WP.putR (ty := .array .int) (i := 0) (j := 46) (H' := ([cO [.int (0 : Int32), .int (0 : Int32), .int (0 : Int32), .ref 1, .ref 2, .int (0 : Int32), .int (0 : Int32), .int (0 : Int32), .int (0 : Int32), .int (0 : Int32), .int (0 : Int32), .int (0 : Int32), .int (0 : Int32), .ref 3, .ref 4, .ref 5, .ref 6, .ref 7, .ref 8, .ref 9, .ref 10, .ref 11, .ref 12, .ref 13, .ref 14, .ref 15, .int (0 : Int32), .int (0 : Int32), .int (0 : Int32), .ref 16, .ref 17, .ref 18, .ref 19, .ref 20, .ref 21, .ref 22, .int (0 : Int32), .ref 23, .ref 24, .ref 25, .ref 26, .ref 27, .int (0 : Int32), .int (0 : Int32), .int (0 : Int32), .int (0 : Int32), .ref 28, .null, .null, .null, .null, .null], cI (List.replicate 256 0), cI (List.replicate 256 0), cI (List.replicate 16 0), cZ (List.replicate 4 0), cI (List.replicate 4 0), cI (List.replicate 4 0), cI (List.replicate 4 0), cI (List.replicate 4 0), cI (List.replicate 4 0), cI (List.replicate 32 0), cZ (List.replicate 32 0), cI (List.replicate 32 0), cI (List.replicate 256 0), cI (List.replicate 256 0), cI (List.replicate 256 0), cI (List.replicate 16 0), cI (List.replicate 64 0), cI (List.replicate 64 0), cI (List.replicate 64 0), cI (List.replicate 4096 0), cI (List.replicate 4096 0), cZ (List.replicate 4096 0), cI (List.replicate 8 0), cI (List.replicate 8 0), cI (List.replicate 8 0), cI (List.replicate 8 0), cI (List.replicate 8 0), cI (List.replicate 4 0)] : List OwnC)) d0_226 (hw _ m_65) (Or.inl (hw _ m_66)) (hw _ m_1) (hlay hw) (by decide) (fun _ => rfl) (fun _ => rfl) rfl rfl rfl (leb rfl) rfl ?_
  refine WP.aloadN d0_229 rfl ?_
  refine WP.iconst (4 : Int32) d0_230 rfl ?_
  refine WP.newarray d0_231 (hw _ m_9) (by decide) (leb rfl) (leb rfl) (leb rfl) (Or.inl ⟨rfl, rfl⟩) ?_
  show W0 l Z n0 (P0 r) 29 13960 233 [.val (.ref 0), .val (.int p1), .val (.int p2), .unset, .unset] [.ref 29, .ref 0] ([cO [.int (0 : Int32), .int (0 : Int32), .int (0 : Int32), .ref 1, .ref 2, .int (0 : Int32), .int (0 : Int32), .int (0 : Int32), .int (0 : Int32), .int (0 : Int32), .int (0 : Int32), .int (0 : Int32), .int (0 : Int32), .ref 3, .ref 4, .ref 5, .ref 6, .ref 7, .ref 8, .ref 9, .ref 10, .ref 11, .ref 12, .ref 13, .ref 14, .ref 15, .int (0 : Int32), .int (0 : Int32), .int (0 : Int32), .ref 16, .ref 17, .ref 18, .ref 19, .ref 20, .ref 21, .ref 22, .int (0 : Int32), .ref 23, .ref 24, .ref 25, .ref 26, .ref 27, .int (0 : Int32), .int (0 : Int32), .int (0 : Int32), .int (0 : Int32), .ref 28, .null, .null, .null, .null, .null], cI (List.replicate 256 0), cI (List.replicate 256 0), cI (List.replicate 16 0), cZ (List.replicate 4 0), cI (List.replicate 4 0), cI (List.replicate 4 0), cI (List.replicate 4 0), cI (List.replicate 4 0), cI (List.replicate 4 0), cI (List.replicate 32 0), cZ (List.replicate 32 0), cI (List.replicate 32 0), cI (List.replicate 256 0), cI (List.replicate 256 0), cI (List.replicate 256 0), cI (List.replicate 16 0), cI (List.replicate 64 0), cI (List.replicate 64 0), cI (List.replicate 64 0), cI (List.replicate 4096 0), cI (List.replicate 4096 0), cZ (List.replicate 4096 0), cI (List.replicate 8 0), cI (List.replicate 8 0), cI (List.replicate 8 0), cI (List.replicate 8 0), cI (List.replicate 8 0), cI (List.replicate 4 0), cI (List.replicate 4 0)] : List OwnC)
  refine WP.putR (ty := .array .int) (i := 0) (j := 47) (H' := ([cO [.int (0 : Int32), .int (0 : Int32), .int (0 : Int32), .ref 1, .ref 2, .int (0 : Int32), .int (0 : Int32), .int (0 : Int32), .int (0 : Int32), .int (0 : Int32), .int (0 : Int32), .int (0 : Int32), .int (0 : Int32), .ref 3, .ref 4, .ref 5, .ref 6, .ref 7, .ref 8, .ref 9, .ref 10, .ref 11, .ref 12, .ref 13, .ref 14, .ref 15, .int (0 : Int32), .int (0 : Int32), .int (0 : Int32), .ref 16, .ref 17, .ref 18, .ref 19, .ref 20, .ref 21, .ref 22, .int (0 : Int32), .ref 23, .ref 24, .ref 25, .ref 26, .ref 27, .int (0 : Int32), .int (0 : Int32), .int (0 : Int32), .int (0 : Int32), .ref 28, .ref 29, .null, .null, .null, .null], cI (List.replicate 256 0), cI (List.replicate 256 0), cI (List.replicate 16 0), cZ (List.replicate 4 0), cI (List.replicate 4 0), cI (List.replicate 4 0), cI (List.replicate 4 0), cI (List.replicate 4 0), cI (List.replicate 4 0), cI (List.replicate 32 0), cZ (List.replicate 32 0), cI (List.replicate 32 0), cI (List.replicate 256 0), cI (List.replicate 256 0), cI (List.replicate 256 0), cI (List.replicate 16 0), cI (List.replicate 64 0), cI (List.replicate 64 0), cI (List.replicate 64 0), cI (List.replicate 4096 0), cI (List.replicate 4096 0), cZ (List.replicate 4096 0), cI (List.replicate 8 0), cI (List.replicate 8 0), cI (List.replicate 8 0), cI (List.replicate 8 0), cI (List.replicate 8 0), cI (List.replicate 4 0), cI (List.replicate 4 0)] : List OwnC)) d0_233 (hw _ m_67) (Or.inl (hw _ m_68)) (hw _ m_1) (hlay hw) (by decide) (fun _ => rfl) (fun _ => rfl) rfl rfl rfl (leb rfl) rfl ?_
  refine WP.aloadN d0_236 rfl ?_
  refine WP.iconst (4 : Int32) d0_237 rfl ?_
  refine WP.newarray d0_238 (hw _ m_9) (by decide) (leb rfl) (leb rfl) (leb rfl) (Or.inl ⟨rfl, rfl⟩) ?_
  show W0 l Z n0 (P0 r) 30 13964 240 [.val (.ref 0), .val (.int p1), .val (.int p2), .unset, .unset] [.ref 30, .ref 0] ([cO [.int (0 : Int32), .int (0 : Int32), .int (0 : Int32), .ref 1, .ref 2, .int (0 : Int32), .int (0 : Int32), .int (0 : Int32), .int (0 : Int32), .int (0 : Int32), .int (0 : Int32), .int (0 : Int32), .int (0 : Int32), .ref 3, .ref 4, .ref 5, .ref 6, .ref 7, .ref 8, .ref 9, .ref 10, .ref 11, .ref 12, .ref 13, .ref 14, .ref 15, .int (0 : Int32), .int (0 : Int32), .int (0 : Int32), .ref 16, .ref 17, .ref 18, .ref 19, .ref 20, .ref 21, .ref 22, .int (0 : Int32), .ref 23, .ref 24, .ref 25, .ref 26, .ref 27, .int (0 : Int32), .int (0 : Int32), .int (0 : Int32), .int (0 : Int32), .ref 28, .ref 29, .null, .null, .null, .null], cI (List.replicate 256 0), cI (List.replicate 256 0), cI (List.replicate 16 0), cZ (List.replicate 4 0), cI (List.replicate 4 0), cI (List.replicate 4 0), cI (List.replicate 4 0), cI (List.replicate 4 0), cI (List.replicate 4 0), cI (List.replicate 32 0), cZ (List.replicate 32 0), cI (List.replicate 32 0), cI (List.replicate 256 0), cI (List.replicate 256 0), cI (List.replicate 256 0), cI (List.replicate 16 0), cI (List.replicate 64 0), cI (List.replicate 64 0), cI (List.replicate 64 0), cI (List.replicate 4096 0), cI (List.replicate 4096 0), cZ (List.replicate 4096 0), cI (List.replicate 8 0), cI (List.replicate 8 0), cI (List.replicate 8 0), cI (List.replicate 8 0), cI (List.replicate 8 0), cI (List.replicate 4 0), cI (List.replicate 4 0), cI (List.replicate 4 0)] : List OwnC)
  refine WP.putR (ty := .array .int) (i := 0) (j := 48) (H' := ([cO [.int (0 : Int32), .int (0 : Int32), .int (0 : Int32), .ref 1, .ref 2, .int (0 : Int32), .int (0 : Int32), .int (0 : Int32), .int (0 : Int32), .int (0 : Int32), .int (0 : Int32), .int (0 : Int32), .int (0 : Int32), .ref 3, .ref 4, .ref 5, .ref 6, .ref 7, .ref 8, .ref 9, .ref 10, .ref 11, .ref 12, .ref 13, .ref 14, .ref 15, .int (0 : Int32), .int (0 : Int32), .int (0 : Int32), .ref 16, .ref 17, .ref 18, .ref 19, .ref 20, .ref 21, .ref 22, .int (0 : Int32), .ref 23, .ref 24, .ref 25, .ref 26, .ref 27, .int (0 : Int32), .int (0 : Int32), .int (0 : Int32), .int (0 : Int32), .ref 28, .ref 29, .ref 30, .null, .null, .null], cI (List.replicate 256 0), cI (List.replicate 256 0), cI (List.replicate 16 0), cZ (List.replicate 4 0), cI (List.replicate 4 0), cI (List.replicate 4 0), cI (List.replicate 4 0), cI (List.replicate 4 0), cI (List.replicate 4 0), cI (List.replicate 32 0), cZ (List.replicate 32 0), cI (List.replicate 32 0), cI (List.replicate 256 0), cI (List.replicate 256 0), cI (List.replicate 256 0), cI (List.replicate 16 0), cI (List.replicate 64 0), cI (List.replicate 64 0), cI (List.replicate 64 0), cI (List.replicate 4096 0), cI (List.replicate 4096 0), cZ (List.replicate 4096 0), cI (List.replicate 8 0), cI (List.replicate 8 0), cI (List.replicate 8 0), cI (List.replicate 8 0), cI (List.replicate 8 0), cI (List.replicate 4 0), cI (List.replicate 4 0), cI (List.replicate 4 0)] : List OwnC)) d0_240 (hw _ m_69) (Or.inl (hw _ m_70)) (hw _ m_1) (hlay hw) (by decide) (fun _ => rfl) (fun _ => rfl) rfl rfl rfl (leb rfl) rfl ?_
  refine WP.aloadN d0_243 rfl ?_
  refine WP.bipush (8 : Int32) d0_244 rfl ?_
  refine WP.newarray d0_246 (hw _ m_9) (by decide) (leb rfl) (leb rfl) (leb rfl) (Or.inl ⟨rfl, rfl⟩) ?_
  show W0 l Z n0 (P0 r) 31 13972 248 [.val (.ref 0), .val (.int p1), .val (.int p2), .unset, .unset] [.ref 31, .ref 0] ([cO [.int (0 : Int32), .int (0 : Int32), .int (0 : Int32), .ref 1, .ref 2, .int (0 : Int32), .int (0 : Int32), .int (0 : Int32), .int (0 : Int32), .int (0 : Int32), .int (0 : Int32), .int (0 : Int32), .int (0 : Int32), .ref 3, .ref 4, .ref 5, .ref 6, .ref 7, .ref 8, .ref 9, .ref 10, .ref 11, .ref 12, .ref 13, .ref 14, .ref 15, .int (0 : Int32), .int (0 : Int32), .int (0 : Int32), .ref 16, .ref 17, .ref 18, .ref 19, .ref 20, .ref 21, .ref 22, .int (0 : Int32), .ref 23, .ref 24, .ref 25, .ref 26, .ref 27, .int (0 : Int32), .int (0 : Int32), .int (0 : Int32), .int (0 : Int32), .ref 28, .ref 29, .ref 30, .null, .null, .null], cI (List.replicate 256 0), cI (List.replicate 256 0), cI (List.replicate 16 0), cZ (List.replicate 4 0), cI (List.replicate 4 0), cI (List.replicate 4 0), cI (List.replicate 4 0), cI (List.replicate 4 0), cI (List.replicate 4 0), cI (List.replicate 32 0), cZ (List.replicate 32 0), cI (List.replicate 32 0), cI (List.replicate 256 0), cI (List.replicate 256 0), cI (List.replicate 256 0), cI (List.replicate 16 0), cI (List.replicate 64 0), cI (List.replicate 64 0), cI (List.replicate 64 0), cI (List.replicate 4096 0), cI (List.replicate 4096 0), cZ (List.replicate 4096 0), cI (List.replicate 8 0), cI (List.replicate 8 0), cI (List.replicate 8 0), cI (List.replicate 8 0), cI (List.replicate 8 0), cI (List.replicate 4 0), cI (List.replicate 4 0), cI (List.replicate 4 0), cI (List.replicate 8 0)] : List OwnC)
  refine WP.putR (ty := .array .int) (i := 0) (j := 49) (H' := ([cO [.int (0 : Int32), .int (0 : Int32), .int (0 : Int32), .ref 1, .ref 2, .int (0 : Int32), .int (0 : Int32), .int (0 : Int32), .int (0 : Int32), .int (0 : Int32), .int (0 : Int32), .int (0 : Int32), .int (0 : Int32), .ref 3, .ref 4, .ref 5, .ref 6, .ref 7, .ref 8, .ref 9, .ref 10, .ref 11, .ref 12, .ref 13, .ref 14, .ref 15, .int (0 : Int32), .int (0 : Int32), .int (0 : Int32), .ref 16, .ref 17, .ref 18, .ref 19, .ref 20, .ref 21, .ref 22, .int (0 : Int32), .ref 23, .ref 24, .ref 25, .ref 26, .ref 27, .int (0 : Int32), .int (0 : Int32), .int (0 : Int32), .int (0 : Int32), .ref 28, .ref 29, .ref 30, .ref 31, .null, .null], cI (List.replicate 256 0), cI (List.replicate 256 0), cI (List.replicate 16 0), cZ (List.replicate 4 0), cI (List.replicate 4 0), cI (List.replicate 4 0), cI (List.replicate 4 0), cI (List.replicate 4 0), cI (List.replicate 4 0), cI (List.replicate 32 0), cZ (List.replicate 32 0), cI (List.replicate 32 0), cI (List.replicate 256 0), cI (List.replicate 256 0), cI (List.replicate 256 0), cI (List.replicate 16 0), cI (List.replicate 64 0), cI (List.replicate 64 0), cI (List.replicate 64 0), cI (List.replicate 4096 0), cI (List.replicate 4096 0), cZ (List.replicate 4096 0), cI (List.replicate 8 0), cI (List.replicate 8 0), cI (List.replicate 8 0), cI (List.replicate 8 0), cI (List.replicate 8 0), cI (List.replicate 4 0), cI (List.replicate 4 0), cI (List.replicate 4 0), cI (List.replicate 8 0)] : List OwnC)) d0_248 (hw _ m_71) (Or.inl (hw _ m_72)) (hw _ m_1) (hlay hw) (by decide) (fun _ => rfl) (fun _ => rfl) rfl rfl rfl (leb rfl) rfl ?_
  refine WP.aloadN d0_251 rfl ?_
  refine WP.bipush (8 : Int32) d0_252 rfl ?_
  refine WP.newarray d0_254 (hw _ m_9) (by decide) (leb rfl) (leb rfl) (leb rfl) (Or.inl ⟨rfl, rfl⟩) ?_
  show W0 l Z n0 (P0 r) 32 13980 256 [.val (.ref 0), .val (.int p1), .val (.int p2), .unset, .unset] [.ref 32, .ref 0] ([cO [.int (0 : Int32), .int (0 : Int32), .int (0 : Int32), .ref 1, .ref 2, .int (0 : Int32), .int (0 : Int32), .int (0 : Int32), .int (0 : Int32), .int (0 : Int32), .int (0 : Int32), .int (0 : Int32), .int (0 : Int32), .ref 3, .ref 4, .ref 5, .ref 6, .ref 7, .ref 8, .ref 9, .ref 10, .ref 11, .ref 12, .ref 13, .ref 14, .ref 15, .int (0 : Int32), .int (0 : Int32), .int (0 : Int32), .ref 16, .ref 17, .ref 18, .ref 19, .ref 20, .ref 21, .ref 22, .int (0 : Int32), .ref 23, .ref 24, .ref 25, .ref 26, .ref 27, .int (0 : Int32), .int (0 : Int32), .int (0 : Int32), .int (0 : Int32), .ref 28, .ref 29, .ref 30, .ref 31, .null, .null], cI (List.replicate 256 0), cI (List.replicate 256 0), cI (List.replicate 16 0), cZ (List.replicate 4 0), cI (List.replicate 4 0), cI (List.replicate 4 0), cI (List.replicate 4 0), cI (List.replicate 4 0), cI (List.replicate 4 0), cI (List.replicate 32 0), cZ (List.replicate 32 0), cI (List.replicate 32 0), cI (List.replicate 256 0), cI (List.replicate 256 0), cI (List.replicate 256 0), cI (List.replicate 16 0), cI (List.replicate 64 0), cI (List.replicate 64 0), cI (List.replicate 64 0), cI (List.replicate 4096 0), cI (List.replicate 4096 0), cZ (List.replicate 4096 0), cI (List.replicate 8 0), cI (List.replicate 8 0), cI (List.replicate 8 0), cI (List.replicate 8 0), cI (List.replicate 8 0), cI (List.replicate 4 0), cI (List.replicate 4 0), cI (List.replicate 4 0), cI (List.replicate 8 0), cI (List.replicate 8 0)] : List OwnC)
  refine WP.putR (ty := .array .int) (i := 0) (j := 50) (H' := ([cO [.int (0 : Int32), .int (0 : Int32), .int (0 : Int32), .ref 1, .ref 2, .int (0 : Int32), .int (0 : Int32), .int (0 : Int32), .int (0 : Int32), .int (0 : Int32), .int (0 : Int32), .int (0 : Int32), .int (0 : Int32), .ref 3, .ref 4, .ref 5, .ref 6, .ref 7, .ref 8, .ref 9, .ref 10, .ref 11, .ref 12, .ref 13, .ref 14, .ref 15, .int (0 : Int32), .int (0 : Int32), .int (0 : Int32), .ref 16, .ref 17, .ref 18, .ref 19, .ref 20, .ref 21, .ref 22, .int (0 : Int32), .ref 23, .ref 24, .ref 25, .ref 26, .ref 27, .int (0 : Int32), .int (0 : Int32), .int (0 : Int32), .int (0 : Int32), .ref 28, .ref 29, .ref 30, .ref 31, .ref 32, .null], cI (List.replicate 256 0), cI (List.replicate 256 0), cI (List.replicate 16 0), cZ (List.replicate 4 0), cI (List.replicate 4 0), cI (List.replicate 4 0), cI (List.replicate 4 0), cI (List.replicate 4 0), cI (List.replicate 4 0), cI (List.replicate 32 0), cZ (List.replicate 32 0), cI (List.replicate 32 0), cI (List.replicate 256 0), cI (List.replicate 256 0), cI (List.replicate 256 0), cI (List.replicate 16 0), cI (List.replicate 64 0), cI (List.replicate 64 0), cI (List.replicate 64 0), cI (List.replicate 4096 0), cI (List.replicate 4096 0), cZ (List.replicate 4096 0), cI (List.replicate 8 0), cI (List.replicate 8 0), cI (List.replicate 8 0), cI (List.replicate 8 0), cI (List.replicate 8 0), cI (List.replicate 4 0), cI (List.replicate 4 0), cI (List.replicate 4 0), cI (List.replicate 8 0), cI (List.replicate 8 0)] : List OwnC)) d0_256 (hw _ m_73) (Or.inl (hw _ m_74)) (hw _ m_1) (hlay hw) (by decide) (fun _ => rfl) (fun _ => rfl) rfl rfl rfl (leb rfl) rfl ?_
  refine WP.aloadN d0_259 rfl ?_
  refine WP.bipush (8 : Int32) d0_260 rfl ?_
  refine WP.newarray d0_262 (hw _ m_9) (by decide) (leb rfl) (leb rfl) (leb rfl) (Or.inl ⟨rfl, rfl⟩) ?_
  show W0 l Z n0 (P0 r) 33 13988 264 [.val (.ref 0), .val (.int p1), .val (.int p2), .unset, .unset] [.ref 33, .ref 0] ([cO [.int (0 : Int32), .int (0 : Int32), .int (0 : Int32), .ref 1, .ref 2, .int (0 : Int32), .int (0 : Int32), .int (0 : Int32), .int (0 : Int32), .int (0 : Int32), .int (0 : Int32), .int (0 : Int32), .int (0 : Int32), .ref 3, .ref 4, .ref 5, .ref 6, .ref 7, .ref 8, .ref 9, .ref 10, .ref 11, .ref 12, .ref 13, .ref 14, .ref 15, .int (0 : Int32), .int (0 : Int32), .int (0 : Int32), .ref 16, .ref 17, .ref 18, .ref 19, .ref 20, .ref 21, .ref 22, .int (0 : Int32), .ref 23, .ref 24, .ref 25, .ref 26, .ref 27, .int (0 : Int32), .int (0 : Int32), .int (0 : Int32), .int (0 : Int32), .ref 28, .ref 29, .ref 30, .ref 31, .ref 32, .null], cI (List.replicate 256 0), cI (List.replicate 256 0), cI (List.replicate 16 0), cZ (List.replicate 4 0), cI (List.replicate 4 0), cI (List.replicate 4 0), cI (List.replicate 4 0), cI (List.replicate 4 0), cI (List.replicate 4 0), cI (List.replicate 32 0), cZ (List.replicate 32 0), cI (List.replicate 32 0), cI (List.replicate 256 0), cI (List.replicate 256 0), cI (List.replicate 256 0), cI (List.replicate 16 0), cI (List.replicate 64 0), cI (List.replicate 64 0), cI (List.replicate 64 0), cI (List.replicate 4096 0), cI (List.replicate 4096 0), cZ (List.replicate 4096 0), cI (List.replicate 8 0), cI (List.replicate 8 0), cI (List.replicate 8 0), cI (List.replicate 8 0), cI (List.replicate 8 0), cI (List.replicate 4 0), cI (List.replicate 4 0), cI (List.replicate 4 0), cI (List.replicate 8 0), cI (List.replicate 8 0), cI (List.replicate 8 0)] : List OwnC)
  obtain ⟨s1, es1, h⟩ := lt_e h
  refine WP.putR (ty := .array .int) (i := 0) (j := 51) (H' := (Hb 0 s1)) d0_264 (hw _ m_75) (Or.inl (hw _ m_76)) (hw _ m_1) (hlay hw) (by decide) (fun _ => rfl) (fun _ => rfl) rfl rfl rfl (leb rfl) (by subst es1; rfl) ?_
  refine WP.iloadN d0_267 rfl ?_
  refine WP.istoreN (L' := [.val (.ref 0), .val (.int p1), .val (.int p2), .val (.int p1), .unset]) d0_268 (leb rfl) rfl ?_
  refine WP.iloadN d0_269 rfl ?_
  refine WP.bipush (8 : Int32) d0_270 rfl ?_
  rcases ite_e h with ⟨hc2, h⟩ | ⟨hc2, h⟩
  ·
    refine WP.icmpN d0_272 (XT.ii_ge_f hc2) ?_
    refine WP.bipush (8 : Int32) d0_275 rfl ?_
    refine WP.istoreN (L' := [.val (.ref 0), .val (.int p1), .val (.int p2), .val (.int (8 : Int32)), .unset]) d0_277 (leb rfl) rfl ?_
    exact WP.weak (L' := [.val (.ref 0), .unset, .val (.int p2), .val (.int (8 : Int32)), .unset]) ⟨rfl, rfl, rfl, trivial⟩ (ok0_278 l Z a0 hw n0 p2 (8 : Int32) s1 _ h)
  ·
    refine WP.icmpY (pc' := 278) d0_272 (XT.ii_ge_t hc2) (by decide) rfl ?_
    exact WP.weak (L' := [.val (.ref 0), .unset, .val (.int p2), .val (.int p1), .unset]) ⟨rfl, rfl, rfl, trivial⟩ (ok0_278 l Z a0 hw n0 p2 p1 s1 _ h)
theorem d2_0 : dc prog_1_method_3_code 0 (.aload_n 0) 1 := by decide +kernel
theorem d2_1 : dc prog_1_method_3_code 1 (.getfield 120) 3 := by decide +kernel
theorem d2_4 : dc prog_1_method_3_code 4 (.sipush 256) 3 := by decide +kernel
theorem d2_7 : dc prog_1_method_3_code 7 (.if_icmp .ne 5) 3 := by decide +kernel
theorem d2_10 : dc prog_1_method_3_code 10 (.iconst 0) 1 := by decide +kernel
theorem d2_11 : dc prog_1_method_3_code 11 (.ireturn) 1 := by decide +kernel
theorem d2_12 : dc prog_1_method_3_code 12 (.iload_n 1) 1 := by decide +kernel
theorem d2_13 : dc prog_1_method_3_code 13 (.iconst 1) 1 := by decide +kernel
theorem d2_14 : dc prog_1_method_3_code 14 (.if_icmp .lt 9) 3 := by decide +kernel
theorem d2_17 : dc prog_1_method_3_code 17 (.iload_n 1) 1 := by decide +kernel
theorem d2_18 : dc prog_1_method_3_code 18 (.bipush 25) 2 := by decide +kernel
theorem d2_20 : dc prog_1_method_3_code 20 (.if_icmp .le 5) 3 := by decide +kernel
theorem d2_23 : dc prog_1_method_3_code 23 (.iconst 0) 1 := by decide +kernel
theorem d2_24 : dc prog_1_method_3_code 24 (.ireturn) 1 := by decide +kernel
theorem d2_25 : dc prog_1_method_3_code 25 (.iload_n 1) 1 := by decide +kernel
theorem d2_26 : dc prog_1_method_3_code 26 (.iconst 2) 1 := by decide +kernel
theorem d2_27 : dc prog_1_method_3_code 27 (.if_icmp .ne 15) 3 := by decide +kernel
theorem d2_30 : dc prog_1_method_3_code 30 (.iload_n 2) 1 := by decide +kernel
theorem d2_31 : dc prog_1_method_3_code 31 (.ifCond .lt 9) 3 := by decide +kernel
theorem d2_34 : dc prog_1_method_3_code 34 (.iload_n 2) 1 := by decide +kernel
theorem d2_35 : dc prog_1_method_3_code 35 (.bipush 7) 2 := by decide +kernel
theorem d2_37 : dc prog_1_method_3_code 37 (.if_icmp .le 5) 3 := by decide +kernel
theorem d2_40 : dc prog_1_method_3_code 40 (.iconst 0) 1 := by decide +kernel
theorem d2_41 : dc prog_1_method_3_code 41 (.ireturn) 1 := by decide +kernel
theorem d2_42 : dc prog_1_method_3_code 42 (.iload_n 1) 1 := by decide +kernel
theorem d2_43 : dc prog_1_method_3_code 43 (.iconst 3) 1 := by decide +kernel
theorem d2_44 : dc prog_1_method_3_code 44 (.if_icmp .ne 14) 3 := by decide +kernel
theorem d2_47 : dc prog_1_method_3_code 47 (.iload_n 2) 1 := by decide +kernel
theorem d2_48 : dc prog_1_method_3_code 48 (.ifCond .lt 8) 3 := by decide +kernel
theorem d2_51 : dc prog_1_method_3_code 51 (.iload_n 2) 1 := by decide +kernel
theorem d2_52 : dc prog_1_method_3_code 52 (.iconst 3) 1 := by decide +kernel
theorem d2_53 : dc prog_1_method_3_code 53 (.if_icmp .le 5) 3 := by decide +kernel
theorem d2_56 : dc prog_1_method_3_code 56 (.iconst 0) 1 := by decide +kernel
theorem d2_57 : dc prog_1_method_3_code 57 (.ireturn) 1 := by decide +kernel
theorem d2_58 : dc prog_1_method_3_code 58 (.iconst 0) 1 := by decide +kernel
theorem d2_59 : dc prog_1_method_3_code 59 (.istore_n 3) 1 := by decide +kernel
theorem d2_60 : dc prog_1_method_3_code 60 (.iload_n 1) 1 := by decide +kernel
theorem d2_61 : dc prog_1_method_3_code 61 (.iconst 1) 1 := by decide +kernel
theorem d2_62 : dc prog_1_method_3_code 62 (.if_icmp .eq 13) 3 := by decide +kernel
theorem d2_65 : dc prog_1_method_3_code 65 (.iload_n 1) 1 := by decide +kernel
theorem d2_66 : dc prog_1_method_3_code 66 (.iconst 2) 1 := by decide +kernel
theorem d2_67 : dc prog_1_method_3_code 67 (.if_icmp .eq 8) 3 := by decide +kernel
theorem d2_70 : dc prog_1_method_3_code 70 (.iload_n 1) 1 := by decide +kernel
theorem d2_71 : dc prog_1_method_3_code 71 (.iconst 3) 1 := by decide +kernel
theorem d2_72 : dc prog_1_method_3_code 72 (.if_icmp .ne 5) 3 := by decide +kernel
theorem d2_75 : dc prog_1_method_3_code 75 (.iload_n 2) 1 := by decide +kernel
theorem d2_76 : dc prog_1_method_3_code 76 (.istore_n 3) 1 := by decide +kernel
theorem d2_77 : dc prog_1_method_3_code 77 (.aload_n 0) 1 := by decide +kernel
theorem d2_78 : dc prog_1_method_3_code 78 (.getfield 7) 3 := by decide +kernel
theorem d2_81 : dc prog_1_method_3_code 81 (.aload_n 0) 1 := by decide +kernel
theorem d2_82 : dc prog_1_method_3_code 82 (.getfield 120) 3 := by decide +kernel
theorem d2_85 : dc prog_1_method_3_code 85 (.iload_n 1) 1 := by decide +kernel
theorem d2_86 : dc prog_1_method_3_code 86 (.iastore) 1 := by decide +kernel
theorem d2_87 : dc prog_1_method_3_code 87 (.aload_n 0) 1 := by decide +kernel
theorem d2_88 : dc prog_1_method_3_code 88 (.getfield 13) 3 := by decide +kernel
theorem d2_91 : dc prog_1_method_3_code 91 (.aload_n 0) 1 := by decide +kernel
theorem d2_92 : dc prog_1_method_3_code 92 (.getfield 120) 3 := by decide +kernel
theorem d2_95 : dc prog_1_method_3_code 95 (.iload_n 3) 1 := by decide +kernel
theorem d2_96 : dc prog_1_method_3_code 96 (.iastore) 1 := by decide +kernel
theorem d2_97 : dc prog_1_method_3_code 97 (.aload_n 0) 1 := by decide +kernel
theorem d2_98 : dc prog_1_method_3_code 98 (.dup) 1 := by decide +kernel
theorem d2_99 : dc prog_1_method_3_code 99 (.getfield 120) 3 := by decide +kernel
theorem d2_102 : dc prog_1_method_3_code 102 (.iconst 1) 1 := by decide +kernel
theorem d2_103 : dc prog_1_method_3_code 103 (.iadd) 1 := by decide +kernel
theorem d2_104 : dc prog_1_method_3_code 104 (.putfield 120) 3 := by decide +kernel
theorem d2_107 : dc prog_1_method_3_code 107 (.aload_n 0) 1 := by decide +kernel
theorem d2_108 : dc prog_1_method_3_code 108 (.iconst 0) 1 := by decide +kernel
theorem d2_109 : dc prog_1_method_3_code 109 (.putfield 123) 3 := by decide +kernel
theorem d2_112 : dc prog_1_method_3_code 112 (.aload_n 0) 1 := by decide +kernel
theorem d2_113 : dc prog_1_method_3_code 113 (.invokevirtual 117) 3 := by decide +kernel
theorem d2_116 : dc prog_1_method_3_code 116 (.iconst 1) 1 := by decide +kernel
theorem d2_117 : dc prog_1_method_3_code 117 (.ireturn) 1 := by decide +kernel
abbrev y2 : MethodName := ⟨"FatPointerC", "tok", "(II)Z"⟩
theorem hy2 : y2.cls ≠ "java/lang/invoke/MethodHandle" ∧ y2.cls ≠ "java/lang/invoke/VarHandle" := by decide
theorem pd2 : parseMethodDescriptor y2.desc = some ⟨[.int, .int], some .boolean⟩ := by decide +kernel
abbrev R2 : Room := { frames := 1, cells := 0, slots := 0, locals := 12 }
abbrev P2 (r : Int32 × St) : Option Value → List OwnC → Prop := fun v H' => v = some (.int r.1) ∧ H' = (Hb 0 r.2)
abbrev W2 (l : Launch) (Z : State) (n0 : Nat) (Q : Option Value → List OwnC → Prop) (k n pc : Nat) (L : List Slot) (S : List Value) (H : List OwnC) : Prop := WP l Z CN lay "FatPointerC" "tok" prog_1_method_3_code 4 (some FieldType.boolean) R2 n0 0 Q k n pc L S H
def f_tok_23 (s : St) : Option (Int32 × St) :=
  some ((0 : Int32), s)
set_option maxRecDepth 65536 in
set_option maxHeartbeats 4000000 in
theorem ok2_23 (l : Launch) (Z : State) (a0 : Array Value) (hw : HW a0 Z) (n0 : Nat) (s : St) (r : Int32 × St) (h : f_tok_23 s = some r) : W2 l Z n0 (P2 r) 0 0 23 [.unset, .unset, .unset, .unset] [] (Hb 0 s) := by
  unfold f_tok_23 at h
  refine WP.iconst (0 : Int32) d2_23 rfl ?_
  cases h
  exact WP.zreturn d2_24 rfl (leb rfl) (leb rfl) ⟨rfl, rfl⟩
def f_tok_40 (s : St) : Option (Int32 × St) :=
  some ((0 : Int32), s)
set_option maxRecDepth 65536 in
set_option maxHeartbeats 4000000 in
theorem ok2_40 (l : Launch) (Z : State) (a0 : Array Value) (hw : HW a0 Z) (n0 : Nat) (s : St) (r : Int32 × St) (h : f_tok_40 s = some r) : W2 l Z n0 (P2 r) 0 0 40 [.unset, .unset, .unset, .unset] [] (Hb 0 s) := by
  unfold f_tok_40 at h
  refine WP.iconst (0 : Int32) d2_40 rfl ?_
  cases h
  exact WP.zreturn d2_41 rfl (leb rfl) (leb rfl) ⟨rfl, rfl⟩
def f_tok_56 (s : St) : Option (Int32 × St) :=
  some ((0 : Int32), s)
set_option maxRecDepth 65536 in
set_option maxHeartbeats 4000000 in
theorem ok2_56 (l : Launch) (Z : State) (a0 : Array Value) (hw : HW a0 Z) (n0 : Nat) (s : St) (r : Int32 × St) (h : f_tok_56 s = some r) : W2 l Z n0 (P2 r) 0 0 56 [.unset, .unset, .unset, .unset] [] (Hb 0 s) := by
  unfold f_tok_56 at h
  refine WP.iconst (0 : Int32) d2_56 rfl ?_
  cases h
  exact WP.zreturn d2_57 rfl (leb rfl) (leb rfl) ⟨rfl, rfl⟩
def f_tok_77 (v1 : Int32) (v3 : Int32) (s : St) : Option (Int32 × St) :=
  (wrA s 0 (gI s 2) v1).bind fun s1 =>
  (wrA s1 1 (gI s1 2) v3).bind fun s2 =>
  lt (sI s2 2 ((gI s2 2) + (1 : Int32))) fun s3 =>
  lt (sI s3 3 (0 : Int32)) fun s4 =>
  (f_clearResults s4).bind fun c5 =>
  some ((1 : Int32), c5)
set_option maxRecDepth 65536 in
set_option maxHeartbeats 4000000 in
theorem ok2_77 (l : Launch) (Z : State) (a0 : Array Value) (hw : HW a0 Z) (n0 : Nat) (v1 : Int32) (v3 : Int32) (s : St) (r : Int32 × St) (h : f_tok_77 v1 v3 s = some r) : W2 l Z n0 (P2 r) 0 0 77 [.val (.ref 0), .val (.int v1), .unset, .val (.int v3)] [] (Hb 0 s) := by
  unfold f_tok_77 at h
  refine WP.aloadN d2_77 rfl ?_
  refine WP.getfield (i := 0) (j := 3) d2_78 (hw _ m_10) rfl rfl rfl ?_
  refine WP.aloadN d2_81 rfl ?_
  refine WP.getfield (i := 0) (j := 2) d2_82 (hw _ m_104) rfl rfl rfl ?_
  refine WP.iloadN d2_85 rfl ?_
  obtain ⟨s1, hs1, h⟩ := Option.bind_eq_some_iff.mp h
  obtain ⟨ys1, gs1, es1⟩ := wrA_e hs1
  refine WP.iastore (i := 1) (xs := gA s 0) (H' := (Hb 0 s1)) d2_86 rfl (leb rfl) gs1 (by subst es1; rfl) ?_
  refine WP.aloadN d2_87 rfl ?_
  refine WP.getfield (i := 0) (j := 4) d2_88 (hw _ m_12) rfl rfl rfl ?_
  refine WP.aloadN d2_91 rfl ?_
  refine WP.getfield (i := 0) (j := 2) d2_92 (hw _ m_104) rfl rfl rfl ?_
  refine WP.iloadN d2_95 rfl ?_
  obtain ⟨s2, hs2, h⟩ := Option.bind_eq_some_iff.mp h
  obtain ⟨ys2, gs2, es2⟩ := wrA_e hs2
  refine WP.iastore (i := 2) (xs := gA s1 1) (H' := (Hb 0 s2)) d2_96 rfl (leb rfl) gs2 (by subst es2; rfl) ?_
  refine WP.aloadN d2_97 rfl ?_
  refine WP.dup d2_98 rfl ?_
  refine WP.getfield (i := 0) (j := 2) d2_99 (hw _ m_104) rfl rfl rfl ?_
  refine WP.iconst (1 : Int32) d2_102 rfl ?_
  refine WP.iadd d2_103 ?_
  obtain ⟨s3, es3, h⟩ := lt_e h
  refine WP.putI (i := 0) (j := 2) (H' := (Hb 0 s3)) d2_104 (hw _ m_104) (Or.inl (hw _ m_105)) (hw _ m_1) (hlay hw) rfl rfl rfl (leb rfl) (by subst es3; rfl) ?_
  refine WP.aloadN d2_107 rfl ?_
  refine WP.iconst (0 : Int32) d2_108 rfl ?_
  obtain ⟨s4, es4, h⟩ := lt_e h
  refine WP.putZ (i := 0) (j := 5) (H' := (Hb 0 s4)) d2_109 (hw _ m_106) (Or.inl (hw _ m_107)) (hw _ m_1) (hlay hw) rfl rfl rfl (leb rfl) (by subst es4; rfl) ?_
  refine WP.aloadN d2_112 rfl ?_
  obtain ⟨c5, hc5, h⟩ := Option.bind_eq_some_iff.mp h
  refine WP.callP (i := 0) (y := y1) (as := []) (S := []) d2_113 (hw _ m_81) (hw _ m_83) (hw _ m_1) (hw _ m_82) (hw _ m_84) (hw _ m_2) hy1 rfl (ok1 l Z a0 hw s4 _ hc5) rfl (lenOf pd1 rfl) (leb rfl) (leb rfl) (leb rfl) (leb rfl) ?_
  rintro _ _ ⟨rfl, rfl⟩
  show W2 l Z n0 (P2 r) 0 0 116 [.val (.ref 0), .val (.int v1), .unset, .val (.int v3)] [] (Hb 0 c5)
  refine WP.iconst (1 : Int32) d2_116 rfl ?_
  cases h
  exact WP.zreturn d2_117 rfl (leb rfl) (leb rfl) ⟨rfl, rfl⟩
def f_tok_75 (v1 : Int32) (v2 : Int32) (s : St) : Option (Int32 × St) :=
  f_tok_77 v1 v2 s
set_option maxRecDepth 65536 in
set_option maxHeartbeats 4000000 in
theorem ok2_75 (l : Launch) (Z : State) (a0 : Array Value) (hw : HW a0 Z) (n0 : Nat) (v1 : Int32) (v2 : Int32) (s : St) (r : Int32 × St) (h : f_tok_75 v1 v2 s = some r) : W2 l Z n0 (P2 r) 0 0 75 [.val (.ref 0), .val (.int v1), .val (.int v2), .unset] [] (Hb 0 s) := by
  unfold f_tok_75 at h
  refine WP.iloadN d2_75 rfl ?_
  refine WP.istoreN (L' := [.val (.ref 0), .val (.int v1), .val (.int v2), .val (.int v2)]) d2_76 (leb rfl) rfl ?_
  exact WP.weak (L' := [.val (.ref 0), .val (.int v1), .unset, .val (.int v2)]) ⟨rfl, rfl, rfl, trivial⟩ (ok2_77 l Z a0 hw n0 v1 v2 s _ h)
def f_tok_58 (v1 : Int32) (v2 : Int32) (s : St) : Option (Int32 × St) :=
  if v1 = (1 : Int32) then
    f_tok_75 v1 v2 s
  else
    if v1 = (2 : Int32) then
      f_tok_75 v1 v2 s
    else
      if v1 = (3 : Int32) then
        f_tok_75 v1 v2 s
      else
        f_tok_77 v1 (0 : Int32) s
set_option maxRecDepth 65536 in
set_option maxHeartbeats 4000000 in
theorem ok2_58 (l : Launch) (Z : State) (a0 : Array Value) (hw : HW a0 Z) (n0 : Nat) (v1 : Int32) (v2 : Int32) (s : St) (r : Int32 × St) (h : f_tok_58 v1 v2 s = some r) : W2 l Z n0 (P2 r) 0 0 58 [.val (.ref 0), .val (.int v1), .val (.int v2), .unset] [] (Hb 0 s) := by
  unfold f_tok_58 at h
  refine WP.iconst (0 : Int32) d2_58 rfl ?_
  refine WP.istoreN (L' := [.val (.ref 0), .val (.int v1), .val (.int v2), .val (.int (0 : Int32))]) d2_59 (leb rfl) rfl ?_
  refine WP.iloadN d2_60 rfl ?_
  refine WP.iconst (1 : Int32) d2_61 rfl ?_
  rcases ite_e h with ⟨hc1, h⟩ | ⟨hc1, h⟩
  ·
    refine WP.icmpY (pc' := 75) d2_62 (XT.ii_eq_t hc1) (by decide) rfl ?_
    exact WP.weak (L' := [.val (.ref 0), .val (.int v1), .val (.int v2), .unset]) ⟨rfl, rfl, rfl, trivial⟩ (ok2_75 l Z a0 hw n0 v1 v2 s _ h)
  ·
    refine WP.icmpN d2_62 (XT.ii_eq_f hc1) ?_
    refine WP.iloadN d2_65 rfl ?_
    refine WP.iconst (2 : Int32) d2_66 rfl ?_
    rcases ite_e h with ⟨hc2, h⟩ | ⟨hc2, h⟩
    ·
      refine WP.icmpY (pc' := 75) d2_67 (XT.ii_eq_t hc2) (by decide) rfl ?_
      exact WP.weak (L' := [.val (.ref 0), .val (.int v1), .val (.int v2), .unset]) ⟨rfl, rfl, rfl, trivial⟩ (ok2_75 l Z a0 hw n0 v1 v2 s _ h)
    ·
      refine WP.icmpN d2_67 (XT.ii_eq_f hc2) ?_
      refine WP.iloadN d2_70 rfl ?_
      refine WP.iconst (3 : Int32) d2_71 rfl ?_
      rcases ite_e h with ⟨hc3, h⟩ | ⟨hc3, h⟩
      ·
        refine WP.icmpN d2_72 (XT.ii_ne_f hc3) ?_
        exact WP.weak (L' := [.val (.ref 0), .val (.int v1), .val (.int v2), .unset]) ⟨rfl, rfl, rfl, trivial⟩ (ok2_75 l Z a0 hw n0 v1 v2 s _ h)
      ·
        refine WP.icmpY (pc' := 77) d2_72 (XT.ii_ne_t hc3) (by decide) rfl ?_
        exact WP.weak (L' := [.val (.ref 0), .val (.int v1), .unset, .val (.int (0 : Int32))]) ⟨rfl, rfl, rfl, trivial⟩ (ok2_77 l Z a0 hw n0 v1 (0 : Int32) s _ h)
def f_tok_42 (v1 : Int32) (v2 : Int32) (s : St) : Option (Int32 × St) :=
  if v1 = (3 : Int32) then
    if v2 < 0 then
      f_tok_56 s
    else
      if (3 : Int32) < v2 then
        f_tok_56 s
      else
        f_tok_58 v1 v2 s
  else
    f_tok_58 v1 v2 s
set_option maxRecDepth 65536 in
set_option maxHeartbeats 4000000 in
theorem ok2_42 (l : Launch) (Z : State) (a0 : Array Value) (hw : HW a0 Z) (n0 : Nat) (v1 : Int32) (v2 : Int32) (s : St) (r : Int32 × St) (h : f_tok_42 v1 v2 s = some r) : W2 l Z n0 (P2 r) 0 0 42 [.val (.ref 0), .val (.int v1), .val (.int v2), .unset] [] (Hb 0 s) := by
  unfold f_tok_42 at h
  refine WP.iloadN d2_42 rfl ?_
  refine WP.iconst (3 : Int32) d2_43 rfl ?_
  rcases ite_e h with ⟨hc1, h⟩ | ⟨hc1, h⟩
  ·
    refine WP.icmpN d2_44 (XT.ii_ne_f hc1) ?_
    refine WP.iloadN d2_47 rfl ?_
    rcases ite_e h with ⟨hc2, h⟩ | ⟨hc2, h⟩
    ·
      refine WP.ifY (pc' := 56) d2_48 (XT.i0_lt_t hc2) (by decide) rfl ?_
      exact WP.weak (L' := [.unset, .unset, .unset, .unset]) trivial (ok2_56 l Z a0 hw n0 s _ h)
    ·
      refine WP.ifN d2_48 (XT.i0_lt_f hc2) ?_
      refine WP.iloadN d2_51 rfl ?_
      refine WP.iconst (3 : Int32) d2_52 rfl ?_
      rcases ite_e h with ⟨hc3, h⟩ | ⟨hc3, h⟩
      ·
        refine WP.icmpN d2_53 (XT.ii_le_f hc3) ?_
        exact WP.weak (L' := [.unset, .unset, .unset, .unset]) trivial (ok2_56 l Z a0 hw n0 s _ h)
      ·
        refine WP.icmpY (pc' := 58) d2_53 (XT.ii_le_t hc3) (by decide) rfl ?_
        exact WP.weak (L' := [.val (.ref 0), .val (.int v1), .val (.int v2), .unset]) ⟨rfl, rfl, rfl, trivial⟩ (ok2_58 l Z a0 hw n0 v1 v2 s _ h)
  ·
    refine WP.icmpY (pc' := 58) d2_44 (XT.ii_ne_t hc1) (by decide) rfl ?_
    exact WP.weak (L' := [.val (.ref 0), .val (.int v1), .val (.int v2), .unset]) ⟨rfl, rfl, rfl, trivial⟩ (ok2_58 l Z a0 hw n0 v1 v2 s _ h)
def f_tok (p1 : Int32) (p2 : Int32) (s : St) : Option (Int32 × St) :=
  if (gI s 2) = (256 : Int32) then
    some ((0 : Int32), s)
  else
    if p1 < (1 : Int32) then
      f_tok_23 s
    else
      if (25 : Int32) < p1 then
        f_tok_23 s
      else
        if p1 = (2 : Int32) then
          if p2 < 0 then
            f_tok_40 s
          else
            if (7 : Int32) < p2 then
              f_tok_40 s
            else
              f_tok_42 p1 p2 s
        else
          f_tok_42 p1 p2 s
set_option maxRecDepth 65536 in
set_option maxHeartbeats 4000000 in
theorem ok2 (l : Launch) (Z : State) (a0 : Array Value) (hw : HW a0 Z) (p1 : Int32) (p2 : Int32) (s : St) (r : Int32 × St) (h : f_tok p1 p2 s = some r) : CS l Z CN lay y2 prog_1_method_3_code 4 (some FieldType.boolean) R2 0 [.ref 0, .int p1, .int p2] (Hb 0 s) (P2 r) := by
  refine CS.of_wp pn_cls (leb rfl) fun n0 => ?_
  show W2 l Z n0 (P2 r) 0 0 0 [.val (.ref 0), .val (.int p1), .val (.int p2), .unset] [] (Hb 0 s)
  unfold f_tok at h
  refine WP.aloadN d2_0 rfl ?_
  refine WP.getfield (i := 0) (j := 2) d2_1 (hw _ m_104) rfl rfl rfl ?_
  refine WP.sipush (256 : Int32) d2_4 rfl ?_
  rcases ite_e h with ⟨hc1, h⟩ | ⟨hc1, h⟩
  ·
    refine WP.icmpN d2_7 (XT.ii_ne_f hc1) ?_
    refine WP.iconst (0 : Int32) d2_10 rfl ?_
    cases h
    exact WP.zreturn d2_11 rfl (leb rfl) (leb rfl) ⟨rfl, rfl⟩
  ·
    refine WP.icmpY (pc' := 12) d2_7 (XT.ii_ne_t hc1) (by decide) rfl ?_
    refine WP.iloadN d2_12 rfl ?_
    refine WP.iconst (1 : Int32) d2_13 rfl ?_
    rcases ite_e h with ⟨hc2, h⟩ | ⟨hc2, h⟩
    ·
      refine WP.icmpY (pc' := 23) d2_14 (XT.ii_lt_t hc2) (by decide) rfl ?_
      exact WP.weak (L' := [.unset, .unset, .unset, .unset]) trivial (ok2_23 l Z a0 hw n0 s _ h)
    ·
      refine WP.icmpN d2_14 (XT.ii_lt_f hc2) ?_
      refine WP.iloadN d2_17 rfl ?_
      refine WP.bipush (25 : Int32) d2_18 rfl ?_
      rcases ite_e h with ⟨hc3, h⟩ | ⟨hc3, h⟩
      ·
        refine WP.icmpN d2_20 (XT.ii_le_f hc3) ?_
        exact WP.weak (L' := [.unset, .unset, .unset, .unset]) trivial (ok2_23 l Z a0 hw n0 s _ h)
      ·
        refine WP.icmpY (pc' := 25) d2_20 (XT.ii_le_t hc3) (by decide) rfl ?_
        refine WP.iloadN d2_25 rfl ?_
        refine WP.iconst (2 : Int32) d2_26 rfl ?_
        rcases ite_e h with ⟨hc4, h⟩ | ⟨hc4, h⟩
        ·
          refine WP.icmpN d2_27 (XT.ii_ne_f hc4) ?_
          refine WP.iloadN d2_30 rfl ?_
          rcases ite_e h with ⟨hc5, h⟩ | ⟨hc5, h⟩
          ·
            refine WP.ifY (pc' := 40) d2_31 (XT.i0_lt_t hc5) (by decide) rfl ?_
            exact WP.weak (L' := [.unset, .unset, .unset, .unset]) trivial (ok2_40 l Z a0 hw n0 s _ h)
          ·
            refine WP.ifN d2_31 (XT.i0_lt_f hc5) ?_
            refine WP.iloadN d2_34 rfl ?_
            refine WP.bipush (7 : Int32) d2_35 rfl ?_
            rcases ite_e h with ⟨hc6, h⟩ | ⟨hc6, h⟩
            ·
              refine WP.icmpN d2_37 (XT.ii_le_f hc6) ?_
              exact WP.weak (L' := [.unset, .unset, .unset, .unset]) trivial (ok2_40 l Z a0 hw n0 s _ h)
            ·
              refine WP.icmpY (pc' := 42) d2_37 (XT.ii_le_t hc6) (by decide) rfl ?_
              exact WP.weak (L' := [.val (.ref 0), .val (.int p1), .val (.int p2), .unset]) ⟨rfl, rfl, rfl, trivial⟩ (ok2_42 l Z a0 hw n0 p1 p2 s _ h)
        ·
          refine WP.icmpY (pc' := 42) d2_27 (XT.ii_ne_t hc4) (by decide) rfl ?_
          exact WP.weak (L' := [.val (.ref 0), .val (.int p1), .val (.int p2), .unset]) ⟨rfl, rfl, rfl, trivial⟩ (ok2_42 l Z a0 hw n0 p1 p2 s _ h)
theorem d7_0 : dc prog_1_method_16_code 0 (.iload_n 1) 1 := by decide +kernel
theorem d7_1 : dc prog_1_method_16_code 1 (.ifCond .lt 11) 3 := by decide +kernel
theorem d7_4 : dc prog_1_method_16_code 4 (.iload_n 1) 1 := by decide +kernel
theorem d7_5 : dc prog_1_method_16_code 5 (.aload_n 0) 1 := by decide +kernel
theorem d7_6 : dc prog_1_method_16_code 6 (.getfield 120) 3 := by decide +kernel
theorem d7_9 : dc prog_1_method_16_code 9 (.if_icmp .lt 5) 3 := by decide +kernel
theorem d7_12 : dc prog_1_method_16_code 12 (.iconst 0) 1 := by decide +kernel
theorem d7_13 : dc prog_1_method_16_code 13 (.ireturn) 1 := by decide +kernel
theorem d7_14 : dc prog_1_method_16_code 14 (.aload_n 0) 1 := by decide +kernel
theorem d7_15 : dc prog_1_method_16_code 15 (.getfield 7) 3 := by decide +kernel
theorem d7_18 : dc prog_1_method_16_code 18 (.iload_n 1) 1 := by decide +kernel
theorem d7_19 : dc prog_1_method_16_code 19 (.iaload) 1 := by decide +kernel
theorem d7_20 : dc prog_1_method_16_code 20 (.ireturn) 1 := by decide +kernel
abbrev y7 : MethodName := ⟨"FatPointerC", "kindAt", "(I)I"⟩
theorem hy7 : y7.cls ≠ "java/lang/invoke/MethodHandle" ∧ y7.cls ≠ "java/lang/invoke/VarHandle" := by decide
theorem pd7 : parseMethodDescriptor y7.desc = some ⟨[.int], some .int⟩ := by decide +kernel
abbrev R7 : Room := { frames := 0, cells := 0, slots := 0, locals := 0 }
abbrev P7 (s : St) (r : Int32) : Option Value → List OwnC → Prop := fun v H' => v = some (.int r) ∧ H' = (Hb 0 s)
abbrev W7 (l : Launch) (Z : State) (n0 : Nat) (Q : Option Value → List OwnC → Prop) (k n pc : Nat) (L : List Slot) (S : List Value) (H : List OwnC) : Prop := WP l Z CN lay "FatPointerC" "kindAt" prog_1_method_16_code 2 (some FieldType.int) R7 n0 0 Q k n pc L S H
def f_kindAt_12 (s : St) : Option (Int32) :=
  some (0 : Int32)
set_option maxRecDepth 65536 in
set_option maxHeartbeats 4000000 in
theorem ok7_12 (l : Launch) (Z : State) (a0 : Array Value) (hw : HW a0 Z) (n0 : Nat) (s : St) (r : Int32) (h : f_kindAt_12 s = some r) : W7 l Z n0 (P7 s r) 0 0 12 [.unset, .unset] [] (Hb 0 s) := by
  unfold f_kindAt_12 at h
  refine WP.iconst (0 : Int32) d7_12 rfl ?_
  cases h
  exact WP.ireturn d7_13 rfl (leb rfl) (leb rfl) ⟨rfl, rfl⟩
def f_kindAt (p1 : Int32) (s : St) : Option (Int32) :=
  if p1 < 0 then
    f_kindAt_12 s
  else
    if p1 < (gI s 2) then
      (rd (gA s 0) p1).bind fun x3 =>
      some x3
    else
      f_kindAt_12 s
set_option maxRecDepth 65536 in
set_option maxHeartbeats 4000000 in
theorem ok7 (l : Launch) (Z : State) (a0 : Array Value) (hw : HW a0 Z) (p1 : Int32) (s : St) (r : Int32) (h : f_kindAt p1 s = some r) : CS l Z CN lay y7 prog_1_method_16_code 2 (some FieldType.int) R7 0 [.ref 0, .int p1] (Hb 0 s) (P7 s r) := by
  refine CS.of_wp pn_cls (leb rfl) fun n0 => ?_
  show W7 l Z n0 (P7 s r) 0 0 0 [.val (.ref 0), .val (.int p1)] [] (Hb 0 s)
  unfold f_kindAt at h
  refine WP.iloadN d7_0 rfl ?_
  rcases ite_e h with ⟨hc1, h⟩ | ⟨hc1, h⟩
  ·
    refine WP.ifY (pc' := 12) d7_1 (XT.i0_lt_t hc1) (by decide) rfl ?_
    exact WP.weak (L' := [.unset, .unset]) trivial (ok7_12 l Z a0 hw n0 s _ h)
  ·
    refine WP.ifN d7_1 (XT.i0_lt_f hc1) ?_
    refine WP.iloadN d7_4 rfl ?_
    refine WP.aloadN d7_5 rfl ?_
    refine WP.getfield (i := 0) (j := 2) d7_6 (hw _ m_104) rfl rfl rfl ?_
    rcases ite_e h with ⟨hc2, h⟩ | ⟨hc2, h⟩
    ·
      refine WP.icmpY (pc' := 14) d7_9 (XT.ii_lt_t hc2) (by decide) rfl ?_
      refine WP.aloadN d7_14 rfl ?_
      refine WP.getfield (i := 0) (j := 3) d7_15 (hw _ m_10) rfl rfl rfl ?_
      refine WP.iloadN d7_18 rfl ?_
      obtain ⟨x3, hx3, h⟩ := Option.bind_eq_some_iff.mp h
      refine WP.iaload (i := 1) d7_19 rfl hx3 ?_
      cases h
      exact WP.ireturn d7_20 rfl (leb rfl) (leb rfl) ⟨rfl, rfl⟩
    ·
      refine WP.icmpN d7_9 (XT.ii_lt_f hc2) ?_
      exact WP.weak (L' := [.unset, .unset]) trivial (ok7_12 l Z a0 hw n0 s _ h)
theorem d6_0 : dc prog_1_method_20_code 0 (.aload_n 0) 1 := by decide +kernel
theorem d6_1 : dc prog_1_method_20_code 1 (.getfield 180) 3 := by decide +kernel
theorem d6_4 : dc prog_1_method_20_code 4 (.ifCond .ne 4) 3 := by decide +kernel
theorem d6_7 : dc prog_1_method_20_code 7 (.return_) 1 := by decide +kernel
theorem d6_8 : dc prog_1_method_20_code 8 (.aload_n 0) 1 := by decide +kernel
theorem d6_9 : dc prog_1_method_20_code 9 (.aload_n 0) 1 := by decide +kernel
theorem d6_10 : dc prog_1_method_20_code 10 (.getfield 183) 3 := by decide +kernel
theorem d6_13 : dc prog_1_method_20_code 13 (.invokevirtual 192) 3 := by decide +kernel
theorem d6_16 : dc prog_1_method_20_code 16 (.iload_n 1) 1 := by decide +kernel
theorem d6_17 : dc prog_1_method_20_code 17 (.if_icmp .eq 9) 3 := by decide +kernel
theorem d6_20 : dc prog_1_method_20_code 20 (.aload_n 0) 1 := by decide +kernel
theorem d6_21 : dc prog_1_method_20_code 21 (.iconst 0) 1 := by decide +kernel
theorem d6_22 : dc prog_1_method_20_code 22 (.putfield 180) 3 := by decide +kernel
theorem d6_25 : dc prog_1_method_20_code 25 (.return_) 1 := by decide +kernel
theorem d6_26 : dc prog_1_method_20_code 26 (.aload_n 0) 1 := by decide +kernel
theorem d6_27 : dc prog_1_method_20_code 27 (.dup) 1 := by decide +kernel
theorem d6_28 : dc prog_1_method_20_code 28 (.getfield 183) 3 := by decide +kernel
theorem d6_31 : dc prog_1_method_20_code 31 (.iconst 1) 1 := by decide +kernel
theorem d6_32 : dc prog_1_method_20_code 32 (.iadd) 1 := by decide +kernel
theorem d6_33 : dc prog_1_method_20_code 33 (.putfield 183) 3 := by decide +kernel
theorem d6_36 : dc prog_1_method_20_code 36 (.return_) 1 := by decide +kernel
abbrev y6 : MethodName := ⟨"FatPointerC", "expect", "(I)V"⟩
theorem hy6 : y6.cls ≠ "java/lang/invoke/MethodHandle" ∧ y6.cls ≠ "java/lang/invoke/VarHandle" := by decide
theorem pd6 : parseMethodDescriptor y6.desc = some ⟨[.int], none⟩ := by decide +kernel
abbrev R6 : Room := { frames := 1, cells := 0, slots := 0, locals := 13 }
abbrev P6 (r : St) : Option Value → List OwnC → Prop := fun v H' => v = none ∧ H' = (Hb 0 r)
abbrev W6 (l : Launch) (Z : State) (n0 : Nat) (Q : Option Value → List OwnC → Prop) (k n pc : Nat) (L : List Slot) (S : List Value) (H : List OwnC) : Prop := WP l Z CN lay "FatPointerC" "expect" prog_1_method_20_code 2 (none) R6 n0 0 Q k n pc L S H
def f_expect (p1 : Int32) (s : St) : Option (St) :=
  if (gI s 12) = 0 then
    some s
  else
    (f_kindAt (gI s 11) s).bind fun c2 =>
    if c2 = p1 then
      lt (sI s 11 ((gI s 11) + (1 : Int32))) fun s4 =>
      some s4
    else
      lt (sI s 12 (0 : Int32)) fun s5 =>
      some s5
set_option maxRecDepth 65536 in
set_option maxHeartbeats 4000000 in
theorem ok6 (l : Launch) (Z : State) (a0 : Array Value) (hw : HW a0 Z) (p1 : Int32) (s : St) (r : St) (h : f_expect p1 s = some r) : CS l Z CN lay y6 prog_1_method_20_code 2 (none) R6 0 [.ref 0, .int p1] (Hb 0 s) (P6 r) := by
  refine CS.of_wp pn_cls (leb rfl) fun n0 => ?_
  show W6 l Z n0 (P6 r) 0 0 0 [.val (.ref 0), .val (.int p1)] [] (Hb 0 s)
  unfold f_expect at h
  refine WP.aloadN d6_0 rfl ?_
  refine WP.getfield (i := 0) (j := 27) d6_1 (hw _ m_117) rfl rfl rfl ?_
  rcases ite_e h with ⟨hc1, h⟩ | ⟨hc1, h⟩
  ·
    refine WP.ifN d6_4 (XT.i0_ne_f hc1) ?_
    cases h
    exact WP.vreturn d6_7 rfl (leb rfl) (leb rfl) ⟨rfl, rfl⟩
  ·
    refine WP.ifY (pc' := 8) d6_4 (XT.i0_ne_t hc1) (by decide) rfl ?_
    refine WP.aloadN d6_8 rfl ?_
    refine WP.aloadN d6_9 rfl ?_
    refine WP.getfield (i := 0) (j := 26) d6_10 (hw _ m_119) rfl rfl rfl ?_
    obtain ⟨c2, hc2, h⟩ := Option.bind_eq_some_iff.mp h
    refine WP.callP (i := 0) (y := y7) (as := [.int (gI s 11)]) (S := []) d6_13 (hw _ m_129) (hw _ m_131) (hw _ m_1) (hw _ m_130) (hw _ m_132) (hw _ m_2) hy7 rfl (ok7 l Z a0 hw (gI s 11) s _ hc2) rfl (lenOf pd7 rfl) (leb rfl) (leb rfl) (leb rfl) (leb rfl) ?_
    rintro _ _ ⟨rfl, rfl⟩
    show W6 l Z n0 (P6 r) 0 0 16 [.val (.ref 0), .val (.int p1)] [.int c2] (Hb 0 s)
    refine WP.iloadN d6_16 rfl ?_
    rcases ite_e h with ⟨hc3, h⟩ | ⟨hc3, h⟩
    ·
      refine WP.icmpY (pc' := 26) d6_17 (XT.ii_eq_t hc3) (by decide) rfl ?_
      refine WP.aloadN d6_26 rfl ?_
      refine WP.dup d6_27 rfl ?_
      refine WP.getfield (i := 0) (j := 26) d6_28 (hw _ m_119) rfl rfl rfl ?_
      refine WP.iconst (1 : Int32) d6_31 rfl ?_
      refine WP.iadd d6_32 ?_
      obtain ⟨s4, es4, h⟩ := lt_e h
      refine WP.putI (i := 0) (j := 26) (H' := (Hb 0 s4)) d6_33 (hw _ m_119) (Or.inl (hw _ m_120)) (hw _ m_1) (hlay hw) rfl rfl rfl (leb rfl) (by subst es4; rfl) ?_
      cases h
      exact WP.vreturn d6_36 rfl (leb rfl) (leb rfl) ⟨rfl, rfl⟩
    ·
      refine WP.icmpN d6_17 (XT.ii_eq_f hc3) ?_
      refine WP.aloadN d6_20 rfl ?_
      refine WP.iconst (0 : Int32) d6_21 rfl ?_
      obtain ⟨s5, es5, h⟩ := lt_e h
      refine WP.putZ (i := 0) (j := 27) (H' := (Hb 0 s5)) d6_22 (hw _ m_117) (Or.inl (hw _ m_118)) (hw _ m_1) (hlay hw) rfl rfl rfl (leb rfl) (by subst es5; rfl) ?_
      cases h
      exact WP.vreturn d6_25 rfl (leb rfl) (leb rfl) ⟨rfl, rfl⟩
theorem d8_0 : dc prog_1_method_17_code 0 (.iload_n 1) 1 := by decide +kernel
theorem d8_1 : dc prog_1_method_17_code 1 (.ifCond .lt 11) 3 := by decide +kernel
theorem d8_4 : dc prog_1_method_17_code 4 (.iload_n 1) 1 := by decide +kernel
theorem d8_5 : dc prog_1_method_17_code 5 (.aload_n 0) 1 := by decide +kernel
theorem d8_6 : dc prog_1_method_17_code 6 (.getfield 120) 3 := by decide +kernel
theorem d8_9 : dc prog_1_method_17_code 9 (.if_icmp .lt 5) 3 := by decide +kernel
theorem d8_12 : dc prog_1_method_17_code 12 (.iconst 0) 1 := by decide +kernel
theorem d8_13 : dc prog_1_method_17_code 13 (.ireturn) 1 := by decide +kernel
theorem d8_14 : dc prog_1_method_17_code 14 (.aload_n 0) 1 := by decide +kernel
theorem d8_15 : dc prog_1_method_17_code 15 (.getfield 13) 3 := by decide +kernel
theorem d8_18 : dc prog_1_method_17_code 18 (.iload_n 1) 1 := by decide +kernel
theorem d8_19 : dc prog_1_method_17_code 19 (.iaload) 1 := by decide +kernel
theorem d8_20 : dc prog_1_method_17_code 20 (.ireturn) 1 := by decide +kernel
abbrev y8 : MethodName := ⟨"FatPointerC", "valAt", "(I)I"⟩
theorem hy8 : y8.cls ≠ "java/lang/invoke/MethodHandle" ∧ y8.cls ≠ "java/lang/invoke/VarHandle" := by decide
theorem pd8 : parseMethodDescriptor y8.desc = some ⟨[.int], some .int⟩ := by decide +kernel
abbrev R8 : Room := { frames := 0, cells := 0, slots := 0, locals := 0 }
abbrev P8 (s : St) (r : Int32) : Option Value → List OwnC → Prop := fun v H' => v = some (.int r) ∧ H' = (Hb 0 s)
abbrev W8 (l : Launch) (Z : State) (n0 : Nat) (Q : Option Value → List OwnC → Prop) (k n pc : Nat) (L : List Slot) (S : List Value) (H : List OwnC) : Prop := WP l Z CN lay "FatPointerC" "valAt" prog_1_method_17_code 2 (some FieldType.int) R8 n0 0 Q k n pc L S H
def f_valAt_12 (s : St) : Option (Int32) :=
  some (0 : Int32)
set_option maxRecDepth 65536 in
set_option maxHeartbeats 4000000 in
theorem ok8_12 (l : Launch) (Z : State) (a0 : Array Value) (hw : HW a0 Z) (n0 : Nat) (s : St) (r : Int32) (h : f_valAt_12 s = some r) : W8 l Z n0 (P8 s r) 0 0 12 [.unset, .unset] [] (Hb 0 s) := by
  unfold f_valAt_12 at h
  refine WP.iconst (0 : Int32) d8_12 rfl ?_
  cases h
  exact WP.ireturn d8_13 rfl (leb rfl) (leb rfl) ⟨rfl, rfl⟩
def f_valAt (p1 : Int32) (s : St) : Option (Int32) :=
  if p1 < 0 then
    f_valAt_12 s
  else
    if p1 < (gI s 2) then
      (rd (gA s 1) p1).bind fun x3 =>
      some x3
    else
      f_valAt_12 s
set_option maxRecDepth 65536 in
set_option maxHeartbeats 4000000 in
theorem ok8 (l : Launch) (Z : State) (a0 : Array Value) (hw : HW a0 Z) (p1 : Int32) (s : St) (r : Int32) (h : f_valAt p1 s = some r) : CS l Z CN lay y8 prog_1_method_17_code 2 (some FieldType.int) R8 0 [.ref 0, .int p1] (Hb 0 s) (P8 s r) := by
  refine CS.of_wp pn_cls (leb rfl) fun n0 => ?_
  show W8 l Z n0 (P8 s r) 0 0 0 [.val (.ref 0), .val (.int p1)] [] (Hb 0 s)
  unfold f_valAt at h
  refine WP.iloadN d8_0 rfl ?_
  rcases ite_e h with ⟨hc1, h⟩ | ⟨hc1, h⟩
  ·
    refine WP.ifY (pc' := 12) d8_1 (XT.i0_lt_t hc1) (by decide) rfl ?_
    exact WP.weak (L' := [.unset, .unset]) trivial (ok8_12 l Z a0 hw n0 s _ h)
  ·
    refine WP.ifN d8_1 (XT.i0_lt_f hc1) ?_
    refine WP.iloadN d8_4 rfl ?_
    refine WP.aloadN d8_5 rfl ?_
    refine WP.getfield (i := 0) (j := 2) d8_6 (hw _ m_104) rfl rfl rfl ?_
    rcases ite_e h with ⟨hc2, h⟩ | ⟨hc2, h⟩
    ·
      refine WP.icmpY (pc' := 14) d8_9 (XT.ii_lt_t hc2) (by decide) rfl ?_
      refine WP.aloadN d8_14 rfl ?_
      refine WP.getfield (i := 0) (j := 4) d8_15 (hw _ m_12) rfl rfl rfl ?_
      refine WP.iloadN d8_18 rfl ?_
      obtain ⟨x3, hx3, h⟩ := Option.bind_eq_some_iff.mp h
      refine WP.iaload (i := 2) d8_19 rfl hx3 ?_
      cases h
      exact WP.ireturn d8_20 rfl (leb rfl) (leb rfl) ⟨rfl, rfl⟩
    ·
      refine WP.icmpN d8_9 (XT.ii_lt_f hc2) ?_
      exact WP.weak (L' := [.unset, .unset]) trivial (ok8_12 l Z a0 hw n0 s _ h)
theorem d9_0 : dc prog_1_method_22_code 0 (.aload_n 0) 1 := by decide +kernel
theorem d9_1 : dc prog_1_method_22_code 1 (.getfield 180) 3 := by decide +kernel
theorem d9_4 : dc prog_1_method_22_code 4 (.ifCond .eq 15) 3 := by decide +kernel
theorem d9_7 : dc prog_1_method_22_code 7 (.aload_n 0) 1 := by decide +kernel
theorem d9_8 : dc prog_1_method_22_code 8 (.aload_n 0) 1 := by decide +kernel
theorem d9_9 : dc prog_1_method_22_code 9 (.getfield 183) 3 := by decide +kernel
theorem d9_12 : dc prog_1_method_22_code 12 (.invokevirtual 192) 3 := by decide +kernel
theorem d9_15 : dc prog_1_method_22_code 15 (.iconst 2) 1 := by decide +kernel
theorem d9_16 : dc prog_1_method_22_code 16 (.if_icmp .eq 4) 3 := by decide +kernel
theorem d9_19 : dc prog_1_method_22_code 19 (.return_) 1 := by decide +kernel
theorem d9_20 : dc prog_1_method_22_code 20 (.iconst 0) 1 := by decide +kernel
theorem d9_21 : dc prog_1_method_22_code 21 (.istore_n 1) 1 := by decide +kernel
theorem d9_22 : dc prog_1_method_22_code 22 (.iload_n 1) 1 := by decide +kernel
theorem d9_23 : dc prog_1_method_22_code 23 (.bipush 9) 2 := by decide +kernel
theorem d9_25 : dc prog_1_method_22_code 25 (.if_icmp .ge 95) 3 := by decide +kernel
theorem d9_28 : dc prog_1_method_22_code 28 (.aload_n 0) 1 := by decide +kernel
theorem d9_29 : dc prog_1_method_22_code 29 (.getfield 180) 3 := by decide +kernel
theorem d9_32 : dc prog_1_method_22_code 32 (.ifCond .eq 88) 3 := by decide +kernel
theorem d9_35 : dc prog_1_method_22_code 35 (.aload_n 0) 1 := by decide +kernel
theorem d9_36 : dc prog_1_method_22_code 36 (.aload_n 0) 1 := by decide +kernel
theorem d9_37 : dc prog_1_method_22_code 37 (.getfield 183) 3 := by decide +kernel
theorem d9_40 : dc prog_1_method_22_code 40 (.invokevirtual 192) 3 := by decide +kernel
theorem d9_43 : dc prog_1_method_22_code 43 (.iconst 2) 1 := by decide +kernel
theorem d9_44 : dc prog_1_method_22_code 44 (.if_icmp .eq 9) 3 := by decide +kernel
theorem d9_47 : dc prog_1_method_22_code 47 (.aload_n 0) 1 := by decide +kernel
theorem d9_48 : dc prog_1_method_22_code 48 (.iconst 0) 1 := by decide +kernel
theorem d9_49 : dc prog_1_method_22_code 49 (.putfield 180) 3 := by decide +kernel
theorem d9_52 : dc prog_1_method_22_code 52 (.return_) 1 := by decide +kernel
theorem d9_53 : dc prog_1_method_22_code 53 (.aload_n 0) 1 := by decide +kernel
theorem d9_54 : dc prog_1_method_22_code 54 (.aload_n 0) 1 := by decide +kernel
theorem d9_55 : dc prog_1_method_22_code 55 (.aload_n 0) 1 := by decide +kernel
theorem d9_56 : dc prog_1_method_22_code 56 (.getfield 183) 3 := by decide +kernel
theorem d9_59 : dc prog_1_method_22_code 59 (.invokevirtual 199) 3 := by decide +kernel
theorem d9_62 : dc prog_1_method_22_code 62 (.iconst 1) 1 := by decide +kernel
theorem d9_63 : dc prog_1_method_22_code 63 (.iconst 0) 1 := by decide +kernel
theorem d9_64 : dc prog_1_method_22_code 64 (.invokevirtual 214) 3 := by decide +kernel
theorem d9_120 : dc prog_1_method_22_code 120 (.return_) 1 := by decide +kernel
abbrev y9 : MethodName := ⟨"FatPointerC", "parseParams", "()V"⟩
theorem hy9 : y9.cls ≠ "java/lang/invoke/MethodHandle" ∧ y9.cls ≠ "java/lang/invoke/VarHandle" := by decide
theorem pd9 : parseMethodDescriptor y9.desc = some ⟨[], none⟩ := by decide +kernel
abbrev R9 : Room := { frames := 1, cells := 0, slots := 0, locals := 14 }
abbrev P9 (r : St) : Option Value → List OwnC → Prop := fun v H' => v = none ∧ H' = (Hb 0 r)
abbrev W9 (l : Launch) (Z : State) (n0 : Nat) (Q : Option Value → List OwnC → Prop) (k n pc : Nat) (L : List Slot) (S : List Value) (H : List OwnC) : Prop := WP l Z CN lay "FatPointerC" "parseParams" prog_1_method_22_code 2 (none) R9 n0 0 Q k n pc L S H
def f_parseParams_19 (s : St) : Option (St) :=
  some s
set_option maxRecDepth 65536 in
set_option maxHeartbeats 4000000 in
theorem ok9_19 (l : Launch) (Z : State) (a0 : Array Value) (hw : HW a0 Z) (n0 : Nat) (s : St) (r : St) (h : f_parseParams_19 s = some r) : W9 l Z n0 (P9 r) 0 0 19 [.unset, .unset] [] (Hb 0 s) := by
  unfold f_parseParams_19 at h
  cases h
  exact WP.vreturn d9_19 rfl (leb rfl) (leb rfl) ⟨rfl, rfl⟩
def f_parseParams_120 (s : St) : Option (St) :=
  some s
set_option maxRecDepth 65536 in
set_option maxHeartbeats 4000000 in
theorem ok9_120 (l : Launch) (Z : State) (a0 : Array Value) (hw : HW a0 Z) (n0 : Nat) (s : St) (r : St) (h : f_parseParams_120 s = some r) : W9 l Z n0 (P9 r) 0 0 120 [.unset, .unset] [] (Hb 0 s) := by
  unfold f_parseParams_120 at h
  cases h
  exact WP.vreturn d9_120 rfl (leb rfl) (leb rfl) ⟨rfl, rfl⟩
def f_parseParams (s : St) : Option (St) :=
  if (gI s 12) = 0 then
    f_parseParams_19 s
  else
    (f_kindAt (gI s 11) s).bind fun c2 =>
    if c2 = (2 : Int32) then
      if (0 : Int32) < (9 : Int32) then
        if (gI s 12) = 0 then
          f_parseParams_120 s
        else
          (f_kindAt (gI s 11) s).bind fun c6 =>
          if c6 = (2 : Int32) then
            (f_valAt (gI s 11) s).bind fun c8 =>
            none
          else
            lt (sI s 12 (0 : Int32)) fun s9 =>
            some s9
      else
        f_parseParams_120 s
    else
      f_parseParams_19 s
set_option maxRecDepth 65536 in
set_option maxHeartbeats 4000000 in
theorem ok9 (l : Launch) (Z : State) (a0 : Array Value) (hw : HW a0 Z) (s : St) (r : St) (h : f_parseParams s = some r) : CS l Z CN lay y9 prog_1_method_22_code 2 (none) R9 0 [.ref 0] (Hb 0 s) (P9 r) := by
  refine CS.of_wp pn_cls (leb rfl) fun n0 => ?_
  show W9 l Z n0 (P9 r) 0 0 0 [.val (.ref 0), .unset] [] (Hb 0 s)
  unfold f_parseParams at h
  refine WP.aloadN d9_0 rfl ?_
  refine WP.getfield (i := 0) (j := 27) d9_1 (hw _ m_117) rfl rfl rfl ?_
  rcases ite_e h with ⟨hc1, h⟩ | ⟨hc1, h⟩
  ·
    refine WP.ifY (pc' := 19) d9_4 (XT.i0_eq_t hc1) (by decide) rfl ?_
    exact WP.weak (L' := [.unset, .unset]) trivial (ok9_19 l Z a0 hw n0 s _ h)
  ·
    refine WP.ifN d9_4 (XT.i0_eq_f hc1) ?_
    refine WP.aloadN d9_7 rfl ?_
    refine WP.aloadN d9_8 rfl ?_
    refine WP.getfield (i := 0) (j := 26) d9_9 (hw _ m_119) rfl rfl rfl ?_
    obtain ⟨c2, hc2, h⟩ := Option.bind_eq_some_iff.mp h
    refine WP.callP (i := 0) (y := y7) (as := [.int (gI s 11)]) (S := []) d9_12 (hw _ m_129) (hw _ m_131) (hw _ m_1) (hw _ m_130) (hw _ m_132) (hw _ m_2) hy7 rfl (ok7 l Z a0 hw (gI s 11) s _ hc2) rfl (lenOf pd7 rfl) (leb rfl) (leb rfl) (leb rfl) (leb rfl) ?_
    rintro _ _ ⟨rfl, rfl⟩
    show W9 l Z n0 (P9 r) 0 0 15 [.val (.ref 0), .unset] [.int c2] (Hb 0 s)
    refine WP.iconst (2 : Int32) d9_15 rfl ?_
    rcases ite_e h with ⟨hc3, h⟩ | ⟨hc3, h⟩
    ·
      refine WP.icmpY (pc' := 20) d9_16 (XT.ii_eq_t hc3) (by decide) rfl ?_
      refine WP.iconst (0 : Int32) d9_20 rfl ?_
      refine WP.istoreN (L' := [.val (.ref 0), .val (.int (0 : Int32))]) d9_21 (leb rfl) rfl ?_
      refine WP.iloadN d9_22 rfl ?_
      refine WP.bipush (9 : Int32) d9_23 rfl ?_
      rcases ite_e h with ⟨hc4, h⟩ | ⟨hc4, h⟩
      ·
        refine WP.icmpN d9_25 (XT.ii_ge_f hc4) ?_
        refine WP.aloadN d9_28 rfl ?_
        refine WP.getfield (i := 0) (j := 27) d9_29 (hw _ m_117) rfl rfl rfl ?_
        rcases ite_e h with ⟨hc5, h⟩ | ⟨hc5, h⟩
        ·
          refine WP.ifY (pc' := 120) d9_32 (XT.i0_eq_t hc5) (by decide) rfl ?_
          exact WP.weak (L' := [.unset, .unset]) trivial (ok9_120 l Z a0 hw n0 s _ h)
        ·
          refine WP.ifN d9_32 (XT.i0_eq_f hc5) ?_
          refine WP.aloadN d9_35 rfl ?_
          refine WP.aloadN d9_36 rfl ?_
          refine WP.getfield (i := 0) (j := 26) d9_37 (hw _ m_119) rfl rfl rfl ?_
          obtain ⟨c6, hc6, h⟩ := Option.bind_eq_some_iff.mp h
          refine WP.callP (i := 0) (y := y7) (as := [.int (gI s 11)]) (S := []) d9_40 (hw _ m_129) (hw _ m_131) (hw _ m_1) (hw _ m_130) (hw _ m_132) (hw _ m_2) hy7 rfl (ok7 l Z a0 hw (gI s 11) s _ hc6) rfl (lenOf pd7 rfl) (leb rfl) (leb rfl) (leb rfl) (leb rfl) ?_
          rintro _ _ ⟨rfl, rfl⟩
          show W9 l Z n0 (P9 r) 0 0 43 [.val (.ref 0), .val (.int (0 : Int32))] [.int c6] (Hb 0 s)
          refine WP.iconst (2 : Int32) d9_43 rfl ?_
          rcases ite_e h with ⟨hc7, h⟩ | ⟨hc7, h⟩
          ·
            refine WP.icmpY (pc' := 53) d9_44 (XT.ii_eq_t hc7) (by decide) rfl ?_
            refine WP.aloadN d9_53 rfl ?_
            refine WP.aloadN d9_54 rfl ?_
            refine WP.aloadN d9_55 rfl ?_
            refine WP.getfield (i := 0) (j := 26) d9_56 (hw _ m_119) rfl rfl rfl ?_
            obtain ⟨c8, hc8, h⟩ := Option.bind_eq_some_iff.mp h
            refine WP.callP (i := 0) (y := y8) (as := [.int (gI s 11)]) (S := [.ref 0]) d9_59 (hw _ m_133) (hw _ m_135) (hw _ m_1) (hw _ m_134) (hw _ m_136) (hw _ m_2) hy8 rfl (ok8 l Z a0 hw (gI s 11) s _ hc8) rfl (lenOf pd8 rfl) (leb rfl) (leb rfl) (leb rfl) (leb rfl) ?_
            rintro _ _ ⟨rfl, rfl⟩
            show W9 l Z n0 (P9 r) 0 0 62 [.val (.ref 0), .val (.int (0 : Int32))] [.int c8, .ref 0] (Hb 0 s)
            refine WP.iconst (1 : Int32) d9_62 rfl ?_
            refine WP.iconst (0 : Int32) d9_63 rfl ?_
            cases h
          ·
            refine WP.icmpN d9_44 (XT.ii_eq_f hc7) ?_
            refine WP.aloadN d9_47 rfl ?_
            refine WP.iconst (0 : Int32) d9_48 rfl ?_
            obtain ⟨s9, es9, h⟩ := lt_e h
            refine WP.putZ (i := 0) (j := 27) (H' := (Hb 0 s9)) d9_49 (hw _ m_117) (Or.inl (hw _ m_118)) (hw _ m_1) (hlay hw) rfl rfl rfl (leb rfl) (by subst es9; rfl) ?_
            cases h
            exact WP.vreturn d9_52 rfl (leb rfl) (leb rfl) ⟨rfl, rfl⟩
      ·
        refine WP.icmpY (pc' := 120) d9_25 (XT.ii_ge_t hc4) (by decide) rfl ?_
        exact WP.weak (L' := [.unset, .unset]) trivial (ok9_120 l Z a0 hw n0 s _ h)
    ·
      refine WP.icmpN d9_16 (XT.ii_eq_f hc3) ?_
      exact WP.weak (L' := [.unset, .unset]) trivial (ok9_19 l Z a0 hw n0 s _ h)
theorem d10_0 : dc prog_1_method_23_code 0 (.iconst 0) 1 := by decide +kernel
theorem d10_1 : dc prog_1_method_23_code 1 (.istore_n 1) 1 := by decide +kernel
theorem d10_2 : dc prog_1_method_23_code 2 (.iload_n 1) 1 := by decide +kernel
theorem d10_3 : dc prog_1_method_23_code 3 (.bipush 9) 2 := by decide +kernel
theorem d10_5 : dc prog_1_method_23_code 5 (.if_icmp .ge 118) 3 := by decide +kernel
theorem d10_8 : dc prog_1_method_23_code 8 (.aload_n 0) 1 := by decide +kernel
theorem d10_9 : dc prog_1_method_23_code 9 (.getfield 180) 3 := by decide +kernel
theorem d10_12 : dc prog_1_method_23_code 12 (.ifCond .eq 111) 3 := by decide +kernel
theorem d10_15 : dc prog_1_method_23_code 15 (.aload_n 0) 1 := by decide +kernel
theorem d10_16 : dc prog_1_method_23_code 16 (.aload_n 0) 1 := by decide +kernel
theorem d10_17 : dc prog_1_method_23_code 17 (.getfield 183) 3 := by decide +kernel
theorem d10_20 : dc prog_1_method_23_code 20 (.invokevirtual 192) 3 := by decide +kernel
theorem d10_23 : dc prog_1_method_23_code 23 (.istore_n 2) 1 := by decide +kernel
theorem d10_24 : dc prog_1_method_23_code 24 (.iload_n 2) 1 := by decide +kernel
theorem d10_25 : dc prog_1_method_23_code 25 (.iconst 5) 1 := by decide +kernel
theorem d10_26 : dc prog_1_method_23_code 26 (.if_icmp .ne 34) 3 := by decide +kernel
theorem d10_29 : dc prog_1_method_23_code 29 (.aload_n 0) 1 := by decide +kernel
theorem d10_30 : dc prog_1_method_23_code 30 (.dup) 1 := by decide +kernel
theorem d10_31 : dc prog_1_method_23_code 31 (.getfield 183) 3 := by decide +kernel
theorem d10_34 : dc prog_1_method_23_code 34 (.iconst 1) 1 := by decide +kernel
theorem d10_35 : dc prog_1_method_23_code 35 (.iadd) 1 := by decide +kernel
theorem d10_36 : dc prog_1_method_23_code 36 (.putfield 183) 3 := by decide +kernel
theorem d10_39 : dc prog_1_method_23_code 39 (.aload_n 0) 1 := by decide +kernel
theorem d10_40 : dc prog_1_method_23_code 40 (.invokevirtual 218) 3 := by decide +kernel
theorem d10_60 : dc prog_1_method_23_code 60 (.iload_n 2) 1 := by decide +kernel
theorem d10_61 : dc prog_1_method_23_code 61 (.bipush 6) 2 := by decide +kernel
theorem d10_63 : dc prog_1_method_23_code 63 (.if_icmp .ne 53) 3 := by decide +kernel
theorem d10_66 : dc prog_1_method_23_code 66 (.aload_n 0) 1 := by decide +kernel
theorem d10_67 : dc prog_1_method_23_code 67 (.dup) 1 := by decide +kernel
theorem d10_68 : dc prog_1_method_23_code 68 (.getfield 183) 3 := by decide +kernel
theorem d10_71 : dc prog_1_method_23_code 71 (.iconst 1) 1 := by decide +kernel
theorem d10_72 : dc prog_1_method_23_code 72 (.iadd) 1 := by decide +kernel
theorem d10_73 : dc prog_1_method_23_code 73 (.putfield 183) 3 := by decide +kernel
theorem d10_76 : dc prog_1_method_23_code 76 (.aload_n 0) 1 := by decide +kernel
theorem d10_77 : dc prog_1_method_23_code 77 (.invokevirtual 218) 3 := by decide +kernel
theorem d10_116 : dc prog_1_method_23_code 116 (.return_) 1 := by decide +kernel
theorem d10_123 : dc prog_1_method_23_code 123 (.return_) 1 := by decide +kernel
abbrev y10 : MethodName := ⟨"FatPointerC", "parseDecls", "()V"⟩
theorem hy10 : y10.cls ≠ "java/lang/invoke/MethodHandle" ∧ y10.cls ≠ "java/lang/invoke/VarHandle" := by decide
theorem pd10 : parseMethodDescriptor y10.desc = some ⟨[], none⟩ := by decide +kernel
abbrev R10 : Room := { frames := 1, cells := 0, slots := 0, locals := 13 }
abbrev P10 (r : St) : Option Value → List OwnC → Prop := fun v H' => v = none ∧ H' = (Hb 0 r)
abbrev W10 (l : Launch) (Z : State) (n0 : Nat) (Q : Option Value → List OwnC → Prop) (k n pc : Nat) (L : List Slot) (S : List Value) (H : List OwnC) : Prop := WP l Z CN lay "FatPointerC" "parseDecls" prog_1_method_23_code 5 (none) R10 n0 0 Q k n pc L S H
def f_parseDecls_123 (s : St) : Option (St) :=
  some s
set_option maxRecDepth 65536 in
set_option maxHeartbeats 4000000 in
theorem ok10_123 (l : Launch) (Z : State) (a0 : Array Value) (hw : HW a0 Z) (n0 : Nat) (s : St) (r : St) (h : f_parseDecls_123 s = some r) : W10 l Z n0 (P10 r) 0 0 123 [.unset, .unset, .unset, .unset, .unset] [] (Hb 0 s) := by
  unfold f_parseDecls_123 at h
  cases h
  exact WP.vreturn d10_123 rfl (leb rfl) (leb rfl) ⟨rfl, rfl⟩
def f_parseDecls (s : St) : Option (St) :=
  if (0 : Int32) < (9 : Int32) then
    if (gI s 12) = 0 then
      f_parseDecls_123 s
    else
      (f_kindAt (gI s 11) s).bind fun c3 =>
      if c3 = (5 : Int32) then
        lt (sI s 11 ((gI s 11) + (1 : Int32))) fun s5 =>
        none
      else
        if c3 = (6 : Int32) then
          lt (sI s 11 ((gI s 11) + (1 : Int32))) fun s7 =>
          none
        else
          some s
  else
    f_parseDecls_123 s
set_option maxRecDepth 65536 in
set_option maxHeartbeats 4000000 in
theorem ok10 (l : Launch) (Z : State) (a0 : Array Value) (hw : HW a0 Z) (s : St) (r : St) (h : f_parseDecls s = some r) : CS l Z CN lay y10 prog_1_method_23_code 5 (none) R10 0 [.ref 0] (Hb 0 s) (P10 r) := by
  refine CS.of_wp pn_cls (leb rfl) fun n0 => ?_
  show W10 l Z n0 (P10 r) 0 0 0 [.val (.ref 0), .unset, .unset, .unset, .unset] [] (Hb 0 s)
  unfold f_parseDecls at h
  refine WP.iconst (0 : Int32) d10_0 rfl ?_
  refine WP.istoreN (L' := [.val (.ref 0), .val (.int (0 : Int32)), .unset, .unset, .unset]) d10_1 (leb rfl) rfl ?_
  refine WP.iloadN d10_2 rfl ?_
  refine WP.bipush (9 : Int32) d10_3 rfl ?_
  rcases ite_e h with ⟨hc1, h⟩ | ⟨hc1, h⟩
  ·
    refine WP.icmpN d10_5 (XT.ii_ge_f hc1) ?_
    refine WP.aloadN d10_8 rfl ?_
    refine WP.getfield (i := 0) (j := 27) d10_9 (hw _ m_117) rfl rfl rfl ?_
    rcases ite_e h with ⟨hc2, h⟩ | ⟨hc2, h⟩
    ·
      refine WP.ifY (pc' := 123) d10_12 (XT.i0_eq_t hc2) (by decide) rfl ?_
      exact WP.weak (L' := [.unset, .unset, .unset, .unset, .unset]) trivial (ok10_123 l Z a0 hw n0 s _ h)
    ·
      refine WP.ifN d10_12 (XT.i0_eq_f hc2) ?_
      refine WP.aloadN d10_15 rfl ?_
      refine WP.aloadN d10_16 rfl ?_
      refine WP.getfield (i := 0) (j := 26) d10_17 (hw _ m_119) rfl rfl rfl ?_
      obtain ⟨c3, hc3, h⟩ := Option.bind_eq_some_iff.mp h
      refine WP.callP (i := 0) (y := y7) (as := [.int (gI s 11)]) (S := []) d10_20 (hw _ m_129) (hw _ m_131) (hw _ m_1) (hw _ m_130) (hw _ m_132) (hw _ m_2) hy7 rfl (ok7 l Z a0 hw (gI s 11) s _ hc3) rfl (lenOf pd7 rfl) (leb rfl) (leb rfl) (leb rfl) (leb rfl) ?_
      rintro _ _ ⟨rfl, rfl⟩
      show W10 l Z n0 (P10 r) 0 0 23 [.val (.ref 0), .val (.int (0 : Int32)), .unset, .unset, .unset] [.int c3] (Hb 0 s)
      refine WP.istoreN (L' := [.val (.ref 0), .val (.int (0 : Int32)), .val (.int c3), .unset, .unset]) d10_23 (leb rfl) rfl ?_
      refine WP.iloadN d10_24 rfl ?_
      refine WP.iconst (5 : Int32) d10_25 rfl ?_
      rcases ite_e h with ⟨hc4, h⟩ | ⟨hc4, h⟩
      ·
        refine WP.icmpN d10_26 (XT.ii_ne_f hc4) ?_
        refine WP.aloadN d10_29 rfl ?_
        refine WP.dup d10_30 rfl ?_
        refine WP.getfield (i := 0) (j := 26) d10_31 (hw _ m_119) rfl rfl rfl ?_
        refine WP.iconst (1 : Int32) d10_34 rfl ?_
        refine WP.iadd d10_35 ?_
        obtain ⟨s5, es5, h⟩ := lt_e h
        refine WP.putI (i := 0) (j := 26) (H' := (Hb 0 s5)) d10_36 (hw _ m_119) (Or.inl (hw _ m_120)) (hw _ m_1) (hlay hw) rfl rfl rfl (leb rfl) (by subst es5; rfl) ?_
        refine WP.aloadN d10_39 rfl ?_
        cases h
      ·
        refine WP.icmpY (pc' := 60) d10_26 (XT.ii_ne_t hc4) (by decide) rfl ?_
        refine WP.iloadN d10_60 rfl ?_
        refine WP.bipush (6 : Int32) d10_61 rfl ?_
        rcases ite_e h with ⟨hc6, h⟩ | ⟨hc6, h⟩
        ·
          refine WP.icmpN d10_63 (XT.ii_ne_f hc6) ?_
          refine WP.aloadN d10_66 rfl ?_
          refine WP.dup d10_67 rfl ?_
          refine WP.getfield (i := 0) (j := 26) d10_68 (hw _ m_119) rfl rfl rfl ?_
          refine WP.iconst (1 : Int32) d10_71 rfl ?_
          refine WP.iadd d10_72 ?_
          obtain ⟨s7, es7, h⟩ := lt_e h
          refine WP.putI (i := 0) (j := 26) (H' := (Hb 0 s7)) d10_73 (hw _ m_119) (Or.inl (hw _ m_120)) (hw _ m_1) (hlay hw) rfl rfl rfl (leb rfl) (by subst es7; rfl) ?_
          refine WP.aloadN d10_76 rfl ?_
          cases h
        ·
          refine WP.icmpY (pc' := 116) d10_63 (XT.ii_ne_t hc6) (by decide) rfl ?_
          cases h
          exact WP.vreturn d10_116 rfl (leb rfl) (leb rfl) ⟨rfl, rfl⟩
  ·
    refine WP.icmpY (pc' := 123) d10_5 (XT.ii_ge_t hc1) (by decide) rfl ?_
    exact WP.weak (L' := [.unset, .unset, .unset, .unset, .unset]) trivial (ok10_123 l Z a0 hw n0 s _ h)
theorem d11_0 : dc prog_1_method_27_code 0 (.iconst 0) 1 := by decide +kernel
theorem d11_1 : dc prog_1_method_27_code 1 (.istore_n 1) 1 := by decide +kernel
theorem d11_2 : dc prog_1_method_27_code 2 (.iconst 0) 1 := by decide +kernel
theorem d11_3 : dc prog_1_method_27_code 3 (.istore_n 2) 1 := by decide +kernel
theorem d11_4 : dc prog_1_method_27_code 4 (.iload_n 2) 1 := by decide +kernel
theorem d11_5 : dc prog_1_method_27_code 5 (.sipush 300) 3 := by decide +kernel
theorem d11_8 : dc prog_1_method_27_code 8 (.if_icmp .ge 160) 3 := by decide +kernel
theorem d11_11 : dc prog_1_method_27_code 11 (.aload_n 0) 1 := by decide +kernel
theorem d11_12 : dc prog_1_method_27_code 12 (.getfield 180) 3 := by decide +kernel
theorem d11_15 : dc prog_1_method_27_code 15 (.ifCond .eq 153) 3 := by decide +kernel
theorem d11_18 : dc prog_1_method_27_code 18 (.aload_n 0) 1 := by decide +kernel
theorem d11_19 : dc prog_1_method_27_code 19 (.aload_n 0) 1 := by decide +kernel
theorem d11_20 : dc prog_1_method_27_code 20 (.getfield 183) 3 := by decide +kernel
theorem d11_23 : dc prog_1_method_27_code 23 (.invokevirtual 192) 3 := by decide +kernel
theorem d11_26 : dc prog_1_method_27_code 26 (.istore_n 3) 1 := by decide +kernel
theorem d11_27 : dc prog_1_method_27_code 27 (.iload_n 3) 1 := by decide +kernel
theorem d11_28 : dc prog_1_method_27_code 28 (.bipush 14) 2 := by decide +kernel
theorem d11_30 : dc prog_1_method_27_code 30 (.if_icmp .ne 28) 3 := by decide +kernel
theorem d11_33 : dc prog_1_method_27_code 33 (.iload_n 1) 1 := by decide +kernel
theorem d11_34 : dc prog_1_method_27_code 34 (.ifCond .ne 24) 3 := by decide +kernel
theorem d11_37 : dc prog_1_method_27_code 37 (.aload_n 0) 1 := by decide +kernel
theorem d11_38 : dc prog_1_method_27_code 38 (.getfield 53) 3 := by decide +kernel
theorem d11_41 : dc prog_1_method_27_code 41 (.aload_n 0) 1 := by decide +kernel
theorem d11_42 : dc prog_1_method_27_code 42 (.getfield 183) 3 := by decide +kernel
theorem d11_45 : dc prog_1_method_27_code 45 (.iconst (-1)) 1 := by decide +kernel
theorem d11_46 : dc prog_1_method_27_code 46 (.iastore) 1 := by decide +kernel
theorem d11_47 : dc prog_1_method_27_code 47 (.aload_n 0) 1 := by decide +kernel
theorem d11_48 : dc prog_1_method_27_code 48 (.dup) 1 := by decide +kernel
theorem d11_49 : dc prog_1_method_27_code 49 (.getfield 183) 3 := by decide +kernel
theorem d11_52 : dc prog_1_method_27_code 52 (.iconst 1) 1 := by decide +kernel
theorem d11_53 : dc prog_1_method_27_code 53 (.iadd) 1 := by decide +kernel
theorem d11_54 : dc prog_1_method_27_code 54 (.putfield 183) 3 := by decide +kernel
theorem d11_57 : dc prog_1_method_27_code 57 (.return_) 1 := by decide +kernel
theorem d11_58 : dc prog_1_method_27_code 58 (.iload_n 3) 1 := by decide +kernel
theorem d11_59 : dc prog_1_method_27_code 59 (.bipush 14) 2 := by decide +kernel
theorem d11_61 : dc prog_1_method_27_code 61 (.if_icmp .ne 49) 3 := by decide +kernel
theorem d11_64 : dc prog_1_method_27_code 64 (.iinc 1 (-1)) 3 := by decide +kernel
theorem d11_67 : dc prog_1_method_27_code 67 (.aload_n 0) 1 := by decide +kernel
theorem d11_68 : dc prog_1_method_27_code 68 (.getfield 56) 3 := by decide +kernel
theorem d11_71 : dc prog_1_method_27_code 71 (.iload_n 1) 1 := by decide +kernel
theorem d11_72 : dc prog_1_method_27_code 72 (.iaload) 1 := by decide +kernel
theorem d11_73 : dc prog_1_method_27_code 73 (.istore 4) 2 := by decide +kernel
theorem d11_75 : dc prog_1_method_27_code 75 (.aload_n 0) 1 := by decide +kernel
theorem d11_76 : dc prog_1_method_27_code 76 (.getfield 50) 3 := by decide +kernel
theorem d11_79 : dc prog_1_method_27_code 79 (.iload 4) 2 := by decide +kernel
theorem d11_81 : dc prog_1_method_27_code 81 (.aload_n 0) 1 := by decide +kernel
theorem d11_82 : dc prog_1_method_27_code 82 (.getfield 183) 3 := by decide +kernel
theorem d11_85 : dc prog_1_method_27_code 85 (.iastore) 1 := by decide +kernel
theorem d11_86 : dc prog_1_method_27_code 86 (.aload_n 0) 1 := by decide +kernel
theorem d11_87 : dc prog_1_method_27_code 87 (.getfield 53) 3 := by decide +kernel
theorem d11_90 : dc prog_1_method_27_code 90 (.aload_n 0) 1 := by decide +kernel
theorem d11_91 : dc prog_1_method_27_code 91 (.getfield 183) 3 := by decide +kernel
theorem d11_94 : dc prog_1_method_27_code 94 (.iload 4) 2 := by decide +kernel
theorem d11_96 : dc prog_1_method_27_code 96 (.iastore) 1 := by decide +kernel
theorem d11_97 : dc prog_1_method_27_code 97 (.aload_n 0) 1 := by decide +kernel
theorem d11_98 : dc prog_1_method_27_code 98 (.dup) 1 := by decide +kernel
theorem d11_99 : dc prog_1_method_27_code 99 (.getfield 183) 3 := by decide +kernel
theorem d11_102 : dc prog_1_method_27_code 102 (.iconst 1) 1 := by decide +kernel
theorem d11_103 : dc prog_1_method_27_code 103 (.iadd) 1 := by decide +kernel
theorem d11_104 : dc prog_1_method_27_code 104 (.putfield 183) 3 := by decide +kernel
theorem d11_107 : dc prog_1_method_27_code 107 (.goto 55) 3 := by decide +kernel
theorem d11_110 : dc prog_1_method_27_code 110 (.iload_n 1) 1 := by decide +kernel
theorem d11_111 : dc prog_1_method_27_code 111 (.bipush 8) 2 := by decide +kernel
theorem d11_113 : dc prog_1_method_27_code 113 (.if_icmp .le 9) 3 := by decide +kernel
theorem d11_116 : dc prog_1_method_27_code 116 (.aload_n 0) 1 := by decide +kernel
theorem d11_117 : dc prog_1_method_27_code 117 (.iconst 0) 1 := by decide +kernel
theorem d11_118 : dc prog_1_method_27_code 118 (.putfield 180) 3 := by decide +kernel
theorem d11_121 : dc prog_1_method_27_code 121 (.return_) 1 := by decide +kernel
theorem d11_122 : dc prog_1_method_27_code 122 (.aload_n 0) 1 := by decide +kernel
theorem d11_123 : dc prog_1_method_27_code 123 (.getfield 183) 3 := by decide +kernel
theorem d11_126 : dc prog_1_method_27_code 126 (.istore 4) 2 := by decide +kernel
theorem d11_128 : dc prog_1_method_27_code 128 (.aload_n 0) 1 := by decide +kernel
theorem d11_129 : dc prog_1_method_27_code 129 (.invokevirtual 225) 3 := by decide +kernel
theorem d11_162 : dc prog_1_method_27_code 162 (.iinc 2 1) 3 := by decide +kernel
theorem d11_165 : dc prog_1_method_27_code 165 (.goto (-161)) 3 := by decide +kernel
theorem d11_168 : dc prog_1_method_27_code 168 (.aload_n 0) 1 := by decide +kernel
theorem d11_169 : dc prog_1_method_27_code 169 (.iconst 0) 1 := by decide +kernel
theorem d11_170 : dc prog_1_method_27_code 170 (.putfield 180) 3 := by decide +kernel
theorem d11_173 : dc prog_1_method_27_code 173 (.return_) 1 := by decide +kernel
abbrev y11 : MethodName := ⟨"FatPointerC", "parseBody", "()V"⟩
theorem hy11 : y11.cls ≠ "java/lang/invoke/MethodHandle" ∧ y11.cls ≠ "java/lang/invoke/VarHandle" := by decide
theorem pd11 : parseMethodDescriptor y11.desc = some ⟨[], none⟩ := by decide +kernel
abbrev R11 : Room := { frames := 1, cells := 0, slots := 0, locals := 13 }
abbrev P11 (r : St) : Option Value → List OwnC → Prop := fun v H' => v = none ∧ H' = (Hb 0 r)
abbrev W11 (l : Launch) (Z : State) (n0 : Nat) (Q : Option Value → List OwnC → Prop) (k n pc : Nat) (L : List Slot) (S : List Value) (H : List OwnC) : Prop := WP l Z CN lay "FatPointerC" "parseBody" prog_1_method_27_code 5 (none) R11 n0 0 Q k n pc L S H
def f_parseBody_58 (k4 : Int32 → Int32 → St → Option (St)) (n : Nat) (v1 : Int32) (v2 : Int32) (v3 : Int32) (s : St) : Option (St) :=
  if v3 = (14 : Int32) then
    lt (v1 + (-1 : Int32)) fun x2 =>
    (rd (gA s 15) x2).bind fun x3 =>
    (wrA s 13 x3 (gI s 11)).bind fun s4 =>
    (wrA s4 14 (gI s4 11) x3).bind fun s5 =>
    lt (sI s5 11 ((gI s5 11) + (1 : Int32))) fun s6 =>
    lt (v2 + (1 : Int32)) fun x7 =>
    k4 x2 x7 s6
  else
    if (8 : Int32) < v1 then
      lt (sI s 12 (0 : Int32)) fun s9 =>
      some s9
    else
      lt (gI s 11) fun x10 =>
      none
set_option maxRecDepth 65536 in
set_option maxHeartbeats 4000000 in
theorem ok11_58 (l : Launch) (Z : State) (a0 : Array Value) (hw : HW a0 Z) (n0 : Nat) (k4 : Int32 → Int32 → St → Option (St)) (hk4 : ∀ (v1 : Int32) (v2 : Int32) (s : St) (r : St), k4 v1 v2 s = some r → W11 l Z n0 (P11 r) 0 0 4 [.val (.ref 0), .val (.int v1), .val (.int v2), .unset, .unset] [] (Hb 0 s)) (n : Nat) (v1 : Int32) (v2 : Int32) (v3 : Int32) (s : St) (r : St) (h : f_parseBody_58 k4 n v1 v2 v3 s = some r) : W11 l Z n0 (P11 r) 0 0 58 [.val (.ref 0), .val (.int v1), .val (.int v2), .val (.int v3), .unset] [] (Hb 0 s) := by
  unfold f_parseBody_58 at h
  refine WP.iloadN d11_58 rfl ?_
  refine WP.bipush (14 : Int32) d11_59 rfl ?_
  rcases ite_e h with ⟨hc1, h⟩ | ⟨hc1, h⟩
  ·
    refine WP.icmpN d11_61 (XT.ii_ne_f hc1) ?_
    obtain ⟨x2, ex2, h⟩ := lt_e h
    refine WP.iinc (L' := [.val (.ref 0), .val (.int x2), .val (.int v2), .val (.int v3), .unset]) (-1 : Int32) d11_64 rfl rfl (by subst ex2; rfl) ?_
    refine WP.aloadN d11_67 rfl ?_
    refine WP.getfield (i := 0) (j := 29) d11_68 (hw _ m_41) rfl rfl rfl ?_
    refine WP.iloadN d11_71 rfl ?_
    obtain ⟨x3, hx3, h⟩ := Option.bind_eq_some_iff.mp h
    refine WP.iaload (i := 16) d11_72 rfl hx3 ?_
    refine WP.istore (L' := [.val (.ref 0), .val (.int x2), .val (.int v2), .val (.int v3), .val (.int x3)]) d11_73 (leb rfl) rfl ?_
    refine WP.aloadN d11_75 rfl ?_
    refine WP.getfield (i := 0) (j := 24) d11_76 (hw _ m_37) rfl rfl rfl ?_
    refine WP.iload d11_79 rfl ?_
    refine WP.aloadN d11_81 rfl ?_
    refine WP.getfield (i := 0) (j := 26) d11_82 (hw _ m_119) rfl rfl rfl ?_
    obtain ⟨s4, hs4, h⟩ := Option.bind_eq_some_iff.mp h
    obtain ⟨ys4, gs4, es4⟩ := wrA_e hs4
    refine WP.iastore (i := 14) (xs := gA s 13) (H' := (Hb 0 s4)) d11_85 rfl (leb rfl) gs4 (by subst es4; rfl) ?_
    refine WP.aloadN d11_86 rfl ?_
    refine WP.getfield (i := 0) (j := 25) d11_87 (hw _ m_39) rfl rfl rfl ?_
    refine WP.aloadN d11_90 rfl ?_
    refine WP.getfield (i := 0) (j := 26) d11_91 (hw _ m_119) rfl rfl rfl ?_
    refine WP.iload d11_94 rfl ?_
    obtain ⟨s5, hs5, h⟩ := Option.bind_eq_some_iff.mp h
    obtain ⟨ys5, gs5, es5⟩ := wrA_e hs5
    refine WP.iastore (i := 15) (xs := gA s4 14) (H' := (Hb 0 s5)) d11_96 rfl (leb rfl) gs5 (by subst es5; rfl) ?_
    refine WP.aloadN d11_97 rfl ?_
    refine WP.dup d11_98 rfl ?_
    refine WP.getfield (i := 0) (j := 26) d11_99 (hw _ m_119) rfl rfl rfl ?_
    refine WP.iconst (1 : Int32) d11_102 rfl ?_
    refine WP.iadd d11_103 ?_
    obtain ⟨s6, es6, h⟩ := lt_e h
    refine WP.putI (i := 0) (j := 26) (H' := (Hb 0 s6)) d11_104 (hw _ m_119) (Or.inl (hw _ m_120)) (hw _ m_1) (hlay hw) rfl rfl rfl (leb rfl) (by subst es6; rfl) ?_
    refine WP.goto (pc' := 162) d11_107 (by decide) rfl ?_
    obtain ⟨x7, ex7, h⟩ := lt_e h
    refine WP.iinc (L' := [.val (.ref 0), .val (.int x2), .val (.int x7), .val (.int v3), .val (.int x3)]) (1 : Int32) d11_162 rfl rfl (by subst ex7; rfl) ?_
    refine WP.goto (pc' := 4) d11_165 (by decide) rfl ?_
    exact WP.weak (L' := [.val (.ref 0), .val (.int x2), .val (.int x7), .unset, .unset]) ⟨rfl, rfl, rfl, trivial⟩ (hk4 x2 x7 s6 _ h)
  ·
    refine WP.icmpY (pc' := 110) d11_61 (XT.ii_ne_t hc1) (by decide) rfl ?_
    refine WP.iloadN d11_110 rfl ?_
    refine WP.bipush (8 : Int32) d11_111 rfl ?_
    rcases ite_e h with ⟨hc8, h⟩ | ⟨hc8, h⟩
    ·
      refine WP.icmpN d11_113 (XT.ii_le_f hc8) ?_
      refine WP.aloadN d11_116 rfl ?_
      refine WP.iconst (0 : Int32) d11_117 rfl ?_
      obtain ⟨s9, es9, h⟩ := lt_e h
      refine WP.putZ (i := 0) (j := 27) (H' := (Hb 0 s9)) d11_118 (hw _ m_117) (Or.inl (hw _ m_118)) (hw _ m_1) (hlay hw) rfl rfl rfl (leb rfl) (by subst es9; rfl) ?_
      cases h
      exact WP.vreturn d11_121 rfl (leb rfl) (leb rfl) ⟨rfl, rfl⟩
    ·
      refine WP.icmpY (pc' := 122) d11_113 (XT.ii_le_t hc8) (by decide) rfl ?_
      refine WP.aloadN d11_122 rfl ?_
      refine WP.getfield (i := 0) (j := 26) d11_123 (hw _ m_119) rfl rfl rfl ?_
      obtain ⟨x10, ex10, h⟩ := lt_e h
      refine WP.istore (L' := [.val (.ref 0), .val (.int v1), .val (.int v2), .val (.int v3), .val (.int x10)]) d11_126 (leb rfl) (by subst ex10; rfl) ?_
      refine WP.aloadN d11_128 rfl ?_
      cases h
def f_parseBody_168 (n : Nat) (s : St) : Option (St) :=
  lt (sI s 12 (0 : Int32)) fun s1 =>
  some s1
set_option maxRecDepth 65536 in
set_option maxHeartbeats 4000000 in
theorem ok11_168 (l : Launch) (Z : State) (a0 : Array Value) (hw : HW a0 Z) (n0 : Nat) (n : Nat) (s : St) (r : St) (h : f_parseBody_168 n s = some r) : W11 l Z n0 (P11 r) 0 0 168 [.val (.ref 0), .unset, .unset, .unset, .unset] [] (Hb 0 s) := by
  unfold f_parseBody_168 at h
  refine WP.aloadN d11_168 rfl ?_
  refine WP.iconst (0 : Int32) d11_169 rfl ?_
  obtain ⟨s1, es1, h⟩ := lt_e h
  refine WP.putZ (i := 0) (j := 27) (H' := (Hb 0 s1)) d11_170 (hw _ m_117) (Or.inl (hw _ m_118)) (hw _ m_1) (hlay hw) rfl rfl rfl (leb rfl) (by subst es1; rfl) ?_
  cases h
  exact WP.vreturn d11_173 rfl (leb rfl) (leb rfl) ⟨rfl, rfl⟩
def g_parseBody_4 (k4 : Int32 → Int32 → St → Option (St)) (n : Nat) (v1 : Int32) (v2 : Int32) (s : St) : Option (St) :=
  if v2 < (300 : Int32) then
    if (gI s 12) = 0 then
      f_parseBody_168 n s
    else
      (f_kindAt (gI s 11) s).bind fun c3 =>
      if c3 = (14 : Int32) then
        if v1 = 0 then
          (wrA s 14 (gI s 11) (-1 : Int32)).bind fun s6 =>
          lt (sI s6 11 ((gI s6 11) + (1 : Int32))) fun s7 =>
          some s7
        else
          f_parseBody_58 k4 n v1 v2 c3 s
      else
        f_parseBody_58 k4 n v1 v2 c3 s
  else
    f_parseBody_168 n s
set_option maxRecDepth 65536 in
set_option maxHeartbeats 4000000 in
theorem okg11_4 (l : Launch) (Z : State) (a0 : Array Value) (hw : HW a0 Z) (n0 : Nat) (k4 : Int32 → Int32 → St → Option (St)) (hk4 : ∀ (v1 : Int32) (v2 : Int32) (s : St) (r : St), k4 v1 v2 s = some r → W11 l Z n0 (P11 r) 0 0 4 [.val (.ref 0), .val (.int v1), .val (.int v2), .unset, .unset] [] (Hb 0 s)) (n : Nat) (v1 : Int32) (v2 : Int32) (s : St) (r : St) (h : g_parseBody_4 k4 n v1 v2 s = some r) : W11 l Z n0 (P11 r) 0 0 4 [.val (.ref 0), .val (.int v1), .val (.int v2), .unset, .unset] [] (Hb 0 s) := by
  unfold g_parseBody_4 at h
  refine WP.iloadN d11_4 rfl ?_
  refine WP.sipush (300 : Int32) d11_5 rfl ?_
  rcases ite_e h with ⟨hc1, h⟩ | ⟨hc1, h⟩
  ·
    refine WP.icmpN d11_8 (XT.ii_ge_f hc1) ?_
    refine WP.aloadN d11_11 rfl ?_
    refine WP.getfield (i := 0) (j := 27) d11_12 (hw _ m_117) rfl rfl rfl ?_
    rcases ite_e h with ⟨hc2, h⟩ | ⟨hc2, h⟩
    ·
      refine WP.ifY (pc' := 168) d11_15 (XT.i0_eq_t hc2) (by decide) rfl ?_
      exact WP.weak (L' := [.val (.ref 0), .unset, .unset, .unset, .unset]) ⟨rfl, trivial⟩ (ok11_168 l Z a0 hw n0 n s _ h)
    ·
      refine WP.ifN d11_15 (XT.i0_eq_f hc2) ?_
      refine WP.aloadN d11_18 rfl ?_
      refine WP.aloadN d11_19 rfl ?_
      refine WP.getfield (i := 0) (j := 26) d11_20 (hw _ m_119) rfl rfl rfl ?_
      obtain ⟨c3, hc3, h⟩ := Option.bind_eq_some_iff.mp h
      refine WP.callP (i := 0) (y := y7) (as := [.int (gI s 11)]) (S := []) d11_23 (hw _ m_129) (hw _ m_131) (hw _ m_1) (hw _ m_130) (hw _ m_132) (hw _ m_2) hy7 rfl (ok7 l Z a0 hw (gI s 11) s _ hc3) rfl (lenOf pd7 rfl) (leb rfl) (leb rfl) (leb rfl) (leb rfl) ?_
      rintro _ _ ⟨rfl, rfl⟩
      show W11 l Z n0 (P11 r) 0 0 26 [.val (.ref 0), .val (.int v1), .val (.int v2), .unset, .unset] [.int c3] (Hb 0 s)
      refine WP.istoreN (L' := [.val (.ref 0), .val (.int v1), .val (.int v2), .val (.int c3), .unset]) d11_26 (leb rfl) rfl ?_
      refine WP.iloadN d11_27 rfl ?_
      refine WP.bipush (14 : Int32) d11_28 rfl ?_
      rcases ite_e h with ⟨hc4, h⟩ | ⟨hc4, h⟩
      ·
        refine WP.icmpN d11_30 (XT.ii_ne_f hc4) ?_
        refine WP.iloadN d11_33 rfl ?_
        rcases ite_e h with ⟨hc5, h⟩ | ⟨hc5, h⟩
        ·
          refine WP.ifN d11_34 (XT.i0_ne_f hc5) ?_
          refine WP.aloadN d11_37 rfl ?_
          refine WP.getfield (i := 0) (j := 25) d11_38 (hw _ m_39) rfl rfl rfl ?_
          refine WP.aloadN d11_41 rfl ?_
          refine WP.getfield (i := 0) (j := 26) d11_42 (hw _ m_119) rfl rfl rfl ?_
          refine WP.iconst (-1 : Int32) d11_45 rfl ?_
          obtain ⟨s6, hs6, h⟩ := Option.bind_eq_some_iff.mp h
          obtain ⟨ys6, gs6, es6⟩ := wrA_e hs6
          refine WP.iastore (i := 15) (xs := gA s 14) (H' := (Hb 0 s6)) d11_46 rfl (leb rfl) gs6 (by subst es6; rfl) ?_
          refine WP.aloadN d11_47 rfl ?_
          refine WP.dup d11_48 rfl ?_
          refine WP.getfield (i := 0) (j := 26) d11_49 (hw _ m_119) rfl rfl rfl ?_
          refine WP.iconst (1 : Int32) d11_52 rfl ?_
          refine WP.iadd d11_53 ?_
          obtain ⟨s7, es7, h⟩ := lt_e h
          refine WP.putI (i := 0) (j := 26) (H' := (Hb 0 s7)) d11_54 (hw _ m_119) (Or.inl (hw _ m_120)) (hw _ m_1) (hlay hw) rfl rfl rfl (leb rfl) (by subst es7; rfl) ?_
          cases h
          exact WP.vreturn d11_57 rfl (leb rfl) (leb rfl) ⟨rfl, rfl⟩
        ·
          refine WP.ifY (pc' := 58) d11_34 (XT.i0_ne_t hc5) (by decide) rfl ?_
          exact WP.weak (L' := [.val (.ref 0), .val (.int v1), .val (.int v2), .val (.int c3), .unset]) ⟨rfl, rfl, rfl, rfl, trivial⟩ (ok11_58 l Z a0 hw n0 _ hk4 n v1 v2 c3 s _ h)
      ·
        refine WP.icmpY (pc' := 58) d11_30 (XT.ii_ne_t hc4) (by decide) rfl ?_
        exact WP.weak (L' := [.val (.ref 0), .val (.int v1), .val (.int v2), .val (.int c3), .unset]) ⟨rfl, rfl, rfl, rfl, trivial⟩ (ok11_58 l Z a0 hw n0 _ hk4 n v1 v2 c3 s _ h)
  ·
    refine WP.icmpY (pc' := 168) d11_8 (XT.ii_ge_t hc1) (by decide) rfl ?_
    exact WP.weak (L' := [.val (.ref 0), .unset, .unset, .unset, .unset]) ⟨rfl, trivial⟩ (ok11_168 l Z a0 hw n0 n s _ h)
def f_parseBody_4 : Nat → Int32 → Int32 → St → Option (St)
  | 0 => fun _ _ _ => none
  | n + 1 => g_parseBody_4 (f_parseBody_4 n) n
theorem ok11_4 (l : Launch) (Z : State) (a0 : Array Value) (hw : HW a0 Z) (n0 : Nat) : ∀ (n : Nat) (v1 : Int32) (v2 : Int32) (s : St) (r : St), f_parseBody_4 n v1 v2 s = some r → W11 l Z n0 (P11 r) 0 0 4 [.val (.ref 0), .val (.int v1), .val (.int v2), .unset, .unset] [] (Hb 0 s)
  | 0, v1, v2, s, r, h => nomatch (show none = some r from h)
  | n + 1, v1, v2, s, r, h => okg11_4 l Z a0 hw n0 _ (ok11_4 l Z a0 hw n0 n) n v1 v2 s r h
def f_parseBody (n : Nat) (s : St) : Option (St) :=
  f_parseBody_4 n (0 : Int32) (0 : Int32) s
set_option maxRecDepth 65536 in
set_option maxHeartbeats 4000000 in
theorem ok11 (l : Launch) (Z : State) (a0 : Array Value) (hw : HW a0 Z) (n : Nat) (s : St) (r : St) (h : f_parseBody n s = some r) : CS l Z CN lay y11 prog_1_method_27_code 5 (none) R11 0 [.ref 0] (Hb 0 s) (P11 r) := by
  refine CS.of_wp pn_cls (leb rfl) fun n0 => ?_
  show W11 l Z n0 (P11 r) 0 0 0 [.val (.ref 0), .unset, .unset, .unset, .unset] [] (Hb 0 s)
  unfold f_parseBody at h
  refine WP.iconst (0 : Int32) d11_0 rfl ?_
  refine WP.istoreN (L' := [.val (.ref 0), .val (.int (0 : Int32)), .unset, .unset, .unset]) d11_1 (leb rfl) rfl ?_
  refine WP.iconst (0 : Int32) d11_2 rfl ?_
  refine WP.istoreN (L' := [.val (.ref 0), .val (.int (0 : Int32)), .val (.int (0 : Int32)), .unset, .unset]) d11_3 (leb rfl) rfl ?_
  exact WP.weak (L' := [.val (.ref 0), .val (.int (0 : Int32)), .val (.int (0 : Int32)), .unset, .unset]) ⟨rfl, rfl, rfl, trivial⟩ (ok11_4 l Z a0 hw n0 n (0 : Int32) (0 : Int32) s _ h)
theorem d5_0 : dc prog_1_method_21_code 0 (.aload_n 0) 1 := by decide +kernel
theorem d5_1 : dc prog_1_method_21_code 1 (.iconst 4) 1 := by decide +kernel
theorem d5_2 : dc prog_1_method_21_code 2 (.invokevirtual 195) 3 := by decide +kernel
theorem d5_5 : dc prog_1_method_21_code 5 (.aload_n 0) 1 := by decide +kernel
theorem d5_6 : dc prog_1_method_21_code 6 (.getfield 180) 3 := by decide +kernel
theorem d5_9 : dc prog_1_method_21_code 9 (.ifCond .eq 15) 3 := by decide +kernel
theorem d5_12 : dc prog_1_method_21_code 12 (.aload_n 0) 1 := by decide +kernel
theorem d5_13 : dc prog_1_method_21_code 13 (.aload_n 0) 1 := by decide +kernel
theorem d5_14 : dc prog_1_method_21_code 14 (.getfield 183) 3 := by decide +kernel
theorem d5_17 : dc prog_1_method_21_code 17 (.invokevirtual 192) 3 := by decide +kernel
theorem d5_20 : dc prog_1_method_21_code 20 (.iconst 3) 1 := by decide +kernel
theorem d5_21 : dc prog_1_method_21_code 21 (.if_icmp .eq 9) 3 := by decide +kernel
theorem d5_24 : dc prog_1_method_21_code 24 (.aload_n 0) 1 := by decide +kernel
theorem d5_25 : dc prog_1_method_21_code 25 (.iconst 0) 1 := by decide +kernel
theorem d5_26 : dc prog_1_method_21_code 26 (.putfield 180) 3 := by decide +kernel
theorem d5_29 : dc prog_1_method_21_code 29 (.return_) 1 := by decide +kernel
theorem d5_30 : dc prog_1_method_21_code 30 (.aload_n 0) 1 := by decide +kernel
theorem d5_31 : dc prog_1_method_21_code 31 (.aload_n 0) 1 := by decide +kernel
theorem d5_32 : dc prog_1_method_21_code 32 (.getfield 183) 3 := by decide +kernel
theorem d5_35 : dc prog_1_method_21_code 35 (.invokevirtual 199) 3 := by decide +kernel
theorem d5_38 : dc prog_1_method_21_code 38 (.iconst 3) 1 := by decide +kernel
theorem d5_39 : dc prog_1_method_21_code 39 (.iand) 1 := by decide +kernel
theorem d5_40 : dc prog_1_method_21_code 40 (.istore_n 1) 1 := by decide +kernel
theorem d5_41 : dc prog_1_method_21_code 41 (.aload_n 0) 1 := by decide +kernel
theorem d5_42 : dc prog_1_method_21_code 42 (.getfield 19) 3 := by decide +kernel
theorem d5_45 : dc prog_1_method_21_code 45 (.iload_n 1) 1 := by decide +kernel
theorem d5_46 : dc prog_1_method_21_code 46 (.baload) 1 := by decide +kernel
theorem d5_47 : dc prog_1_method_21_code 47 (.ifCond .eq 9) 3 := by decide +kernel
theorem d5_50 : dc prog_1_method_21_code 50 (.aload_n 0) 1 := by decide +kernel
theorem d5_51 : dc prog_1_method_21_code 51 (.iconst 0) 1 := by decide +kernel
theorem d5_52 : dc prog_1_method_21_code 52 (.putfield 180) 3 := by decide +kernel
theorem d5_55 : dc prog_1_method_21_code 55 (.return_) 1 := by decide +kernel
theorem d5_56 : dc prog_1_method_21_code 56 (.aload_n 0) 1 := by decide +kernel
theorem d5_57 : dc prog_1_method_21_code 57 (.getfield 19) 3 := by decide +kernel
theorem d5_60 : dc prog_1_method_21_code 60 (.iload_n 1) 1 := by decide +kernel
theorem d5_61 : dc prog_1_method_21_code 61 (.iconst 1) 1 := by decide +kernel
theorem d5_62 : dc prog_1_method_21_code 62 (.bastore) 1 := by decide +kernel
theorem d5_63 : dc prog_1_method_21_code 63 (.aload_n 0) 1 := by decide +kernel
theorem d5_64 : dc prog_1_method_21_code 64 (.getfield 23) 3 := by decide +kernel
theorem d5_67 : dc prog_1_method_21_code 67 (.iload_n 1) 1 := by decide +kernel
theorem d5_68 : dc prog_1_method_21_code 68 (.aload_n 0) 1 := by decide +kernel
theorem d5_69 : dc prog_1_method_21_code 69 (.getfield 183) 3 := by decide +kernel
theorem d5_72 : dc prog_1_method_21_code 72 (.iastore) 1 := by decide +kernel
theorem d5_73 : dc prog_1_method_21_code 73 (.aload_n 0) 1 := by decide +kernel
theorem d5_74 : dc prog_1_method_21_code 74 (.iload_n 1) 1 := by decide +kernel
theorem d5_75 : dc prog_1_method_21_code 75 (.putfield 202) 3 := by decide +kernel
theorem d5_78 : dc prog_1_method_21_code 78 (.aload_n 0) 1 := by decide +kernel
theorem d5_79 : dc prog_1_method_21_code 79 (.dup) 1 := by decide +kernel
theorem d5_80 : dc prog_1_method_21_code 80 (.getfield 183) 3 := by decide +kernel
theorem d5_83 : dc prog_1_method_21_code 83 (.iconst 1) 1 := by decide +kernel
theorem d5_84 : dc prog_1_method_21_code 84 (.iadd) 1 := by decide +kernel
theorem d5_85 : dc prog_1_method_21_code 85 (.putfield 183) 3 := by decide +kernel
theorem d5_88 : dc prog_1_method_21_code 88 (.iconst 0) 1 := by decide +kernel
theorem d5_89 : dc prog_1_method_21_code 89 (.istore_n 2) 1 := by decide +kernel
theorem d5_90 : dc prog_1_method_21_code 90 (.iload_n 2) 1 := by decide +kernel
theorem d5_91 : dc prog_1_method_21_code 91 (.bipush 8) 2 := by decide +kernel
theorem d5_93 : dc prog_1_method_21_code 93 (.if_icmp .ge 33) 3 := by decide +kernel
theorem d5_96 : dc prog_1_method_21_code 96 (.aload_n 0) 1 := by decide +kernel
theorem d5_97 : dc prog_1_method_21_code 97 (.getfield 38) 3 := by decide +kernel
theorem d5_100 : dc prog_1_method_21_code 100 (.iload_n 1) 1 := by decide +kernel
theorem d5_101 : dc prog_1_method_21_code 101 (.bipush 8) 2 := by decide +kernel
theorem d5_103 : dc prog_1_method_21_code 103 (.imul) 1 := by decide +kernel
theorem d5_104 : dc prog_1_method_21_code 104 (.iload_n 2) 1 := by decide +kernel
theorem d5_105 : dc prog_1_method_21_code 105 (.iadd) 1 := by decide +kernel
theorem d5_106 : dc prog_1_method_21_code 106 (.iconst (-1)) 1 := by decide +kernel
theorem d5_107 : dc prog_1_method_21_code 107 (.iastore) 1 := by decide +kernel
theorem d5_108 : dc prog_1_method_21_code 108 (.aload_n 0) 1 := by decide +kernel
theorem d5_109 : dc prog_1_method_21_code 109 (.getfield 41) 3 := by decide +kernel
theorem d5_112 : dc prog_1_method_21_code 112 (.iload_n 1) 1 := by decide +kernel
theorem d5_113 : dc prog_1_method_21_code 113 (.bipush 8) 2 := by decide +kernel
theorem d5_115 : dc prog_1_method_21_code 115 (.imul) 1 := by decide +kernel
theorem d5_116 : dc prog_1_method_21_code 116 (.iload_n 2) 1 := by decide +kernel
theorem d5_117 : dc prog_1_method_21_code 117 (.iadd) 1 := by decide +kernel
theorem d5_118 : dc prog_1_method_21_code 118 (.iconst 0) 1 := by decide +kernel
theorem d5_119 : dc prog_1_method_21_code 119 (.bastore) 1 := by decide +kernel
theorem d5_120 : dc prog_1_method_21_code 120 (.iinc 2 1) 3 := by decide +kernel
theorem d5_123 : dc prog_1_method_21_code 123 (.goto (-33)) 3 := by decide +kernel
theorem d5_126 : dc prog_1_method_21_code 126 (.aload_n 0) 1 := by decide +kernel
theorem d5_127 : dc prog_1_method_21_code 127 (.bipush 11) 2 := by decide +kernel
theorem d5_129 : dc prog_1_method_21_code 129 (.invokevirtual 195) 3 := by decide +kernel
theorem d5_132 : dc prog_1_method_21_code 132 (.aload_n 0) 1 := by decide +kernel
theorem d5_133 : dc prog_1_method_21_code 133 (.invokevirtual 205) 3 := by decide +kernel
theorem d5_136 : dc prog_1_method_21_code 136 (.aload_n 0) 1 := by decide +kernel
theorem d5_137 : dc prog_1_method_21_code 137 (.bipush 12) 2 := by decide +kernel
theorem d5_139 : dc prog_1_method_21_code 139 (.invokevirtual 195) 3 := by decide +kernel
theorem d5_142 : dc prog_1_method_21_code 142 (.aload_n 0) 1 := by decide +kernel
theorem d5_143 : dc prog_1_method_21_code 143 (.bipush 13) 2 := by decide +kernel
theorem d5_145 : dc prog_1_method_21_code 145 (.invokevirtual 195) 3 := by decide +kernel
theorem d5_148 : dc prog_1_method_21_code 148 (.aload_n 0) 1 := by decide +kernel
theorem d5_149 : dc prog_1_method_21_code 149 (.invokevirtual 208) 3 := by decide +kernel
theorem d5_152 : dc prog_1_method_21_code 152 (.aload_n 0) 1 := by decide +kernel
theorem d5_153 : dc prog_1_method_21_code 153 (.getfield 35) 3 := by decide +kernel
theorem d5_156 : dc prog_1_method_21_code 156 (.iload_n 1) 1 := by decide +kernel
theorem d5_157 : dc prog_1_method_21_code 157 (.aload_n 0) 1 := by decide +kernel
theorem d5_158 : dc prog_1_method_21_code 158 (.getfield 183) 3 := by decide +kernel
theorem d5_161 : dc prog_1_method_21_code 161 (.iastore) 1 := by decide +kernel
theorem d5_162 : dc prog_1_method_21_code 162 (.aload_n 0) 1 := by decide +kernel
theorem d5_163 : dc prog_1_method_21_code 163 (.invokevirtual 211) 3 := by decide +kernel
theorem d5_166 : dc prog_1_method_21_code 166 (.return_) 1 := by decide +kernel
abbrev y5 : MethodName := ⟨"FatPointerC", "parseFunc", "()V"⟩
theorem hy5 : y5.cls ≠ "java/lang/invoke/MethodHandle" ∧ y5.cls ≠ "java/lang/invoke/VarHandle" := by decide
theorem pd5 : parseMethodDescriptor y5.desc = some ⟨[], none⟩ := by decide +kernel
abbrev R5 : Room := { frames := 2, cells := 0, slots := 0, locals := 29 }
abbrev P5 (r : St) : Option Value → List OwnC → Prop := fun v H' => v = none ∧ H' = (Hb 0 r)
abbrev W5 (l : Launch) (Z : State) (n0 : Nat) (Q : Option Value → List OwnC → Prop) (k n pc : Nat) (L : List Slot) (S : List Value) (H : List OwnC) : Prop := WP l Z CN lay "FatPointerC" "parseFunc" prog_1_method_21_code 3 (none) R5 n0 0 Q k n pc L S H
def f_parseFunc_24 (n : Nat) (s : St) : Option (St) :=
  lt (sI s 12 (0 : Int32)) fun s1 =>
  some s1
set_option maxRecDepth 65536 in
set_option maxHeartbeats 4000000 in
theorem ok5_24 (l : Launch) (Z : State) (a0 : Array Value) (hw : HW a0 Z) (n0 : Nat) (n : Nat) (s : St) (r : St) (h : f_parseFunc_24 n s = some r) : W5 l Z n0 (P5 r) 0 0 24 [.val (.ref 0), .unset, .unset] [] (Hb 0 s) := by
  unfold f_parseFunc_24 at h
  refine WP.aloadN d5_24 rfl ?_
  refine WP.iconst (0 : Int32) d5_25 rfl ?_
  obtain ⟨s1, es1, h⟩ := lt_e h
  refine WP.putZ (i := 0) (j := 27) (H' := (Hb 0 s1)) d5_26 (hw _ m_117) (Or.inl (hw _ m_118)) (hw _ m_1) (hlay hw) rfl rfl rfl (leb rfl) (by subst es1; rfl) ?_
  cases h
  exact WP.vreturn d5_29 rfl (leb rfl) (leb rfl) ⟨rfl, rfl⟩
def g_parseFunc_90 (k90 : Int32 → Int32 → St → Option (St)) (n : Nat) (v1 : Int32) (v2 : Int32) (s : St) : Option (St) :=
  if v2 < (8 : Int32) then
    (wrA s 9 ((v1 * (8 : Int32)) + v2) (-1 : Int32)).bind fun s2 =>
    (wrA s2 10 ((v1 * (8 : Int32)) + v2) (0 : Int32)).bind fun s3 =>
    lt (v2 + (1 : Int32)) fun x4 =>
    k90 v1 x4 s3
  else
    (f_expect (11 : Int32) s).bind fun c5 =>
    (f_parseParams c5).bind fun c6 =>
    (f_expect (12 : Int32) c6).bind fun c7 =>
    (f_expect (13 : Int32) c7).bind fun c8 =>
    (f_parseDecls c8).bind fun c9 =>
    (wrA c9 8 v1 (gI c9 11)).bind fun s10 =>
    (f_parseBody n s10).bind fun c11 =>
    some c11
set_option maxRecDepth 65536 in
set_option maxHeartbeats 4000000 in
theorem okg5_90 (l : Launch) (Z : State) (a0 : Array Value) (hw : HW a0 Z) (n0 : Nat) (k90 : Int32 → Int32 → St → Option (St)) (hk90 : ∀ (v1 : Int32) (v2 : Int32) (s : St) (r : St), k90 v1 v2 s = some r → W5 l Z n0 (P5 r) 0 0 90 [.val (.ref 0), .val (.int v1), .val (.int v2)] [] (Hb 0 s)) (n : Nat) (v1 : Int32) (v2 : Int32) (s : St) (r : St) (h : g_parseFunc_90 k90 n v1 v2 s = some r) : W5 l Z n0 (P5 r) 0 0 90 [.val (.ref 0), .val (.int v1), .val (.int v2)] [] (Hb 0 s) := by
  unfold g_parseFunc_90 at h
  refine WP.iloadN d5_90 rfl ?_
  refine WP.bipush (8 : Int32) d5_91 rfl ?_
  rcases ite_e h with ⟨hc1, h⟩ | ⟨hc1, h⟩
  ·
    refine WP.icmpN d5_93 (XT.ii_ge_f hc1) ?_
    refine WP.aloadN d5_96 rfl ?_
    refine WP.getfield (i := 0) (j := 20) d5_97 (hw _ m_29) rfl rfl rfl ?_
    refine WP.iloadN d5_100 rfl ?_
    refine WP.bipush (8 : Int32) d5_101 rfl ?_
    refine WP.imul d5_103 ?_
    refine WP.iloadN d5_104 rfl ?_
    refine WP.iadd d5_105 ?_
    refine WP.iconst (-1 : Int32) d5_106 rfl ?_
    obtain ⟨s2, hs2, h⟩ := Option.bind_eq_some_iff.mp h
    obtain ⟨ys2, gs2, es2⟩ := wrA_e hs2
    refine WP.iastore (i := 10) (xs := gA s 9) (H' := (Hb 0 s2)) d5_107 rfl (leb rfl) gs2 (by subst es2; rfl) ?_
    refine WP.aloadN d5_108 rfl ?_
    refine WP.getfield (i := 0) (j := 21) d5_109 (hw _ m_31) rfl rfl rfl ?_
    refine WP.iloadN d5_112 rfl ?_
    refine WP.bipush (8 : Int32) d5_113 rfl ?_
    refine WP.imul d5_115 ?_
    refine WP.iloadN d5_116 rfl ?_
    refine WP.iadd d5_117 ?_
    refine WP.iconst (0 : Int32) d5_118 rfl ?_
    obtain ⟨s3, hs3, h⟩ := Option.bind_eq_some_iff.mp h
    obtain ⟨ys3, gs3, es3⟩ := wrA_e hs3
    refine WP.bastore (i := 11) (xs := gA s2 10) (H' := (Hb 0 s3)) d5_119 rfl (leb rfl) gs3 (by subst es3; rfl) ?_
    obtain ⟨x4, ex4, h⟩ := lt_e h
    refine WP.iinc (L' := [.val (.ref 0), .val (.int v1), .val (.int x4)]) (1 : Int32) d5_120 rfl rfl (by subst ex4; rfl) ?_
    refine WP.goto (pc' := 90) d5_123 (by decide) rfl ?_
    exact WP.weak (L' := [.val (.ref 0), .val (.int v1), .val (.int x4)]) ⟨rfl, rfl, rfl, trivial⟩ (hk90 v1 x4 s3 _ h)
  ·
    refine WP.icmpY (pc' := 126) d5_93 (XT.ii_ge_t hc1) (by decide) rfl ?_
    refine WP.aloadN d5_126 rfl ?_
    refine WP.bipush (11 : Int32) d5_127 rfl ?_
    obtain ⟨c5, hc5, h⟩ := Option.bind_eq_some_iff.mp h
    refine WP.callP (i := 0) (y := y6) (as := [.int (11 : Int32)]) (S := []) d5_129 (hw _ m_125) (hw _ m_127) (hw _ m_1) (hw _ m_126) (hw _ m_128) (hw _ m_2) hy6 rfl (ok6 l Z a0 hw (11 : Int32) s _ hc5) rfl (lenOf pd6 rfl) (leb rfl) (leb rfl) (leb rfl) (leb rfl) ?_
    rintro _ _ ⟨rfl, rfl⟩
    show W5 l Z n0 (P5 r) 0 0 132 [.val (.ref 0), .val (.int v1), .val (.int v2)] [] (Hb 0 c5)
    refine WP.aloadN d5_132 rfl ?_
    obtain ⟨c6, hc6, h⟩ := Option.bind_eq_some_iff.mp h
    refine WP.callP (i := 0) (y := y9) (as := []) (S := []) d5_133 (hw _ m_139) (hw _ m_141) (hw _ m_1) (hw _ m_140) (hw _ m_142) (hw _ m_2) hy9 rfl (ok9 l Z a0 hw c5 _ hc6) rfl (lenOf pd9 rfl) (leb rfl) (leb rfl) (leb rfl) (leb rfl) ?_
    rintro _ _ ⟨rfl, rfl⟩
    show W5 l Z n0 (P5 r) 0 0 136 [.val (.ref 0), .val (.int v1), .val (.int v2)] [] (Hb 0 c6)
    refine WP.aloadN d5_136 rfl ?_
    refine WP.bipush (12 : Int32) d5_137 rfl ?_
    obtain ⟨c7, hc7, h⟩ := Option.bind_eq_some_iff.mp h
    refine WP.callP (i := 0) (y := y6) (as := [.int (12 : Int32)]) (S := []) d5_139 (hw _ m_125) (hw _ m_127) (hw _ m_1) (hw _ m_126) (hw _ m_128) (hw _ m_2) hy6 rfl (ok6 l Z a0 hw (12 : Int32) c6 _ hc7) rfl (lenOf pd6 rfl) (leb rfl) (leb rfl) (leb rfl) (leb rfl) ?_
    rintro _ _ ⟨rfl, rfl⟩
    show W5 l Z n0 (P5 r) 0 0 142 [.val (.ref 0), .val (.int v1), .val (.int v2)] [] (Hb 0 c7)
    refine WP.aloadN d5_142 rfl ?_
    refine WP.bipush (13 : Int32) d5_143 rfl ?_
    obtain ⟨c8, hc8, h⟩ := Option.bind_eq_some_iff.mp h
    refine WP.callP (i := 0) (y := y6) (as := [.int (13 : Int32)]) (S := []) d5_145 (hw _ m_125) (hw _ m_127) (hw _ m_1) (hw _ m_126) (hw _ m_128) (hw _ m_2) hy6 rfl (ok6 l Z a0 hw (13 : Int32) c7 _ hc8) rfl (lenOf pd6 rfl) (leb rfl) (leb rfl) (leb rfl) (leb rfl) ?_
    rintro _ _ ⟨rfl, rfl⟩
    show W5 l Z n0 (P5 r) 0 0 148 [.val (.ref 0), .val (.int v1), .val (.int v2)] [] (Hb 0 c8)
    refine WP.aloadN d5_148 rfl ?_
    obtain ⟨c9, hc9, h⟩ := Option.bind_eq_some_iff.mp h
    refine WP.callP (i := 0) (y := y10) (as := []) (S := []) d5_149 (hw _ m_143) (hw _ m_145) (hw _ m_1) (hw _ m_144) (hw _ m_146) (hw _ m_2) hy10 rfl (ok10 l Z a0 hw c8 _ hc9) rfl (lenOf pd10 rfl) (leb rfl) (leb rfl) (leb rfl) (leb rfl) ?_
    rintro _ _ ⟨rfl, rfl⟩
    show W5 l Z n0 (P5 r) 0 0 152 [.val (.ref 0), .val (.int v1), .val (.int v2)] [] (Hb 0 c9)
    refine WP.aloadN d5_152 rfl ?_
    refine WP.getfield (i := 0) (j := 19) d5_153 (hw _ m_27) rfl rfl rfl ?_
    refine WP.iloadN d5_156 rfl ?_
    refine WP.aloadN d5_157 rfl ?_
    refine WP.getfield (i := 0) (j := 26) d5_158 (hw _ m_119) rfl rfl rfl ?_
    obtain ⟨s10, hs10, h⟩ := Option.bind_eq_some_iff.mp h
    obtain ⟨ys10, gs10, es10⟩ := wrA_e hs10
    refine WP.iastore (i := 9) (xs := gA c9 8) (H' := (Hb 0 s10)) d5_161 rfl (leb rfl) gs10 (by subst es10; rfl) ?_
    refine WP.aloadN d5_162 rfl ?_
    obtain ⟨c11, hc11, h⟩ := Option.bind_eq_some_iff.mp h
    refine WP.callP (i := 0) (y := y11) (as := []) (S := []) d5_163 (hw _ m_147) (hw _ m_149) (hw _ m_1) (hw _ m_148) (hw _ m_150) (hw _ m_2) hy11 rfl (ok11 l Z a0 hw n s10 _ hc11) rfl (lenOf pd11 rfl) (leb rfl) (leb rfl) (leb rfl) (leb rfl) ?_
    rintro _ _ ⟨rfl, rfl⟩
    show W5 l Z n0 (P5 r) 0 0 166 [.val (.ref 0), .val (.int v1), .val (.int v2)] [] (Hb 0 c11)
    cases h
    exact WP.vreturn d5_166 rfl (leb rfl) (leb rfl) ⟨rfl, rfl⟩
def f_parseFunc_90 : Nat → Int32 → Int32 → St → Option (St)
  | 0 => fun _ _ _ => none
  | n + 1 => g_parseFunc_90 (f_parseFunc_90 n) n
theorem ok5_90 (l : Launch) (Z : State) (a0 : Array Value) (hw : HW a0 Z) (n0 : Nat) : ∀ (n : Nat) (v1 : Int32) (v2 : Int32) (s : St) (r : St), f_parseFunc_90 n v1 v2 s = some r → W5 l Z n0 (P5 r) 0 0 90 [.val (.ref 0), .val (.int v1), .val (.int v2)] [] (Hb 0 s)
  | 0, v1, v2, s, r, h => nomatch (show none = some r from h)
  | n + 1, v1, v2, s, r, h => okg5_90 l Z a0 hw n0 _ (ok5_90 l Z a0 hw n0 n) n v1 v2 s r h
def f_parseFunc (n : Nat) (s : St) : Option (St) :=
  (f_expect (4 : Int32) s).bind fun c1 =>
  if (gI c1 12) = 0 then
    f_parseFunc_24 n c1
  else
    (f_kindAt (gI c1 11) c1).bind fun c3 =>
    if c3 = (3 : Int32) then
      (f_valAt (gI c1 11) c1).bind fun c5 =>
      lt (c5 &&& (3 : Int32)) fun x6 =>
      (rd (gA c1 3) x6).bind fun x7 =>
      if x7 = 0 then
        (wrA c1 3 x6 (1 : Int32)).bind fun s9 =>
        (wrA s9 4 x6 (gI s9 11)).bind fun s10 =>
        lt (sI s10 13 x6) fun s11 =>
        lt (sI s11 11 ((gI s11 11) + (1 : Int32))) fun s12 =>
        f_parseFunc_90 n x6 (0 : Int32) s12
      else
        lt (sI c1 12 (0 : Int32)) fun s13 =>
        some s13
    else
      f_parseFunc_24 n c1
set_option maxRecDepth 65536 in
set_option maxHeartbeats 4000000 in
theorem ok5 (l : Launch) (Z : State) (a0 : Array Value) (hw : HW a0 Z) (n : Nat) (s : St) (r : St) (h : f_parseFunc n s = some r) : CS l Z CN lay y5 prog_1_method_21_code 3 (none) R5 0 [.ref 0] (Hb 0 s) (P5 r) := by
  refine CS.of_wp pn_cls (leb rfl) fun n0 => ?_
  show W5 l Z n0 (P5 r) 0 0 0 [.val (.ref 0), .unset, .unset] [] (Hb 0 s)
  unfold f_parseFunc at h
  refine WP.aloadN d5_0 rfl ?_
  refine WP.iconst (4 : Int32) d5_1 rfl ?_
  obtain ⟨c1, hc1, h⟩ := Option.bind_eq_some_iff.mp h
  refine WP.callP (i := 0) (y := y6) (as := [.int (4 : Int32)]) (S := []) d5_2 (hw _ m_125) (hw _ m_127) (hw _ m_1) (hw _ m_126) (hw _ m_128) (hw _ m_2) hy6 rfl (ok6 l Z a0 hw (4 : Int32) s _ hc1) rfl (lenOf pd6 rfl) (leb rfl) (leb rfl) (leb rfl) (leb rfl) ?_
  rintro _ _ ⟨rfl, rfl⟩
  show W5 l Z n0 (P5 r) 0 0 5 [.val (.ref 0), .unset, .unset] [] (Hb 0 c1)
  refine WP.aloadN d5_5 rfl ?_
  refine WP.getfield (i := 0) (j := 27) d5_6 (hw _ m_117) rfl rfl rfl ?_
  rcases ite_e h with ⟨hc2, h⟩ | ⟨hc2, h⟩
  ·
    refine WP.ifY (pc' := 24) d5_9 (XT.i0_eq_t hc2) (by decide) rfl ?_
    exact WP.weak (L' := [.val (.ref 0), .unset, .unset]) ⟨rfl, trivial⟩ (ok5_24 l Z a0 hw n0 n c1 _ h)
  ·
    refine WP.ifN d5_9 (XT.i0_eq_f hc2) ?_
    refine WP.aloadN d5_12 rfl ?_
    refine WP.aloadN d5_13 rfl ?_
    refine WP.getfield (i := 0) (j := 26) d5_14 (hw _ m_119) rfl rfl rfl ?_
    obtain ⟨c3, hc3, h⟩ := Option.bind_eq_some_iff.mp h
    refine WP.callP (i := 0) (y := y7) (as := [.int (gI c1 11)]) (S := []) d5_17 (hw _ m_129) (hw _ m_131) (hw _ m_1) (hw _ m_130) (hw _ m_132) (hw _ m_2) hy7 rfl (ok7 l Z a0 hw (gI c1 11) c1 _ hc3) rfl (lenOf pd7 rfl) (leb rfl) (leb rfl) (leb rfl) (leb rfl) ?_
    rintro _ _ ⟨rfl, rfl⟩
    show W5 l Z n0 (P5 r) 0 0 20 [.val (.ref 0), .unset, .unset] [.int c3] (Hb 0 c1)
    refine WP.iconst (3 : Int32) d5_20 rfl ?_
    rcases ite_e h with ⟨hc4, h⟩ | ⟨hc4, h⟩
    ·
      refine WP.icmpY (pc' := 30) d5_21 (XT.ii_eq_t hc4) (by decide) rfl ?_
      refine WP.aloadN d5_30 rfl ?_
      refine WP.aloadN d5_31 rfl ?_
      refine WP.getfield (i := 0) (j := 26) d5_32 (hw _ m_119) rfl rfl rfl ?_
      obtain ⟨c5, hc5, h⟩ := Option.bind_eq_some_iff.mp h
      refine WP.callP (i := 0) (y := y8) (as := [.int (gI c1 11)]) (S := []) d5_35 (hw _ m_133) (hw _ m_135) (hw _ m_1) (hw _ m_134) (hw _ m_136) (hw _ m_2) hy8 rfl (ok8 l Z a0 hw (gI c1 11) c1 _ hc5) rfl (lenOf pd8 rfl) (leb rfl) (leb rfl) (leb rfl) (leb rfl) ?_
      rintro _ _ ⟨rfl, rfl⟩
      show W5 l Z n0 (P5 r) 0 0 38 [.val (.ref 0), .unset, .unset] [.int c5] (Hb 0 c1)
      refine WP.iconst (3 : Int32) d5_38 rfl ?_
      refine WP.iand d5_39 ?_
      obtain ⟨x6, ex6, h⟩ := lt_e h
      refine WP.istoreN (L' := [.val (.ref 0), .val (.int x6), .unset]) d5_40 (leb rfl) (by subst ex6; rfl) ?_
      refine WP.aloadN d5_41 rfl ?_
      refine WP.getfield (i := 0) (j := 14) d5_42 (hw _ m_17) rfl rfl rfl ?_
      refine WP.iloadN d5_45 rfl ?_
      obtain ⟨x7, hx7, h⟩ := Option.bind_eq_some_iff.mp h
      refine WP.baload (i := 4) d5_46 rfl hx7 ?_
      rcases ite_e h with ⟨hc8, h⟩ | ⟨hc8, h⟩
      ·
        refine WP.ifY (pc' := 56) d5_47 (XT.i0_eq_t hc8) (by decide) rfl ?_
        refine WP.aloadN d5_56 rfl ?_
        refine WP.getfield (i := 0) (j := 14) d5_57 (hw _ m_17) rfl rfl rfl ?_
        refine WP.iloadN d5_60 rfl ?_
        refine WP.iconst (1 : Int32) d5_61 rfl ?_
        obtain ⟨s9, hs9, h⟩ := Option.bind_eq_some_iff.mp h
        obtain ⟨ys9, gs9, es9⟩ := wrA_e hs9
        refine WP.bastore (i := 4) (xs := gA c1 3) (H' := (Hb 0 s9)) d5_62 rfl (leb rfl) gs9 (by subst es9; rfl) ?_
        refine WP.aloadN d5_63 rfl ?_
        refine WP.getfield (i := 0) (j := 15) d5_64 (hw _ m_19) rfl rfl rfl ?_
        refine WP.iloadN d5_67 rfl ?_
        refine WP.aloadN d5_68 rfl ?_
        refine WP.getfield (i := 0) (j := 26) d5_69 (hw _ m_119) rfl rfl rfl ?_
        obtain ⟨s10, hs10, h⟩ := Option.bind_eq_some_iff.mp h
        obtain ⟨ys10, gs10, es10⟩ := wrA_e hs10
        refine WP.iastore (i := 5) (xs := gA s9 4) (H' := (Hb 0 s10)) d5_72 rfl (leb rfl) gs10 (by subst es10; rfl) ?_
        refine WP.aloadN d5_73 rfl ?_
        refine WP.iloadN d5_74 rfl ?_
        obtain ⟨s11, es11, h⟩ := lt_e h
        refine WP.putI (i := 0) (j := 28) (H' := (Hb 0 s11)) d5_75 (hw _ m_137) (Or.inl (hw _ m_138)) (hw _ m_1) (hlay hw) rfl rfl rfl (leb rfl) (by subst es11; rfl) ?_
        refine WP.aloadN d5_78 rfl ?_
        refine WP.dup d5_79 rfl ?_
        refine WP.getfield (i := 0) (j := 26) d5_80 (hw _ m_119) rfl rfl rfl ?_
        refine WP.iconst (1 : Int32) d5_83 rfl ?_
        refine WP.iadd d5_84 ?_
        obtain ⟨s12, es12, h⟩ := lt_e h
        refine WP.putI (i := 0) (j := 26) (H' := (Hb 0 s12)) d5_85 (hw _ m_119) (Or.inl (hw _ m_120)) (hw _ m_1) (hlay hw) rfl rfl rfl (leb rfl) (by subst es12; rfl) ?_
        refine WP.iconst (0 : Int32) d5_88 rfl ?_
        refine WP.istoreN (L' := [.val (.ref 0), .val (.int x6), .val (.int (0 : Int32))]) d5_89 (leb rfl) rfl ?_
        exact WP.weak (L' := [.val (.ref 0), .val (.int x6), .val (.int (0 : Int32))]) ⟨rfl, rfl, rfl, trivial⟩ (ok5_90 l Z a0 hw n0 n x6 (0 : Int32) s12 _ h)
      ·
        refine WP.ifN d5_47 (XT.i0_eq_f hc8) ?_
        refine WP.aloadN d5_50 rfl ?_
        refine WP.iconst (0 : Int32) d5_51 rfl ?_
        obtain ⟨s13, es13, h⟩ := lt_e h
        refine WP.putZ (i := 0) (j := 27) (H' := (Hb 0 s13)) d5_52 (hw _ m_117) (Or.inl (hw _ m_118)) (hw _ m_1) (hlay hw) rfl rfl rfl (leb rfl) (by subst es13; rfl) ?_
        cases h
        exact WP.vreturn d5_55 rfl (leb rfl) (leb rfl) ⟨rfl, rfl⟩
    ·
      refine WP.icmpN d5_21 (XT.ii_eq_f hc4) ?_
      exact WP.weak (L' := [.val (.ref 0), .unset, .unset]) ⟨rfl, trivial⟩ (ok5_24 l Z a0 hw n0 n c1 _ h)
theorem d12_0 : dc prog_1_method_19_code 0 (.iconst 0) 1 := by decide +kernel
theorem d12_1 : dc prog_1_method_19_code 1 (.istore_n 1) 1 := by decide +kernel
theorem d12_2 : dc prog_1_method_19_code 2 (.iload_n 1) 1 := by decide +kernel
theorem d12_3 : dc prog_1_method_19_code 3 (.aload_n 0) 1 := by decide +kernel
theorem d12_4 : dc prog_1_method_19_code 4 (.getfield 120) 3 := by decide +kernel
theorem d12_7 : dc prog_1_method_19_code 7 (.if_icmp .ge 53) 3 := by decide +kernel
theorem d12_10 : dc prog_1_method_19_code 10 (.aload_n 0) 1 := by decide +kernel
theorem d12_11 : dc prog_1_method_19_code 11 (.getfield 47) 3 := by decide +kernel
theorem d12_14 : dc prog_1_method_19_code 14 (.iload_n 1) 1 := by decide +kernel
theorem d12_15 : dc prog_1_method_19_code 15 (.iaload) 1 := by decide +kernel
theorem d12_16 : dc prog_1_method_19_code 16 (.istore_n 2) 1 := by decide +kernel
theorem d12_17 : dc prog_1_method_19_code 17 (.iload_n 2) 1 := by decide +kernel
theorem d12_18 : dc prog_1_method_19_code 18 (.ifCond .ge 6) 3 := by decide +kernel
theorem d12_21 : dc prog_1_method_19_code 21 (.goto 33) 3 := by decide +kernel
theorem d12_24 : dc prog_1_method_19_code 24 (.aload_n 0) 1 := by decide +kernel
theorem d12_25 : dc prog_1_method_19_code 25 (.getfield 13) 3 := by decide +kernel
theorem d12_28 : dc prog_1_method_19_code 28 (.iload_n 1) 1 := by decide +kernel
theorem d12_29 : dc prog_1_method_19_code 29 (.iaload) 1 := by decide +kernel
theorem d12_30 : dc prog_1_method_19_code 30 (.iconst 3) 1 := by decide +kernel
theorem d12_31 : dc prog_1_method_19_code 31 (.iand) 1 := by decide +kernel
theorem d12_32 : dc prog_1_method_19_code 32 (.istore_n 3) 1 := by decide +kernel
theorem d12_33 : dc prog_1_method_19_code 33 (.aload_n 0) 1 := by decide +kernel
theorem d12_34 : dc prog_1_method_19_code 34 (.getfield 19) 3 := by decide +kernel
theorem d12_37 : dc prog_1_method_19_code 37 (.iload_n 3) 1 := by decide +kernel
theorem d12_38 : dc prog_1_method_19_code 38 (.baload) 1 := by decide +kernel
theorem d12_39 : dc prog_1_method_19_code 39 (.ifCond .eq 13) 3 := by decide +kernel
theorem d12_42 : dc prog_1_method_19_code 42 (.aload_n 0) 1 := by decide +kernel
theorem d12_43 : dc prog_1_method_19_code 43 (.getfield 26) 3 := by decide +kernel
theorem d12_46 : dc prog_1_method_19_code 46 (.iload_n 3) 1 := by decide +kernel
theorem d12_47 : dc prog_1_method_19_code 47 (.iaload) 1 := by decide +kernel
theorem d12_48 : dc prog_1_method_19_code 48 (.iload_n 2) 1 := by decide +kernel
theorem d12_49 : dc prog_1_method_19_code 49 (.if_icmp .eq 5) 3 := by decide +kernel
theorem d12_52 : dc prog_1_method_19_code 52 (.iconst 0) 1 := by decide +kernel
theorem d12_53 : dc prog_1_method_19_code 53 (.ireturn) 1 := by decide +kernel
theorem d12_54 : dc prog_1_method_19_code 54 (.iinc 1 1) 3 := by decide +kernel
theorem d12_57 : dc prog_1_method_19_code 57 (.goto (-55)) 3 := by decide +kernel
theorem d12_60 : dc prog_1_method_19_code 60 (.iconst 1) 1 := by decide +kernel
theorem d12_61 : dc prog_1_method_19_code 61 (.ireturn) 1 := by decide +kernel
abbrev y12 : MethodName := ⟨"FatPointerC", "checkCalls", "()Z"⟩
theorem hy12 : y12.cls ≠ "java/lang/invoke/MethodHandle" ∧ y12.cls ≠ "java/lang/invoke/VarHandle" := by decide
theorem pd12 : parseMethodDescriptor y12.desc = some ⟨[], some .boolean⟩ := by decide +kernel
abbrev R12 : Room := { frames := 0, cells := 0, slots := 0, locals := 0 }
abbrev P12 (s : St) (r : Int32) : Option Value → List OwnC → Prop := fun v H' => v = some (.int r) ∧ H' = (Hb 0 s)
abbrev W12 (l : Launch) (Z : State) (n0 : Nat) (Q : Option Value → List OwnC → Prop) (k n pc : Nat) (L : List Slot) (S : List Value) (H : List OwnC) : Prop := WP l Z CN lay "FatPointerC" "checkCalls" prog_1_method_19_code 4 (some FieldType.boolean) R12 n0 0 Q k n pc L S H
def f_checkCalls_52 (n : Nat) (s : St) : Option (Int32) :=
  some (0 : Int32)
set_option maxRecDepth 65536 in
set_option maxHeartbeats 4000000 in
theorem ok12_52 (l : Launch) (Z : State) (a0 : Array Value) (hw : HW a0 Z) (n0 : Nat) (n : Nat) (s : St) (r : Int32) (h : f_checkCalls_52 n s = some r) : W12 l Z n0 (P12 s r) 0 0 52 [.unset, .unset, .unset, .unset] [] (Hb 0 s) := by
  unfold f_checkCalls_52 at h
  refine WP.iconst (0 : Int32) d12_52 rfl ?_
  cases h
  exact WP.zreturn d12_53 rfl (leb rfl) (leb rfl) ⟨rfl, rfl⟩
def f_checkCalls_54 (k2 : Int32 → St → Option (Int32)) (n : Nat) (v1 : Int32) (s : St) : Option (Int32) :=
  lt (v1 + (1 : Int32)) fun x1 =>
  k2 x1 s
set_option maxRecDepth 65536 in
set_option maxHeartbeats 4000000 in
theorem ok12_54 (l : Launch) (Z : State) (a0 : Array Value) (hw : HW a0 Z) (n0 : Nat) (k2 : Int32 → St → Option (Int32)) (hk2 : ∀ (v1 : Int32) (s : St) (r : Int32), k2 v1 s = some r → W12 l Z n0 (P12 s r) 0 0 2 [.val (.ref 0), .val (.int v1), .unset, .unset] [] (Hb 0 s)) (n : Nat) (v1 : Int32) (s : St) (r : Int32) (h : f_checkCalls_54 k2 n v1 s = some r) : W12 l Z n0 (P12 s r) 0 0 54 [.val (.ref 0), .val (.int v1), .unset, .unset] [] (Hb 0 s) := by
  unfold f_checkCalls_54 at h
  obtain ⟨x1, ex1, h⟩ := lt_e h
  refine WP.iinc (L' := [.val (.ref 0), .val (.int x1), .unset, .unset]) (1 : Int32) d12_54 rfl rfl (by subst ex1; rfl) ?_
  refine WP.goto (pc' := 2) d12_57 (by decide) rfl ?_
  exact WP.weak (L' := [.val (.ref 0), .val (.int x1), .unset, .unset]) ⟨rfl, rfl, trivial⟩ (hk2 x1 s _ h)
def g_checkCalls_2 (k2 : Int32 → St → Option (Int32)) (n : Nat) (v1 : Int32) (s : St) : Option (Int32) :=
  if v1 < (gI s 2) then
    (rd (gA s 12) v1).bind fun x2 =>
    if x2 < 0 then
      f_checkCalls_54 k2 n v1 s
    else
      (rd (gA s 1) v1).bind fun x4 =>
      lt (x4 &&& (3 : Int32)) fun x5 =>
      (rd (gA s 3) x5).bind fun x6 =>
      if x6 = 0 then
        f_checkCalls_52 n s
      else
        (rd (gA s 5) x5).bind fun x8 =>
        if x8 = x2 then
          f_checkCalls_54 k2 n v1 s
        else
          f_checkCalls_52 n s
  else
    some (1 : Int32)
set_option maxRecDepth 65536 in
set_option maxHeartbeats 4000000 in
theorem okg12_2 (l : Launch) (Z : State) (a0 : Array Value) (hw : HW a0 Z) (n0 : Nat) (k2 : Int32 → St → Option (Int32)) (hk2 : ∀ (v1 : Int32) (s : St) (r : Int32), k2 v1 s = some r → W12 l Z n0 (P12 s r) 0 0 2 [.val (.ref 0), .val (.int v1), .unset, .unset] [] (Hb 0 s)) (n : Nat) (v1 : Int32) (s : St) (r : Int32) (h : g_checkCalls_2 k2 n v1 s = some r) : W12 l Z n0 (P12 s r) 0 0 2 [.val (.ref 0), .val (.int v1), .unset, .unset] [] (Hb 0 s) := by
  unfold g_checkCalls_2 at h
  refine WP.iloadN d12_2 rfl ?_
  refine WP.aloadN d12_3 rfl ?_
  refine WP.getfield (i := 0) (j := 2) d12_4 (hw _ m_104) rfl rfl rfl ?_
  rcases ite_e h with ⟨hc1, h⟩ | ⟨hc1, h⟩
  ·
    refine WP.icmpN d12_7 (XT.ii_ge_f hc1) ?_
    refine WP.aloadN d12_10 rfl ?_
    refine WP.getfield (i := 0) (j := 23) d12_11 (hw _ m_35) rfl rfl rfl ?_
    refine WP.iloadN d12_14 rfl ?_
    obtain ⟨x2, hx2, h⟩ := Option.bind_eq_some_iff.mp h
    refine WP.iaload (i := 13) d12_15 rfl hx2 ?_
    refine WP.istoreN (L' := [.val (.ref 0), .val (.int v1), .val (.int x2), .unset]) d12_16 (leb rfl) rfl ?_
    refine WP.iloadN d12_17 rfl ?_
    rcases ite_e h with ⟨hc3, h⟩ | ⟨hc3, h⟩
    ·
      refine WP.ifN d12_18 (XT.i0_ge_f hc3) ?_
      refine WP.goto (pc' := 54) d12_21 (by decide) rfl ?_
      exact WP.weak (L' := [.val (.ref 0), .val (.int v1), .unset, .unset]) ⟨rfl, rfl, trivial⟩ (ok12_54 l Z a0 hw n0 _ hk2 n v1 s _ h)
    ·
      refine WP.ifY (pc' := 24) d12_18 (XT.i0_ge_t hc3) (by decide) rfl ?_
      refine WP.aloadN d12_24 rfl ?_
      refine WP.getfield (i := 0) (j := 4) d12_25 (hw _ m_12) rfl rfl rfl ?_
      refine WP.iloadN d12_28 rfl ?_
      obtain ⟨x4, hx4, h⟩ := Option.bind_eq_some_iff.mp h
      refine WP.iaload (i := 2) d12_29 rfl hx4 ?_
      refine WP.iconst (3 : Int32) d12_30 rfl ?_
      refine WP.iand d12_31 ?_
      obtain ⟨x5, ex5, h⟩ := lt_e h
      refine WP.istoreN (L' := [.val (.ref 0), .val (.int v1), .val (.int x2), .val (.int x5)]) d12_32 (leb rfl) (by subst ex5; rfl) ?_
      refine WP.aloadN d12_33 rfl ?_
      refine WP.getfield (i := 0) (j := 14) d12_34 (hw _ m_17) rfl rfl rfl ?_
      refine WP.iloadN d12_37 rfl ?_
      obtain ⟨x6, hx6, h⟩ := Option.bind_eq_some_iff.mp h
      refine WP.baload (i := 4) d12_38 rfl hx6 ?_
      rcases ite_e h with ⟨hc7, h⟩ | ⟨hc7, h⟩
      ·
        refine WP.ifY (pc' := 52) d12_39 (XT.i0_eq_t hc7) (by decide) rfl ?_
        exact WP.weak (L' := [.unset, .unset, .unset, .unset]) trivial (ok12_52 l Z a0 hw n0 n s _ h)
      ·
        refine WP.ifN d12_39 (XT.i0_eq_f hc7) ?_
        refine WP.aloadN d12_42 rfl ?_
        refine WP.getfield (i := 0) (j := 16) d12_43 (hw _ m_21) rfl rfl rfl ?_
        refine WP.iloadN d12_46 rfl ?_
        obtain ⟨x8, hx8, h⟩ := Option.bind_eq_some_iff.mp h
        refine WP.iaload (i := 6) d12_47 rfl hx8 ?_
        refine WP.iloadN d12_48 rfl ?_
        rcases ite_e h with ⟨hc9, h⟩ | ⟨hc9, h⟩
        ·
          refine WP.icmpY (pc' := 54) d12_49 (XT.ii_eq_t hc9) (by decide) rfl ?_
          exact WP.weak (L' := [.val (.ref 0), .val (.int v1), .unset, .unset]) ⟨rfl, rfl, trivial⟩ (ok12_54 l Z a0 hw n0 _ hk2 n v1 s _ h)
        ·
          refine WP.icmpN d12_49 (XT.ii_eq_f hc9) ?_
          exact WP.weak (L' := [.unset, .unset, .unset, .unset]) trivial (ok12_52 l Z a0 hw n0 n s _ h)
  ·
    refine WP.icmpY (pc' := 60) d12_7 (XT.ii_ge_t hc1) (by decide) rfl ?_
    refine WP.iconst (1 : Int32) d12_60 rfl ?_
    cases h
    exact WP.zreturn d12_61 rfl (leb rfl) (leb rfl) ⟨rfl, rfl⟩
def f_checkCalls_2 : Nat → Int32 → St → Option (Int32)
  | 0 => fun _ _ => none
  | n + 1 => g_checkCalls_2 (f_checkCalls_2 n) n
theorem ok12_2 (l : Launch) (Z : State) (a0 : Array Value) (hw : HW a0 Z) (n0 : Nat) : ∀ (n : Nat) (v1 : Int32) (s : St) (r : Int32), f_checkCalls_2 n v1 s = some r → W12 l Z n0 (P12 s r) 0 0 2 [.val (.ref 0), .val (.int v1), .unset, .unset] [] (Hb 0 s)
  | 0, v1, s, r, h => nomatch (show none = some r from h)
  | n + 1, v1, s, r, h => okg12_2 l Z a0 hw n0 _ (ok12_2 l Z a0 hw n0 n) n v1 s r h
def f_checkCalls (n : Nat) (s : St) : Option (Int32) :=
  f_checkCalls_2 n (0 : Int32) s
set_option maxRecDepth 65536 in
set_option maxHeartbeats 4000000 in
theorem ok12 (l : Launch) (Z : State) (a0 : Array Value) (hw : HW a0 Z) (n : Nat) (s : St) (r : Int32) (h : f_checkCalls n s = some r) : CS l Z CN lay y12 prog_1_method_19_code 4 (some FieldType.boolean) R12 0 [.ref 0] (Hb 0 s) (P12 s r) := by
  refine CS.of_wp pn_cls (leb rfl) fun n0 => ?_
  show W12 l Z n0 (P12 s r) 0 0 0 [.val (.ref 0), .unset, .unset, .unset] [] (Hb 0 s)
  unfold f_checkCalls at h
  refine WP.iconst (0 : Int32) d12_0 rfl ?_
  refine WP.istoreN (L' := [.val (.ref 0), .val (.int (0 : Int32)), .unset, .unset]) d12_1 (leb rfl) rfl ?_
  exact WP.weak (L' := [.val (.ref 0), .val (.int (0 : Int32)), .unset, .unset]) ⟨rfl, rfl, trivial⟩ (ok12_2 l Z a0 hw n0 n (0 : Int32) s _ h)
theorem d4_0 : dc prog_1_method_18_code 0 (.iconst 0) 1 := by decide +kernel
theorem d4_1 : dc prog_1_method_18_code 1 (.istore_n 1) 1 := by decide +kernel
theorem d4_2 : dc prog_1_method_18_code 2 (.iload_n 1) 1 := by decide +kernel
theorem d4_3 : dc prog_1_method_18_code 3 (.iconst 4) 1 := by decide +kernel
theorem d4_4 : dc prog_1_method_18_code 4 (.if_icmp .ge 51) 3 := by decide +kernel
theorem d4_7 : dc prog_1_method_18_code 7 (.aload_n 0) 1 := by decide +kernel
theorem d4_8 : dc prog_1_method_18_code 8 (.getfield 19) 3 := by decide +kernel
theorem d4_11 : dc prog_1_method_18_code 11 (.iload_n 1) 1 := by decide +kernel
theorem d4_12 : dc prog_1_method_18_code 12 (.iconst 0) 1 := by decide +kernel
theorem d4_13 : dc prog_1_method_18_code 13 (.bastore) 1 := by decide +kernel
theorem d4_14 : dc prog_1_method_18_code 14 (.aload_n 0) 1 := by decide +kernel
theorem d4_15 : dc prog_1_method_18_code 15 (.getfield 26) 3 := by decide +kernel
theorem d4_18 : dc prog_1_method_18_code 18 (.iload_n 1) 1 := by decide +kernel
theorem d4_19 : dc prog_1_method_18_code 19 (.iconst 0) 1 := by decide +kernel
theorem d4_20 : dc prog_1_method_18_code 20 (.iastore) 1 := by decide +kernel
theorem d4_21 : dc prog_1_method_18_code 21 (.aload_n 0) 1 := by decide +kernel
theorem d4_22 : dc prog_1_method_18_code 22 (.getfield 29) 3 := by decide +kernel
theorem d4_25 : dc prog_1_method_18_code 25 (.iload_n 1) 1 := by decide +kernel
theorem d4_26 : dc prog_1_method_18_code 26 (.iconst 0) 1 := by decide +kernel
theorem d4_27 : dc prog_1_method_18_code 27 (.iastore) 1 := by decide +kernel
theorem d4_28 : dc prog_1_method_18_code 28 (.aload_n 0) 1 := by decide +kernel
theorem d4_29 : dc prog_1_method_18_code 29 (.getfield 32) 3 := by decide +kernel
theorem d4_32 : dc prog_1_method_18_code 32 (.iload_n 1) 1 := by decide +kernel
theorem d4_33 : dc prog_1_method_18_code 33 (.iconst 0) 1 := by decide +kernel
theorem d4_34 : dc prog_1_method_18_code 34 (.iastore) 1 := by decide +kernel
theorem d4_35 : dc prog_1_method_18_code 35 (.aload_n 0) 1 := by decide +kernel
theorem d4_36 : dc prog_1_method_18_code 36 (.getfield 35) 3 := by decide +kernel
theorem d4_39 : dc prog_1_method_18_code 39 (.iload_n 1) 1 := by decide +kernel
theorem d4_40 : dc prog_1_method_18_code 40 (.iconst 0) 1 := by decide +kernel
theorem d4_41 : dc prog_1_method_18_code 41 (.iastore) 1 := by decide +kernel
theorem d4_42 : dc prog_1_method_18_code 42 (.aload_n 0) 1 := by decide +kernel
theorem d4_43 : dc prog_1_method_18_code 43 (.getfield 23) 3 := by decide +kernel
theorem d4_46 : dc prog_1_method_18_code 46 (.iload_n 1) 1 := by decide +kernel
theorem d4_47 : dc prog_1_method_18_code 47 (.iconst 0) 1 := by decide +kernel
theorem d4_48 : dc prog_1_method_18_code 48 (.iastore) 1 := by decide +kernel
theorem d4_49 : dc prog_1_method_18_code 49 (.iinc 1 1) 3 := by decide +kernel
theorem d4_52 : dc prog_1_method_18_code 52 (.goto (-50)) 3 := by decide +kernel
theorem d4_55 : dc prog_1_method_18_code 55 (.iconst 0) 1 := by decide +kernel
theorem d4_56 : dc prog_1_method_18_code 56 (.istore_n 1) 1 := by decide +kernel
theorem d4_57 : dc prog_1_method_18_code 57 (.iload_n 1) 1 := by decide +kernel
theorem d4_58 : dc prog_1_method_18_code 58 (.sipush 256) 3 := by decide +kernel
theorem d4_61 : dc prog_1_method_18_code 61 (.if_icmp .ge 30) 3 := by decide +kernel
theorem d4_64 : dc prog_1_method_18_code 64 (.aload_n 0) 1 := by decide +kernel
theorem d4_65 : dc prog_1_method_18_code 65 (.getfield 47) 3 := by decide +kernel
theorem d4_68 : dc prog_1_method_18_code 68 (.iload_n 1) 1 := by decide +kernel
theorem d4_69 : dc prog_1_method_18_code 69 (.iconst (-1)) 1 := by decide +kernel
theorem d4_70 : dc prog_1_method_18_code 70 (.iastore) 1 := by decide +kernel
theorem d4_71 : dc prog_1_method_18_code 71 (.aload_n 0) 1 := by decide +kernel
theorem d4_72 : dc prog_1_method_18_code 72 (.getfield 50) 3 := by decide +kernel
theorem d4_75 : dc prog_1_method_18_code 75 (.iload_n 1) 1 := by decide +kernel
theorem d4_76 : dc prog_1_method_18_code 76 (.iconst (-1)) 1 := by decide +kernel
theorem d4_77 : dc prog_1_method_18_code 77 (.iastore) 1 := by decide +kernel
theorem d4_78 : dc prog_1_method_18_code 78 (.aload_n 0) 1 := by decide +kernel
theorem d4_79 : dc prog_1_method_18_code 79 (.getfield 53) 3 := by decide +kernel
theorem d4_82 : dc prog_1_method_18_code 82 (.iload_n 1) 1 := by decide +kernel
theorem d4_83 : dc prog_1_method_18_code 83 (.iconst (-1)) 1 := by decide +kernel
theorem d4_84 : dc prog_1_method_18_code 84 (.iastore) 1 := by decide +kernel
theorem d4_85 : dc prog_1_method_18_code 85 (.iinc 1 1) 3 := by decide +kernel
theorem d4_88 : dc prog_1_method_18_code 88 (.goto (-31)) 3 := by decide +kernel
theorem d4_91 : dc prog_1_method_18_code 91 (.aload_n 0) 1 := by decide +kernel
theorem d4_92 : dc prog_1_method_18_code 92 (.aload_n 0) 1 := by decide +kernel
theorem d4_93 : dc prog_1_method_18_code 93 (.getfield 120) 3 := by decide +kernel
theorem d4_96 : dc prog_1_method_18_code 96 (.ifCond .le 7) 3 := by decide +kernel
theorem d4_99 : dc prog_1_method_18_code 99 (.iconst 1) 1 := by decide +kernel
theorem d4_100 : dc prog_1_method_18_code 100 (.goto 4) 3 := by decide +kernel
theorem d4_103 : dc prog_1_method_18_code 103 (.iconst 0) 1 := by decide +kernel
theorem d4_104 : dc prog_1_method_18_code 104 (.putfield 180) 3 := by decide +kernel
theorem d4_107 : dc prog_1_method_18_code 107 (.aload_n 0) 1 := by decide +kernel
theorem d4_108 : dc prog_1_method_18_code 108 (.iconst 0) 1 := by decide +kernel
theorem d4_109 : dc prog_1_method_18_code 109 (.putfield 183) 3 := by decide +kernel
theorem d4_112 : dc prog_1_method_18_code 112 (.iconst 0) 1 := by decide +kernel
theorem d4_113 : dc prog_1_method_18_code 113 (.istore_n 1) 1 := by decide +kernel
theorem d4_114 : dc prog_1_method_18_code 114 (.iload_n 1) 1 := by decide +kernel
theorem d4_115 : dc prog_1_method_18_code 115 (.bipush 8) 2 := by decide +kernel
theorem d4_117 : dc prog_1_method_18_code 117 (.if_icmp .ge 31) 3 := by decide +kernel
theorem d4_120 : dc prog_1_method_18_code 120 (.aload_n 0) 1 := by decide +kernel
theorem d4_121 : dc prog_1_method_18_code 121 (.getfield 180) 3 := by decide +kernel
theorem d4_124 : dc prog_1_method_18_code 124 (.ifCond .eq 24) 3 := by decide +kernel
theorem d4_127 : dc prog_1_method_18_code 127 (.aload_n 0) 1 := by decide +kernel
theorem d4_128 : dc prog_1_method_18_code 128 (.getfield 183) 3 := by decide +kernel
theorem d4_131 : dc prog_1_method_18_code 131 (.aload_n 0) 1 := by decide +kernel
theorem d4_132 : dc prog_1_method_18_code 132 (.getfield 120) 3 := by decide +kernel
theorem d4_135 : dc prog_1_method_18_code 135 (.if_icmp .ge 13) 3 := by decide +kernel
theorem d4_138 : dc prog_1_method_18_code 138 (.aload_n 0) 1 := by decide +kernel
theorem d4_139 : dc prog_1_method_18_code 139 (.invokevirtual 186) 3 := by decide +kernel
theorem d4_142 : dc prog_1_method_18_code 142 (.iinc 1 1) 3 := by decide +kernel
theorem d4_145 : dc prog_1_method_18_code 145 (.goto (-31)) 3 := by decide +kernel
theorem d4_148 : dc prog_1_method_18_code 148 (.aload_n 0) 1 := by decide +kernel
theorem d4_149 : dc prog_1_method_18_code 149 (.getfield 180) 3 := by decide +kernel
theorem d4_152 : dc prog_1_method_18_code 152 (.ifCond .eq 14) 3 := by decide +kernel
theorem d4_155 : dc prog_1_method_18_code 155 (.aload_n 0) 1 := by decide +kernel
theorem d4_156 : dc prog_1_method_18_code 156 (.getfield 183) 3 := by decide +kernel
theorem d4_159 : dc prog_1_method_18_code 159 (.aload_n 0) 1 := by decide +kernel
theorem d4_160 : dc prog_1_method_18_code 160 (.getfield 120) 3 := by decide +kernel
theorem d4_163 : dc prog_1_method_18_code 163 (.if_icmp .eq 5) 3 := by decide +kernel
theorem d4_166 : dc prog_1_method_18_code 166 (.iconst 0) 1 := by decide +kernel
theorem d4_167 : dc prog_1_method_18_code 167 (.ireturn) 1 := by decide +kernel
theorem d4_168 : dc prog_1_method_18_code 168 (.aload_n 0) 1 := by decide +kernel
theorem d4_169 : dc prog_1_method_18_code 169 (.getfield 19) 3 := by decide +kernel
theorem d4_172 : dc prog_1_method_18_code 172 (.iconst 0) 1 := by decide +kernel
theorem d4_173 : dc prog_1_method_18_code 173 (.baload) 1 := by decide +kernel
theorem d4_174 : dc prog_1_method_18_code 174 (.ifCond .eq 12) 3 := by decide +kernel
theorem d4_177 : dc prog_1_method_18_code 177 (.aload_n 0) 1 := by decide +kernel
theorem d4_178 : dc prog_1_method_18_code 178 (.getfield 26) 3 := by decide +kernel
theorem d4_181 : dc prog_1_method_18_code 181 (.iconst 0) 1 := by decide +kernel
theorem d4_182 : dc prog_1_method_18_code 182 (.iaload) 1 := by decide +kernel
theorem d4_183 : dc prog_1_method_18_code 183 (.ifCond .eq 5) 3 := by decide +kernel
theorem d4_186 : dc prog_1_method_18_code 186 (.iconst 0) 1 := by decide +kernel
theorem d4_187 : dc prog_1_method_18_code 187 (.ireturn) 1 := by decide +kernel
theorem d4_188 : dc prog_1_method_18_code 188 (.aload_n 0) 1 := by decide +kernel
theorem d4_189 : dc prog_1_method_18_code 189 (.invokevirtual 189) 3 := by decide +kernel
theorem d4_192 : dc prog_1_method_18_code 192 (.ireturn) 1 := by decide +kernel
abbrev y4 : MethodName := ⟨"FatPointerC", "parseProgram", "()Z"⟩
theorem hy4 : y4.cls ≠ "java/lang/invoke/MethodHandle" ∧ y4.cls ≠ "java/lang/invoke/VarHandle" := by decide
theorem pd4 : parseMethodDescriptor y4.desc = some ⟨[], some .boolean⟩ := by decide +kernel
abbrev R4 : Room := { frames := 3, cells := 0, slots := 0, locals := 43 }
abbrev P4 (r : Int32 × St) : Option Value → List OwnC → Prop := fun v H' => v = some (.int r.1) ∧ H' = (Hb 0 r.2)
abbrev W4 (l : Launch) (Z : State) (n0 : Nat) (Q : Option Value → List OwnC → Prop) (k n pc : Nat) (L : List Slot) (S : List Value) (H : List OwnC) : Prop := WP l Z CN lay "FatPointerC" "parseProgram" prog_1_method_18_code 2 (some FieldType.boolean) R4 n0 0 Q k n pc L S H
def f_parseProgram_166 (n : Nat) (s : St) : Option (Int32 × St) :=
  some ((0 : Int32), s)
set_option maxRecDepth 65536 in
set_option maxHeartbeats 4000000 in
theorem ok4_166 (l : Launch) (Z : State) (a0 : Array Value) (hw : HW a0 Z) (n0 : Nat) (n : Nat) (s : St) (r : Int32 × St) (h : f_parseProgram_166 n s = some r) : W4 l Z n0 (P4 r) 0 0 166 [.unset, .unset] [] (Hb 0 s) := by
  unfold f_parseProgram_166 at h
  refine WP.iconst (0 : Int32) d4_166 rfl ?_
  cases h
  exact WP.zreturn d4_167 rfl (leb rfl) (leb rfl) ⟨rfl, rfl⟩
def f_parseProgram_186 (n : Nat) (s : St) : Option (Int32 × St) :=
  some ((0 : Int32), s)
set_option maxRecDepth 65536 in
set_option maxHeartbeats 4000000 in
theorem ok4_186 (l : Launch) (Z : State) (a0 : Array Value) (hw : HW a0 Z) (n0 : Nat) (n : Nat) (s : St) (r : Int32 × St) (h : f_parseProgram_186 n s = some r) : W4 l Z n0 (P4 r) 0 0 186 [.unset, .unset] [] (Hb 0 s) := by
  unfold f_parseProgram_186 at h
  refine WP.iconst (0 : Int32) d4_186 rfl ?_
  cases h
  exact WP.zreturn d4_187 rfl (leb rfl) (leb rfl) ⟨rfl, rfl⟩
def f_parseProgram_148 (n : Nat) (s : St) : Option (Int32 × St) :=
  if (gI s 12) = 0 then
    f_parseProgram_166 n s
  else
    if (gI s 11) = (gI s 2) then
      (rd (gA s 3) (0 : Int32)).bind fun x3 =>
      if x3 = 0 then
        f_parseProgram_186 n s
      else
        (rd (gA s 5) (0 : Int32)).bind fun x5 =>
        if x5 = 0 then
          (f_checkCalls n s).bind fun c7 =>
          some (c7 &&& 1, s)
        else
          f_parseProgram_186 n s
    else
      f_parseProgram_166 n s
set_option maxRecDepth 65536 in
set_option maxHeartbeats 4000000 in
theorem ok4_148 (l : Launch) (Z : State) (a0 : Array Value) (hw : HW a0 Z) (n0 : Nat) (n : Nat) (s : St) (r : Int32 × St) (h : f_parseProgram_148 n s = some r) : W4 l Z n0 (P4 r) 0 0 148 [.val (.ref 0), .unset] [] (Hb 0 s) := by
  unfold f_parseProgram_148 at h
  refine WP.aloadN d4_148 rfl ?_
  refine WP.getfield (i := 0) (j := 27) d4_149 (hw _ m_117) rfl rfl rfl ?_
  rcases ite_e h with ⟨hc1, h⟩ | ⟨hc1, h⟩
  ·
    refine WP.ifY (pc' := 166) d4_152 (XT.i0_eq_t hc1) (by decide) rfl ?_
    exact WP.weak (L' := [.unset, .unset]) trivial (ok4_166 l Z a0 hw n0 n s _ h)
  ·
    refine WP.ifN d4_152 (XT.i0_eq_f hc1) ?_
    refine WP.aloadN d4_155 rfl ?_
    refine WP.getfield (i := 0) (j := 26) d4_156 (hw _ m_119) rfl rfl rfl ?_
    refine WP.aloadN d4_159 rfl ?_
    refine WP.getfield (i := 0) (j := 2) d4_160 (hw _ m_104) rfl rfl rfl ?_
    rcases ite_e h with ⟨hc2, h⟩ | ⟨hc2, h⟩
    ·
      refine WP.icmpY (pc' := 168) d4_163 (XT.ii_eq_t hc2) (by decide) rfl ?_
      refine WP.aloadN d4_168 rfl ?_
      refine WP.getfield (i := 0) (j := 14) d4_169 (hw _ m_17) rfl rfl rfl ?_
      refine WP.iconst (0 : Int32) d4_172 rfl ?_
      obtain ⟨x3, hx3, h⟩ := Option.bind_eq_some_iff.mp h
      refine WP.baload (i := 4) d4_173 rfl hx3 ?_
      rcases ite_e h with ⟨hc4, h⟩ | ⟨hc4, h⟩
      ·
        refine WP.ifY (pc' := 186) d4_174 (XT.i0_eq_t hc4) (by decide) rfl ?_
        exact WP.weak (L' := [.unset, .unset]) trivial (ok4_186 l Z a0 hw n0 n s _ h)
      ·
        refine WP.ifN d4_174 (XT.i0_eq_f hc4) ?_
        refine WP.aloadN d4_177 rfl ?_
        refine WP.getfield (i := 0) (j := 16) d4_178 (hw _ m_21) rfl rfl rfl ?_
        refine WP.iconst (0 : Int32) d4_181 rfl ?_
        obtain ⟨x5, hx5, h⟩ := Option.bind_eq_some_iff.mp h
        refine WP.iaload (i := 6) d4_182 rfl hx5 ?_
        rcases ite_e h with ⟨hc6, h⟩ | ⟨hc6, h⟩
        ·
          refine WP.ifY (pc' := 188) d4_183 (XT.i0_eq_t hc6) (by decide) rfl ?_
          refine WP.aloadN d4_188 rfl ?_
          obtain ⟨c7, hc7, h⟩ := Option.bind_eq_some_iff.mp h
          refine WP.callP (i := 0) (y := y12) (as := []) (S := []) d4_189 (hw _ m_151) (hw _ m_153) (hw _ m_1) (hw _ m_152) (hw _ m_154) (hw _ m_2) hy12 rfl (ok12 l Z a0 hw n s _ hc7) rfl (lenOf pd12 rfl) (leb rfl) (leb rfl) (leb rfl) (leb rfl) ?_
          rintro _ _ ⟨rfl, rfl⟩
          show W4 l Z n0 (P4 r) 0 0 192 [.val (.ref 0), .unset] [.int c7] (Hb 0 s)
          cases h
          exact WP.zreturn d4_192 rfl (leb rfl) (leb rfl) ⟨rfl, rfl⟩
        ·
          refine WP.ifN d4_183 (XT.i0_eq_f hc6) ?_
          exact WP.weak (L' := [.unset, .unset]) trivial (ok4_186 l Z a0 hw n0 n s _ h)
    ·
      refine WP.icmpN d4_163 (XT.ii_eq_f hc2) ?_
      exact WP.weak (L' := [.unset, .unset]) trivial (ok4_166 l Z a0 hw n0 n s _ h)
def g_parseProgram_114 (k114 : Int32 → St → Option (Int32 × St)) (n : Nat) (v1 : Int32) (s : St) : Option (Int32 × St) :=
  if v1 < (8 : Int32) then
    if (gI s 12) = 0 then
      f_parseProgram_148 n s
    else
      if (gI s 11) < (gI s 2) then
        (f_parseFunc n s).bind fun c4 =>
        lt (v1 + (1 : Int32)) fun x5 =>
        k114 x5 c4
      else
        f_parseProgram_148 n s
  else
    f_parseProgram_148 n s
set_option maxRecDepth 65536 in
set_option maxHeartbeats 4000000 in
theorem okg4_114 (l : Launch) (Z : State) (a0 : Array Value) (hw : HW a0 Z) (n0 : Nat) (k114 : Int32 → St → Option (Int32 × St)) (hk114 : ∀ (v1 : Int32) (s : St) (r : Int32 × St), k114 v1 s = some r → W4 l Z n0 (P4 r) 0 0 114 [.val (.ref 0), .val (.int v1)] [] (Hb 0 s)) (n : Nat) (v1 : Int32) (s : St) (r : Int32 × St) (h : g_parseProgram_114 k114 n v1 s = some r) : W4 l Z n0 (P4 r) 0 0 114 [.val (.ref 0), .val (.int v1)] [] (Hb 0 s) := by
  unfold g_parseProgram_114 at h
  refine WP.iloadN d4_114 rfl ?_
  refine WP.bipush (8 : Int32) d4_115 rfl ?_
  rcases ite_e h with ⟨hc1, h⟩ | ⟨hc1, h⟩
  ·
    refine WP.icmpN d4_117 (XT.ii_ge_f hc1) ?_
    refine WP.aloadN d4_120 rfl ?_
    refine WP.getfield (i := 0) (j := 27) d4_121 (hw _ m_117) rfl rfl rfl ?_
    rcases ite_e h with ⟨hc2, h⟩ | ⟨hc2, h⟩
    ·
      refine WP.ifY (pc' := 148) d4_124 (XT.i0_eq_t hc2) (by decide) rfl ?_
      exact WP.weak (L' := [.val (.ref 0), .unset]) ⟨rfl, trivial⟩ (ok4_148 l Z a0 hw n0 n s _ h)
    ·
      refine WP.ifN d4_124 (XT.i0_eq_f hc2) ?_
      refine WP.aloadN d4_127 rfl ?_
      refine WP.getfield (i := 0) (j := 26) d4_128 (hw _ m_119) rfl rfl rfl ?_
      refine WP.aloadN d4_131 rfl ?_
      refine WP.getfield (i := 0) (j := 2) d4_132 (hw _ m_104) rfl rfl rfl ?_
      rcases ite_e h with ⟨hc3, h⟩ | ⟨hc3, h⟩
      ·
        refine WP.icmpN d4_135 (XT.ii_ge_f hc3) ?_
        refine WP.aloadN d4_138 rfl ?_
        obtain ⟨c4, hc4, h⟩ := Option.bind_eq_some_iff.mp h
        refine WP.callP (i := 0) (y := y5) (as := []) (S := []) d4_139 (hw _ m_121) (hw _ m_123) (hw _ m_1) (hw _ m_122) (hw _ m_124) (hw _ m_2) hy5 rfl (ok5 l Z a0 hw n s _ hc4) rfl (lenOf pd5 rfl) (leb rfl) (leb rfl) (leb rfl) (leb rfl) ?_
        rintro _ _ ⟨rfl, rfl⟩
        show W4 l Z n0 (P4 r) 0 0 142 [.val (.ref 0), .val (.int v1)] [] (Hb 0 c4)
        obtain ⟨x5, ex5, h⟩ := lt_e h
        refine WP.iinc (L' := [.val (.ref 0), .val (.int x5)]) (1 : Int32) d4_142 rfl rfl (by subst ex5; rfl) ?_
        refine WP.goto (pc' := 114) d4_145 (by decide) rfl ?_
        exact WP.weak (L' := [.val (.ref 0), .val (.int x5)]) ⟨rfl, rfl, trivial⟩ (hk114 x5 c4 _ h)
      ·
        refine WP.icmpY (pc' := 148) d4_135 (XT.ii_ge_t hc3) (by decide) rfl ?_
        exact WP.weak (L' := [.val (.ref 0), .unset]) ⟨rfl, trivial⟩ (ok4_148 l Z a0 hw n0 n s _ h)
  ·
    refine WP.icmpY (pc' := 148) d4_117 (XT.ii_ge_t hc1) (by decide) rfl ?_
    exact WP.weak (L' := [.val (.ref 0), .unset]) ⟨rfl, trivial⟩ (ok4_148 l Z a0 hw n0 n s _ h)
def f_parseProgram_114 : Nat → Int32 → St → Option (Int32 × St)
  | 0 => fun _ _ => none
  | n + 1 => g_parseProgram_114 (f_parseProgram_114 n) n
theorem ok4_114 (l : Launch) (Z : State) (a0 : Array Value) (hw : HW a0 Z) (n0 : Nat) : ∀ (n : Nat) (v1 : Int32) (s : St) (r : Int32 × St), f_parseProgram_114 n v1 s = some r → W4 l Z n0 (P4 r) 0 0 114 [.val (.ref 0), .val (.int v1)] [] (Hb 0 s)
  | 0, v1, s, r, h => nomatch (show none = some r from h)
  | n + 1, v1, s, r, h => okg4_114 l Z a0 hw n0 _ (ok4_114 l Z a0 hw n0 n) n v1 s r h
def f_parseProgram_104 (n : Nat) (t0 : Int32) (s : St) : Option (Int32 × St) :=
  lt (sI s 12 (t0 &&& 1)) fun s1 =>
  lt (sI s1 11 (0 : Int32)) fun s2 =>
  f_parseProgram_114 n (0 : Int32) s2
set_option maxRecDepth 65536 in
set_option maxHeartbeats 4000000 in
theorem ok4_104 (l : Launch) (Z : State) (a0 : Array Value) (hw : HW a0 Z) (n0 : Nat) (n : Nat) (t0 : Int32) (s : St) (r : Int32 × St) (h : f_parseProgram_104 n t0 s = some r) : W4 l Z n0 (P4 r) 0 0 104 [.val (.ref 0), .unset] [.int t0, .ref 0] (Hb 0 s) := by
  unfold f_parseProgram_104 at h
  obtain ⟨s1, es1, h⟩ := lt_e h
  refine WP.putZ (i := 0) (j := 27) (H' := (Hb 0 s1)) d4_104 (hw _ m_117) (Or.inl (hw _ m_118)) (hw _ m_1) (hlay hw) rfl rfl rfl (leb rfl) (by subst es1; rfl) ?_
  refine WP.aloadN d4_107 rfl ?_
  refine WP.iconst (0 : Int32) d4_108 rfl ?_
  obtain ⟨s2, es2, h⟩ := lt_e h
  refine WP.putI (i := 0) (j := 26) (H' := (Hb 0 s2)) d4_109 (hw _ m_119) (Or.inl (hw _ m_120)) (hw _ m_1) (hlay hw) rfl rfl rfl (leb rfl) (by subst es2; rfl) ?_
  refine WP.iconst (0 : Int32) d4_112 rfl ?_
  refine WP.istoreN (L' := [.val (.ref 0), .val (.int (0 : Int32))]) d4_113 (leb rfl) rfl ?_
  exact WP.weak (L' := [.val (.ref 0), .val (.int (0 : Int32))]) ⟨rfl, rfl, trivial⟩ (ok4_114 l Z a0 hw n0 n (0 : Int32) s2 _ h)
def g_parseProgram_57 (k57 : Int32 → St → Option (Int32 × St)) (n : Nat) (v1 : Int32) (s : St) : Option (Int32 × St) :=
  if v1 < (256 : Int32) then
    (wrA s 12 v1 (-1 : Int32)).bind fun s2 =>
    (wrA s2 13 v1 (-1 : Int32)).bind fun s3 =>
    (wrA s3 14 v1 (-1 : Int32)).bind fun s4 =>
    lt (v1 + (1 : Int32)) fun x5 =>
    k57 x5 s4
  else
    if 0 < (gI s 2) then
      f_parseProgram_104 n (1 : Int32) s
    else
      f_parseProgram_104 n (0 : Int32) s
set_option maxRecDepth 65536 in
set_option maxHeartbeats 4000000 in
theorem okg4_57 (l : Launch) (Z : State) (a0 : Array Value) (hw : HW a0 Z) (n0 : Nat) (k57 : Int32 → St → Option (Int32 × St)) (hk57 : ∀ (v1 : Int32) (s : St) (r : Int32 × St), k57 v1 s = some r → W4 l Z n0 (P4 r) 0 0 57 [.val (.ref 0), .val (.int v1)] [] (Hb 0 s)) (n : Nat) (v1 : Int32) (s : St) (r : Int32 × St) (h : g_parseProgram_57 k57 n v1 s = some r) : W4 l Z n0 (P4 r) 0 0 57 [.val (.ref 0), .val (.int v1)] [] (Hb 0 s) := by
  unfold g_parseProgram_57 at h
  refine WP.iloadN d4_57 rfl ?_
  refine WP.sipush (256 : Int32) d4_58 rfl ?_
  rcases ite_e h with ⟨hc1, h⟩ | ⟨hc1, h⟩
  ·
    refine WP.icmpN d4_61 (XT.ii_ge_f hc1) ?_
    refine WP.aloadN d4_64 rfl ?_
    refine WP.getfield (i := 0) (j := 23) d4_65 (hw _ m_35) rfl rfl rfl ?_
    refine WP.iloadN d4_68 rfl ?_
    refine WP.iconst (-1 : Int32) d4_69 rfl ?_
    obtain ⟨s2, hs2, h⟩ := Option.bind_eq_some_iff.mp h
    obtain ⟨ys2, gs2, es2⟩ := wrA_e hs2
    refine WP.iastore (i := 13) (xs := gA s 12) (H' := (Hb 0 s2)) d4_70 rfl (leb rfl) gs2 (by subst es2; rfl) ?_
    refine WP.aloadN d4_71 rfl ?_
    refine WP.getfield (i := 0) (j := 24) d4_72 (hw _ m_37) rfl rfl rfl ?_
    refine WP.iloadN d4_75 rfl ?_
    refine WP.iconst (-1 : Int32) d4_76 rfl ?_
    obtain ⟨s3, hs3, h⟩ := Option.bind_eq_some_iff.mp h
    obtain ⟨ys3, gs3, es3⟩ := wrA_e hs3
    refine WP.iastore (i := 14) (xs := gA s2 13) (H' := (Hb 0 s3)) d4_77 rfl (leb rfl) gs3 (by subst es3; rfl) ?_
    refine WP.aloadN d4_78 rfl ?_
    refine WP.getfield (i := 0) (j := 25) d4_79 (hw _ m_39) rfl rfl rfl ?_
    refine WP.iloadN d4_82 rfl ?_
    refine WP.iconst (-1 : Int32) d4_83 rfl ?_
    obtain ⟨s4, hs4, h⟩ := Option.bind_eq_some_iff.mp h
    obtain ⟨ys4, gs4, es4⟩ := wrA_e hs4
    refine WP.iastore (i := 15) (xs := gA s3 14) (H' := (Hb 0 s4)) d4_84 rfl (leb rfl) gs4 (by subst es4; rfl) ?_
    obtain ⟨x5, ex5, h⟩ := lt_e h
    refine WP.iinc (L' := [.val (.ref 0), .val (.int x5)]) (1 : Int32) d4_85 rfl rfl (by subst ex5; rfl) ?_
    refine WP.goto (pc' := 57) d4_88 (by decide) rfl ?_
    exact WP.weak (L' := [.val (.ref 0), .val (.int x5)]) ⟨rfl, rfl, trivial⟩ (hk57 x5 s4 _ h)
  ·
    refine WP.icmpY (pc' := 91) d4_61 (XT.ii_ge_t hc1) (by decide) rfl ?_
    refine WP.aloadN d4_91 rfl ?_
    refine WP.aloadN d4_92 rfl ?_
    refine WP.getfield (i := 0) (j := 2) d4_93 (hw _ m_104) rfl rfl rfl ?_
    rcases ite_e h with ⟨hc6, h⟩ | ⟨hc6, h⟩
    ·
      refine WP.ifN d4_96 (XT.i0_le_f hc6) ?_
      refine WP.iconst (1 : Int32) d4_99 rfl ?_
      refine WP.goto (pc' := 104) d4_100 (by decide) rfl ?_
      exact WP.weak (L' := [.val (.ref 0), .unset]) ⟨rfl, trivial⟩ (ok4_104 l Z a0 hw n0 n (1 : Int32) s _ h)
    ·
      refine WP.ifY (pc' := 103) d4_96 (XT.i0_le_t hc6) (by decide) rfl ?_
      refine WP.iconst (0 : Int32) d4_103 rfl ?_
      exact WP.weak (L' := [.val (.ref 0), .unset]) ⟨rfl, trivial⟩ (ok4_104 l Z a0 hw n0 n (0 : Int32) s _ h)
def f_parseProgram_57 : Nat → Int32 → St → Option (Int32 × St)
  | 0 => fun _ _ => none
  | n + 1 => g_parseProgram_57 (f_parseProgram_57 n) n
theorem ok4_57 (l : Launch) (Z : State) (a0 : Array Value) (hw : HW a0 Z) (n0 : Nat) : ∀ (n : Nat) (v1 : Int32) (s : St) (r : Int32 × St), f_parseProgram_57 n v1 s = some r → W4 l Z n0 (P4 r) 0 0 57 [.val (.ref 0), .val (.int v1)] [] (Hb 0 s)
  | 0, v1, s, r, h => nomatch (show none = some r from h)
  | n + 1, v1, s, r, h => okg4_57 l Z a0 hw n0 _ (ok4_57 l Z a0 hw n0 n) n v1 s r h
def g_parseProgram_2 (k2 : Int32 → St → Option (Int32 × St)) (n : Nat) (v1 : Int32) (s : St) : Option (Int32 × St) :=
  if v1 < (4 : Int32) then
    (wrA s 3 v1 (0 : Int32)).bind fun s2 =>
    (wrA s2 5 v1 (0 : Int32)).bind fun s3 =>
    (wrA s3 6 v1 (0 : Int32)).bind fun s4 =>
    (wrA s4 7 v1 (0 : Int32)).bind fun s5 =>
    (wrA s5 8 v1 (0 : Int32)).bind fun s6 =>
    (wrA s6 4 v1 (0 : Int32)).bind fun s7 =>
    lt (v1 + (1 : Int32)) fun x8 =>
    k2 x8 s7
  else
    f_parseProgram_57 n (0 : Int32) s
set_option maxRecDepth 65536 in
set_option maxHeartbeats 4000000 in
theorem okg4_2 (l : Launch) (Z : State) (a0 : Array Value) (hw : HW a0 Z) (n0 : Nat) (k2 : Int32 → St → Option (Int32 × St)) (hk2 : ∀ (v1 : Int32) (s : St) (r : Int32 × St), k2 v1 s = some r → W4 l Z n0 (P4 r) 0 0 2 [.val (.ref 0), .val (.int v1)] [] (Hb 0 s)) (n : Nat) (v1 : Int32) (s : St) (r : Int32 × St) (h : g_parseProgram_2 k2 n v1 s = some r) : W4 l Z n0 (P4 r) 0 0 2 [.val (.ref 0), .val (.int v1)] [] (Hb 0 s) := by
  unfold g_parseProgram_2 at h
  refine WP.iloadN d4_2 rfl ?_
  refine WP.iconst (4 : Int32) d4_3 rfl ?_
  rcases ite_e h with ⟨hc1, h⟩ | ⟨hc1, h⟩
  ·
    refine WP.icmpN d4_4 (XT.ii_ge_f hc1) ?_
    refine WP.aloadN d4_7 rfl ?_
    refine WP.getfield (i := 0) (j := 14) d4_8 (hw _ m_17) rfl rfl rfl ?_
    refine WP.iloadN d4_11 rfl ?_
    refine WP.iconst (0 : Int32) d4_12 rfl ?_
    obtain ⟨s2, hs2, h⟩ := Option.bind_eq_some_iff.mp h
    obtain ⟨ys2, gs2, es2⟩ := wrA_e hs2
    refine WP.bastore (i := 4) (xs := gA s 3) (H' := (Hb 0 s2)) d4_13 rfl (leb rfl) gs2 (by subst es2; rfl) ?_
    refine WP.aloadN d4_14 rfl ?_
    refine WP.getfield (i := 0) (j := 16) d4_15 (hw _ m_21) rfl rfl rfl ?_
    refine WP.iloadN d4_18 rfl ?_
    refine WP.iconst (0 : Int32) d4_19 rfl ?_
    obtain ⟨s3, hs3, h⟩ := Option.bind_eq_some_iff.mp h
    obtain ⟨ys3, gs3, es3⟩ := wrA_e hs3
    refine WP.iastore (i := 6) (xs := gA s2 5) (H' := (Hb 0 s3)) d4_20 rfl (leb rfl) gs3 (by subst es3; rfl) ?_
    refine WP.aloadN d4_21 rfl ?_
    refine WP.getfield (i := 0) (j := 17) d4_22 (hw _ m_23) rfl rfl rfl ?_
    refine WP.iloadN d4_25 rfl ?_
    refine WP.iconst (0 : Int32) d4_26 rfl ?_
    obtain ⟨s4, hs4, h⟩ := Option.bind_eq_some_iff.mp h
    obtain ⟨ys4, gs4, es4⟩ := wrA_e hs4
    refine WP.iastore (i := 7) (xs := gA s3 6) (H' := (Hb 0 s4)) d4_27 rfl (leb rfl) gs4 (by subst es4; rfl) ?_
    refine WP.aloadN d4_28 rfl ?_
    refine WP.getfield (i := 0) (j := 18) d4_29 (hw _ m_25) rfl rfl rfl ?_
    refine WP.iloadN d4_32 rfl ?_
    refine WP.iconst (0 : Int32) d4_33 rfl ?_
    obtain ⟨s5, hs5, h⟩ := Option.bind_eq_some_iff.mp h
    obtain ⟨ys5, gs5, es5⟩ := wrA_e hs5
    refine WP.iastore (i := 8) (xs := gA s4 7) (H' := (Hb 0 s5)) d4_34 rfl (leb rfl) gs5 (by subst es5; rfl) ?_
    refine WP.aloadN d4_35 rfl ?_
    refine WP.getfield (i := 0) (j := 19) d4_36 (hw _ m_27) rfl rfl rfl ?_
    refine WP.iloadN d4_39 rfl ?_
    refine WP.iconst (0 : Int32) d4_40 rfl ?_
    obtain ⟨s6, hs6, h⟩ := Option.bind_eq_some_iff.mp h
    obtain ⟨ys6, gs6, es6⟩ := wrA_e hs6
    refine WP.iastore (i := 9) (xs := gA s5 8) (H' := (Hb 0 s6)) d4_41 rfl (leb rfl) gs6 (by subst es6; rfl) ?_
    refine WP.aloadN d4_42 rfl ?_
    refine WP.getfield (i := 0) (j := 15) d4_43 (hw _ m_19) rfl rfl rfl ?_
    refine WP.iloadN d4_46 rfl ?_
    refine WP.iconst (0 : Int32) d4_47 rfl ?_
    obtain ⟨s7, hs7, h⟩ := Option.bind_eq_some_iff.mp h
    obtain ⟨ys7, gs7, es7⟩ := wrA_e hs7
    refine WP.iastore (i := 5) (xs := gA s6 4) (H' := (Hb 0 s7)) d4_48 rfl (leb rfl) gs7 (by subst es7; rfl) ?_
    obtain ⟨x8, ex8, h⟩ := lt_e h
    refine WP.iinc (L' := [.val (.ref 0), .val (.int x8)]) (1 : Int32) d4_49 rfl rfl (by subst ex8; rfl) ?_
    refine WP.goto (pc' := 2) d4_52 (by decide) rfl ?_
    exact WP.weak (L' := [.val (.ref 0), .val (.int x8)]) ⟨rfl, rfl, trivial⟩ (hk2 x8 s7 _ h)
  ·
    refine WP.icmpY (pc' := 55) d4_4 (XT.ii_ge_t hc1) (by decide) rfl ?_
    refine WP.iconst (0 : Int32) d4_55 rfl ?_
    refine WP.istoreN (L' := [.val (.ref 0), .val (.int (0 : Int32))]) d4_56 (leb rfl) rfl ?_
    exact WP.weak (L' := [.val (.ref 0), .val (.int (0 : Int32))]) ⟨rfl, rfl, trivial⟩ (ok4_57 l Z a0 hw n0 n (0 : Int32) s _ h)
def f_parseProgram_2 : Nat → Int32 → St → Option (Int32 × St)
  | 0 => fun _ _ => none
  | n + 1 => g_parseProgram_2 (f_parseProgram_2 n) n
theorem ok4_2 (l : Launch) (Z : State) (a0 : Array Value) (hw : HW a0 Z) (n0 : Nat) : ∀ (n : Nat) (v1 : Int32) (s : St) (r : Int32 × St), f_parseProgram_2 n v1 s = some r → W4 l Z n0 (P4 r) 0 0 2 [.val (.ref 0), .val (.int v1)] [] (Hb 0 s)
  | 0, v1, s, r, h => nomatch (show none = some r from h)
  | n + 1, v1, s, r, h => okg4_2 l Z a0 hw n0 _ (ok4_2 l Z a0 hw n0 n) n v1 s r h
def f_parseProgram (n : Nat) (s : St) : Option (Int32 × St) :=
  f_parseProgram_2 n (0 : Int32) s
set_option maxRecDepth 65536 in
set_option maxHeartbeats 4000000 in
theorem ok4 (l : Launch) (Z : State) (a0 : Array Value) (hw : HW a0 Z) (n : Nat) (s : St) (r : Int32 × St) (h : f_parseProgram n s = some r) : CS l Z CN lay y4 prog_1_method_18_code 2 (some FieldType.boolean) R4 0 [.ref 0] (Hb 0 s) (P4 r) := by
  refine CS.of_wp pn_cls (leb rfl) fun n0 => ?_
  show W4 l Z n0 (P4 r) 0 0 0 [.val (.ref 0), .unset] [] (Hb 0 s)
  unfold f_parseProgram at h
  refine WP.iconst (0 : Int32) d4_0 rfl ?_
  refine WP.istoreN (L' := [.val (.ref 0), .val (.int (0 : Int32))]) d4_1 (leb rfl) rfl ?_
  exact WP.weak (L' := [.val (.ref 0), .val (.int (0 : Int32))]) ⟨rfl, rfl, trivial⟩ (ok4_2 l Z a0 hw n0 n (0 : Int32) s _ h)
theorem d3_0 : dc prog_1_method_5_code 0 (.aload_n 0) 1 := by decide +kernel
theorem d3_1 : dc prog_1_method_5_code 1 (.invokevirtual 117) 3 := by decide +kernel
theorem d3_4 : dc prog_1_method_5_code 4 (.aload_n 0) 1 := by decide +kernel
theorem d3_5 : dc prog_1_method_5_code 5 (.aload_n 0) 1 := by decide +kernel
theorem d3_6 : dc prog_1_method_5_code 6 (.invokevirtual 127) 3 := by decide +kernel
theorem d3_9 : dc prog_1_method_5_code 9 (.putfield 123) 3 := by decide +kernel
theorem d3_12 : dc prog_1_method_5_code 12 (.aload_n 0) 1 := by decide +kernel
theorem d3_13 : dc prog_1_method_5_code 13 (.getfield 123) 3 := by decide +kernel
theorem d3_16 : dc prog_1_method_5_code 16 (.ireturn) 1 := by decide +kernel
abbrev y3 : MethodName := ⟨"FatPointerC", "compile", "()Z"⟩
theorem hy3 : y3.cls ≠ "java/lang/invoke/MethodHandle" ∧ y3.cls ≠ "java/lang/invoke/VarHandle" := by decide
theorem pd3 : parseMethodDescriptor y3.desc = some ⟨[], some .boolean⟩ := by decide +kernel
abbrev R3 : Room := { frames := 4, cells := 0, slots := 0, locals := 57 }
abbrev P3 (r : Int32 × St) : Option Value → List OwnC → Prop := fun v H' => v = some (.int r.1) ∧ H' = (Hb 0 r.2)
abbrev W3 (l : Launch) (Z : State) (n0 : Nat) (Q : Option Value → List OwnC → Prop) (k n pc : Nat) (L : List Slot) (S : List Value) (H : List OwnC) : Prop := WP l Z CN lay "FatPointerC" "compile" prog_1_method_5_code 1 (some FieldType.boolean) R3 n0 0 Q k n pc L S H
def f_compile (n : Nat) (s : St) : Option (Int32 × St) :=
  (f_clearResults s).bind fun c1 =>
  (f_parseProgram n c1).bind fun c2 =>
  lt (sI c2.2 3 (c2.1 &&& 1)) fun s3 =>
  some ((gI s3 3) &&& 1, s3)
set_option maxRecDepth 65536 in
set_option maxHeartbeats 4000000 in
theorem ok3 (l : Launch) (Z : State) (a0 : Array Value) (hw : HW a0 Z) (n : Nat) (s : St) (r : Int32 × St) (h : f_compile n s = some r) : CS l Z CN lay y3 prog_1_method_5_code 1 (some FieldType.boolean) R3 0 [.ref 0] (Hb 0 s) (P3 r) := by
  refine CS.of_wp pn_cls (leb rfl) fun n0 => ?_
  show W3 l Z n0 (P3 r) 0 0 0 [.val (.ref 0)] [] (Hb 0 s)
  unfold f_compile at h
  refine WP.aloadN d3_0 rfl ?_
  obtain ⟨c1, hc1, h⟩ := Option.bind_eq_some_iff.mp h
  refine WP.callP (i := 0) (y := y1) (as := []) (S := []) d3_1 (hw _ m_81) (hw _ m_83) (hw _ m_1) (hw _ m_82) (hw _ m_84) (hw _ m_2) hy1 rfl (ok1 l Z a0 hw s _ hc1) rfl (lenOf pd1 rfl) (leb rfl) (leb rfl) (leb rfl) (leb rfl) ?_
  rintro _ _ ⟨rfl, rfl⟩
  show W3 l Z n0 (P3 r) 0 0 4 [.val (.ref 0)] [] (Hb 0 c1)
  refine WP.aloadN d3_4 rfl ?_
  refine WP.aloadN d3_5 rfl ?_
  obtain ⟨c2, hc2, h⟩ := Option.bind_eq_some_iff.mp h
  refine WP.callP (i := 0) (y := y4) (as := []) (S := [.ref 0]) d3_6 (hw _ m_113) (hw _ m_115) (hw _ m_1) (hw _ m_114) (hw _ m_116) (hw _ m_2) hy4 rfl (ok4 l Z a0 hw n c1 _ hc2) rfl (lenOf pd4 rfl) (leb rfl) (leb rfl) (leb rfl) (leb rfl) ?_
  rintro _ _ ⟨rfl, rfl⟩
  show W3 l Z n0 (P3 r) 0 0 9 [.val (.ref 0)] [.int c2.1, .ref 0] (Hb 0 c2.2)
  obtain ⟨s3, es3, h⟩ := lt_e h
  refine WP.putZ (i := 0) (j := 5) (H' := (Hb 0 s3)) d3_9 (hw _ m_106) (Or.inl (hw _ m_107)) (hw _ m_1) (hlay hw) rfl rfl rfl (leb rfl) (by subst es3; rfl) ?_
  refine WP.aloadN d3_12 rfl ?_
  refine WP.getfield (i := 0) (j := 5) d3_13 (hw _ m_106) rfl rfl rfl ?_
  cases h
  exact WP.zreturn d3_16 rfl (leb rfl) (leb rfl) ⟨rfl, rfl⟩
theorem d15_0 : dc prog_1_method_65_code 0 (.aload_n 0) 1 := by decide +kernel
theorem d15_1 : dc prog_1_method_65_code 1 (.getfield 131) 3 := by decide +kernel
theorem d15_4 : dc prog_1_method_65_code 4 (.bipush 7) 2 := by decide +kernel
theorem d15_6 : dc prog_1_method_65_code 6 (.iand) 1 := by decide +kernel
theorem d15_7 : dc prog_1_method_65_code 7 (.istore 4) 2 := by decide +kernel
theorem d15_9 : dc prog_1_method_65_code 9 (.aload_n 0) 1 := by decide +kernel
theorem d15_10 : dc prog_1_method_65_code 10 (.getfield 77) 3 := by decide +kernel
theorem d15_13 : dc prog_1_method_65_code 13 (.iload 4) 2 := by decide +kernel
theorem d15_15 : dc prog_1_method_65_code 15 (.iload_n 1) 1 := by decide +kernel
theorem d15_16 : dc prog_1_method_65_code 16 (.iastore) 1 := by decide +kernel
theorem d15_17 : dc prog_1_method_65_code 17 (.aload_n 0) 1 := by decide +kernel
theorem d15_18 : dc prog_1_method_65_code 18 (.getfield 80) 3 := by decide +kernel
theorem d15_21 : dc prog_1_method_65_code 21 (.iload 4) 2 := by decide +kernel
theorem d15_23 : dc prog_1_method_65_code 23 (.aload_n 0) 1 := by decide +kernel
theorem d15_24 : dc prog_1_method_65_code 24 (.getfield 137) 3 := by decide +kernel
theorem d15_27 : dc prog_1_method_65_code 27 (.iastore) 1 := by decide +kernel
theorem d15_28 : dc prog_1_method_65_code 28 (.aload_n 0) 1 := by decide +kernel
theorem d15_29 : dc prog_1_method_65_code 29 (.getfield 83) 3 := by decide +kernel
theorem d15_32 : dc prog_1_method_65_code 32 (.iload 4) 2 := by decide +kernel
theorem d15_34 : dc prog_1_method_65_code 34 (.aload_n 0) 1 := by decide +kernel
theorem d15_35 : dc prog_1_method_65_code 35 (.getfield 134) 3 := by decide +kernel
theorem d15_38 : dc prog_1_method_65_code 38 (.iastore) 1 := by decide +kernel
theorem d15_39 : dc prog_1_method_65_code 39 (.aload_n 0) 1 := by decide +kernel
theorem d15_40 : dc prog_1_method_65_code 40 (.getfield 86) 3 := by decide +kernel
theorem d15_43 : dc prog_1_method_65_code 43 (.iload 4) 2 := by decide +kernel
theorem d15_45 : dc prog_1_method_65_code 45 (.iload_n 2) 1 := by decide +kernel
theorem d15_46 : dc prog_1_method_65_code 46 (.iastore) 1 := by decide +kernel
theorem d15_47 : dc prog_1_method_65_code 47 (.aload_n 0) 1 := by decide +kernel
theorem d15_48 : dc prog_1_method_65_code 48 (.getfield 89) 3 := by decide +kernel
theorem d15_51 : dc prog_1_method_65_code 51 (.iload 4) 2 := by decide +kernel
theorem d15_53 : dc prog_1_method_65_code 53 (.iload_n 3) 1 := by decide +kernel
theorem d15_54 : dc prog_1_method_65_code 54 (.iastore) 1 := by decide +kernel
theorem d15_55 : dc prog_1_method_65_code 55 (.aload_n 0) 1 := by decide +kernel
theorem d15_56 : dc prog_1_method_65_code 56 (.getfield 134) 3 := by decide +kernel
theorem d15_59 : dc prog_1_method_65_code 59 (.istore 5) 2 := by decide +kernel
theorem d15_61 : dc prog_1_method_65_code 61 (.aload_n 0) 1 := by decide +kernel
theorem d15_62 : dc prog_1_method_65_code 62 (.getfield 29) 3 := by decide +kernel
theorem d15_65 : dc prog_1_method_65_code 65 (.iload_n 1) 1 := by decide +kernel
theorem d15_66 : dc prog_1_method_65_code 66 (.iaload) 1 := by decide +kernel
theorem d15_67 : dc prog_1_method_65_code 67 (.istore 6) 2 := by decide +kernel
theorem d15_69 : dc prog_1_method_65_code 69 (.iconst 0) 1 := by decide +kernel
theorem d15_70 : dc prog_1_method_65_code 70 (.istore 7) 2 := by decide +kernel
theorem d15_72 : dc prog_1_method_65_code 72 (.iload 7) 2 := by decide +kernel
theorem d15_74 : dc prog_1_method_65_code 74 (.iload 6) 2 := by decide +kernel
theorem d15_76 : dc prog_1_method_65_code 76 (.if_icmp .ge 126) 3 := by decide +kernel
theorem d15_79 : dc prog_1_method_65_code 79 (.iload 7) 2 := by decide +kernel
theorem d15_81 : dc prog_1_method_65_code 81 (.bipush 8) 2 := by decide +kernel
theorem d15_83 : dc prog_1_method_65_code 83 (.if_icmp .ge 119) 3 := by decide +kernel
theorem d15_86 : dc prog_1_method_65_code 86 (.aload_n 0) 1 := by decide +kernel
theorem d15_87 : dc prog_1_method_65_code 87 (.getfield 137) 3 := by decide +kernel
theorem d15_90 : dc prog_1_method_65_code 90 (.iload 7) 2 := by decide +kernel
theorem d15_92 : dc prog_1_method_65_code 92 (.iadd) 1 := by decide +kernel
theorem d15_93 : dc prog_1_method_65_code 93 (.sipush 4095) 3 := by decide +kernel
theorem d15_96 : dc prog_1_method_65_code 96 (.iand) 1 := by decide +kernel
theorem d15_97 : dc prog_1_method_65_code 97 (.istore 8) 2 := by decide +kernel
theorem d15_99 : dc prog_1_method_65_code 99 (.aload_n 0) 1 := by decide +kernel
theorem d15_100 : dc prog_1_method_65_code 100 (.getfield 44) 3 := by decide +kernel
theorem d15_103 : dc prog_1_method_65_code 103 (.iload_n 1) 1 := by decide +kernel
theorem d15_104 : dc prog_1_method_65_code 104 (.bipush 8) 2 := by decide +kernel
theorem d15_106 : dc prog_1_method_65_code 106 (.imul) 1 := by decide +kernel
theorem d15_107 : dc prog_1_method_65_code 107 (.iload 7) 2 := by decide +kernel
theorem d15_109 : dc prog_1_method_65_code 109 (.iadd) 1 := by decide +kernel
theorem d15_110 : dc prog_1_method_65_code 110 (.iaload) 1 := by decide +kernel
theorem d15_111 : dc prog_1_method_65_code 111 (.istore 9) 2 := by decide +kernel
theorem d15_113 : dc prog_1_method_65_code 113 (.aload_n 0) 1 := by decide +kernel
theorem d15_114 : dc prog_1_method_65_code 114 (.getfield 68) 3 := by decide +kernel
theorem d15_117 : dc prog_1_method_65_code 117 (.iload 8) 2 := by decide +kernel
theorem d15_119 : dc prog_1_method_65_code 119 (.iload 5) 2 := by decide +kernel
theorem d15_121 : dc prog_1_method_65_code 121 (.iastore) 1 := by decide +kernel
theorem d15_122 : dc prog_1_method_65_code 122 (.aload_n 0) 1 := by decide +kernel
theorem d15_123 : dc prog_1_method_65_code 123 (.getfield 71) 3 := by decide +kernel
theorem d15_126 : dc prog_1_method_65_code 126 (.iload 8) 2 := by decide +kernel
theorem d15_128 : dc prog_1_method_65_code 128 (.iload 9) 2 := by decide +kernel
theorem d15_130 : dc prog_1_method_65_code 130 (.iastore) 1 := by decide +kernel
theorem d15_131 : dc prog_1_method_65_code 131 (.aload_n 0) 1 := by decide +kernel
theorem d15_132 : dc prog_1_method_65_code 132 (.getfield 74) 3 := by decide +kernel
theorem d15_135 : dc prog_1_method_65_code 135 (.iload 8) 2 := by decide +kernel
theorem d15_137 : dc prog_1_method_65_code 137 (.iconst 1) 1 := by decide +kernel
theorem d15_138 : dc prog_1_method_65_code 138 (.bastore) 1 := by decide +kernel
theorem d15_139 : dc prog_1_method_65_code 139 (.iconst 0) 1 := by decide +kernel
theorem d15_140 : dc prog_1_method_65_code 140 (.istore 10) 2 := by decide +kernel
theorem d15_142 : dc prog_1_method_65_code 142 (.iload 10) 2 := by decide +kernel
theorem d15_144 : dc prog_1_method_65_code 144 (.iload 9) 2 := by decide +kernel
theorem d15_146 : dc prog_1_method_65_code 146 (.if_icmp .ge 43) 3 := by decide +kernel
theorem d15_149 : dc prog_1_method_65_code 149 (.iload 5) 2 := by decide +kernel
theorem d15_151 : dc prog_1_method_65_code 151 (.iload 10) 2 := by decide +kernel
theorem d15_153 : dc prog_1_method_65_code 153 (.iadd) 1 := by decide +kernel
theorem d15_154 : dc prog_1_method_65_code 154 (.bipush 63) 2 := by decide +kernel
theorem d15_156 : dc prog_1_method_65_code 156 (.iand) 1 := by decide +kernel
theorem d15_157 : dc prog_1_method_65_code 157 (.istore 11) 2 := by decide +kernel
theorem d15_159 : dc prog_1_method_65_code 159 (.aload_n 0) 1 := by decide +kernel
theorem d15_160 : dc prog_1_method_65_code 160 (.getfield 59) 3 := by decide +kernel
theorem d15_163 : dc prog_1_method_65_code 163 (.iload 11) 2 := by decide +kernel
theorem d15_165 : dc prog_1_method_65_code 165 (.iconst 0) 1 := by decide +kernel
theorem d15_166 : dc prog_1_method_65_code 166 (.iastore) 1 := by decide +kernel
theorem d15_167 : dc prog_1_method_65_code 167 (.aload_n 0) 1 := by decide +kernel
theorem d15_168 : dc prog_1_method_65_code 168 (.getfield 62) 3 := by decide +kernel
theorem d15_171 : dc prog_1_method_65_code 171 (.iload 11) 2 := by decide +kernel
theorem d15_173 : dc prog_1_method_65_code 173 (.iconst 0) 1 := by decide +kernel
theorem d15_174 : dc prog_1_method_65_code 174 (.iastore) 1 := by decide +kernel
theorem d15_175 : dc prog_1_method_65_code 175 (.aload_n 0) 1 := by decide +kernel
theorem d15_176 : dc prog_1_method_65_code 176 (.getfield 65) 3 := by decide +kernel
theorem d15_179 : dc prog_1_method_65_code 179 (.iload 11) 2 := by decide +kernel
theorem d15_181 : dc prog_1_method_65_code 181 (.iconst 0) 1 := by decide +kernel
theorem d15_182 : dc prog_1_method_65_code 182 (.iastore) 1 := by decide +kernel
theorem d15_183 : dc prog_1_method_65_code 183 (.iinc 10 1) 3 := by decide +kernel
theorem d15_186 : dc prog_1_method_65_code 186 (.goto (-44)) 3 := by decide +kernel
theorem d15_189 : dc prog_1_method_65_code 189 (.iload 5) 2 := by decide +kernel
theorem d15_191 : dc prog_1_method_65_code 191 (.iload 9) 2 := by decide +kernel
theorem d15_193 : dc prog_1_method_65_code 193 (.iadd) 1 := by decide +kernel
theorem d15_194 : dc prog_1_method_65_code 194 (.istore 5) 2 := by decide +kernel
theorem d15_196 : dc prog_1_method_65_code 196 (.iinc 7 1) 3 := by decide +kernel
theorem d15_199 : dc prog_1_method_65_code 199 (.goto (-127)) 3 := by decide +kernel
theorem d15_202 : dc prog_1_method_65_code 202 (.iconst 0) 1 := by decide +kernel
theorem d15_203 : dc prog_1_method_65_code 203 (.istore 7) 2 := by decide +kernel
theorem d15_205 : dc prog_1_method_65_code 205 (.iload 7) 2 := by decide +kernel
theorem d15_207 : dc prog_1_method_65_code 207 (.aload_n 0) 1 := by decide +kernel
theorem d15_208 : dc prog_1_method_65_code 208 (.getfield 26) 3 := by decide +kernel
theorem d15_211 : dc prog_1_method_65_code 211 (.iload_n 1) 1 := by decide +kernel
theorem d15_212 : dc prog_1_method_65_code 212 (.iaload) 1 := by decide +kernel
theorem d15_213 : dc prog_1_method_65_code 213 (.if_icmp .ge 79) 3 := by decide +kernel
theorem d15_216 : dc prog_1_method_65_code 216 (.iload 7) 2 := by decide +kernel
theorem d15_218 : dc prog_1_method_65_code 218 (.bipush 8) 2 := by decide +kernel
theorem d15_220 : dc prog_1_method_65_code 220 (.if_icmp .ge 72) 3 := by decide +kernel
theorem d15_223 : dc prog_1_method_65_code 223 (.aload_n 0) 1 := by decide +kernel
theorem d15_224 : dc prog_1_method_65_code 224 (.getfield 68) 3 := by decide +kernel
theorem d15_227 : dc prog_1_method_65_code 227 (.aload_n 0) 1 := by decide +kernel
theorem d15_228 : dc prog_1_method_65_code 228 (.getfield 137) 3 := by decide +kernel
theorem d15_231 : dc prog_1_method_65_code 231 (.iload 7) 2 := by decide +kernel
theorem d15_233 : dc prog_1_method_65_code 233 (.iadd) 1 := by decide +kernel
theorem d15_234 : dc prog_1_method_65_code 234 (.sipush 4095) 3 := by decide +kernel
theorem d15_237 : dc prog_1_method_65_code 237 (.iand) 1 := by decide +kernel
theorem d15_238 : dc prog_1_method_65_code 238 (.iaload) 1 := by decide +kernel
theorem d15_239 : dc prog_1_method_65_code 239 (.bipush 63) 2 := by decide +kernel
theorem d15_241 : dc prog_1_method_65_code 241 (.iand) 1 := by decide +kernel
theorem d15_242 : dc prog_1_method_65_code 242 (.istore 8) 2 := by decide +kernel
theorem d15_244 : dc prog_1_method_65_code 244 (.aload_n 0) 1 := by decide +kernel
theorem d15_245 : dc prog_1_method_65_code 245 (.getfield 59) 3 := by decide +kernel
theorem d15_248 : dc prog_1_method_65_code 248 (.iload 8) 2 := by decide +kernel
theorem d15_250 : dc prog_1_method_65_code 250 (.aload_n 0) 1 := by decide +kernel
theorem d15_251 : dc prog_1_method_65_code 251 (.getfield 101) 3 := by decide +kernel
theorem d15_254 : dc prog_1_method_65_code 254 (.iload 7) 2 := by decide +kernel
theorem d15_256 : dc prog_1_method_65_code 256 (.iaload) 1 := by decide +kernel
theorem d15_257 : dc prog_1_method_65_code 257 (.iastore) 1 := by decide +kernel
theorem d15_258 : dc prog_1_method_65_code 258 (.aload_n 0) 1 := by decide +kernel
theorem d15_259 : dc prog_1_method_65_code 259 (.getfield 62) 3 := by decide +kernel
theorem d15_262 : dc prog_1_method_65_code 262 (.iload 8) 2 := by decide +kernel
theorem d15_264 : dc prog_1_method_65_code 264 (.aload_n 0) 1 := by decide +kernel
theorem d15_265 : dc prog_1_method_65_code 265 (.getfield 104) 3 := by decide +kernel
theorem d15_268 : dc prog_1_method_65_code 268 (.iload 7) 2 := by decide +kernel
theorem d15_270 : dc prog_1_method_65_code 270 (.iaload) 1 := by decide +kernel
theorem d15_271 : dc prog_1_method_65_code 271 (.iastore) 1 := by decide +kernel
theorem d15_272 : dc prog_1_method_65_code 272 (.aload_n 0) 1 := by decide +kernel
theorem d15_273 : dc prog_1_method_65_code 273 (.getfield 65) 3 := by decide +kernel
theorem d15_276 : dc prog_1_method_65_code 276 (.iload 8) 2 := by decide +kernel
theorem d15_278 : dc prog_1_method_65_code 278 (.aload_n 0) 1 := by decide +kernel
theorem d15_279 : dc prog_1_method_65_code 279 (.getfield 107) 3 := by decide +kernel
theorem d15_282 : dc prog_1_method_65_code 282 (.iload 7) 2 := by decide +kernel
theorem d15_284 : dc prog_1_method_65_code 284 (.iaload) 1 := by decide +kernel
theorem d15_285 : dc prog_1_method_65_code 285 (.iastore) 1 := by decide +kernel
theorem d15_286 : dc prog_1_method_65_code 286 (.iinc 7 1) 3 := by decide +kernel
theorem d15_289 : dc prog_1_method_65_code 289 (.goto (-84)) 3 := by decide +kernel
theorem d15_292 : dc prog_1_method_65_code 292 (.aload_n 0) 1 := by decide +kernel
theorem d15_293 : dc prog_1_method_65_code 293 (.dup) 1 := by decide +kernel
theorem d15_294 : dc prog_1_method_65_code 294 (.getfield 137) 3 := by decide +kernel
theorem d15_297 : dc prog_1_method_65_code 297 (.iload 6) 2 := by decide +kernel
theorem d15_299 : dc prog_1_method_65_code 299 (.iadd) 1 := by decide +kernel
theorem d15_300 : dc prog_1_method_65_code 300 (.putfield 137) 3 := by decide +kernel
theorem d15_303 : dc prog_1_method_65_code 303 (.aload_n 0) 1 := by decide +kernel
theorem d15_304 : dc prog_1_method_65_code 304 (.dup) 1 := by decide +kernel
theorem d15_305 : dc prog_1_method_65_code 305 (.getfield 134) 3 := by decide +kernel
theorem d15_308 : dc prog_1_method_65_code 308 (.aload_n 0) 1 := by decide +kernel
theorem d15_309 : dc prog_1_method_65_code 309 (.getfield 32) 3 := by decide +kernel
theorem d15_312 : dc prog_1_method_65_code 312 (.iload_n 1) 1 := by decide +kernel
theorem d15_313 : dc prog_1_method_65_code 313 (.iaload) 1 := by decide +kernel
theorem d15_314 : dc prog_1_method_65_code 314 (.iadd) 1 := by decide +kernel
theorem d15_315 : dc prog_1_method_65_code 315 (.putfield 134) 3 := by decide +kernel
theorem d15_318 : dc prog_1_method_65_code 318 (.aload_n 0) 1 := by decide +kernel
theorem d15_319 : dc prog_1_method_65_code 319 (.iload 4) 2 := by decide +kernel
theorem d15_321 : dc prog_1_method_65_code 321 (.iconst 1) 1 := by decide +kernel
theorem d15_322 : dc prog_1_method_65_code 322 (.iadd) 1 := by decide +kernel
theorem d15_323 : dc prog_1_method_65_code 323 (.putfield 131) 3 := by decide +kernel
theorem d15_326 : dc prog_1_method_65_code 326 (.return_) 1 := by decide +kernel
abbrev y15 : MethodName := ⟨"FatPointerC", "pushFrame", "(III)V"⟩
theorem hy15 : y15.cls ≠ "java/lang/invoke/MethodHandle" ∧ y15.cls ≠ "java/lang/invoke/VarHandle" := by decide
theorem pd15 : parseMethodDescriptor y15.desc = some ⟨[.int, .int, .int], none⟩ := by decide +kernel
abbrev R15 : Room := { frames := 0, cells := 0, slots := 0, locals := 0 }
abbrev P15 (r : St) : Option Value → List OwnC → Prop := fun v H' => v = none ∧ H' = (Hb 0 r)
abbrev W15 (l : Launch) (Z : State) (n0 : Nat) (Q : Option Value → List OwnC → Prop) (k n pc : Nat) (L : List Slot) (S : List Value) (H : List OwnC) : Prop := WP l Z CN lay "FatPointerC" "pushFrame" prog_1_method_65_code 12 (none) R15 n0 0 Q k n pc L S H
def g_pushFrame_142 (k72 : Int32 → Int32 → Int32 → Int32 → Int32 → St → Option (St)) (k142 : Int32 → Int32 → Int32 → Int32 → Int32 → Int32 → Int32 → St → Option (St)) (n : Nat) (v1 : Int32) (v4 : Int32) (v5 : Int32) (v6 : Int32) (v7 : Int32) (v9 : Int32) (v10 : Int32) (s : St) : Option (St) :=
  if v10 < v9 then
    lt ((v5 + v10) &&& (63 : Int32)) fun x2 =>
    (wrA s 16 x2 (0 : Int32)).bind fun s3 =>
    (wrA s3 17 x2 (0 : Int32)).bind fun s4 =>
    (wrA s4 18 x2 (0 : Int32)).bind fun s5 =>
    lt (v10 + (1 : Int32)) fun x6 =>
    k142 v1 v4 v5 v6 v7 v9 x6 s5
  else
    lt (v5 + v9) fun x7 =>
    lt (v7 + (1 : Int32)) fun x8 =>
    k72 v1 v4 x7 v6 x8 s
set_option maxRecDepth 65536 in
set_option maxHeartbeats 4000000 in
theorem okg15_142 (l : Launch) (Z : State) (a0 : Array Value) (hw : HW a0 Z) (n0 : Nat) (k72 : Int32 → Int32 → Int32 → Int32 → Int32 → St → Option (St)) (hk72 : ∀ (v1 : Int32) (v4 : Int32) (v5 : Int32) (v6 : Int32) (v7 : Int32) (s : St) (r : St), k72 v1 v4 v5 v6 v7 s = some r → W15 l Z n0 (P15 r) 0 0 72 [.val (.ref 0), .val (.int v1), .unset, .unset, .val (.int v4), .val (.int v5), .val (.int v6), .val (.int v7), .unset, .unset, .unset, .unset] [] (Hb 0 s)) (k142 : Int32 → Int32 → Int32 → Int32 → Int32 → Int32 → Int32 → St → Option (St)) (hk142 : ∀ (v1 : Int32) (v4 : Int32) (v5 : Int32) (v6 : Int32) (v7 : Int32) (v9 : Int32) (v10 : Int32) (s : St) (r : St), k142 v1 v4 v5 v6 v7 v9 v10 s = some r → W15 l Z n0 (P15 r) 0 0 142 [.val (.ref 0), .val (.int v1), .unset, .unset, .val (.int v4), .val (.int v5), .val (.int v6), .val (.int v7), .unset, .val (.int v9), .val (.int v10), .unset] [] (Hb 0 s)) (n : Nat) (v1 : Int32) (v4 : Int32) (v5 : Int32) (v6 : Int32) (v7 : Int32) (v9 : Int32) (v10 : Int32) (s : St) (r : St) (h : g_pushFrame_142 k72 k142 n v1 v4 v5 v6 v7 v9 v10 s = some r) : W15 l Z n0 (P15 r) 0 0 142 [.val (.ref 0), .val (.int v1), .unset, .unset, .val (.int v4), .val (.int v5), .val (.int v6), .val (.int v7), .unset, .val (.int v9), .val (.int v10), .unset] [] (Hb 0 s) := by
  unfold g_pushFrame_142 at h
  refine WP.iload d15_142 rfl ?_
  refine WP.iload d15_144 rfl ?_
  rcases ite_e h with ⟨hc1, h⟩ | ⟨hc1, h⟩
  ·
    refine WP.icmpN d15_146 (XT.ii_ge_f hc1) ?_
    refine WP.iload d15_149 rfl ?_
    refine WP.iload d15_151 rfl ?_
    refine WP.iadd d15_153 ?_
    refine WP.bipush (63 : Int32) d15_154 rfl ?_
    refine WP.iand d15_156 ?_
    obtain ⟨x2, ex2, h⟩ := lt_e h
    refine WP.istore (L' := [.val (.ref 0), .val (.int v1), .unset, .unset, .val (.int v4), .val (.int v5), .val (.int v6), .val (.int v7), .unset, .val (.int v9), .val (.int v10), .val (.int x2)]) d15_157 (leb rfl) (by subst ex2; rfl) ?_
    refine WP.aloadN d15_159 rfl ?_
    refine WP.getfield (i := 0) (j := 30) d15_160 (hw _ m_43) rfl rfl rfl ?_
    refine WP.iload d15_163 rfl ?_
    refine WP.iconst (0 : Int32) d15_165 rfl ?_
    obtain ⟨s3, hs3, h⟩ := Option.bind_eq_some_iff.mp h
    obtain ⟨ys3, gs3, es3⟩ := wrA_e hs3
    refine WP.iastore (i := 17) (xs := gA s 16) (H' := (Hb 0 s3)) d15_166 rfl (leb rfl) gs3 (by subst es3; rfl) ?_
    refine WP.aloadN d15_167 rfl ?_
    refine WP.getfield (i := 0) (j := 31) d15_168 (hw _ m_45) rfl rfl rfl ?_
    refine WP.iload d15_171 rfl ?_
    refine WP.iconst (0 : Int32) d15_173 rfl ?_
    obtain ⟨s4, hs4, h⟩ := Option.bind_eq_some_iff.mp h
    obtain ⟨ys4, gs4, es4⟩ := wrA_e hs4
    refine WP.iastore (i := 18) (xs := gA s3 17) (H' := (Hb 0 s4)) d15_174 rfl (leb rfl) gs4 (by subst es4; rfl) ?_
    refine WP.aloadN d15_175 rfl ?_
    refine WP.getfield (i := 0) (j := 32) d15_176 (hw _ m_47) rfl rfl rfl ?_
    refine WP.iload d15_179 rfl ?_
    refine WP.iconst (0 : Int32) d15_181 rfl ?_
    obtain ⟨s5, hs5, h⟩ := Option.bind_eq_some_iff.mp h
    obtain ⟨ys5, gs5, es5⟩ := wrA_e hs5
    refine WP.iastore (i := 19) (xs := gA s4 18) (H' := (Hb 0 s5)) d15_182 rfl (leb rfl) gs5 (by subst es5; rfl) ?_
    obtain ⟨x6, ex6, h⟩ := lt_e h
    refine WP.iinc (L' := [.val (.ref 0), .val (.int v1), .unset, .unset, .val (.int v4), .val (.int v5), .val (.int v6), .val (.int v7), .unset, .val (.int v9), .val (.int x6), .val (.int x2)]) (1 : Int32) d15_183 rfl rfl (by subst ex6; rfl) ?_
    refine WP.goto (pc' := 142) d15_186 (by decide) rfl ?_
    exact WP.weak (L' := [.val (.ref 0), .val (.int v1), .unset, .unset, .val (.int v4), .val (.int v5), .val (.int v6), .val (.int v7), .unset, .val (.int v9), .val (.int x6), .unset]) ⟨rfl, rfl, rfl, rfl, rfl, rfl, rfl, rfl, trivial⟩ (hk142 v1 v4 v5 v6 v7 v9 x6 s5 _ h)
  ·
    refine WP.icmpY (pc' := 189) d15_146 (XT.ii_ge_t hc1) (by decide) rfl ?_
    refine WP.iload d15_189 rfl ?_
    refine WP.iload d15_191 rfl ?_
    refine WP.iadd d15_193 ?_
    obtain ⟨x7, ex7, h⟩ := lt_e h
    refine WP.istore (L' := [.val (.ref 0), .val (.int v1), .unset, .unset, .val (.int v4), .val (.int x7), .val (.int v6), .val (.int v7), .unset, .val (.int v9), .val (.int v10), .unset]) d15_194 (leb rfl) (by subst ex7; rfl) ?_
    obtain ⟨x8, ex8, h⟩ := lt_e h
    refine WP.iinc (L' := [.val (.ref 0), .val (.int v1), .unset, .unset, .val (.int v4), .val (.int x7), .val (.int v6), .val (.int x8), .unset, .val (.int v9), .val (.int v10), .unset]) (1 : Int32) d15_196 rfl rfl (by subst ex8; rfl) ?_
    refine WP.goto (pc' := 72) d15_199 (by decide) rfl ?_
    exact WP.weak (L' := [.val (.ref 0), .val (.int v1), .unset, .unset, .val (.int v4), .val (.int x7), .val (.int v6), .val (.int x8), .unset, .unset, .unset, .unset]) ⟨rfl, rfl, rfl, rfl, rfl, rfl, trivial⟩ (hk72 v1 v4 x7 v6 x8 s _ h)
def f_pushFrame_142 (k72 : Int32 → Int32 → Int32 → Int32 → Int32 → St → Option (St)) : Nat → Int32 → Int32 → Int32 → Int32 → Int32 → Int32 → Int32 → St → Option (St)
  | 0 => fun _ _ _ _ _ _ _ _ => none
  | n + 1 => g_pushFrame_142 k72 (f_pushFrame_142 k72 n) n
theorem ok15_142 (l : Launch) (Z : State) (a0 : Array Value) (hw : HW a0 Z) (n0 : Nat) (k72 : Int32 → Int32 → Int32 → Int32 → Int32 → St → Option (St)) (hk72 : ∀ (v1 : Int32) (v4 : Int32) (v5 : Int32) (v6 : Int32) (v7 : Int32) (s : St) (r : St), k72 v1 v4 v5 v6 v7 s = some r → W15 l Z n0 (P15 r) 0 0 72 [.val (.ref 0), .val (.int v1), .unset, .unset, .val (.int v4), .val (.int v5), .val (.int v6), .val (.int v7), .unset, .unset, .unset, .unset] [] (Hb 0 s)) : ∀ (n : Nat) (v1 : Int32) (v4 : Int32) (v5 : Int32) (v6 : Int32) (v7 : Int32) (v9 : Int32) (v10 : Int32) (s : St) (r : St), f_pushFrame_142 k72 n v1 v4 v5 v6 v7 v9 v10 s = some r → W15 l Z n0 (P15 r) 0 0 142 [.val (.ref 0), .val (.int v1), .unset, .unset, .val (.int v4), .val (.int v5), .val (.int v6), .val (.int v7), .unset, .val (.int v9), .val (.int v10), .unset] [] (Hb 0 s)
  | 0, v1, v4, v5, v6, v7, v9, v10, s, r, h => nomatch (show none = some r from h)
  | n + 1, v1, v4, v5, v6, v7, v9, v10, s, r, h => okg15_142 l Z a0 hw n0 _ hk72 _ (ok15_142 l Z a0 hw n0 k72 hk72 n) n v1 v4 v5 v6 v7 v9 v10 s r h
def f_pushFrame_292 (n : Nat) (v1 : Int32) (v4 : Int32) (v6 : Int32) (s : St) : Option (St) :=
  lt (sI s 14 ((gI s 14) + v6)) fun s1 =>
  (rd (gA s1 7) v1).bind fun x2 =>
  lt (sI s1 16 ((gI s1 16) + x2)) fun s3 =>
  lt (sI s3 15 (v4 + (1 : Int32))) fun s4 =>
  some s4
set_option maxRecDepth 65536 in
set_option maxHeartbeats 4000000 in
theorem ok15_292 (l : Launch) (Z : State) (a0 : Array Value) (hw : HW a0 Z) (n0 : Nat) (n : Nat) (v1 : Int32) (v4 : Int32) (v6 : Int32) (s : St) (r : St) (h : f_pushFrame_292 n v1 v4 v6 s = some r) : W15 l Z n0 (P15 r) 0 0 292 [.val (.ref 0), .val (.int v1), .unset, .unset, .val (.int v4), .unset, .val (.int v6), .unset, .unset, .unset, .unset, .unset] [] (Hb 0 s) := by
  unfold f_pushFrame_292 at h
  refine WP.aloadN d15_292 rfl ?_
  refine WP.dup d15_293 rfl ?_
  refine WP.getfield (i := 0) (j := 36) d15_294 (hw _ m_169) rfl rfl rfl ?_
  refine WP.iload d15_297 rfl ?_
  refine WP.iadd d15_299 ?_
  obtain ⟨s1, es1, h⟩ := lt_e h
  refine WP.putI (i := 0) (j := 36) (H' := (Hb 0 s1)) d15_300 (hw _ m_169) (Or.inl (hw _ m_170)) (hw _ m_1) (hlay hw) rfl rfl rfl (leb rfl) (by subst es1; rfl) ?_
  refine WP.aloadN d15_303 rfl ?_
  refine WP.dup d15_304 rfl ?_
  refine WP.getfield (i := 0) (j := 43) d15_305 (hw _ m_167) rfl rfl rfl ?_
  refine WP.aloadN d15_308 rfl ?_
  refine WP.getfield (i := 0) (j := 18) d15_309 (hw _ m_25) rfl rfl rfl ?_
  refine WP.iloadN d15_312 rfl ?_
  obtain ⟨x2, hx2, h⟩ := Option.bind_eq_some_iff.mp h
  refine WP.iaload (i := 8) d15_313 rfl hx2 ?_
  refine WP.iadd d15_314 ?_
  obtain ⟨s3, es3, h⟩ := lt_e h
  refine WP.putI (i := 0) (j := 43) (H' := (Hb 0 s3)) d15_315 (hw _ m_167) (Or.inl (hw _ m_168)) (hw _ m_1) (hlay hw) rfl rfl rfl (leb rfl) (by subst es3; rfl) ?_
  refine WP.aloadN d15_318 rfl ?_
  refine WP.iload d15_319 rfl ?_
  refine WP.iconst (1 : Int32) d15_321 rfl ?_
  refine WP.iadd d15_322 ?_
  obtain ⟨s4, es4, h⟩ := lt_e h
  refine WP.putI (i := 0) (j := 42) (H' := (Hb 0 s4)) d15_323 (hw _ m_165) (Or.inl (hw _ m_166)) (hw _ m_1) (hlay hw) rfl rfl rfl (leb rfl) (by subst es4; rfl) ?_
  cases h
  exact WP.vreturn d15_326 rfl (leb rfl) (leb rfl) ⟨rfl, rfl⟩
def g_pushFrame_205 (k205 : Int32 → Int32 → Int32 → Int32 → St → Option (St)) (n : Nat) (v1 : Int32) (v4 : Int32) (v6 : Int32) (v7 : Int32) (s : St) : Option (St) :=
  (rd (gA s 5) v1).bind fun x1 =>
  if v7 < x1 then
    if v7 < (8 : Int32) then
      (rd (gA s 19) (((gI s 14) + v7) &&& (4095 : Int32))).bind fun x4 =>
      lt (x4 &&& (63 : Int32)) fun x5 =>
      (rd (gA s 30) v7).bind fun x6 =>
      (wrA s 16 x5 x6).bind fun s7 =>
      (rd (gA s7 31) v7).bind fun x8 =>
      (wrA s7 17 x5 x8).bind fun s9 =>
      (rd (gA s9 32) v7).bind fun x10 =>
      (wrA s9 18 x5 x10).bind fun s11 =>
      lt (v7 + (1 : Int32)) fun x12 =>
      k205 v1 v4 v6 x12 s11
    else
      f_pushFrame_292 n v1 v4 v6 s
  else
    f_pushFrame_292 n v1 v4 v6 s
set_option maxRecDepth 65536 in
set_option maxHeartbeats 4000000 in
theorem okg15_205 (l : Launch) (Z : State) (a0 : Array Value) (hw : HW a0 Z) (n0 : Nat) (k205 : Int32 → Int32 → Int32 → Int32 → St → Option (St)) (hk205 : ∀ (v1 : Int32) (v4 : Int32) (v6 : Int32) (v7 : Int32) (s : St) (r : St), k205 v1 v4 v6 v7 s = some r → W15 l Z n0 (P15 r) 0 0 205 [.val (.ref 0), .val (.int v1), .unset, .unset, .val (.int v4), .unset, .val (.int v6), .val (.int v7), .unset, .unset, .unset, .unset] [] (Hb 0 s)) (n : Nat) (v1 : Int32) (v4 : Int32) (v6 : Int32) (v7 : Int32) (s : St) (r : St) (h : g_pushFrame_205 k205 n v1 v4 v6 v7 s = some r) : W15 l Z n0 (P15 r) 0 0 205 [.val (.ref 0), .val (.int v1), .unset, .unset, .val (.int v4), .unset, .val (.int v6), .val (.int v7), .unset, .unset, .unset, .unset] [] (Hb 0 s) := by
  unfold g_pushFrame_205 at h
  refine WP.iload d15_205 rfl ?_
  refine WP.aloadN d15_207 rfl ?_
  refine WP.getfield (i := 0) (j := 16) d15_208 (hw _ m_21) rfl rfl rfl ?_
  refine WP.iloadN d15_211 rfl ?_
  obtain ⟨x1, hx1, h⟩ := Option.bind_eq_some_iff.mp h
  refine WP.iaload (i := 6) d15_212 rfl hx1 ?_
  rcases ite_e h with ⟨hc2, h⟩ | ⟨hc2, h⟩
  ·
    refine WP.icmpN d15_213 (XT.ii_ge_f hc2) ?_
    refine WP.iload d15_216 rfl ?_
    refine WP.bipush (8 : Int32) d15_218 rfl ?_
    rcases ite_e h with ⟨hc3, h⟩ | ⟨hc3, h⟩
    ·
      refine WP.icmpN d15_220 (XT.ii_ge_f hc3) ?_
      refine WP.aloadN d15_223 rfl ?_
      refine WP.getfield (i := 0) (j := 33) d15_224 (hw _ m_49) rfl rfl rfl ?_
      refine WP.aloadN d15_227 rfl ?_
      refine WP.getfield (i := 0) (j := 36) d15_228 (hw _ m_169) rfl rfl rfl ?_
      refine WP.iload d15_231 rfl ?_
      refine WP.iadd d15_233 ?_
      refine WP.sipush (4095 : Int32) d15_234 rfl ?_
      refine WP.iand d15_237 ?_
      obtain ⟨x4, hx4, h⟩ := Option.bind_eq_some_iff.mp h
      refine WP.iaload (i := 20) d15_238 rfl hx4 ?_
      refine WP.bipush (63 : Int32) d15_239 rfl ?_
      refine WP.iand d15_241 ?_
      obtain ⟨x5, ex5, h⟩ := lt_e h
      refine WP.istore (L' := [.val (.ref 0), .val (.int v1), .unset, .unset, .val (.int v4), .unset, .val (.int v6), .val (.int v7), .val (.int x5), .unset, .unset, .unset]) d15_242 (leb rfl) (by subst ex5; rfl) ?_
      refine WP.aloadN d15_244 rfl ?_
      refine WP.getfield (i := 0) (j := 30) d15_245 (hw _ m_43) rfl rfl rfl ?_
      refine WP.iload d15_248 rfl ?_
      refine WP.aloadN d15_250 rfl ?_
      refine WP.getfield (i := 0) (j := 49) d15_251 (hw _ m_71) rfl rfl rfl ?_
      refine WP.iload d15_254 rfl ?_
      obtain ⟨x6, hx6, h⟩ := Option.bind_eq_some_iff.mp h
      refine WP.iaload (i := 31) d15_256 rfl hx6 ?_
      obtain ⟨s7, hs7, h⟩ := Option.bind_eq_some_iff.mp h
      obtain ⟨ys7, gs7, es7⟩ := wrA_e hs7
      refine WP.iastore (i := 17) (xs := gA s 16) (H' := (Hb 0 s7)) d15_257 rfl (leb rfl) gs7 (by subst es7; rfl) ?_
      refine WP.aloadN d15_258 rfl ?_
      refine WP.getfield (i := 0) (j := 31) d15_259 (hw _ m_45) rfl rfl rfl ?_
      refine WP.iload d15_262 rfl ?_
      refine WP.aloadN d15_264 rfl ?_
      refine WP.getfield (i := 0) (j := 50) d15_265 (hw _ m_73) rfl rfl rfl ?_
      refine WP.iload d15_268 rfl ?_
      obtain ⟨x8, hx8, h⟩ := Option.bind_eq_some_iff.mp h
      refine WP.iaload (i := 32) d15_270 rfl hx8 ?_
      obtain ⟨s9, hs9, h⟩ := Option.bind_eq_some_iff.mp h
      obtain ⟨ys9, gs9, es9⟩ := wrA_e hs9
      refine WP.iastore (i := 18) (xs := gA s7 17) (H' := (Hb 0 s9)) d15_271 rfl (leb rfl) gs9 (by subst es9; rfl) ?_
      refine WP.aloadN d15_272 rfl ?_
      refine WP.getfield (i := 0) (j := 32) d15_273 (hw _ m_47) rfl rfl rfl ?_
      refine WP.iload d15_276 rfl ?_
      refine WP.aloadN d15_278 rfl ?_
      refine WP.getfield (i := 0) (j := 51) d15_279 (hw _ m_75) rfl rfl rfl ?_
      refine WP.iload d15_282 rfl ?_
      obtain ⟨x10, hx10, h⟩ := Option.bind_eq_some_iff.mp h
      refine WP.iaload (i := 33) d15_284 rfl hx10 ?_
      obtain ⟨s11, hs11, h⟩ := Option.bind_eq_some_iff.mp h
      obtain ⟨ys11, gs11, es11⟩ := wrA_e hs11
      refine WP.iastore (i := 19) (xs := gA s9 18) (H' := (Hb 0 s11)) d15_285 rfl (leb rfl) gs11 (by subst es11; rfl) ?_
      obtain ⟨x12, ex12, h⟩ := lt_e h
      refine WP.iinc (L' := [.val (.ref 0), .val (.int v1), .unset, .unset, .val (.int v4), .unset, .val (.int v6), .val (.int x12), .val (.int x5), .unset, .unset, .unset]) (1 : Int32) d15_286 rfl rfl (by subst ex12; rfl) ?_
      refine WP.goto (pc' := 205) d15_289 (by decide) rfl ?_
      exact WP.weak (L' := [.val (.ref 0), .val (.int v1), .unset, .unset, .val (.int v4), .unset, .val (.int v6), .val (.int x12), .unset, .unset, .unset, .unset]) ⟨rfl, rfl, rfl, rfl, rfl, trivial⟩ (hk205 v1 v4 v6 x12 s11 _ h)
    ·
      refine WP.icmpY (pc' := 292) d15_220 (XT.ii_ge_t hc3) (by decide) rfl ?_
      exact WP.weak (L' := [.val (.ref 0), .val (.int v1), .unset, .unset, .val (.int v4), .unset, .val (.int v6), .unset, .unset, .unset, .unset, .unset]) ⟨rfl, rfl, rfl, rfl, trivial⟩ (ok15_292 l Z a0 hw n0 n v1 v4 v6 s _ h)
  ·
    refine WP.icmpY (pc' := 292) d15_213 (XT.ii_ge_t hc2) (by decide) rfl ?_
    exact WP.weak (L' := [.val (.ref 0), .val (.int v1), .unset, .unset, .val (.int v4), .unset, .val (.int v6), .unset, .unset, .unset, .unset, .unset]) ⟨rfl, rfl, rfl, rfl, trivial⟩ (ok15_292 l Z a0 hw n0 n v1 v4 v6 s _ h)
def f_pushFrame_205 : Nat → Int32 → Int32 → Int32 → Int32 → St → Option (St)
  | 0 => fun _ _ _ _ _ => none
  | n + 1 => g_pushFrame_205 (f_pushFrame_205 n) n
theorem ok15_205 (l : Launch) (Z : State) (a0 : Array Value) (hw : HW a0 Z) (n0 : Nat) : ∀ (n : Nat) (v1 : Int32) (v4 : Int32) (v6 : Int32) (v7 : Int32) (s : St) (r : St), f_pushFrame_205 n v1 v4 v6 v7 s = some r → W15 l Z n0 (P15 r) 0 0 205 [.val (.ref 0), .val (.int v1), .unset, .unset, .val (.int v4), .unset, .val (.int v6), .val (.int v7), .unset, .unset, .unset, .unset] [] (Hb 0 s)
  | 0, v1, v4, v6, v7, s, r, h => nomatch (show none = some r from h)
  | n + 1, v1, v4, v6, v7, s, r, h => okg15_205 l Z a0 hw n0 _ (ok15_205 l Z a0 hw n0 n) n v1 v4 v6 v7 s r h
def f_pushFrame_202 (n : Nat) (v1 : Int32) (v4 : Int32) (v6 : Int32) (s : St) : Option (St) :=
  f_pushFrame_205 n v1 v4 v6 (0 : Int32) s
set_option maxRecDepth 65536 in
set_option maxHeartbeats 4000000 in
theorem ok15_202 (l : Launch) (Z : State) (a0 : Array Value) (hw : HW a0 Z) (n0 : Nat) (n : Nat) (v1 : Int32) (v4 : Int32) (v6 : Int32) (s : St) (r : St) (h : f_pushFrame_202 n v1 v4 v6 s = some r) : W15 l Z n0 (P15 r) 0 0 202 [.val (.ref 0), .val (.int v1), .unset, .unset, .val (.int v4), .unset, .val (.int v6), .unset, .unset, .unset, .unset, .unset] [] (Hb 0 s) := by
  unfold f_pushFrame_202 at h
  refine WP.iconst (0 : Int32) d15_202 rfl ?_
  refine WP.istore (L' := [.val (.ref 0), .val (.int v1), .unset, .unset, .val (.int v4), .unset, .val (.int v6), .val (.int (0 : Int32)), .unset, .unset, .unset, .unset]) d15_203 (leb rfl) rfl ?_
  exact WP.weak (L' := [.val (.ref 0), .val (.int v1), .unset, .unset, .val (.int v4), .unset, .val (.int v6), .val (.int (0 : Int32)), .unset, .unset, .unset, .unset]) ⟨rfl, rfl, rfl, rfl, rfl, trivial⟩ (ok15_205 l Z a0 hw n0 n v1 v4 v6 (0 : Int32) s _ h)
def g_pushFrame_72 (k72 : Int32 → Int32 → Int32 → Int32 → Int32 → St → Option (St)) (n : Nat) (v1 : Int32) (v4 : Int32) (v5 : Int32) (v6 : Int32) (v7 : Int32) (s : St) : Option (St) :=
  if v7 < v6 then
    if v7 < (8 : Int32) then
      lt (((gI s 14) + v7) &&& (4095 : Int32)) fun x3 =>
      (rd (gA s 11) ((v1 * (8 : Int32)) + v7)).bind fun x4 =>
      (wrA s 19 x3 v5).bind fun s5 =>
      (wrA s5 20 x3 x4).bind fun s6 =>
      (wrA s6 21 x3 (1 : Int32)).bind fun s7 =>
      f_pushFrame_142 k72 n v1 v4 v5 v6 v7 x4 (0 : Int32) s7
    else
      f_pushFrame_202 n v1 v4 v6 s
  else
    f_pushFrame_202 n v1 v4 v6 s
set_option maxRecDepth 65536 in
set_option maxHeartbeats 4000000 in
theorem okg15_72 (l : Launch) (Z : State) (a0 : Array Value) (hw : HW a0 Z) (n0 : Nat) (k72 : Int32 → Int32 → Int32 → Int32 → Int32 → St → Option (St)) (hk72 : ∀ (v1 : Int32) (v4 : Int32) (v5 : Int32) (v6 : Int32) (v7 : Int32) (s : St) (r : St), k72 v1 v4 v5 v6 v7 s = some r → W15 l Z n0 (P15 r) 0 0 72 [.val (.ref 0), .val (.int v1), .unset, .unset, .val (.int v4), .val (.int v5), .val (.int v6), .val (.int v7), .unset, .unset, .unset, .unset] [] (Hb 0 s)) (n : Nat) (v1 : Int32) (v4 : Int32) (v5 : Int32) (v6 : Int32) (v7 : Int32) (s : St) (r : St) (h : g_pushFrame_72 k72 n v1 v4 v5 v6 v7 s = some r) : W15 l Z n0 (P15 r) 0 0 72 [.val (.ref 0), .val (.int v1), .unset, .unset, .val (.int v4), .val (.int v5), .val (.int v6), .val (.int v7), .unset, .unset, .unset, .unset] [] (Hb 0 s) := by
  unfold g_pushFrame_72 at h
  refine WP.iload d15_72 rfl ?_
  refine WP.iload d15_74 rfl ?_
  rcases ite_e h with ⟨hc1, h⟩ | ⟨hc1, h⟩
  ·
    refine WP.icmpN d15_76 (XT.ii_ge_f hc1) ?_
    refine WP.iload d15_79 rfl ?_
    refine WP.bipush (8 : Int32) d15_81 rfl ?_
    rcases ite_e h with ⟨hc2, h⟩ | ⟨hc2, h⟩
    ·
      refine WP.icmpN d15_83 (XT.ii_ge_f hc2) ?_
      refine WP.aloadN d15_86 rfl ?_
      refine WP.getfield (i := 0) (j := 36) d15_87 (hw _ m_169) rfl rfl rfl ?_
      refine WP.iload d15_90 rfl ?_
      refine WP.iadd d15_92 ?_
      refine WP.sipush (4095 : Int32) d15_93 rfl ?_
      refine WP.iand d15_96 ?_
      obtain ⟨x3, ex3, h⟩ := lt_e h
      refine WP.istore (L' := [.val (.ref 0), .val (.int v1), .unset, .unset, .val (.int v4), .val (.int v5), .val (.int v6), .val (.int v7), .val (.int x3), .unset, .unset, .unset]) d15_97 (leb rfl) (by subst ex3; rfl) ?_
      refine WP.aloadN d15_99 rfl ?_
      refine WP.getfield (i := 0) (j := 22) d15_100 (hw _ m_33) rfl rfl rfl ?_
      refine WP.iloadN d15_103 rfl ?_
      refine WP.bipush (8 : Int32) d15_104 rfl ?_
      refine WP.imul d15_106 ?_
      refine WP.iload d15_107 rfl ?_
      refine WP.iadd d15_109 ?_
      obtain ⟨x4, hx4, h⟩ := Option.bind_eq_some_iff.mp h
      refine WP.iaload (i := 12) d15_110 rfl hx4 ?_
      refine WP.istore (L' := [.val (.ref 0), .val (.int v1), .unset, .unset, .val (.int v4), .val (.int v5), .val (.int v6), .val (.int v7), .val (.int x3), .val (.int x4), .unset, .unset]) d15_111 (leb rfl) rfl ?_
      refine WP.aloadN d15_113 rfl ?_
      refine WP.getfield (i := 0) (j := 33) d15_114 (hw _ m_49) rfl rfl rfl ?_
      refine WP.iload d15_117 rfl ?_
      refine WP.iload d15_119 rfl ?_
      obtain ⟨s5, hs5, h⟩ := Option.bind_eq_some_iff.mp h
      obtain ⟨ys5, gs5, es5⟩ := wrA_e hs5
      refine WP.iastore (i := 20) (xs := gA s 19) (H' := (Hb 0 s5)) d15_121 rfl (leb rfl) gs5 (by subst es5; rfl) ?_
      refine WP.aloadN d15_122 rfl ?_
      refine WP.getfield (i := 0) (j := 34) d15_123 (hw _ m_51) rfl rfl rfl ?_
      refine WP.iload d15_126 rfl ?_
      refine WP.iload d15_128 rfl ?_
      obtain ⟨s6, hs6, h⟩ := Option.bind_eq_some_iff.mp h
      obtain ⟨ys6, gs6, es6⟩ := wrA_e hs6
      refine WP.iastore (i := 21) (xs := gA s5 20) (H' := (Hb 0 s6)) d15_130 rfl (leb rfl) gs6 (by subst es6; rfl) ?_
      refine WP.aloadN d15_131 rfl ?_
      refine WP.getfield (i := 0) (j := 35) d15_132 (hw _ m_53) rfl rfl rfl ?_
      refine WP.iload d15_135 rfl ?_
      refine WP.iconst (1 : Int32) d15_137 rfl ?_
      obtain ⟨s7, hs7, h⟩ := Option.bind_eq_some_iff.mp h
      obtain ⟨ys7, gs7, es7⟩ := wrA_e hs7
      refine WP.bastore (i := 22) (xs := gA s6 21) (H' := (Hb 0 s7)) d15_138 rfl (leb rfl) gs7 (by subst es7; rfl) ?_
      refine WP.iconst (0 : Int32) d15_139 rfl ?_
      refine WP.istore (L' := [.val (.ref 0), .val (.int v1), .unset, .unset, .val (.int v4), .val (.int v5), .val (.int v6), .val (.int v7), .val (.int x3), .val (.int x4), .val (.int (0 : Int32)), .unset]) d15_140 (leb rfl) rfl ?_
      exact WP.weak (L' := [.val (.ref 0), .val (.int v1), .unset, .unset, .val (.int v4), .val (.int v5), .val (.int v6), .val (.int v7), .unset, .val (.int x4), .val (.int (0 : Int32)), .unset]) ⟨rfl, rfl, rfl, rfl, rfl, rfl, rfl, rfl, trivial⟩ (ok15_142 l Z a0 hw n0 _ hk72 n v1 v4 v5 v6 v7 x4 (0 : Int32) s7 _ h)
    ·
      refine WP.icmpY (pc' := 202) d15_83 (XT.ii_ge_t hc2) (by decide) rfl ?_
      exact WP.weak (L' := [.val (.ref 0), .val (.int v1), .unset, .unset, .val (.int v4), .unset, .val (.int v6), .unset, .unset, .unset, .unset, .unset]) ⟨rfl, rfl, rfl, rfl, trivial⟩ (ok15_202 l Z a0 hw n0 n v1 v4 v6 s _ h)
  ·
    refine WP.icmpY (pc' := 202) d15_76 (XT.ii_ge_t hc1) (by decide) rfl ?_
    exact WP.weak (L' := [.val (.ref 0), .val (.int v1), .unset, .unset, .val (.int v4), .unset, .val (.int v6), .unset, .unset, .unset, .unset, .unset]) ⟨rfl, rfl, rfl, rfl, trivial⟩ (ok15_202 l Z a0 hw n0 n v1 v4 v6 s _ h)
def f_pushFrame_72 : Nat → Int32 → Int32 → Int32 → Int32 → Int32 → St → Option (St)
  | 0 => fun _ _ _ _ _ _ => none
  | n + 1 => g_pushFrame_72 (f_pushFrame_72 n) n
theorem ok15_72 (l : Launch) (Z : State) (a0 : Array Value) (hw : HW a0 Z) (n0 : Nat) : ∀ (n : Nat) (v1 : Int32) (v4 : Int32) (v5 : Int32) (v6 : Int32) (v7 : Int32) (s : St) (r : St), f_pushFrame_72 n v1 v4 v5 v6 v7 s = some r → W15 l Z n0 (P15 r) 0 0 72 [.val (.ref 0), .val (.int v1), .unset, .unset, .val (.int v4), .val (.int v5), .val (.int v6), .val (.int v7), .unset, .unset, .unset, .unset] [] (Hb 0 s)
  | 0, v1, v4, v5, v6, v7, s, r, h => nomatch (show none = some r from h)
  | n + 1, v1, v4, v5, v6, v7, s, r, h => okg15_72 l Z a0 hw n0 _ (ok15_72 l Z a0 hw n0 n) n v1 v4 v5 v6 v7 s r h
def f_pushFrame (n : Nat) (p1 : Int32) (p2 : Int32) (p3 : Int32) (s : St) : Option (St) :=
  lt ((gI s 15) &&& (7 : Int32)) fun x1 =>
  (wrA s 22 x1 p1).bind fun s2 =>
  (wrA s2 23 x1 (gI s2 14)).bind fun s3 =>
  (wrA s3 24 x1 (gI s3 16)).bind fun s4 =>
  (wrA s4 25 x1 p2).bind fun s5 =>
  (wrA s5 26 x1 p3).bind fun s6 =>
  lt (gI s6 16) fun x7 =>
  (rd (gA s6 6) p1).bind fun x8 =>
  f_pushFrame_72 n p1 x1 x7 x8 (0 : Int32) s6
set_option maxRecDepth 65536 in
set_option maxHeartbeats 4000000 in
theorem ok15 (l : Launch) (Z : State) (a0 : Array Value) (hw : HW a0 Z) (n : Nat) (p1 : Int32) (p2 : Int32) (p3 : Int32) (s : St) (r : St) (h : f_pushFrame n p1 p2 p3 s = some r) : CS l Z CN lay y15 prog_1_method_65_code 12 (none) R15 0 [.ref 0, .int p1, .int p2, .int p3] (Hb 0 s) (P15 r) := by
  refine CS.of_wp pn_cls (leb rfl) fun n0 => ?_
  show W15 l Z n0 (P15 r) 0 0 0 [.val (.ref 0), .val (.int p1), .val (.int p2), .val (.int p3), .unset, .unset, .unset, .unset, .unset, .unset, .unset, .unset] [] (Hb 0 s)
  unfold f_pushFrame at h
  refine WP.aloadN d15_0 rfl ?_
  refine WP.getfield (i := 0) (j := 42) d15_1 (hw _ m_165) rfl rfl rfl ?_
  refine WP.bipush (7 : Int32) d15_4 rfl ?_
  refine WP.iand d15_6 ?_
  obtain ⟨x1, ex1, h⟩ := lt_e h
  refine WP.istore (L' := [.val (.ref 0), .val (.int p1), .val (.int p2), .val (.int p3), .val (.int x1), .unset, .unset, .unset, .unset, .unset, .unset, .unset]) d15_7 (leb rfl) (by subst ex1; rfl) ?_
  refine WP.aloadN d15_9 rfl ?_
  refine WP.getfield (i := 0) (j := 37) d15_10 (hw _ m_55) rfl rfl rfl ?_
  refine WP.iload d15_13 rfl ?_
  refine WP.iloadN d15_15 rfl ?_
  obtain ⟨s2, hs2, h⟩ := Option.bind_eq_some_iff.mp h
  obtain ⟨ys2, gs2, es2⟩ := wrA_e hs2
  refine WP.iastore (i := 23) (xs := gA s 22) (H' := (Hb 0 s2)) d15_16 rfl (leb rfl) gs2 (by subst es2; rfl) ?_
  refine WP.aloadN d15_17 rfl ?_
  refine WP.getfield (i := 0) (j := 38) d15_18 (hw _ m_57) rfl rfl rfl ?_
  refine WP.iload d15_21 rfl ?_
  refine WP.aloadN d15_23 rfl ?_
  refine WP.getfield (i := 0) (j := 36) d15_24 (hw _ m_169) rfl rfl rfl ?_
  obtain ⟨s3, hs3, h⟩ := Option.bind_eq_some_iff.mp h
  obtain ⟨ys3, gs3, es3⟩ := wrA_e hs3
  refine WP.iastore (i := 24) (xs := gA s2 23) (H' := (Hb 0 s3)) d15_27 rfl (leb rfl) gs3 (by subst es3; rfl) ?_
  refine WP.aloadN d15_28 rfl ?_
  refine WP.getfield (i := 0) (j := 39) d15_29 (hw _ m_59) rfl rfl rfl ?_
  refine WP.iload d15_32 rfl ?_
  refine WP.aloadN d15_34 rfl ?_
  refine WP.getfield (i := 0) (j := 43) d15_35 (hw _ m_167) rfl rfl rfl ?_
  obtain ⟨s4, hs4, h⟩ := Option.bind_eq_some_iff.mp h
  obtain ⟨ys4, gs4, es4⟩ := wrA_e hs4
  refine WP.iastore (i := 25) (xs := gA s3 24) (H' := (Hb 0 s4)) d15_38 rfl (leb rfl) gs4 (by subst es4; rfl) ?_
  refine WP.aloadN d15_39 rfl ?_
  refine WP.getfield (i := 0) (j := 40) d15_40 (hw _ m_61) rfl rfl rfl ?_
  refine WP.iload d15_43 rfl ?_
  refine WP.iloadN d15_45 rfl ?_
  obtain ⟨s5, hs5, h⟩ := Option.bind_eq_some_iff.mp h
  obtain ⟨ys5, gs5, es5⟩ := wrA_e hs5
  refine WP.iastore (i := 26) (xs := gA s4 25) (H' := (Hb 0 s5)) d15_46 rfl (leb rfl) gs5 (by subst es5; rfl) ?_
  refine WP.aloadN d15_47 rfl ?_
  refine WP.getfield (i := 0) (j := 41) d15_48 (hw _ m_63) rfl rfl rfl ?_
  refine WP.iload d15_51 rfl ?_
  refine WP.iloadN d15_53 rfl ?_
  obtain ⟨s6, hs6, h⟩ := Option.bind_eq_some_iff.mp h
  obtain ⟨ys6, gs6, es6⟩ := wrA_e hs6
  refine WP.iastore (i := 27) (xs := gA s5 26) (H' := (Hb 0 s6)) d15_54 rfl (leb rfl) gs6 (by subst es6; rfl) ?_
  refine WP.aloadN d15_55 rfl ?_
  refine WP.getfield (i := 0) (j := 43) d15_56 (hw _ m_167) rfl rfl rfl ?_
  obtain ⟨x7, ex7, h⟩ := lt_e h
  refine WP.istore (L' := [.val (.ref 0), .val (.int p1), .val (.int p2), .val (.int p3), .val (.int x1), .val (.int x7), .unset, .unset, .unset, .unset, .unset, .unset]) d15_59 (leb rfl) (by subst ex7; rfl) ?_
  refine WP.aloadN d15_61 rfl ?_
  refine WP.getfield (i := 0) (j := 17) d15_62 (hw _ m_23) rfl rfl rfl ?_
  refine WP.iloadN d15_65 rfl ?_
  obtain ⟨x8, hx8, h⟩ := Option.bind_eq_some_iff.mp h
  refine WP.iaload (i := 7) d15_66 rfl hx8 ?_
  refine WP.istore (L' := [.val (.ref 0), .val (.int p1), .val (.int p2), .val (.int p3), .val (.int x1), .val (.int x7), .val (.int x8), .unset, .unset, .unset, .unset, .unset]) d15_67 (leb rfl) rfl ?_
  refine WP.iconst (0 : Int32) d15_69 rfl ?_
  refine WP.istore (L' := [.val (.ref 0), .val (.int p1), .val (.int p2), .val (.int p3), .val (.int x1), .val (.int x7), .val (.int x8), .val (.int (0 : Int32)), .unset, .unset, .unset, .unset]) d15_70 (leb rfl) rfl ?_
  exact WP.weak (L' := [.val (.ref 0), .val (.int p1), .unset, .unset, .val (.int x1), .val (.int x7), .val (.int x8), .val (.int (0 : Int32)), .unset, .unset, .unset, .unset]) ⟨rfl, rfl, rfl, rfl, rfl, rfl, trivial⟩ (ok15_72 l Z a0 hw n0 n p1 x1 x7 x8 (0 : Int32) s6 _ h)
theorem d18_0 : dc prog_1_method_66_code 0 (.aload_n 0) 1 := by decide +kernel
theorem d18_1 : dc prog_1_method_66_code 1 (.getfield 131) 3 := by decide +kernel
theorem d18_4 : dc prog_1_method_66_code 4 (.iconst 1) 1 := by decide +kernel
theorem d18_5 : dc prog_1_method_66_code 5 (.isub) 1 := by decide +kernel
theorem d18_6 : dc prog_1_method_66_code 6 (.istore 4) 2 := by decide +kernel
theorem d18_8 : dc prog_1_method_66_code 8 (.iload 4) 2 := by decide +kernel
theorem d18_10 : dc prog_1_method_66_code 10 (.ifCond .ge 10) 3 := by decide +kernel
theorem d18_13 : dc prog_1_method_66_code 13 (.aload_n 0) 1 := by decide +kernel
theorem d18_14 : dc prog_1_method_66_code 14 (.iconst 0) 1 := by decide +kernel
theorem d18_15 : dc prog_1_method_66_code 15 (.putfield 143) 3 := by decide +kernel
theorem d18_18 : dc prog_1_method_66_code 18 (.iconst (-1)) 1 := by decide +kernel
theorem d18_19 : dc prog_1_method_66_code 19 (.ireturn) 1 := by decide +kernel
theorem d18_20 : dc prog_1_method_66_code 20 (.aload_n 0) 1 := by decide +kernel
theorem d18_21 : dc prog_1_method_66_code 21 (.getfield 77) 3 := by decide +kernel
theorem d18_24 : dc prog_1_method_66_code 24 (.iload 4) 2 := by decide +kernel
theorem d18_26 : dc prog_1_method_66_code 26 (.iaload) 1 := by decide +kernel
theorem d18_27 : dc prog_1_method_66_code 27 (.iconst 3) 1 := by decide +kernel
theorem d18_28 : dc prog_1_method_66_code 28 (.iand) 1 := by decide +kernel
theorem d18_29 : dc prog_1_method_66_code 29 (.istore 5) 2 := by decide +kernel
theorem d18_31 : dc prog_1_method_66_code 31 (.iconst 0) 1 := by decide +kernel
theorem d18_32 : dc prog_1_method_66_code 32 (.istore 6) 2 := by decide +kernel
theorem d18_34 : dc prog_1_method_66_code 34 (.iload 6) 2 := by decide +kernel
theorem d18_36 : dc prog_1_method_66_code 36 (.aload_n 0) 1 := by decide +kernel
theorem d18_37 : dc prog_1_method_66_code 37 (.getfield 29) 3 := by decide +kernel
theorem d18_40 : dc prog_1_method_66_code 40 (.iload 5) 2 := by decide +kernel
theorem d18_42 : dc prog_1_method_66_code 42 (.iaload) 1 := by decide +kernel
theorem d18_43 : dc prog_1_method_66_code 43 (.if_icmp .ge 36) 3 := by decide +kernel
theorem d18_46 : dc prog_1_method_66_code 46 (.iload 6) 2 := by decide +kernel
theorem d18_48 : dc prog_1_method_66_code 48 (.bipush 8) 2 := by decide +kernel
theorem d18_50 : dc prog_1_method_66_code 50 (.if_icmp .ge 29) 3 := by decide +kernel
theorem d18_53 : dc prog_1_method_66_code 53 (.aload_n 0) 1 := by decide +kernel
theorem d18_54 : dc prog_1_method_66_code 54 (.getfield 74) 3 := by decide +kernel
theorem d18_57 : dc prog_1_method_66_code 57 (.aload_n 0) 1 := by decide +kernel
theorem d18_58 : dc prog_1_method_66_code 58 (.getfield 80) 3 := by decide +kernel
theorem d18_61 : dc prog_1_method_66_code 61 (.iload 4) 2 := by decide +kernel
theorem d18_63 : dc prog_1_method_66_code 63 (.iaload) 1 := by decide +kernel
theorem d18_64 : dc prog_1_method_66_code 64 (.iload 6) 2 := by decide +kernel
theorem d18_66 : dc prog_1_method_66_code 66 (.iadd) 1 := by decide +kernel
theorem d18_67 : dc prog_1_method_66_code 67 (.sipush 4095) 3 := by decide +kernel
theorem d18_70 : dc prog_1_method_66_code 70 (.iand) 1 := by decide +kernel
theorem d18_71 : dc prog_1_method_66_code 71 (.iconst 0) 1 := by decide +kernel
theorem d18_72 : dc prog_1_method_66_code 72 (.bastore) 1 := by decide +kernel
theorem d18_73 : dc prog_1_method_66_code 73 (.iinc 6 1) 3 := by decide +kernel
theorem d18_76 : dc prog_1_method_66_code 76 (.goto (-42)) 3 := by decide +kernel
theorem d18_79 : dc prog_1_method_66_code 79 (.aload_n 0) 1 := by decide +kernel
theorem d18_80 : dc prog_1_method_66_code 80 (.aload_n 0) 1 := by decide +kernel
theorem d18_81 : dc prog_1_method_66_code 81 (.getfield 83) 3 := by decide +kernel
theorem d18_84 : dc prog_1_method_66_code 84 (.iload 4) 2 := by decide +kernel
theorem d18_86 : dc prog_1_method_66_code 86 (.iaload) 1 := by decide +kernel
theorem d18_87 : dc prog_1_method_66_code 87 (.putfield 134) 3 := by decide +kernel
theorem d18_90 : dc prog_1_method_66_code 90 (.aload_n 0) 1 := by decide +kernel
theorem d18_91 : dc prog_1_method_66_code 91 (.iload 4) 2 := by decide +kernel
theorem d18_93 : dc prog_1_method_66_code 93 (.putfield 131) 3 := by decide +kernel
theorem d18_96 : dc prog_1_method_66_code 96 (.iload 4) 2 := by decide +kernel
theorem d18_98 : dc prog_1_method_66_code 98 (.ifCond .ne 57) 3 := by decide +kernel
theorem d18_101 : dc prog_1_method_66_code 101 (.aload_n 0) 1 := by decide +kernel
theorem d18_102 : dc prog_1_method_66_code 102 (.iconst 0) 1 := by decide +kernel
theorem d18_103 : dc prog_1_method_66_code 103 (.putfield 150) 3 := by decide +kernel
theorem d18_106 : dc prog_1_method_66_code 106 (.aload_n 0) 1 := by decide +kernel
theorem d18_107 : dc prog_1_method_66_code 107 (.iload_n 1) 1 := by decide +kernel
theorem d18_108 : dc prog_1_method_66_code 108 (.iconst 1) 1 := by decide +kernel
theorem d18_109 : dc prog_1_method_66_code 109 (.if_icmp .ne 7) 3 := by decide +kernel
theorem d18_112 : dc prog_1_method_66_code 112 (.iconst 1) 1 := by decide +kernel
theorem d18_113 : dc prog_1_method_66_code 113 (.goto 4) 3 := by decide +kernel
theorem d18_116 : dc prog_1_method_66_code 116 (.iconst 0) 1 := by decide +kernel
theorem d18_117 : dc prog_1_method_66_code 117 (.putfield 168) 3 := by decide +kernel
theorem d18_120 : dc prog_1_method_66_code 120 (.aload_n 0) 1 := by decide +kernel
theorem d18_121 : dc prog_1_method_66_code 121 (.iload_n 2) 1 := by decide +kernel
theorem d18_122 : dc prog_1_method_66_code 122 (.putfield 171) 3 := by decide +kernel
theorem d18_125 : dc prog_1_method_66_code 125 (.aload_n 0) 1 := by decide +kernel
theorem d18_126 : dc prog_1_method_66_code 126 (.iload_n 1) 1 := by decide +kernel
theorem d18_127 : dc prog_1_method_66_code 127 (.iconst 1) 1 := by decide +kernel
theorem d18_128 : dc prog_1_method_66_code 128 (.if_icmp .ne 16) 3 := by decide +kernel
theorem d18_131 : dc prog_1_method_66_code 131 (.aload_n 0) 1 := by decide +kernel
theorem d18_132 : dc prog_1_method_66_code 132 (.getfield 71) 3 := by decide +kernel
theorem d18_135 : dc prog_1_method_66_code 135 (.iload_n 3) 1 := by decide +kernel
theorem d18_136 : dc prog_1_method_66_code 136 (.sipush 4095) 3 := by decide +kernel
theorem d18_139 : dc prog_1_method_66_code 139 (.iand) 1 := by decide +kernel
theorem d18_140 : dc prog_1_method_66_code 140 (.iaload) 1 := by decide +kernel
theorem d18_141 : dc prog_1_method_66_code 141 (.goto 4) 3 := by decide +kernel
theorem d18_144 : dc prog_1_method_66_code 144 (.iconst 0) 1 := by decide +kernel
theorem d18_145 : dc prog_1_method_66_code 145 (.putfield 174) 3 := by decide +kernel
theorem d18_148 : dc prog_1_method_66_code 148 (.aload_n 0) 1 := by decide +kernel
theorem d18_149 : dc prog_1_method_66_code 149 (.iconst 0) 1 := by decide +kernel
theorem d18_150 : dc prog_1_method_66_code 150 (.putfield 143) 3 := by decide +kernel
theorem d18_153 : dc prog_1_method_66_code 153 (.iconst (-1)) 1 := by decide +kernel
theorem d18_154 : dc prog_1_method_66_code 154 (.ireturn) 1 := by decide +kernel
theorem d18_155 : dc prog_1_method_66_code 155 (.aload_n 0) 1 := by decide +kernel
theorem d18_156 : dc prog_1_method_66_code 156 (.getfield 89) 3 := by decide +kernel
theorem d18_159 : dc prog_1_method_66_code 159 (.iload 4) 2 := by decide +kernel
theorem d18_161 : dc prog_1_method_66_code 161 (.iaload) 1 := by decide +kernel
theorem d18_162 : dc prog_1_method_66_code 162 (.ifCond .lt 17) 3 := by decide +kernel
theorem d18_165 : dc prog_1_method_66_code 165 (.aload_n 0) 1 := by decide +kernel
theorem d18_166 : dc prog_1_method_66_code 166 (.aload_n 0) 1 := by decide +kernel
theorem d18_167 : dc prog_1_method_66_code 167 (.getfield 89) 3 := by decide +kernel
theorem d18_170 : dc prog_1_method_66_code 170 (.iload 4) 2 := by decide +kernel
theorem d18_172 : dc prog_1_method_66_code 172 (.iaload) 1 := by decide +kernel
theorem d18_173 : dc prog_1_method_66_code 173 (.iload_n 1) 1 := by decide +kernel
theorem d18_174 : dc prog_1_method_66_code 174 (.iload_n 2) 1 := by decide +kernel
theorem d18_175 : dc prog_1_method_66_code 175 (.iload_n 3) 1 := by decide +kernel
theorem d18_176 : dc prog_1_method_66_code 176 (.invokevirtual 329) 3 := by decide +kernel
theorem d18_179 : dc prog_1_method_66_code 179 (.aload_n 0) 1 := by decide +kernel
theorem d18_180 : dc prog_1_method_66_code 180 (.getfield 86) 3 := by decide +kernel
theorem d18_183 : dc prog_1_method_66_code 183 (.iload 4) 2 := by decide +kernel
theorem d18_185 : dc prog_1_method_66_code 185 (.iaload) 1 := by decide +kernel
theorem d18_186 : dc prog_1_method_66_code 186 (.ireturn) 1 := by decide +kernel
abbrev y18 : MethodName := ⟨"FatPointerC", "doReturn", "(III)I"⟩
theorem hy18 : y18.cls ≠ "java/lang/invoke/MethodHandle" ∧ y18.cls ≠ "java/lang/invoke/VarHandle" := by decide
theorem pd18 : parseMethodDescriptor y18.desc = some ⟨[.int, .int, .int], some .int⟩ := by decide +kernel
abbrev R18 : Room := { frames := 0, cells := 0, slots := 0, locals := 0 }
abbrev P18 (r : Int32 × St) : Option Value → List OwnC → Prop := fun v H' => v = some (.int r.1) ∧ H' = (Hb 0 r.2)
abbrev W18 (l : Launch) (Z : State) (n0 : Nat) (Q : Option Value → List OwnC → Prop) (k n pc : Nat) (L : List Slot) (S : List Value) (H : List OwnC) : Prop := WP l Z CN lay "FatPointerC" "doReturn" prog_1_method_66_code 7 (some FieldType.int) R18 n0 0 Q k n pc L S H
def f_doReturn_145 (n : Nat) (t0 : Int32) (s : St) : Option (Int32 × St) :=
  lt (sI s 9 t0) fun s1 =>
  lt (sI s1 18 (0 : Int32)) fun s2 =>
  some ((-1 : Int32), s2)
set_option maxRecDepth 65536 in
set_option maxHeartbeats 4000000 in
theorem ok18_145 (l : Launch) (Z : State) (a0 : Array Value) (hw : HW a0 Z) (n0 : Nat) (n : Nat) (t0 : Int32) (s : St) (r : Int32 × St) (h : f_doReturn_145 n t0 s = some r) : W18 l Z n0 (P18 r) 0 0 145 [.val (.ref 0), .unset, .unset, .unset, .unset, .unset, .unset] [.int t0, .ref 0] (Hb 0 s) := by
  unfold f_doReturn_145 at h
  obtain ⟨s1, es1, h⟩ := lt_e h
  refine WP.putI (i := 0) (j := 11) (H' := (Hb 0 s1)) d18_145 (hw _ m_95) (Or.inl (hw _ m_96)) (hw _ m_1) (hlay hw) rfl rfl rfl (leb rfl) (by subst es1; rfl) ?_
  refine WP.aloadN d18_148 rfl ?_
  refine WP.iconst (0 : Int32) d18_149 rfl ?_
  obtain ⟨s2, es2, h⟩ := lt_e h
  refine WP.putZ (i := 0) (j := 45) (H' := (Hb 0 s2)) d18_150 (hw _ m_173) (Or.inl (hw _ m_174)) (hw _ m_1) (hlay hw) rfl rfl rfl (leb rfl) (by subst es2; rfl) ?_
  refine WP.iconst (-1 : Int32) d18_153 rfl ?_
  cases h
  exact WP.ireturn d18_154 rfl (leb rfl) (leb rfl) ⟨rfl, rfl⟩
def f_doReturn_117 (n : Nat) (v1 : Int32) (v2 : Int32) (v3 : Int32) (t0 : Int32) (s : St) : Option (Int32 × St) :=
  lt (sI s 7 t0) fun s1 =>
  lt (sI s1 8 v2) fun s2 =>
  if v1 = (1 : Int32) then
    (rd (gA s2 20) (v3 &&& (4095 : Int32))).bind fun x4 =>
    f_doReturn_145 n x4 s2
  else
    f_doReturn_145 n (0 : Int32) s2
set_option maxRecDepth 65536 in
set_option maxHeartbeats 4000000 in
theorem ok18_117 (l : Launch) (Z : State) (a0 : Array Value) (hw : HW a0 Z) (n0 : Nat) (n : Nat) (v1 : Int32) (v2 : Int32) (v3 : Int32) (t0 : Int32) (s : St) (r : Int32 × St) (h : f_doReturn_117 n v1 v2 v3 t0 s = some r) : W18 l Z n0 (P18 r) 0 0 117 [.val (.ref 0), .val (.int v1), .val (.int v2), .val (.int v3), .unset, .unset, .unset] [.int t0, .ref 0] (Hb 0 s) := by
  unfold f_doReturn_117 at h
  obtain ⟨s1, es1, h⟩ := lt_e h
  refine WP.putI (i := 0) (j := 9) (H' := (Hb 0 s1)) d18_117 (hw _ m_91) (Or.inl (hw _ m_92)) (hw _ m_1) (hlay hw) rfl rfl rfl (leb rfl) (by subst es1; rfl) ?_
  refine WP.aloadN d18_120 rfl ?_
  refine WP.iloadN d18_121 rfl ?_
  obtain ⟨s2, es2, h⟩ := lt_e h
  refine WP.putI (i := 0) (j := 10) (H' := (Hb 0 s2)) d18_122 (hw _ m_93) (Or.inl (hw _ m_94)) (hw _ m_1) (hlay hw) rfl rfl rfl (leb rfl) (by subst es2; rfl) ?_
  refine WP.aloadN d18_125 rfl ?_
  refine WP.iloadN d18_126 rfl ?_
  refine WP.iconst (1 : Int32) d18_127 rfl ?_
  rcases ite_e h with ⟨hc3, h⟩ | ⟨hc3, h⟩
  ·
    refine WP.icmpN d18_128 (XT.ii_ne_f hc3) ?_
    refine WP.aloadN d18_131 rfl ?_
    refine WP.getfield (i := 0) (j := 34) d18_132 (hw _ m_51) rfl rfl rfl ?_
    refine WP.iloadN d18_135 rfl ?_
    refine WP.sipush (4095 : Int32) d18_136 rfl ?_
    refine WP.iand d18_139 ?_
    obtain ⟨x4, hx4, h⟩ := Option.bind_eq_some_iff.mp h
    refine WP.iaload (i := 21) d18_140 rfl hx4 ?_
    refine WP.goto (pc' := 145) d18_141 (by decide) rfl ?_
    exact WP.weak (L' := [.val (.ref 0), .unset, .unset, .unset, .unset, .unset, .unset]) ⟨rfl, trivial⟩ (ok18_145 l Z a0 hw n0 n x4 s2 _ h)
  ·
    refine WP.icmpY (pc' := 144) d18_128 (XT.ii_ne_t hc3) (by decide) rfl ?_
    refine WP.iconst (0 : Int32) d18_144 rfl ?_
    exact WP.weak (L' := [.val (.ref 0), .unset, .unset, .unset, .unset, .unset, .unset]) ⟨rfl, trivial⟩ (ok18_145 l Z a0 hw n0 n (0 : Int32) s2 _ h)
def f_doReturn_79 (n : Nat) (v1 : Int32) (v2 : Int32) (v3 : Int32) (v4 : Int32) (s : St) : Option (Int32 × St) :=
  (rd (gA s 24) v4).bind fun x1 =>
  lt (sI s 16 x1) fun s2 =>
  lt (sI s2 15 v4) fun s3 =>
  if v4 = 0 then
    lt (sI s3 4 (0 : Int32)) fun s5 =>
    if v1 = (1 : Int32) then
      f_doReturn_117 n v1 v2 v3 (1 : Int32) s5
    else
      f_doReturn_117 n v1 v2 v3 (0 : Int32) s5
  else
    (rd (gA s3 26) v4).bind fun x7 =>
    if x7 < 0 then
      (rd (gA s3 25) v4).bind fun x9 =>
      some (x9, s3)
    else
      (rd (gA s3 26) v4).bind fun x10 =>
      none
set_option maxRecDepth 65536 in
set_option maxHeartbeats 4000000 in
theorem ok18_79 (l : Launch) (Z : State) (a0 : Array Value) (hw : HW a0 Z) (n0 : Nat) (n : Nat) (v1 : Int32) (v2 : Int32) (v3 : Int32) (v4 : Int32) (s : St) (r : Int32 × St) (h : f_doReturn_79 n v1 v2 v3 v4 s = some r) : W18 l Z n0 (P18 r) 0 0 79 [.val (.ref 0), .val (.int v1), .val (.int v2), .val (.int v3), .val (.int v4), .unset, .unset] [] (Hb 0 s) := by
  unfold f_doReturn_79 at h
  refine WP.aloadN d18_79 rfl ?_
  refine WP.aloadN d18_80 rfl ?_
  refine WP.getfield (i := 0) (j := 39) d18_81 (hw _ m_59) rfl rfl rfl ?_
  refine WP.iload d18_84 rfl ?_
  obtain ⟨x1, hx1, h⟩ := Option.bind_eq_some_iff.mp h
  refine WP.iaload (i := 25) d18_86 rfl hx1 ?_
  obtain ⟨s2, es2, h⟩ := lt_e h
  refine WP.putI (i := 0) (j := 43) (H' := (Hb 0 s2)) d18_87 (hw _ m_167) (Or.inl (hw _ m_168)) (hw _ m_1) (hlay hw) rfl rfl rfl (leb rfl) (by subst es2; rfl) ?_
  refine WP.aloadN d18_90 rfl ?_
  refine WP.iload d18_91 rfl ?_
  obtain ⟨s3, es3, h⟩ := lt_e h
  refine WP.putI (i := 0) (j := 42) (H' := (Hb 0 s3)) d18_93 (hw _ m_165) (Or.inl (hw _ m_166)) (hw _ m_1) (hlay hw) rfl rfl rfl (leb rfl) (by subst es3; rfl) ?_
  refine WP.iload d18_96 rfl ?_
  rcases ite_e h with ⟨hc4, h⟩ | ⟨hc4, h⟩
  ·
    refine WP.ifN d18_98 (XT.i0_ne_f hc4) ?_
    refine WP.aloadN d18_101 rfl ?_
    refine WP.iconst (0 : Int32) d18_102 rfl ?_
    obtain ⟨s5, es5, h⟩ := lt_e h
    refine WP.putI (i := 0) (j := 6) (H' := (Hb 0 s5)) d18_103 (hw _ m_85) (Or.inl (hw _ m_86)) (hw _ m_1) (hlay hw) rfl rfl rfl (leb rfl) (by subst es5; rfl) ?_
    refine WP.aloadN d18_106 rfl ?_
    refine WP.iloadN d18_107 rfl ?_
    refine WP.iconst (1 : Int32) d18_108 rfl ?_
    rcases ite_e h with ⟨hc6, h⟩ | ⟨hc6, h⟩
    ·
      refine WP.icmpN d18_109 (XT.ii_ne_f hc6) ?_
      refine WP.iconst (1 : Int32) d18_112 rfl ?_
      refine WP.goto (pc' := 117) d18_113 (by decide) rfl ?_
      exact WP.weak (L' := [.val (.ref 0), .val (.int v1), .val (.int v2), .val (.int v3), .unset, .unset, .unset]) ⟨rfl, rfl, rfl, rfl, trivial⟩ (ok18_117 l Z a0 hw n0 n v1 v2 v3 (1 : Int32) s5 _ h)
    ·
      refine WP.icmpY (pc' := 116) d18_109 (XT.ii_ne_t hc6) (by decide) rfl ?_
      refine WP.iconst (0 : Int32) d18_116 rfl ?_
      exact WP.weak (L' := [.val (.ref 0), .val (.int v1), .val (.int v2), .val (.int v3), .unset, .unset, .unset]) ⟨rfl, rfl, rfl, rfl, trivial⟩ (ok18_117 l Z a0 hw n0 n v1 v2 v3 (0 : Int32) s5 _ h)
  ·
    refine WP.ifY (pc' := 155) d18_98 (XT.i0_ne_t hc4) (by decide) rfl ?_
    refine WP.aloadN d18_155 rfl ?_
    refine WP.getfield (i := 0) (j := 41) d18_156 (hw _ m_63) rfl rfl rfl ?_
    refine WP.iload d18_159 rfl ?_
    obtain ⟨x7, hx7, h⟩ := Option.bind_eq_some_iff.mp h
    refine WP.iaload (i := 27) d18_161 rfl hx7 ?_
    rcases ite_e h with ⟨hc8, h⟩ | ⟨hc8, h⟩
    ·
      refine WP.ifY (pc' := 179) d18_162 (XT.i0_lt_t hc8) (by decide) rfl ?_
      refine WP.aloadN d18_179 rfl ?_
      refine WP.getfield (i := 0) (j := 40) d18_180 (hw _ m_61) rfl rfl rfl ?_
      refine WP.iload d18_183 rfl ?_
      obtain ⟨x9, hx9, h⟩ := Option.bind_eq_some_iff.mp h
      refine WP.iaload (i := 26) d18_185 rfl hx9 ?_
      cases h
      exact WP.ireturn d18_186 rfl (leb rfl) (leb rfl) ⟨rfl, rfl⟩
    ·
      refine WP.ifN d18_162 (XT.i0_lt_f hc8) ?_
      refine WP.aloadN d18_165 rfl ?_
      refine WP.aloadN d18_166 rfl ?_
      refine WP.getfield (i := 0) (j := 41) d18_167 (hw _ m_63) rfl rfl rfl ?_
      refine WP.iload d18_170 rfl ?_
      obtain ⟨x10, hx10, h⟩ := Option.bind_eq_some_iff.mp h
      refine WP.iaload (i := 27) d18_172 rfl hx10 ?_
      refine WP.iloadN d18_173 rfl ?_
      refine WP.iloadN d18_174 rfl ?_
      refine WP.iloadN d18_175 rfl ?_
      cases h
def g_doReturn_34 (k34 : Int32 → Int32 → Int32 → Int32 → Int32 → Int32 → St → Option (Int32 × St)) (n : Nat) (v1 : Int32) (v2 : Int32) (v3 : Int32) (v4 : Int32) (v5 : Int32) (v6 : Int32) (s : St) : Option (Int32 × St) :=
  (rd (gA s 6) v5).bind fun x1 =>
  if v6 < x1 then
    if v6 < (8 : Int32) then
      (rd (gA s 23) v4).bind fun x4 =>
      (wrA s 21 ((x4 + v6) &&& (4095 : Int32)) (0 : Int32)).bind fun s5 =>
      lt (v6 + (1 : Int32)) fun x6 =>
      k34 v1 v2 v3 v4 v5 x6 s5
    else
      f_doReturn_79 n v1 v2 v3 v4 s
  else
    f_doReturn_79 n v1 v2 v3 v4 s
set_option maxRecDepth 65536 in
set_option maxHeartbeats 4000000 in
theorem okg18_34 (l : Launch) (Z : State) (a0 : Array Value) (hw : HW a0 Z) (n0 : Nat) (k34 : Int32 → Int32 → Int32 → Int32 → Int32 → Int32 → St → Option (Int32 × St)) (hk34 : ∀ (v1 : Int32) (v2 : Int32) (v3 : Int32) (v4 : Int32) (v5 : Int32) (v6 : Int32) (s : St) (r : Int32 × St), k34 v1 v2 v3 v4 v5 v6 s = some r → W18 l Z n0 (P18 r) 0 0 34 [.val (.ref 0), .val (.int v1), .val (.int v2), .val (.int v3), .val (.int v4), .val (.int v5), .val (.int v6)] [] (Hb 0 s)) (n : Nat) (v1 : Int32) (v2 : Int32) (v3 : Int32) (v4 : Int32) (v5 : Int32) (v6 : Int32) (s : St) (r : Int32 × St) (h : g_doReturn_34 k34 n v1 v2 v3 v4 v5 v6 s = some r) : W18 l Z n0 (P18 r) 0 0 34 [.val (.ref 0), .val (.int v1), .val (.int v2), .val (.int v3), .val (.int v4), .val (.int v5), .val (.int v6)] [] (Hb 0 s) := by
  unfold g_doReturn_34 at h
  refine WP.iload d18_34 rfl ?_
  refine WP.aloadN d18_36 rfl ?_
  refine WP.getfield (i := 0) (j := 17) d18_37 (hw _ m_23) rfl rfl rfl ?_
  refine WP.iload d18_40 rfl ?_
  obtain ⟨x1, hx1, h⟩ := Option.bind_eq_some_iff.mp h
  refine WP.iaload (i := 7) d18_42 rfl hx1 ?_
  rcases ite_e h with ⟨hc2, h⟩ | ⟨hc2, h⟩
  ·
    refine WP.icmpN d18_43 (XT.ii_ge_f hc2) ?_
    refine WP.iload d18_46 rfl ?_
    refine WP.bipush (8 : Int32) d18_48 rfl ?_
    rcases ite_e h with ⟨hc3, h⟩ | ⟨hc3, h⟩
    ·
      refine WP.icmpN d18_50 (XT.ii_ge_f hc3) ?_
      refine WP.aloadN d18_53 rfl ?_
      refine WP.getfield (i := 0) (j := 35) d18_54 (hw _ m_53) rfl rfl rfl ?_
      refine WP.aloadN d18_57 rfl ?_
      refine WP.getfield (i := 0) (j := 38) d18_58 (hw _ m_57) rfl rfl rfl ?_
      refine WP.iload d18_61 rfl ?_
      obtain ⟨x4, hx4, h⟩ := Option.bind_eq_some_iff.mp h
      refine WP.iaload (i := 24) d18_63 rfl hx4 ?_
      refine WP.iload d18_64 rfl ?_
      refine WP.iadd d18_66 ?_
      refine WP.sipush (4095 : Int32) d18_67 rfl ?_
      refine WP.iand d18_70 ?_
      refine WP.iconst (0 : Int32) d18_71 rfl ?_
      obtain ⟨s5, hs5, h⟩ := Option.bind_eq_some_iff.mp h
      obtain ⟨ys5, gs5, es5⟩ := wrA_e hs5
      refine WP.bastore (i := 22) (xs := gA s 21) (H' := (Hb 0 s5)) d18_72 rfl (leb rfl) gs5 (by subst es5; rfl) ?_
      obtain ⟨x6, ex6, h⟩ := lt_e h
      refine WP.iinc (L' := [.val (.ref 0), .val (.int v1), .val (.int v2), .val (.int v3), .val (.int v4), .val (.int v5), .val (.int x6)]) (1 : Int32) d18_73 rfl rfl (by subst ex6; rfl) ?_
      refine WP.goto (pc' := 34) d18_76 (by decide) rfl ?_
      exact WP.weak (L' := [.val (.ref 0), .val (.int v1), .val (.int v2), .val (.int v3), .val (.int v4), .val (.int v5), .val (.int x6)]) ⟨rfl, rfl, rfl, rfl, rfl, rfl, rfl, trivial⟩ (hk34 v1 v2 v3 v4 v5 x6 s5 _ h)
    ·
      refine WP.icmpY (pc' := 79) d18_50 (XT.ii_ge_t hc3) (by decide) rfl ?_
      exact WP.weak (L' := [.val (.ref 0), .val (.int v1), .val (.int v2), .val (.int v3), .val (.int v4), .unset, .unset]) ⟨rfl, rfl, rfl, rfl, rfl, trivial⟩ (ok18_79 l Z a0 hw n0 n v1 v2 v3 v4 s _ h)
  ·
    refine WP.icmpY (pc' := 79) d18_43 (XT.ii_ge_t hc2) (by decide) rfl ?_
    exact WP.weak (L' := [.val (.ref 0), .val (.int v1), .val (.int v2), .val (.int v3), .val (.int v4), .unset, .unset]) ⟨rfl, rfl, rfl, rfl, rfl, trivial⟩ (ok18_79 l Z a0 hw n0 n v1 v2 v3 v4 s _ h)
def f_doReturn_34 : Nat → Int32 → Int32 → Int32 → Int32 → Int32 → Int32 → St → Option (Int32 × St)
  | 0 => fun _ _ _ _ _ _ _ => none
  | n + 1 => g_doReturn_34 (f_doReturn_34 n) n
theorem ok18_34 (l : Launch) (Z : State) (a0 : Array Value) (hw : HW a0 Z) (n0 : Nat) : ∀ (n : Nat) (v1 : Int32) (v2 : Int32) (v3 : Int32) (v4 : Int32) (v5 : Int32) (v6 : Int32) (s : St) (r : Int32 × St), f_doReturn_34 n v1 v2 v3 v4 v5 v6 s = some r → W18 l Z n0 (P18 r) 0 0 34 [.val (.ref 0), .val (.int v1), .val (.int v2), .val (.int v3), .val (.int v4), .val (.int v5), .val (.int v6)] [] (Hb 0 s)
  | 0, v1, v2, v3, v4, v5, v6, s, r, h => nomatch (show none = some r from h)
  | n + 1, v1, v2, v3, v4, v5, v6, s, r, h => okg18_34 l Z a0 hw n0 _ (ok18_34 l Z a0 hw n0 n) n v1 v2 v3 v4 v5 v6 s r h
def f_doReturn (n : Nat) (p1 : Int32) (p2 : Int32) (p3 : Int32) (s : St) : Option (Int32 × St) :=
  lt ((gI s 15) - (1 : Int32)) fun x1 =>
  if x1 < 0 then
    lt (sI s 18 (0 : Int32)) fun s3 =>
    some ((-1 : Int32), s3)
  else
    (rd (gA s 22) x1).bind fun x4 =>
    lt (x4 &&& (3 : Int32)) fun x5 =>
    f_doReturn_34 n p1 p2 p3 x1 x5 (0 : Int32) s
set_option maxRecDepth 65536 in
set_option maxHeartbeats 4000000 in
theorem ok18 (l : Launch) (Z : State) (a0 : Array Value) (hw : HW a0 Z) (n : Nat) (p1 : Int32) (p2 : Int32) (p3 : Int32) (s : St) (r : Int32 × St) (h : f_doReturn n p1 p2 p3 s = some r) : CS l Z CN lay y18 prog_1_method_66_code 7 (some FieldType.int) R18 0 [.ref 0, .int p1, .int p2, .int p3] (Hb 0 s) (P18 r) := by
  refine CS.of_wp pn_cls (leb rfl) fun n0 => ?_
  show W18 l Z n0 (P18 r) 0 0 0 [.val (.ref 0), .val (.int p1), .val (.int p2), .val (.int p3), .unset, .unset, .unset] [] (Hb 0 s)
  unfold f_doReturn at h
  refine WP.aloadN d18_0 rfl ?_
  refine WP.getfield (i := 0) (j := 42) d18_1 (hw _ m_165) rfl rfl rfl ?_
  refine WP.iconst (1 : Int32) d18_4 rfl ?_
  refine WP.isub d18_5 ?_
  obtain ⟨x1, ex1, h⟩ := lt_e h
  refine WP.istore (L' := [.val (.ref 0), .val (.int p1), .val (.int p2), .val (.int p3), .val (.int x1), .unset, .unset]) d18_6 (leb rfl) (by subst ex1; rfl) ?_
  refine WP.iload d18_8 rfl ?_
  rcases ite_e h with ⟨hc2, h⟩ | ⟨hc2, h⟩
  ·
    refine WP.ifN d18_10 (XT.i0_ge_f hc2) ?_
    refine WP.aloadN d18_13 rfl ?_
    refine WP.iconst (0 : Int32) d18_14 rfl ?_
    obtain ⟨s3, es3, h⟩ := lt_e h
    refine WP.putZ (i := 0) (j := 45) (H' := (Hb 0 s3)) d18_15 (hw _ m_173) (Or.inl (hw _ m_174)) (hw _ m_1) (hlay hw) rfl rfl rfl (leb rfl) (by subst es3; rfl) ?_
    refine WP.iconst (-1 : Int32) d18_18 rfl ?_
    cases h
    exact WP.ireturn d18_19 rfl (leb rfl) (leb rfl) ⟨rfl, rfl⟩
  ·
    refine WP.ifY (pc' := 20) d18_10 (XT.i0_ge_t hc2) (by decide) rfl ?_
    refine WP.aloadN d18_20 rfl ?_
    refine WP.getfield (i := 0) (j := 37) d18_21 (hw _ m_55) rfl rfl rfl ?_
    refine WP.iload d18_24 rfl ?_
    obtain ⟨x4, hx4, h⟩ := Option.bind_eq_some_iff.mp h
    refine WP.iaload (i := 23) d18_26 rfl hx4 ?_
    refine WP.iconst (3 : Int32) d18_27 rfl ?_
    refine WP.iand d18_28 ?_
    obtain ⟨x5, ex5, h⟩ := lt_e h
    refine WP.istore (L' := [.val (.ref 0), .val (.int p1), .val (.int p2), .val (.int p3), .val (.int x1), .val (.int x5), .unset]) d18_29 (leb rfl) (by subst ex5; rfl) ?_
    refine WP.iconst (0 : Int32) d18_31 rfl ?_
    refine WP.istore (L' := [.val (.ref 0), .val (.int p1), .val (.int p2), .val (.int p3), .val (.int x1), .val (.int x5), .val (.int (0 : Int32))]) d18_32 (leb rfl) rfl ?_
    exact WP.weak (L' := [.val (.ref 0), .val (.int p1), .val (.int p2), .val (.int p3), .val (.int x1), .val (.int x5), .val (.int (0 : Int32))]) ⟨rfl, rfl, rfl, rfl, rfl, rfl, rfl, trivial⟩ (ok18_34 l Z a0 hw n0 n p1 p2 p3 x1 x5 (0 : Int32) s _ h)
theorem d17_0 : dc prog_1_method_63_code 0 (.aload_n 0) 1 := by decide +kernel
theorem d17_1 : dc prog_1_method_63_code 1 (.getfield 53) 3 := by decide +kernel
theorem d17_4 : dc prog_1_method_63_code 4 (.iload_n 1) 1 := by decide +kernel
theorem d17_5 : dc prog_1_method_63_code 5 (.sipush 255) 3 := by decide +kernel
theorem d17_8 : dc prog_1_method_63_code 8 (.iand) 1 := by decide +kernel
theorem d17_9 : dc prog_1_method_63_code 9 (.iaload) 1 := by decide +kernel
theorem d17_10 : dc prog_1_method_63_code 10 (.istore_n 2) 1 := by decide +kernel
theorem d17_11 : dc prog_1_method_63_code 11 (.iload_n 2) 1 := by decide +kernel
theorem d17_12 : dc prog_1_method_63_code 12 (.ifCond .ge 11) 3 := by decide +kernel
theorem d17_15 : dc prog_1_method_63_code 15 (.aload_n 0) 1 := by decide +kernel
theorem d17_16 : dc prog_1_method_63_code 16 (.iconst 0) 1 := by decide +kernel
theorem d17_17 : dc prog_1_method_63_code 17 (.iconst 0) 1 := by decide +kernel
theorem d17_18 : dc prog_1_method_63_code 18 (.iconst 0) 1 := by decide +kernel
theorem d17_19 : dc prog_1_method_63_code 19 (.invokevirtual 335) 3 := by decide +kernel
theorem d17_22 : dc prog_1_method_63_code 22 (.ireturn) 1 := by decide +kernel
theorem d17_23 : dc prog_1_method_63_code 23 (.aload_n 0) 1 := by decide +kernel
theorem d17_24 : dc prog_1_method_63_code 24 (.iload_n 2) 1 := by decide +kernel
theorem d17_25 : dc prog_1_method_63_code 25 (.invokevirtual 192) 3 := by decide +kernel
theorem d17_28 : dc prog_1_method_63_code 28 (.bipush 7) 2 := by decide +kernel
theorem d17_30 : dc prog_1_method_63_code 30 (.if_icmp .ne 5) 3 := by decide +kernel
theorem d17_33 : dc prog_1_method_63_code 33 (.iload_n 2) 1 := by decide +kernel
theorem d17_34 : dc prog_1_method_63_code 34 (.ireturn) 1 := by decide +kernel
theorem d17_35 : dc prog_1_method_63_code 35 (.iload_n 1) 1 := by decide +kernel
theorem d17_36 : dc prog_1_method_63_code 36 (.iconst 1) 1 := by decide +kernel
theorem d17_37 : dc prog_1_method_63_code 37 (.iadd) 1 := by decide +kernel
theorem d17_38 : dc prog_1_method_63_code 38 (.ireturn) 1 := by decide +kernel
abbrev y17 : MethodName := ⟨"FatPointerC", "execRbrace", "(I)I"⟩
theorem hy17 : y17.cls ≠ "java/lang/invoke/MethodHandle" ∧ y17.cls ≠ "java/lang/invoke/VarHandle" := by decide
theorem pd17 : parseMethodDescriptor y17.desc = some ⟨[.int], some .int⟩ := by decide +kernel
abbrev R17 : Room := { frames := 1, cells := 0, slots := 0, locals := 18 }
abbrev P17 (r : Int32 × St) : Option Value → List OwnC → Prop := fun v H' => v = some (.int r.1) ∧ H' = (Hb 0 r.2)
abbrev W17 (l : Launch) (Z : State) (n0 : Nat) (Q : Option Value → List OwnC → Prop) (k n pc : Nat) (L : List Slot) (S : List Value) (H : List OwnC) : Prop := WP l Z CN lay "FatPointerC" "execRbrace" prog_1_method_63_code 3 (some FieldType.int) R17 n0 0 Q k n pc L S H
def f_execRbrace (n : Nat) (p1 : Int32) (s : St) : Option (Int32 × St) :=
  (rd (gA s 14) (p1 &&& (255 : Int32))).bind fun x1 =>
  if x1 < 0 then
    (f_doReturn n (0 : Int32) (0 : Int32) (0 : Int32) s).bind fun c3 =>
    some (c3.1, c3.2)
  else
    (f_kindAt x1 s).bind fun c4 =>
    if c4 = (7 : Int32) then
      some (x1, s)
    else
      some (p1 + (1 : Int32), s)
set_option maxRecDepth 65536 in
set_option maxHeartbeats 4000000 in
theorem ok17 (l : Launch) (Z : State) (a0 : Array Value) (hw : HW a0 Z) (n : Nat) (p1 : Int32) (s : St) (r : Int32 × St) (h : f_execRbrace n p1 s = some r) : CS l Z CN lay y17 prog_1_method_63_code 3 (some FieldType.int) R17 0 [.ref 0, .int p1] (Hb 0 s) (P17 r) := by
  refine CS.of_wp pn_cls (leb rfl) fun n0 => ?_
  show W17 l Z n0 (P17 r) 0 0 0 [.val (.ref 0), .val (.int p1), .unset] [] (Hb 0 s)
  unfold f_execRbrace at h
  refine WP.aloadN d17_0 rfl ?_
  refine WP.getfield (i := 0) (j := 25) d17_1 (hw _ m_39) rfl rfl rfl ?_
  refine WP.iloadN d17_4 rfl ?_
  refine WP.sipush (255 : Int32) d17_5 rfl ?_
  refine WP.iand d17_8 ?_
  obtain ⟨x1, hx1, h⟩ := Option.bind_eq_some_iff.mp h
  refine WP.iaload (i := 15) d17_9 rfl hx1 ?_
  refine WP.istoreN (L' := [.val (.ref 0), .val (.int p1), .val (.int x1)]) d17_10 (leb rfl) rfl ?_
  refine WP.iloadN d17_11 rfl ?_
  rcases ite_e h with ⟨hc2, h⟩ | ⟨hc2, h⟩
  ·
    refine WP.ifN d17_12 (XT.i0_ge_f hc2) ?_
    refine WP.aloadN d17_15 rfl ?_
    refine WP.iconst (0 : Int32) d17_16 rfl ?_
    refine WP.iconst (0 : Int32) d17_17 rfl ?_
    refine WP.iconst (0 : Int32) d17_18 rfl ?_
    obtain ⟨c3, hc3, h⟩ := Option.bind_eq_some_iff.mp h
    refine WP.callP (i := 0) (y := y18) (as := [.int (0 : Int32), .int (0 : Int32), .int (0 : Int32)]) (S := []) d17_19 (hw _ m_188) (hw _ m_190) (hw _ m_1) (hw _ m_189) (hw _ m_191) (hw _ m_2) hy18 rfl (ok18 l Z a0 hw n (0 : Int32) (0 : Int32) (0 : Int32) s _ hc3) rfl (lenOf pd18 rfl) (leb rfl) (leb rfl) (leb rfl) (leb rfl) ?_
    rintro _ _ ⟨rfl, rfl⟩
    show W17 l Z n0 (P17 r) 0 0 22 [.val (.ref 0), .val (.int p1), .val (.int x1)] [.int c3.1] (Hb 0 c3.2)
    cases h
    exact WP.ireturn d17_22 rfl (leb rfl) (leb rfl) ⟨rfl, rfl⟩
  ·
    refine WP.ifY (pc' := 23) d17_12 (XT.i0_ge_t hc2) (by decide) rfl ?_
    refine WP.aloadN d17_23 rfl ?_
    refine WP.iloadN d17_24 rfl ?_
    obtain ⟨c4, hc4, h⟩ := Option.bind_eq_some_iff.mp h
    refine WP.callP (i := 0) (y := y7) (as := [.int x1]) (S := []) d17_25 (hw _ m_129) (hw _ m_131) (hw _ m_1) (hw _ m_130) (hw _ m_132) (hw _ m_2) hy7 rfl (ok7 l Z a0 hw x1 s _ hc4) rfl (lenOf pd7 rfl) (leb rfl) (leb rfl) (leb rfl) (leb rfl) ?_
    rintro _ _ ⟨rfl, rfl⟩
    show W17 l Z n0 (P17 r) 0 0 28 [.val (.ref 0), .val (.int p1), .val (.int x1)] [.int c4] (Hb 0 s)
    refine WP.bipush (7 : Int32) d17_28 rfl ?_
    rcases ite_e h with ⟨hc5, h⟩ | ⟨hc5, h⟩
    ·
      refine WP.icmpN d17_30 (XT.ii_ne_f hc5) ?_
      refine WP.iloadN d17_33 rfl ?_
      cases h
      exact WP.ireturn d17_34 rfl (leb rfl) (leb rfl) ⟨rfl, rfl⟩
    ·
      refine WP.icmpY (pc' := 35) d17_30 (XT.ii_ne_t hc5) (by decide) rfl ?_
      refine WP.iloadN d17_35 rfl ?_
      refine WP.iconst (1 : Int32) d17_36 rfl ?_
      refine WP.iadd d17_37 ?_
      cases h
      exact WP.ireturn d17_38 rfl (leb rfl) (leb rfl) ⟨rfl, rfl⟩
theorem d16_0 : dc prog_1_method_56_code 0 (.aload_n 0) 1 := by decide +kernel
theorem d16_1 : dc prog_1_method_56_code 1 (.iload_n 1) 1 := by decide +kernel
theorem d16_2 : dc prog_1_method_56_code 2 (.invokevirtual 192) 3 := by decide +kernel
theorem d16_5 : dc prog_1_method_56_code 5 (.istore_n 2) 1 := by decide +kernel
theorem d16_6 : dc prog_1_method_56_code 6 (.iload_n 2) 1 := by decide +kernel
theorem d16_7 : dc prog_1_method_56_code 7 (.tableswitch 148 2 22 #[97, 109, 148, 148, 148, 128, 135, 122, 116, 148, 148, 148, 142, 148, 148, 148, 148, 148, 148, 148, 103]) 97 := by decide +kernel
theorem d16_104 : dc prog_1_method_56_code 104 (.aload_n 0) 1 := by decide +kernel
theorem d16_105 : dc prog_1_method_56_code 105 (.iload_n 1) 1 := by decide +kernel
theorem d16_106 : dc prog_1_method_56_code 106 (.invokevirtual 300) 3 := by decide +kernel
theorem d16_110 : dc prog_1_method_56_code 110 (.aload_n 0) 1 := by decide +kernel
theorem d16_111 : dc prog_1_method_56_code 111 (.iload_n 1) 1 := by decide +kernel
theorem d16_112 : dc prog_1_method_56_code 112 (.invokevirtual 303) 3 := by decide +kernel
theorem d16_116 : dc prog_1_method_56_code 116 (.aload_n 0) 1 := by decide +kernel
theorem d16_117 : dc prog_1_method_56_code 117 (.iload_n 1) 1 := by decide +kernel
theorem d16_118 : dc prog_1_method_56_code 118 (.iconst (-1)) 1 := by decide +kernel
theorem d16_119 : dc prog_1_method_56_code 119 (.invokevirtual 306) 3 := by decide +kernel
theorem d16_123 : dc prog_1_method_56_code 123 (.aload_n 0) 1 := by decide +kernel
theorem d16_124 : dc prog_1_method_56_code 124 (.iload_n 1) 1 := by decide +kernel
theorem d16_125 : dc prog_1_method_56_code 125 (.invokevirtual 310) 3 := by decide +kernel
theorem d16_129 : dc prog_1_method_56_code 129 (.aload_n 0) 1 := by decide +kernel
theorem d16_130 : dc prog_1_method_56_code 130 (.iload_n 1) 1 := by decide +kernel
theorem d16_131 : dc prog_1_method_56_code 131 (.invokevirtual 313) 3 := by decide +kernel
theorem d16_135 : dc prog_1_method_56_code 135 (.aload_n 0) 1 := by decide +kernel
theorem d16_136 : dc prog_1_method_56_code 136 (.iload_n 1) 1 := by decide +kernel
theorem d16_137 : dc prog_1_method_56_code 137 (.iconst 1) 1 := by decide +kernel
theorem d16_138 : dc prog_1_method_56_code 138 (.invokevirtual 316) 3 := by decide +kernel
theorem d16_142 : dc prog_1_method_56_code 142 (.aload_n 0) 1 := by decide +kernel
theorem d16_143 : dc prog_1_method_56_code 143 (.iload_n 1) 1 := by decide +kernel
theorem d16_144 : dc prog_1_method_56_code 144 (.iconst 0) 1 := by decide +kernel
theorem d16_145 : dc prog_1_method_56_code 145 (.invokevirtual 316) 3 := by decide +kernel
theorem d16_149 : dc prog_1_method_56_code 149 (.aload_n 0) 1 := by decide +kernel
theorem d16_150 : dc prog_1_method_56_code 150 (.iload_n 1) 1 := by decide +kernel
theorem d16_151 : dc prog_1_method_56_code 151 (.invokevirtual 320) 3 := by decide +kernel
theorem d16_154 : dc prog_1_method_56_code 154 (.ireturn) 1 := by decide +kernel
theorem d16_155 : dc prog_1_method_56_code 155 (.aload_n 0) 1 := by decide +kernel
theorem d16_156 : dc prog_1_method_56_code 156 (.iconst 1) 1 := by decide +kernel
theorem d16_157 : dc prog_1_method_56_code 157 (.iload_n 1) 1 := by decide +kernel
theorem d16_158 : dc prog_1_method_56_code 158 (.invokevirtual 146) 3 := by decide +kernel
abbrev y16 : MethodName := ⟨"FatPointerC", "step", "(I)I"⟩
theorem hy16 : y16.cls ≠ "java/lang/invoke/MethodHandle" ∧ y16.cls ≠ "java/lang/invoke/VarHandle" := by decide
theorem pd16 : parseMethodDescriptor y16.desc = some ⟨[.int], some .int⟩ := by decide +kernel
abbrev R16 : Room := { frames := 2, cells := 0, slots := 0, locals := 32 }
abbrev P16 (r : Int32 × St) : Option Value → List OwnC → Prop := fun v H' => v = some (.int r.1) ∧ H' = (Hb 0 r.2)
abbrev W16 (l : Launch) (Z : State) (n0 : Nat) (Q : Option Value → List OwnC → Prop) (k n pc : Nat) (L : List Slot) (S : List Value) (H : List OwnC) : Prop := WP l Z CN lay "FatPointerC" "step" prog_1_method_56_code 3 (some FieldType.int) R16 n0 0 Q k n pc L S H
def f_step (n : Nat) (p1 : Int32) (s : St) : Option (Int32 × St) :=
  (f_kindAt p1 s).bind fun c1 =>
  if c1 = (2 : Int32) then
    none
  else if c1 = (3 : Int32) then
    none
  else if c1 = (4 : Int32) then
    none
  else if c1 = (5 : Int32) then
    none
  else if c1 = (6 : Int32) then
    none
  else if c1 = (7 : Int32) then
    none
  else if c1 = (8 : Int32) then
    none
  else if c1 = (9 : Int32) then
    none
  else if c1 = (10 : Int32) then
    none
  else if c1 = (11 : Int32) then
    none
  else if c1 = (12 : Int32) then
    none
  else if c1 = (13 : Int32) then
    none
  else if c1 = (14 : Int32) then
    (f_execRbrace n p1 s).bind fun c15 =>
    some (c15.1, c15.2)
  else if c1 = (15 : Int32) then
    none
  else if c1 = (16 : Int32) then
    none
  else if c1 = (17 : Int32) then
    none
  else if c1 = (18 : Int32) then
    none
  else if c1 = (19 : Int32) then
    none
  else if c1 = (20 : Int32) then
    none
  else if c1 = (21 : Int32) then
    none
  else if c1 = (22 : Int32) then
    none
  else 
  none
set_option maxRecDepth 65536 in
set_option maxHeartbeats 4000000 in
theorem ok16 (l : Launch) (Z : State) (a0 : Array Value) (hw : HW a0 Z) (n : Nat) (p1 : Int32) (s : St) (r : Int32 × St) (h : f_step n p1 s = some r) : CS l Z CN lay y16 prog_1_method_56_code 3 (some FieldType.int) R16 0 [.ref 0, .int p1] (Hb 0 s) (P16 r) := by
  refine CS.of_wp pn_cls (leb rfl) fun n0 => ?_
  show W16 l Z n0 (P16 r) 0 0 0 [.val (.ref 0), .val (.int p1), .unset] [] (Hb 0 s)
  unfold f_step at h
  refine WP.aloadN d16_0 rfl ?_
  refine WP.iloadN d16_1 rfl ?_
  obtain ⟨c1, hc1, h⟩ := Option.bind_eq_some_iff.mp h
  refine WP.callP (i := 0) (y := y7) (as := [.int p1]) (S := []) d16_2 (hw _ m_129) (hw _ m_131) (hw _ m_1) (hw _ m_130) (hw _ m_132) (hw _ m_2) hy7 rfl (ok7 l Z a0 hw p1 s _ hc1) rfl (lenOf pd7 rfl) (leb rfl) (leb rfl) (leb rfl) (leb rfl) ?_
  rintro _ _ ⟨rfl, rfl⟩
  show W16 l Z n0 (P16 r) 0 0 5 [.val (.ref 0), .val (.int p1), .unset] [.int c1] (Hb 0 s)
  refine WP.istoreN (L' := [.val (.ref 0), .val (.int p1), .val (.int c1)]) d16_5 (leb rfl) rfl ?_
  refine WP.iloadN d16_6 rfl ?_
  rcases ite_e h with ⟨hc2, h⟩ | ⟨hc2, h⟩
  ·
    refine WP.tswIn (o := 97) (pc' := 104) d16_7 (by rw [hc2]; decide) (by rw [hc2]; rfl) (by decide) rfl ?_
    refine WP.aloadN d16_104 rfl ?_
    refine WP.iloadN d16_105 rfl ?_
    cases h
  rcases ite_e h with ⟨hc3, h⟩ | ⟨hc3, h⟩
  ·
    refine WP.tswIn (o := 109) (pc' := 116) d16_7 (by rw [hc3]; decide) (by rw [hc3]; rfl) (by decide) rfl ?_
    refine WP.aloadN d16_116 rfl ?_
    refine WP.iloadN d16_117 rfl ?_
    refine WP.iconst (-1 : Int32) d16_118 rfl ?_
    cases h
  rcases ite_e h with ⟨hc4, h⟩ | ⟨hc4, h⟩
  ·
    refine WP.tswIn (o := 148) (pc' := 155) d16_7 (by rw [hc4]; decide) (by rw [hc4]; rfl) (by decide) rfl ?_
    refine WP.aloadN d16_155 rfl ?_
    refine WP.iconst (1 : Int32) d16_156 rfl ?_
    refine WP.iloadN d16_157 rfl ?_
    cases h
  rcases ite_e h with ⟨hc5, h⟩ | ⟨hc5, h⟩
  ·
    refine WP.tswIn (o := 148) (pc' := 155) d16_7 (by rw [hc5]; decide) (by rw [hc5]; rfl) (by decide) rfl ?_
    refine WP.aloadN d16_155 rfl ?_
    refine WP.iconst (1 : Int32) d16_156 rfl ?_
    refine WP.iloadN d16_157 rfl ?_
    cases h
  rcases ite_e h with ⟨hc6, h⟩ | ⟨hc6, h⟩
  ·
    refine WP.tswIn (o := 148) (pc' := 155) d16_7 (by rw [hc6]; decide) (by rw [hc6]; rfl) (by decide) rfl ?_
    refine WP.aloadN d16_155 rfl ?_
    refine WP.iconst (1 : Int32) d16_156 rfl ?_
    refine WP.iloadN d16_157 rfl ?_
    cases h
  rcases ite_e h with ⟨hc7, h⟩ | ⟨hc7, h⟩
  ·
    refine WP.tswIn (o := 128) (pc' := 135) d16_7 (by rw [hc7]; decide) (by rw [hc7]; rfl) (by decide) rfl ?_
    refine WP.aloadN d16_135 rfl ?_
    refine WP.iloadN d16_136 rfl ?_
    refine WP.iconst (1 : Int32) d16_137 rfl ?_
    cases h
  rcases ite_e h with ⟨hc8, h⟩ | ⟨hc8, h⟩
  ·
    refine WP.tswIn (o := 135) (pc' := 142) d16_7 (by rw [hc8]; decide) (by rw [hc8]; rfl) (by decide) rfl ?_
    refine WP.aloadN d16_142 rfl ?_
    refine WP.iloadN d16_143 rfl ?_
    refine WP.iconst (0 : Int32) d16_144 rfl ?_
    cases h
  rcases ite_e h with ⟨hc9, h⟩ | ⟨hc9, h⟩
  ·
    refine WP.tswIn (o := 122) (pc' := 129) d16_7 (by rw [hc9]; decide) (by rw [hc9]; rfl) (by decide) rfl ?_
    refine WP.aloadN d16_129 rfl ?_
    refine WP.iloadN d16_130 rfl ?_
    cases h
  rcases ite_e h with ⟨hc10, h⟩ | ⟨hc10, h⟩
  ·
    refine WP.tswIn (o := 116) (pc' := 123) d16_7 (by rw [hc10]; decide) (by rw [hc10]; rfl) (by decide) rfl ?_
    refine WP.aloadN d16_123 rfl ?_
    refine WP.iloadN d16_124 rfl ?_
    cases h
  rcases ite_e h with ⟨hc11, h⟩ | ⟨hc11, h⟩
  ·
    refine WP.tswIn (o := 148) (pc' := 155) d16_7 (by rw [hc11]; decide) (by rw [hc11]; rfl) (by decide) rfl ?_
    refine WP.aloadN d16_155 rfl ?_
    refine WP.iconst (1 : Int32) d16_156 rfl ?_
    refine WP.iloadN d16_157 rfl ?_
    cases h
  rcases ite_e h with ⟨hc12, h⟩ | ⟨hc12, h⟩
  ·
    refine WP.tswIn (o := 148) (pc' := 155) d16_7 (by rw [hc12]; decide) (by rw [hc12]; rfl) (by decide) rfl ?_
    refine WP.aloadN d16_155 rfl ?_
    refine WP.iconst (1 : Int32) d16_156 rfl ?_
    refine WP.iloadN d16_157 rfl ?_
    cases h
  rcases ite_e h with ⟨hc13, h⟩ | ⟨hc13, h⟩
  ·
    refine WP.tswIn (o := 148) (pc' := 155) d16_7 (by rw [hc13]; decide) (by rw [hc13]; rfl) (by decide) rfl ?_
    refine WP.aloadN d16_155 rfl ?_
    refine WP.iconst (1 : Int32) d16_156 rfl ?_
    refine WP.iloadN d16_157 rfl ?_
    cases h
  rcases ite_e h with ⟨hc14, h⟩ | ⟨hc14, h⟩
  ·
    refine WP.tswIn (o := 142) (pc' := 149) d16_7 (by rw [hc14]; decide) (by rw [hc14]; rfl) (by decide) rfl ?_
    refine WP.aloadN d16_149 rfl ?_
    refine WP.iloadN d16_150 rfl ?_
    obtain ⟨c15, hc15, h⟩ := Option.bind_eq_some_iff.mp h
    refine WP.callP (i := 0) (y := y17) (as := [.int p1]) (S := []) d16_151 (hw _ m_184) (hw _ m_186) (hw _ m_1) (hw _ m_185) (hw _ m_187) (hw _ m_2) hy17 rfl (ok17 l Z a0 hw n p1 s _ hc15) rfl (lenOf pd17 rfl) (leb rfl) (leb rfl) (leb rfl) (leb rfl) ?_
    rintro _ _ ⟨rfl, rfl⟩
    show W16 l Z n0 (P16 r) 0 0 154 [.val (.ref 0), .val (.int p1), .val (.int c1)] [.int c15.1] (Hb 0 c15.2)
    cases h
    exact WP.ireturn d16_154 rfl (leb rfl) (leb rfl) ⟨rfl, rfl⟩
  rcases ite_e h with ⟨hc16, h⟩ | ⟨hc16, h⟩
  ·
    refine WP.tswIn (o := 148) (pc' := 155) d16_7 (by rw [hc16]; decide) (by rw [hc16]; rfl) (by decide) rfl ?_
    refine WP.aloadN d16_155 rfl ?_
    refine WP.iconst (1 : Int32) d16_156 rfl ?_
    refine WP.iloadN d16_157 rfl ?_
    cases h
  rcases ite_e h with ⟨hc17, h⟩ | ⟨hc17, h⟩
  ·
    refine WP.tswIn (o := 148) (pc' := 155) d16_7 (by rw [hc17]; decide) (by rw [hc17]; rfl) (by decide) rfl ?_
    refine WP.aloadN d16_155 rfl ?_
    refine WP.iconst (1 : Int32) d16_156 rfl ?_
    refine WP.iloadN d16_157 rfl ?_
    cases h
  rcases ite_e h with ⟨hc18, h⟩ | ⟨hc18, h⟩
  ·
    refine WP.tswIn (o := 148) (pc' := 155) d16_7 (by rw [hc18]; decide) (by rw [hc18]; rfl) (by decide) rfl ?_
    refine WP.aloadN d16_155 rfl ?_
    refine WP.iconst (1 : Int32) d16_156 rfl ?_
    refine WP.iloadN d16_157 rfl ?_
    cases h
  rcases ite_e h with ⟨hc19, h⟩ | ⟨hc19, h⟩
  ·
    refine WP.tswIn (o := 148) (pc' := 155) d16_7 (by rw [hc19]; decide) (by rw [hc19]; rfl) (by decide) rfl ?_
    refine WP.aloadN d16_155 rfl ?_
    refine WP.iconst (1 : Int32) d16_156 rfl ?_
    refine WP.iloadN d16_157 rfl ?_
    cases h
  rcases ite_e h with ⟨hc20, h⟩ | ⟨hc20, h⟩
  ·
    refine WP.tswIn (o := 148) (pc' := 155) d16_7 (by rw [hc20]; decide) (by rw [hc20]; rfl) (by decide) rfl ?_
    refine WP.aloadN d16_155 rfl ?_
    refine WP.iconst (1 : Int32) d16_156 rfl ?_
    refine WP.iloadN d16_157 rfl ?_
    cases h
  rcases ite_e h with ⟨hc21, h⟩ | ⟨hc21, h⟩
  ·
    refine WP.tswIn (o := 148) (pc' := 155) d16_7 (by rw [hc21]; decide) (by rw [hc21]; rfl) (by decide) rfl ?_
    refine WP.aloadN d16_155 rfl ?_
    refine WP.iconst (1 : Int32) d16_156 rfl ?_
    refine WP.iloadN d16_157 rfl ?_
    cases h
  rcases ite_e h with ⟨hc22, h⟩ | ⟨hc22, h⟩
  ·
    refine WP.tswIn (o := 148) (pc' := 155) d16_7 (by rw [hc22]; decide) (by rw [hc22]; rfl) (by decide) rfl ?_
    refine WP.aloadN d16_155 rfl ?_
    refine WP.iconst (1 : Int32) d16_156 rfl ?_
    refine WP.iloadN d16_157 rfl ?_
    cases h
  rcases ite_e h with ⟨hc23, h⟩ | ⟨hc23, h⟩
  ·
    refine WP.tswIn (o := 103) (pc' := 110) d16_7 (by rw [hc23]; decide) (by rw [hc23]; rfl) (by decide) rfl ?_
    refine WP.aloadN d16_110 rfl ?_
    refine WP.iloadN d16_111 rfl ?_
    cases h
  refine WP.tswOut (pc' := 155) d16_7 (tsw_miss fun z h1 h2 => by
      have hz : z = 2 ∨ z = 3 ∨ z = 4 ∨ z = 5 ∨ z = 6 ∨ z = 7 ∨ z = 8 ∨ z = 9 ∨ z = 10 ∨ z = 11 ∨ z = 12 ∨ z = 13 ∨ z = 14 ∨ z = 15 ∨ z = 16 ∨ z = 17 ∨ z = 18 ∨ z = 19 ∨ z = 20 ∨ z = 21 ∨ z = 22 := by omega
      rcases hz with rfl | rfl | rfl | rfl | rfl | rfl | rfl | rfl | rfl | rfl | rfl | rfl | rfl | rfl | rfl | rfl | rfl | rfl | rfl | rfl | rfl
      · exact hc2
      · exact hc3
      · exact hc4
      · exact hc5
      · exact hc6
      · exact hc7
      · exact hc8
      · exact hc9
      · exact hc10
      · exact hc11
      · exact hc12
      · exact hc13
      · exact hc14
      · exact hc16
      · exact hc17
      · exact hc18
      · exact hc19
      · exact hc20
      · exact hc21
      · exact hc22
      · exact hc23
      ) (by decide) rfl ?_
  refine WP.aloadN d16_155 rfl ?_
  refine WP.iconst (1 : Int32) d16_156 rfl ?_
  refine WP.iloadN d16_157 rfl ?_
  cases h
theorem d13_0 : dc prog_1_method_6_code 0 (.aload_n 0) 1 := by decide +kernel
theorem d13_1 : dc prog_1_method_6_code 1 (.getfield 123) 3 := by decide +kernel
theorem d13_4 : dc prog_1_method_6_code 4 (.ifCond .ne 5) 3 := by decide +kernel
theorem d13_7 : dc prog_1_method_6_code 7 (.iconst (-1)) 1 := by decide +kernel
theorem d13_8 : dc prog_1_method_6_code 8 (.ireturn) 1 := by decide +kernel
theorem d13_9 : dc prog_1_method_6_code 9 (.aload_n 0) 1 := by decide +kernel
theorem d13_10 : dc prog_1_method_6_code 10 (.invokevirtual 117) 3 := by decide +kernel
theorem d13_13 : dc prog_1_method_6_code 13 (.aload_n 0) 1 := by decide +kernel
theorem d13_14 : dc prog_1_method_6_code 14 (.iconst 0) 1 := by decide +kernel
theorem d13_15 : dc prog_1_method_6_code 15 (.putfield 131) 3 := by decide +kernel
theorem d13_18 : dc prog_1_method_6_code 18 (.aload_n 0) 1 := by decide +kernel
theorem d13_19 : dc prog_1_method_6_code 19 (.iconst 0) 1 := by decide +kernel
theorem d13_20 : dc prog_1_method_6_code 20 (.putfield 134) 3 := by decide +kernel
theorem d13_23 : dc prog_1_method_6_code 23 (.aload_n 0) 1 := by decide +kernel
theorem d13_24 : dc prog_1_method_6_code 24 (.iconst 0) 1 := by decide +kernel
theorem d13_25 : dc prog_1_method_6_code 25 (.putfield 137) 3 := by decide +kernel
theorem d13_28 : dc prog_1_method_6_code 28 (.aload_n 0) 1 := by decide +kernel
theorem d13_29 : dc prog_1_method_6_code 29 (.sipush 256) 3 := by decide +kernel
theorem d13_32 : dc prog_1_method_6_code 32 (.putfield 140) 3 := by decide +kernel
theorem d13_35 : dc prog_1_method_6_code 35 (.aload_n 0) 1 := by decide +kernel
theorem d13_36 : dc prog_1_method_6_code 36 (.iconst 1) 1 := by decide +kernel
theorem d13_37 : dc prog_1_method_6_code 37 (.putfield 143) 3 := by decide +kernel
theorem d13_40 : dc prog_1_method_6_code 40 (.aload_n 0) 1 := by decide +kernel
theorem d13_41 : dc prog_1_method_6_code 41 (.getfield 32) 3 := by decide +kernel
theorem d13_44 : dc prog_1_method_6_code 44 (.iconst 0) 1 := by decide +kernel
theorem d13_45 : dc prog_1_method_6_code 45 (.iaload) 1 := by decide +kernel
theorem d13_46 : dc prog_1_method_6_code 46 (.aload_n 0) 1 := by decide +kernel
theorem d13_47 : dc prog_1_method_6_code 47 (.getfield 110) 3 := by decide +kernel
theorem d13_50 : dc prog_1_method_6_code 50 (.if_icmp .le 19) 3 := by decide +kernel
theorem d13_53 : dc prog_1_method_6_code 53 (.aload_n 0) 1 := by decide +kernel
theorem d13_54 : dc prog_1_method_6_code 54 (.iconst 5) 1 := by decide +kernel
theorem d13_55 : dc prog_1_method_6_code 55 (.aload_n 0) 1 := by decide +kernel
theorem d13_56 : dc prog_1_method_6_code 56 (.getfield 23) 3 := by decide +kernel
theorem d13_59 : dc prog_1_method_6_code 59 (.iconst 0) 1 := by decide +kernel
theorem d13_60 : dc prog_1_method_6_code 60 (.iaload) 1 := by decide +kernel
theorem d13_61 : dc prog_1_method_6_code 61 (.invokevirtual 146) 3 := by decide +kernel
theorem d13_69 : dc prog_1_method_6_code 69 (.aload_n 0) 1 := by decide +kernel
theorem d13_70 : dc prog_1_method_6_code 70 (.iconst 0) 1 := by decide +kernel
theorem d13_71 : dc prog_1_method_6_code 71 (.iconst (-1)) 1 := by decide +kernel
theorem d13_72 : dc prog_1_method_6_code 72 (.iconst (-1)) 1 := by decide +kernel
theorem d13_73 : dc prog_1_method_6_code 73 (.invokevirtual 153) 3 := by decide +kernel
theorem d13_76 : dc prog_1_method_6_code 76 (.aload_n 0) 1 := by decide +kernel
theorem d13_77 : dc prog_1_method_6_code 77 (.getfield 35) 3 := by decide +kernel
theorem d13_80 : dc prog_1_method_6_code 80 (.iconst 0) 1 := by decide +kernel
theorem d13_81 : dc prog_1_method_6_code 81 (.iaload) 1 := by decide +kernel
theorem d13_82 : dc prog_1_method_6_code 82 (.istore_n 1) 1 := by decide +kernel
theorem d13_83 : dc prog_1_method_6_code 83 (.iconst 0) 1 := by decide +kernel
theorem d13_84 : dc prog_1_method_6_code 84 (.istore_n 2) 1 := by decide +kernel
theorem d13_85 : dc prog_1_method_6_code 85 (.iload_n 2) 1 := by decide +kernel
theorem d13_86 : dc prog_1_method_6_code 86 (.ldc 157) 2 := by decide +kernel
theorem d13_88 : dc prog_1_method_6_code 88 (.if_icmp .ge 22) 3 := by decide +kernel
theorem d13_91 : dc prog_1_method_6_code 91 (.aload_n 0) 1 := by decide +kernel
theorem d13_92 : dc prog_1_method_6_code 92 (.getfield 143) 3 := by decide +kernel
theorem d13_95 : dc prog_1_method_6_code 95 (.ifCond .eq 15) 3 := by decide +kernel
theorem d13_98 : dc prog_1_method_6_code 98 (.aload_n 0) 1 := by decide +kernel
theorem d13_99 : dc prog_1_method_6_code 99 (.iload_n 1) 1 := by decide +kernel
theorem d13_100 : dc prog_1_method_6_code 100 (.invokevirtual 158) 3 := by decide +kernel
theorem d13_103 : dc prog_1_method_6_code 103 (.istore_n 1) 1 := by decide +kernel
theorem d13_104 : dc prog_1_method_6_code 104 (.iinc 2 1) 3 := by decide +kernel
theorem d13_107 : dc prog_1_method_6_code 107 (.goto (-22)) 3 := by decide +kernel
theorem d13_110 : dc prog_1_method_6_code 110 (.aload_n 0) 1 := by decide +kernel
theorem d13_111 : dc prog_1_method_6_code 111 (.getfield 143) 3 := by decide +kernel
theorem d13_114 : dc prog_1_method_6_code 114 (.ifCond .eq 10) 3 := by decide +kernel
theorem d13_117 : dc prog_1_method_6_code 117 (.aload_n 0) 1 := by decide +kernel
theorem d13_118 : dc prog_1_method_6_code 118 (.bipush 7) 2 := by decide +kernel
theorem d13_120 : dc prog_1_method_6_code 120 (.iload_n 1) 1 := by decide +kernel
theorem d13_121 : dc prog_1_method_6_code 121 (.invokevirtual 146) 3 := by decide +kernel
theorem d13_124 : dc prog_1_method_6_code 124 (.aload_n 0) 1 := by decide +kernel
theorem d13_125 : dc prog_1_method_6_code 125 (.getfield 150) 3 := by decide +kernel
theorem d13_128 : dc prog_1_method_6_code 128 (.ireturn) 1 := by decide +kernel
abbrev y13 : MethodName := ⟨"FatPointerC", "run", "()I"⟩
theorem hy13 : y13.cls ≠ "java/lang/invoke/MethodHandle" ∧ y13.cls ≠ "java/lang/invoke/VarHandle" := by decide
theorem pd13 : parseMethodDescriptor y13.desc = some ⟨[], some .int⟩ := by decide +kernel
abbrev R13 : Room := { frames := 3, cells := 0, slots := 0, locals := 46 }
abbrev P13 (r : Int32 × St) : Option Value → List OwnC → Prop := fun v H' => v = some (.int r.1) ∧ H' = (Hb 0 r.2)
abbrev W13 (l : Launch) (Z : State) (n0 : Nat) (Q : Option Value → List OwnC → Prop) (k n pc : Nat) (L : List Slot) (S : List Value) (H : List OwnC) : Prop := WP l Z CN lay "FatPointerC" "run" prog_1_method_6_code 3 (some FieldType.int) R13 n0 0 Q k n pc L S H
def f_run_110 (n : Nat) (v1 : Int32) (s : St) : Option (Int32 × St) :=
  if (gI s 18) = 0 then
    some (gI s 4, s)
  else
    none
set_option maxRecDepth 65536 in
set_option maxHeartbeats 4000000 in
theorem ok13_110 (l : Launch) (Z : State) (a0 : Array Value) (hw : HW a0 Z) (n0 : Nat) (n : Nat) (v1 : Int32) (s : St) (r : Int32 × St) (h : f_run_110 n v1 s = some r) : W13 l Z n0 (P13 r) 0 0 110 [.val (.ref 0), .val (.int v1), .unset] [] (Hb 0 s) := by
  unfold f_run_110 at h
  refine WP.aloadN d13_110 rfl ?_
  refine WP.getfield (i := 0) (j := 45) d13_111 (hw _ m_173) rfl rfl rfl ?_
  rcases ite_e h with ⟨hc1, h⟩ | ⟨hc1, h⟩
  ·
    refine WP.ifY (pc' := 124) d13_114 (XT.i0_eq_t hc1) (by decide) rfl ?_
    refine WP.aloadN d13_124 rfl ?_
    refine WP.getfield (i := 0) (j := 6) d13_125 (hw _ m_85) rfl rfl rfl ?_
    cases h
    exact WP.ireturn d13_128 rfl (leb rfl) (leb rfl) ⟨rfl, rfl⟩
  ·
    refine WP.ifN d13_114 (XT.i0_eq_f hc1) ?_
    refine WP.aloadN d13_117 rfl ?_
    refine WP.bipush (7 : Int32) d13_118 rfl ?_
    refine WP.iloadN d13_120 rfl ?_
    cases h
def g_run_85 (k85 : Int32 → Int32 → St → Option (Int32 × St)) (n : Nat) (v1 : Int32) (v2 : Int32) (s : St) : Option (Int32 × St) :=
  if v2 < (1048576 : Int32) then
    if (gI s 18) = 0 then
      f_run_110 n v1 s
    else
      (f_step n v1 s).bind fun c3 =>
      lt (v2 + (1 : Int32)) fun x4 =>
      k85 c3.1 x4 c3.2
  else
    f_run_110 n v1 s
set_option maxRecDepth 65536 in
set_option maxHeartbeats 4000000 in
theorem okg13_85 (l : Launch) (Z : State) (a0 : Array Value) (hw : HW a0 Z) (n0 : Nat) (k85 : Int32 → Int32 → St → Option (Int32 × St)) (hk85 : ∀ (v1 : Int32) (v2 : Int32) (s : St) (r : Int32 × St), k85 v1 v2 s = some r → W13 l Z n0 (P13 r) 0 0 85 [.val (.ref 0), .val (.int v1), .val (.int v2)] [] (Hb 0 s)) (n : Nat) (v1 : Int32) (v2 : Int32) (s : St) (r : Int32 × St) (h : g_run_85 k85 n v1 v2 s = some r) : W13 l Z n0 (P13 r) 0 0 85 [.val (.ref 0), .val (.int v1), .val (.int v2)] [] (Hb 0 s) := by
  unfold g_run_85 at h
  refine WP.iloadN d13_85 rfl ?_
  refine WP.ldc d13_86 (hw _ m_179) ?_
  rcases ite_e h with ⟨hc1, h⟩ | ⟨hc1, h⟩
  ·
    refine WP.icmpN d13_88 (XT.ii_ge_f hc1) ?_
    refine WP.aloadN d13_91 rfl ?_
    refine WP.getfield (i := 0) (j := 45) d13_92 (hw _ m_173) rfl rfl rfl ?_
    rcases ite_e h with ⟨hc2, h⟩ | ⟨hc2, h⟩
    ·
      refine WP.ifY (pc' := 110) d13_95 (XT.i0_eq_t hc2) (by decide) rfl ?_
      exact WP.weak (L' := [.val (.ref 0), .val (.int v1), .unset]) ⟨rfl, rfl, trivial⟩ (ok13_110 l Z a0 hw n0 n v1 s _ h)
    ·
      refine WP.ifN d13_95 (XT.i0_eq_f hc2) ?_
      refine WP.aloadN d13_98 rfl ?_
      refine WP.iloadN d13_99 rfl ?_
      obtain ⟨c3, hc3, h⟩ := Option.bind_eq_some_iff.mp h
      refine WP.callP (i := 0) (y := y16) (as := [.int v1]) (S := []) d13_100 (hw _ m_180) (hw _ m_182) (hw _ m_1) (hw _ m_181) (hw _ m_183) (hw _ m_2) hy16 rfl (ok16 l Z a0 hw n v1 s _ hc3) rfl (lenOf pd16 rfl) (leb rfl) (leb rfl) (leb rfl) (leb rfl) ?_
      rintro _ _ ⟨rfl, rfl⟩
      show W13 l Z n0 (P13 r) 0 0 103 [.val (.ref 0), .val (.int v1), .val (.int v2)] [.int c3.1] (Hb 0 c3.2)
      refine WP.istoreN (L' := [.val (.ref 0), .val (.int c3.1), .val (.int v2)]) d13_103 (leb rfl) rfl ?_
      obtain ⟨x4, ex4, h⟩ := lt_e h
      refine WP.iinc (L' := [.val (.ref 0), .val (.int c3.1), .val (.int x4)]) (1 : Int32) d13_104 rfl rfl (by subst ex4; rfl) ?_
      refine WP.goto (pc' := 85) d13_107 (by decide) rfl ?_
      exact WP.weak (L' := [.val (.ref 0), .val (.int c3.1), .val (.int x4)]) ⟨rfl, rfl, rfl, trivial⟩ (hk85 c3.1 x4 c3.2 _ h)
  ·
    refine WP.icmpY (pc' := 110) d13_88 (XT.ii_ge_t hc1) (by decide) rfl ?_
    exact WP.weak (L' := [.val (.ref 0), .val (.int v1), .unset]) ⟨rfl, rfl, trivial⟩ (ok13_110 l Z a0 hw n0 n v1 s _ h)
def f_run_85 : Nat → Int32 → Int32 → St → Option (Int32 × St)
  | 0 => fun _ _ _ => none
  | n + 1 => g_run_85 (f_run_85 n) n
theorem ok13_85 (l : Launch) (Z : State) (a0 : Array Value) (hw : HW a0 Z) (n0 : Nat) : ∀ (n : Nat) (v1 : Int32) (v2 : Int32) (s : St) (r : Int32 × St), f_run_85 n v1 v2 s = some r → W13 l Z n0 (P13 r) 0 0 85 [.val (.ref 0), .val (.int v1), .val (.int v2)] [] (Hb 0 s)
  | 0, v1, v2, s, r, h => nomatch (show none = some r from h)
  | n + 1, v1, v2, s, r, h => okg13_85 l Z a0 hw n0 _ (ok13_85 l Z a0 hw n0 n) n v1 v2 s r h
def f_run (n : Nat) (s : St) : Option (Int32 × St) :=
  if (gI s 3) = 0 then
    some ((-1 : Int32), s)
  else
    (f_clearResults s).bind fun c2 =>
    lt (sI c2 15 (0 : Int32)) fun s3 =>
    lt (sI s3 16 (0 : Int32)) fun s4 =>
    lt (sI s4 14 (0 : Int32)) fun s5 =>
    lt (sI s5 17 (256 : Int32)) fun s6 =>
    lt (sI s6 18 (1 : Int32)) fun s7 =>
    (rd (gA s7 7) (0 : Int32)).bind fun x8 =>
    if (gI s7 0) < x8 then
      (rd (gA s7 4) (0 : Int32)).bind fun x10 =>
      none
    else
      (f_pushFrame n (0 : Int32) (-1 : Int32) (-1 : Int32) s7).bind fun c11 =>
      (rd (gA c11 8) (0 : Int32)).bind fun x12 =>
      f_run_85 n x12 (0 : Int32) c11
set_option maxRecDepth 65536 in
set_option maxHeartbeats 4000000 in
theorem ok13 (l : Launch) (Z : State) (a0 : Array Value) (hw : HW a0 Z) (n : Nat) (s : St) (r : Int32 × St) (h : f_run n s = some r) : CS l Z CN lay y13 prog_1_method_6_code 3 (some FieldType.int) R13 0 [.ref 0] (Hb 0 s) (P13 r) := by
  refine CS.of_wp pn_cls (leb rfl) fun n0 => ?_
  show W13 l Z n0 (P13 r) 0 0 0 [.val (.ref 0), .unset, .unset] [] (Hb 0 s)
  unfold f_run at h
  refine WP.aloadN d13_0 rfl ?_
  refine WP.getfield (i := 0) (j := 5) d13_1 (hw _ m_106) rfl rfl rfl ?_
  rcases ite_e h with ⟨hc1, h⟩ | ⟨hc1, h⟩
  ·
    refine WP.ifN d13_4 (XT.i0_ne_f hc1) ?_
    refine WP.iconst (-1 : Int32) d13_7 rfl ?_
    cases h
    exact WP.ireturn d13_8 rfl (leb rfl) (leb rfl) ⟨rfl, rfl⟩
  ·
    refine WP.ifY (pc' := 9) d13_4 (XT.i0_ne_t hc1) (by decide) rfl ?_
    refine WP.aloadN d13_9 rfl ?_
    obtain ⟨c2, hc2, h⟩ := Option.bind_eq_some_iff.mp h
    refine WP.callP (i := 0) (y := y1) (as := []) (S := []) d13_10 (hw _ m_81) (hw _ m_83) (hw _ m_1) (hw _ m_82) (hw _ m_84) (hw _ m_2) hy1 rfl (ok1 l Z a0 hw s _ hc2) rfl (lenOf pd1 rfl) (leb rfl) (leb rfl) (leb rfl) (leb rfl) ?_
    rintro _ _ ⟨rfl, rfl⟩
    show W13 l Z n0 (P13 r) 0 0 13 [.val (.ref 0), .unset, .unset] [] (Hb 0 c2)
    refine WP.aloadN d13_13 rfl ?_
    refine WP.iconst (0 : Int32) d13_14 rfl ?_
    obtain ⟨s3, es3, h⟩ := lt_e h
    refine WP.putI (i := 0) (j := 42) (H' := (Hb 0 s3)) d13_15 (hw _ m_165) (Or.inl (hw _ m_166)) (hw _ m_1) (hlay hw) rfl rfl rfl (leb rfl) (by subst es3; rfl) ?_
    refine WP.aloadN d13_18 rfl ?_
    refine WP.iconst (0 : Int32) d13_19 rfl ?_
    obtain ⟨s4, es4, h⟩ := lt_e h
    refine WP.putI (i := 0) (j := 43) (H' := (Hb 0 s4)) d13_20 (hw _ m_167) (Or.inl (hw _ m_168)) (hw _ m_1) (hlay hw) rfl rfl rfl (leb rfl) (by subst es4; rfl) ?_
    refine WP.aloadN d13_23 rfl ?_
    refine WP.iconst (0 : Int32) d13_24 rfl ?_
    obtain ⟨s5, es5, h⟩ := lt_e h
    refine WP.putI (i := 0) (j := 36) (H' := (Hb 0 s5)) d13_25 (hw _ m_169) (Or.inl (hw _ m_170)) (hw _ m_1) (hlay hw) rfl rfl rfl (leb rfl) (by subst es5; rfl) ?_
    refine WP.aloadN d13_28 rfl ?_
    refine WP.sipush (256 : Int32) d13_29 rfl ?_
    obtain ⟨s6, es6, h⟩ := lt_e h
    refine WP.putI (i := 0) (j := 44) (H' := (Hb 0 s6)) d13_32 (hw _ m_171) (Or.inl (hw _ m_172)) (hw _ m_1) (hlay hw) rfl rfl rfl (leb rfl) (by subst es6; rfl) ?_
    refine WP.aloadN d13_35 rfl ?_
    refine WP.iconst (1 : Int32) d13_36 rfl ?_
    obtain ⟨s7, es7, h⟩ := lt_e h
    refine WP.putZ (i := 0) (j := 45) (H' := (Hb 0 s7)) d13_37 (hw _ m_173) (Or.inl (hw _ m_174)) (hw _ m_1) (hlay hw) rfl rfl rfl (leb rfl) (by subst es7; rfl) ?_
    refine WP.aloadN d13_40 rfl ?_
    refine WP.getfield (i := 0) (j := 18) d13_41 (hw _ m_25) rfl rfl rfl ?_
    refine WP.iconst (0 : Int32) d13_44 rfl ?_
    obtain ⟨x8, hx8, h⟩ := Option.bind_eq_some_iff.mp h
    refine WP.iaload (i := 8) d13_45 rfl hx8 ?_
    refine WP.aloadN d13_46 rfl ?_
    refine WP.getfield (i := 0) (j := 0) d13_47 (hw _ m_77) rfl rfl rfl ?_
    rcases ite_e h with ⟨hc9, h⟩ | ⟨hc9, h⟩
    ·
      refine WP.icmpN d13_50 (XT.ii_le_f hc9) ?_
      refine WP.aloadN d13_53 rfl ?_
      refine WP.iconst (5 : Int32) d13_54 rfl ?_
      refine WP.aloadN d13_55 rfl ?_
      refine WP.getfield (i := 0) (j := 15) d13_56 (hw _ m_19) rfl rfl rfl ?_
      refine WP.iconst (0 : Int32) d13_59 rfl ?_
      obtain ⟨x10, hx10, h⟩ := Option.bind_eq_some_iff.mp h
      refine WP.iaload (i := 5) d13_60 rfl hx10 ?_
      cases h
    ·
      refine WP.icmpY (pc' := 69) d13_50 (XT.ii_le_t hc9) (by decide) rfl ?_
      refine WP.aloadN d13_69 rfl ?_
      refine WP.iconst (0 : Int32) d13_70 rfl ?_
      refine WP.iconst (-1 : Int32) d13_71 rfl ?_
      refine WP.iconst (-1 : Int32) d13_72 rfl ?_
      obtain ⟨c11, hc11, h⟩ := Option.bind_eq_some_iff.mp h
      refine WP.callP (i := 0) (y := y15) (as := [.int (0 : Int32), .int (-1 : Int32), .int (-1 : Int32)]) (S := []) d13_73 (hw _ m_175) (hw _ m_177) (hw _ m_1) (hw _ m_176) (hw _ m_178) (hw _ m_2) hy15 rfl (ok15 l Z a0 hw n (0 : Int32) (-1 : Int32) (-1 : Int32) s7 _ hc11) rfl (lenOf pd15 rfl) (leb rfl) (leb rfl) (leb rfl) (leb rfl) ?_
      rintro _ _ ⟨rfl, rfl⟩
      show W13 l Z n0 (P13 r) 0 0 76 [.val (.ref 0), .unset, .unset] [] (Hb 0 c11)
      refine WP.aloadN d13_76 rfl ?_
      refine WP.getfield (i := 0) (j := 19) d13_77 (hw _ m_27) rfl rfl rfl ?_
      refine WP.iconst (0 : Int32) d13_80 rfl ?_
      obtain ⟨x12, hx12, h⟩ := Option.bind_eq_some_iff.mp h
      refine WP.iaload (i := 9) d13_81 rfl hx12 ?_
      refine WP.istoreN (L' := [.val (.ref 0), .val (.int x12), .unset]) d13_82 (leb rfl) rfl ?_
      refine WP.iconst (0 : Int32) d13_83 rfl ?_
      refine WP.istoreN (L' := [.val (.ref 0), .val (.int x12), .val (.int (0 : Int32))]) d13_84 (leb rfl) rfl ?_
      exact WP.weak (L' := [.val (.ref 0), .val (.int x12), .val (.int (0 : Int32))]) ⟨rfl, rfl, rfl, trivial⟩ (ok13_85 l Z a0 hw n0 n x12 (0 : Int32) c11 _ h)
theorem d14_0 : dc prog_1_method_4_code 0 (.aload_n 0) 1 := by decide +kernel
theorem d14_1 : dc prog_1_method_4_code 1 (.getfield 120) 3 := by decide +kernel
theorem d14_4 : dc prog_1_method_4_code 4 (.ireturn) 1 := by decide +kernel
abbrev y14 : MethodName := ⟨"FatPointerC", "tokenCount", "()I"⟩
theorem hy14 : y14.cls ≠ "java/lang/invoke/MethodHandle" ∧ y14.cls ≠ "java/lang/invoke/VarHandle" := by decide
theorem pd14 : parseMethodDescriptor y14.desc = some ⟨[], some .int⟩ := by decide +kernel
abbrev R14 : Room := { frames := 0, cells := 0, slots := 0, locals := 0 }
abbrev P14 (s : St) (r : Int32) : Option Value → List OwnC → Prop := fun v H' => v = some (.int r) ∧ H' = (Hb 0 s)
abbrev W14 (l : Launch) (Z : State) (n0 : Nat) (Q : Option Value → List OwnC → Prop) (k n pc : Nat) (L : List Slot) (S : List Value) (H : List OwnC) : Prop := WP l Z CN lay "FatPointerC" "tokenCount" prog_1_method_4_code 1 (some FieldType.int) R14 n0 0 Q k n pc L S H
def f_tokenCount (s : St) : Option (Int32) :=
  some (gI s 2)
set_option maxRecDepth 65536 in
set_option maxHeartbeats 4000000 in
theorem ok14 (l : Launch) (Z : State) (a0 : Array Value) (hw : HW a0 Z) (s : St) (r : Int32) (h : f_tokenCount s = some r) : CS l Z CN lay y14 prog_1_method_4_code 1 (some FieldType.int) R14 0 [.ref 0] (Hb 0 s) (P14 s r) := by
  refine CS.of_wp pn_cls (leb rfl) fun n0 => ?_
  show W14 l Z n0 (P14 s r) 0 0 0 [.val (.ref 0)] [] (Hb 0 s)
  unfold f_tokenCount at h
  refine WP.aloadN d14_0 rfl ?_
  refine WP.getfield (i := 0) (j := 2) d14_1 (hw _ m_104) rfl rfl rfl ?_
  cases h
  exact WP.ireturn d14_4 rfl (leb rfl) (leb rfl) ⟨rfl, rfl⟩
abbrev PLAW (r : Int32) : Option Value → List OwnC → Prop := fun v _ => v = some (.int r)
abbrev WLAW (l : Launch) (Z : State) (n0 : Nat) (Q : Option Value → List OwnC → Prop) (k n pc : Nat) (L : List Slot) (S : List Value) (H : List OwnC) : Prop := WP l Z CN lay "FatPointerCL2" "law" code maxLocals ret room_1 n0 0 Q k n pc L S H
def f_law_189 (n : Nat) (t0 : Int32) (s0 : St) : Option (Int32) :=
  some (t0 &&& 1)
set_option maxRecDepth 65536 in
set_option maxHeartbeats 4000000 in
theorem okLAW_189 (l : Launch) (Z : State) (a0 : Array Value) (hw : HW a0 Z) (n0 : Nat) (n : Nat) (t0 : Int32) (s0 : St) (r : Int32) (h : f_law_189 n t0 s0 = some r) : WLAW l Z n0 (PLAW r) 34 14040 189 [.unset, .unset, .unset, .unset, .unset, .unset, .unset, .unset, .unset, .unset] [.int t0] (Hb 0 s0) := by
  unfold f_law_189 at h
  cases h
  exact WP.zreturn at_189 rfl (leb rfl) (leb rfl) rfl
def f_law_188 (n : Nat) (s0 : St) : Option (Int32) :=
  f_law_189 n (0 : Int32) s0
set_option maxRecDepth 65536 in
set_option maxHeartbeats 4000000 in
theorem okLAW_188 (l : Launch) (Z : State) (a0 : Array Value) (hw : HW a0 Z) (n0 : Nat) (n : Nat) (s0 : St) (r : Int32) (h : f_law_188 n s0 = some r) : WLAW l Z n0 (PLAW r) 34 14040 188 [.unset, .unset, .unset, .unset, .unset, .unset, .unset, .unset, .unset, .unset] [] (Hb 0 s0) := by
  unfold f_law_188 at h
  refine WP.iconst (0 : Int32) at_188 rfl ?_
  exact WP.weak (L' := [.unset, .unset, .unset, .unset, .unset, .unset, .unset, .unset, .unset, .unset]) trivial (okLAW_189 l Z a0 hw n0 n (0 : Int32) s0 _ h)
def f_law_181 (n : Nat) (t0 : Int32) (t1 : Int32) (s0 : St) : Option (Int32) :=
  if t1 = t0 then
    f_law_189 n (1 : Int32) s0
  else
    f_law_188 n s0
set_option maxRecDepth 65536 in
set_option maxHeartbeats 4000000 in
theorem okLAW_181 (l : Launch) (Z : State) (a0 : Array Value) (hw : HW a0 Z) (n0 : Nat) (n : Nat) (t0 : Int32) (t1 : Int32) (s0 : St) (r : Int32) (h : f_law_181 n t0 t1 s0 = some r) : WLAW l Z n0 (PLAW r) 34 14040 181 [.unset, .unset, .unset, .unset, .unset, .unset, .unset, .unset, .unset, .unset] [.int t0, .int t1] (Hb 0 s0) := by
  unfold f_law_181 at h
  rcases ite_e h with ⟨hc1, h⟩ | ⟨hc1, h⟩
  ·
    refine WP.icmpN at_181 (XT.ii_ne_f hc1) ?_
    refine WP.iconst (1 : Int32) at_184 rfl ?_
    refine WP.goto (pc' := 189) at_185 (by decide) rfl ?_
    exact WP.weak (L' := [.unset, .unset, .unset, .unset, .unset, .unset, .unset, .unset, .unset, .unset]) trivial (okLAW_189 l Z a0 hw n0 n (1 : Int32) s0 _ h)
  ·
    refine WP.icmpY (pc' := 188) at_181 (XT.ii_ne_t hc1) (by decide) rfl ?_
    exact WP.weak (L' := [.unset, .unset, .unset, .unset, .unset, .unset, .unset, .unset, .unset, .unset]) trivial (okLAW_188 l Z a0 hw n0 n s0 _ h)
def f_law_166 (n : Nat) (v7 : Int32) (v9 : Int32) (t0 : Int32) (t1 : Int32) (s0 : St) : Option (Int32) :=
  if t1 = t0 then
    if v9 = 0 then
      f_law_181 n (0 : Int32) v7 s0
    else
      f_law_181 n (-1 : Int32) v7 s0
  else
    f_law_188 n s0
set_option maxRecDepth 65536 in
set_option maxHeartbeats 4000000 in
theorem okLAW_166 (l : Launch) (Z : State) (a0 : Array Value) (hw : HW a0 Z) (n0 : Nat) (n : Nat) (v7 : Int32) (v9 : Int32) (t0 : Int32) (t1 : Int32) (s0 : St) (r : Int32) (h : f_law_166 n v7 v9 t0 t1 s0 = some r) : WLAW l Z n0 (PLAW r) 34 14040 166 [.unset, .unset, .unset, .unset, .unset, .unset, .unset, .val (.int v7), .unset, .val (.int v9)] [.int t0, .int t1] (Hb 0 s0) := by
  unfold f_law_166 at h
  rcases ite_e h with ⟨hc1, h⟩ | ⟨hc1, h⟩
  ·
    refine WP.icmpN at_166 (XT.ii_ne_f hc1) ?_
    refine WP.iload at_169 rfl ?_
    refine WP.iload at_171 rfl ?_
    rcases ite_e h with ⟨hc2, h⟩ | ⟨hc2, h⟩
    ·
      refine WP.ifY (pc' := 180) at_173 (XT.i0_eq_t hc2) (by decide) rfl ?_
      refine WP.iconst (0 : Int32) at_180 rfl ?_
      exact WP.weak (L' := [.unset, .unset, .unset, .unset, .unset, .unset, .unset, .unset, .unset, .unset]) trivial (okLAW_181 l Z a0 hw n0 n (0 : Int32) v7 s0 _ h)
    ·
      refine WP.ifN at_173 (XT.i0_eq_f hc2) ?_
      refine WP.iconst (-1 : Int32) at_176 rfl ?_
      refine WP.goto (pc' := 181) at_177 (by decide) rfl ?_
      exact WP.weak (L' := [.unset, .unset, .unset, .unset, .unset, .unset, .unset, .unset, .unset, .unset]) trivial (okLAW_181 l Z a0 hw n0 n (-1 : Int32) v7 s0 _ h)
  ·
    refine WP.icmpY (pc' := 188) at_166 (XT.ii_ne_t hc1) (by decide) rfl ?_
    exact WP.weak (L' := [.unset, .unset, .unset, .unset, .unset, .unset, .unset, .unset, .unset, .unset]) trivial (okLAW_188 l Z a0 hw n0 n s0 _ h)
def f_law_138 (n : Nat) (v5 : Int32) (v6 : Int32) (v7 : Int32) (v8 : Int32) (t0 : Int32) (s0 : St) : Option (Int32) :=
  if v5 = 0 then
    f_law_188 n s0
  else
    if v6 = t0 then
      if t0 = 0 then
        f_law_166 n v7 t0 (6 : Int32) v8 s0
      else
        f_law_166 n v7 t0 (7 : Int32) v8 s0
    else
      f_law_188 n s0
set_option maxRecDepth 65536 in
set_option maxHeartbeats 4000000 in
theorem okLAW_138 (l : Launch) (Z : State) (a0 : Array Value) (hw : HW a0 Z) (n0 : Nat) (n : Nat) (v5 : Int32) (v6 : Int32) (v7 : Int32) (v8 : Int32) (t0 : Int32) (s0 : St) (r : Int32) (h : f_law_138 n v5 v6 v7 v8 t0 s0 = some r) : WLAW l Z n0 (PLAW r) 34 14040 138 [.unset, .unset, .unset, .unset, .unset, .val (.int v5), .val (.int v6), .val (.int v7), .val (.int v8), .unset] [.int t0] (Hb 0 s0) := by
  unfold f_law_138 at h
  refine WP.istore (L' := [.unset, .unset, .unset, .unset, .unset, .val (.int v5), .val (.int v6), .val (.int v7), .val (.int v8), .val (.int t0)]) at_138 (leb rfl) rfl ?_
  refine WP.iload at_140 rfl ?_
  rcases ite_e h with ⟨hc1, h⟩ | ⟨hc1, h⟩
  ·
    refine WP.ifY (pc' := 188) at_142 (XT.i0_eq_t hc1) (by decide) rfl ?_
    exact WP.weak (L' := [.unset, .unset, .unset, .unset, .unset, .unset, .unset, .unset, .unset, .unset]) trivial (okLAW_188 l Z a0 hw n0 n s0 _ h)
  ·
    refine WP.ifN at_142 (XT.i0_eq_f hc1) ?_
    refine WP.iload at_145 rfl ?_
    refine WP.iload at_147 rfl ?_
    rcases ite_e h with ⟨hc2, h⟩ | ⟨hc2, h⟩
    ·
      refine WP.icmpN at_149 (XT.ii_ne_f hc2) ?_
      refine WP.iload at_152 rfl ?_
      refine WP.iload at_154 rfl ?_
      rcases ite_e h with ⟨hc3, h⟩ | ⟨hc3, h⟩
      ·
        refine WP.ifY (pc' := 164) at_156 (XT.i0_eq_t hc3) (by decide) rfl ?_
        refine WP.bipush (6 : Int32) at_164 rfl ?_
        exact WP.weak (L' := [.unset, .unset, .unset, .unset, .unset, .unset, .unset, .val (.int v7), .unset, .val (.int t0)]) ⟨rfl, rfl, trivial⟩ (okLAW_166 l Z a0 hw n0 n v7 t0 (6 : Int32) v8 s0 _ h)
      ·
        refine WP.ifN at_156 (XT.i0_eq_f hc3) ?_
        refine WP.bipush (7 : Int32) at_159 rfl ?_
        refine WP.goto (pc' := 166) at_161 (by decide) rfl ?_
        exact WP.weak (L' := [.unset, .unset, .unset, .unset, .unset, .unset, .unset, .val (.int v7), .unset, .val (.int t0)]) ⟨rfl, rfl, trivial⟩ (okLAW_166 l Z a0 hw n0 n v7 t0 (7 : Int32) v8 s0 _ h)
    ·
      refine WP.icmpY (pc' := 188) at_149 (XT.ii_ne_t hc2) (by decide) rfl ?_
      exact WP.weak (L' := [.unset, .unset, .unset, .unset, .unset, .unset, .unset, .unset, .unset, .unset]) trivial (okLAW_188 l Z a0 hw n0 n s0 _ h)
def f_law_133 (n : Nat) (v5 : Int32) (v6 : Int32) (v7 : Int32) (v8 : Int32) (s0 : St) : Option (Int32) :=
  f_law_138 n v5 v6 v7 v8 (1 : Int32) s0
set_option maxRecDepth 65536 in
set_option maxHeartbeats 4000000 in
theorem okLAW_133 (l : Launch) (Z : State) (a0 : Array Value) (hw : HW a0 Z) (n0 : Nat) (n : Nat) (v5 : Int32) (v6 : Int32) (v7 : Int32) (v8 : Int32) (s0 : St) (r : Int32) (h : f_law_133 n v5 v6 v7 v8 s0 = some r) : WLAW l Z n0 (PLAW r) 34 14040 133 [.unset, .unset, .unset, .unset, .unset, .val (.int v5), .val (.int v6), .val (.int v7), .val (.int v8), .unset] [] (Hb 0 s0) := by
  unfold f_law_133 at h
  refine WP.iconst (1 : Int32) at_133 rfl ?_
  refine WP.goto (pc' := 138) at_134 (by decide) rfl ?_
  exact WP.weak (L' := [.unset, .unset, .unset, .unset, .unset, .val (.int v5), .val (.int v6), .val (.int v7), .val (.int v8), .unset]) ⟨rfl, rfl, rfl, rfl, trivial⟩ (okLAW_138 l Z a0 hw n0 n v5 v6 v7 v8 (1 : Int32) s0 _ h)
def f_law_137 (n : Nat) (v5 : Int32) (v6 : Int32) (v7 : Int32) (v8 : Int32) (s0 : St) : Option (Int32) :=
  f_law_138 n v5 v6 v7 v8 (0 : Int32) s0
set_option maxRecDepth 65536 in
set_option maxHeartbeats 4000000 in
theorem okLAW_137 (l : Launch) (Z : State) (a0 : Array Value) (hw : HW a0 Z) (n0 : Nat) (n : Nat) (v5 : Int32) (v6 : Int32) (v7 : Int32) (v8 : Int32) (s0 : St) (r : Int32) (h : f_law_137 n v5 v6 v7 v8 s0 = some r) : WLAW l Z n0 (PLAW r) 34 14040 137 [.unset, .unset, .unset, .unset, .unset, .val (.int v5), .val (.int v6), .val (.int v7), .val (.int v8), .unset] [] (Hb 0 s0) := by
  unfold f_law_137 at h
  refine WP.iconst (0 : Int32) at_137 rfl ?_
  exact WP.weak (L' := [.unset, .unset, .unset, .unset, .unset, .val (.int v5), .val (.int v6), .val (.int v7), .val (.int v8), .unset]) ⟨rfl, rfl, rfl, rfl, trivial⟩ (okLAW_138 l Z a0 hw n0 n v5 v6 v7 v8 (0 : Int32) s0 _ h)
def f_law_119 (n : Nat) (v2 : Int32) (v3 : Int32) (v5 : Int32) (v6 : Int32) (v7 : Int32) (v8 : Int32) (s0 : St) : Option (Int32) :=
  if v2 = (3 : Int32) then
    if v3 < 0 then
      f_law_137 n v5 v6 v7 v8 s0
    else
      if (3 : Int32) < v3 then
        f_law_137 n v5 v6 v7 v8 s0
      else
        f_law_133 n v5 v6 v7 v8 s0
  else
    f_law_133 n v5 v6 v7 v8 s0
set_option maxRecDepth 65536 in
set_option maxHeartbeats 4000000 in
theorem okLAW_119 (l : Launch) (Z : State) (a0 : Array Value) (hw : HW a0 Z) (n0 : Nat) (n : Nat) (v2 : Int32) (v3 : Int32) (v5 : Int32) (v6 : Int32) (v7 : Int32) (v8 : Int32) (s0 : St) (r : Int32) (h : f_law_119 n v2 v3 v5 v6 v7 v8 s0 = some r) : WLAW l Z n0 (PLAW r) 34 14040 119 [.unset, .unset, .val (.int v2), .val (.int v3), .unset, .val (.int v5), .val (.int v6), .val (.int v7), .val (.int v8), .unset] [] (Hb 0 s0) := by
  unfold f_law_119 at h
  refine WP.iloadN at_119 rfl ?_
  refine WP.iconst (3 : Int32) at_120 rfl ?_
  rcases ite_e h with ⟨hc1, h⟩ | ⟨hc1, h⟩
  ·
    refine WP.icmpN at_121 (XT.ii_ne_f hc1) ?_
    refine WP.iloadN at_124 rfl ?_
    rcases ite_e h with ⟨hc2, h⟩ | ⟨hc2, h⟩
    ·
      refine WP.ifY (pc' := 137) at_125 (XT.i0_lt_t hc2) (by decide) rfl ?_
      exact WP.weak (L' := [.unset, .unset, .unset, .unset, .unset, .val (.int v5), .val (.int v6), .val (.int v7), .val (.int v8), .unset]) ⟨rfl, rfl, rfl, rfl, trivial⟩ (okLAW_137 l Z a0 hw n0 n v5 v6 v7 v8 s0 _ h)
    ·
      refine WP.ifN at_125 (XT.i0_lt_f hc2) ?_
      refine WP.iloadN at_128 rfl ?_
      refine WP.iconst (3 : Int32) at_129 rfl ?_
      rcases ite_e h with ⟨hc3, h⟩ | ⟨hc3, h⟩
      ·
        refine WP.icmpY (pc' := 137) at_130 (XT.ii_gt_t hc3) (by decide) rfl ?_
        exact WP.weak (L' := [.unset, .unset, .unset, .unset, .unset, .val (.int v5), .val (.int v6), .val (.int v7), .val (.int v8), .unset]) ⟨rfl, rfl, rfl, rfl, trivial⟩ (okLAW_137 l Z a0 hw n0 n v5 v6 v7 v8 s0 _ h)
      ·
        refine WP.icmpN at_130 (XT.ii_gt_f hc3) ?_
        exact WP.weak (L' := [.unset, .unset, .unset, .unset, .unset, .val (.int v5), .val (.int v6), .val (.int v7), .val (.int v8), .unset]) ⟨rfl, rfl, rfl, rfl, trivial⟩ (okLAW_133 l Z a0 hw n0 n v5 v6 v7 v8 s0 _ h)
  ·
    refine WP.icmpY (pc' := 133) at_121 (XT.ii_ne_t hc1) (by decide) rfl ?_
    exact WP.weak (L' := [.unset, .unset, .unset, .unset, .unset, .val (.int v5), .val (.int v6), .val (.int v7), .val (.int v8), .unset]) ⟨rfl, rfl, rfl, rfl, trivial⟩ (okLAW_133 l Z a0 hw n0 n v5 v6 v7 v8 s0 _ h)
def f_law (n : Nat) (p0 : Int32) (p1 : Int32) (p2 : Int32) (p3 : Int32) : Option (Int32) :=
  (f_init p0 p1).bind fun c1 =>
  (f_tok (4 : Int32) (0 : Int32) c1).bind fun c2 =>
  (f_tok (3 : Int32) (0 : Int32) c2.2).bind fun c3 =>
  (f_tok (11 : Int32) (0 : Int32) c3.2).bind fun c4 =>
  (f_tok (12 : Int32) (0 : Int32) c4.2).bind fun c5 =>
  (f_tok (13 : Int32) (0 : Int32) c5.2).bind fun c6 =>
  (f_tok (14 : Int32) (0 : Int32) c6.2).bind fun c7 =>
  (f_compile n c7.2).bind fun c8 =>
  (f_tok p2 p3 c8.2).bind fun c9 =>
  (f_run n c9.2).bind fun c10 =>
  (f_tokenCount c10.2).bind fun c11 =>
  if p2 < (1 : Int32) then
    f_law_137 n c8.1 c9.1 c10.1 c11 c10.2
  else
    if (25 : Int32) < p2 then
      f_law_137 n c8.1 c9.1 c10.1 c11 c10.2
    else
      if p2 = (2 : Int32) then
        if p3 < 0 then
          f_law_137 n c8.1 c9.1 c10.1 c11 c10.2
        else
          if (7 : Int32) < p3 then
            f_law_137 n c8.1 c9.1 c10.1 c11 c10.2
          else
            f_law_119 n p2 p3 c8.1 c9.1 c10.1 c11 c10.2
      else
        f_law_119 n p2 p3 c8.1 c9.1 c10.1 c11 c10.2
set_option maxRecDepth 65536 in
set_option maxHeartbeats 4000000 in
theorem okLAW (l : Launch) (Z : State) (a0 : Array Value) (hw : HW a0 Z) (n : Nat) (p0 : Int32) (p1 : Int32) (p2 : Int32) (p3 : Int32) (r : Int32) (h : f_law n p0 p1 p2 p3 = some r) : CS l Z CN lay x code maxLocals ret room_1 0 [.int p0, .int p1, .int p2, .int p3] ([] : List OwnC) (PLAW r) := by
  refine CS.of_wp pn_law (leb rfl) fun n0 => ?_
  show WLAW l Z n0 (PLAW r) 0 0 0 [.val (.int p0), .val (.int p1), .val (.int p2), .val (.int p3), .unset, .unset, .unset, .unset, .unset, .unset] [] ([] : List OwnC)
  unfold f_law at h
  refine WP.new (vs := vs0) at_0 (hw _ m_0) (hw _ m_1) (hw _ m_2) (leb rfl) (leb rfl) (vs0_ok hw) ?_
  show WLAW l Z n0 (PLAW r) 1 52 3 [.val (.int p0), .val (.int p1), .val (.int p2), .val (.int p3), .unset, .unset, .unset, .unset, .unset, .unset] [.ref 0] ([cO vs0])
  refine WP.dup at_3 rfl ?_
  refine WP.iloadN at_4 rfl ?_
  refine WP.iloadN at_5 rfl ?_
  obtain ⟨c1, hc1, h⟩ := Option.bind_eq_some_iff.mp h
  refine WP.callI (i := 0) (y := y0) (as := [.int p0, .int p1]) (S := [.ref 0]) at_6 rfl (hw _ m_3) (hw _ m_4) (hw _ m_5) (hw _ m_2) hy0 (ok0 l Z a0 hw p0 p1 _ hc1) rfl (lenOf pd0 rfl) (leb rfl) (leb rfl) (leb rfl) (leb rfl) ?_
  rintro _ _ ⟨rfl, rfl⟩
  show WLAW l Z n0 (PLAW r) 34 14040 9 [.val (.int p0), .val (.int p1), .val (.int p2), .val (.int p3), .unset, .unset, .unset, .unset, .unset, .unset] [.ref 0] (Hb 0 c1)
  refine WP.astore (L' := [.val (.int p0), .val (.int p1), .val (.int p2), .val (.int p3), .val (.ref 0), .unset, .unset, .unset, .unset, .unset]) at_9 (leb rfl) rfl ?_
  refine WP.aload at_11 rfl ?_
  refine WP.iconst (4 : Int32) at_13 rfl ?_
  refine WP.iconst (0 : Int32) at_14 rfl ?_
  obtain ⟨c2, hc2, h⟩ := Option.bind_eq_some_iff.mp h
  refine WP.callV (i := 0) (y := y2) (as := [.int (4 : Int32), .int (0 : Int32)]) (S := []) at_15 (hw _ m_99) (hw _ m_100) (hw _ m_102) (hw _ m_101) (hw _ m_103) (hw _ m_2) hy2 rfl (ok2 l Z a0 hw (4 : Int32) (0 : Int32) c1 _ hc2) rfl (lenOf pd2 rfl) (leb rfl) (leb rfl) (leb rfl) (leb rfl) ?_
  rintro _ _ ⟨rfl, rfl⟩
  show WLAW l Z n0 (PLAW r) 34 14040 18 [.val (.int p0), .val (.int p1), .val (.int p2), .val (.int p3), .val (.ref 0), .unset, .unset, .unset, .unset, .unset] [.int c2.1] (Hb 0 c2.2)
  refine WP.pop at_18 rfl ?_
  refine WP.aload at_19 rfl ?_
  refine WP.iconst (3 : Int32) at_21 rfl ?_
  refine WP.iconst (0 : Int32) at_22 rfl ?_
  obtain ⟨c3, hc3, h⟩ := Option.bind_eq_some_iff.mp h
  refine WP.callV (i := 0) (y := y2) (as := [.int (3 : Int32), .int (0 : Int32)]) (S := []) at_23 (hw _ m_99) (hw _ m_100) (hw _ m_102) (hw _ m_101) (hw _ m_103) (hw _ m_2) hy2 rfl (ok2 l Z a0 hw (3 : Int32) (0 : Int32) c2.2 _ hc3) rfl (lenOf pd2 rfl) (leb rfl) (leb rfl) (leb rfl) (leb rfl) ?_
  rintro _ _ ⟨rfl, rfl⟩
  show WLAW l Z n0 (PLAW r) 34 14040 26 [.val (.int p0), .val (.int p1), .val (.int p2), .val (.int p3), .val (.ref 0), .unset, .unset, .unset, .unset, .unset] [.int c3.1] (Hb 0 c3.2)
  refine WP.pop at_26 rfl ?_
  refine WP.aload at_27 rfl ?_
  refine WP.bipush (11 : Int32) at_29 rfl ?_
  refine WP.iconst (0 : Int32) at_31 rfl ?_
  obtain ⟨c4, hc4, h⟩ := Option.bind_eq_some_iff.mp h
  refine WP.callV (i := 0) (y := y2) (as := [.int (11 : Int32), .int (0 : Int32)]) (S := []) at_32 (hw _ m_99) (hw _ m_100) (hw _ m_102) (hw _ m_101) (hw _ m_103) (hw _ m_2) hy2 rfl (ok2 l Z a0 hw (11 : Int32) (0 : Int32) c3.2 _ hc4) rfl (lenOf pd2 rfl) (leb rfl) (leb rfl) (leb rfl) (leb rfl) ?_
  rintro _ _ ⟨rfl, rfl⟩
  show WLAW l Z n0 (PLAW r) 34 14040 35 [.val (.int p0), .val (.int p1), .val (.int p2), .val (.int p3), .val (.ref 0), .unset, .unset, .unset, .unset, .unset] [.int c4.1] (Hb 0 c4.2)
  refine WP.pop at_35 rfl ?_
  refine WP.aload at_36 rfl ?_
  refine WP.bipush (12 : Int32) at_38 rfl ?_
  refine WP.iconst (0 : Int32) at_40 rfl ?_
  obtain ⟨c5, hc5, h⟩ := Option.bind_eq_some_iff.mp h
  refine WP.callV (i := 0) (y := y2) (as := [.int (12 : Int32), .int (0 : Int32)]) (S := []) at_41 (hw _ m_99) (hw _ m_100) (hw _ m_102) (hw _ m_101) (hw _ m_103) (hw _ m_2) hy2 rfl (ok2 l Z a0 hw (12 : Int32) (0 : Int32) c4.2 _ hc5) rfl (lenOf pd2 rfl) (leb rfl) (leb rfl) (leb rfl) (leb rfl) ?_
  rintro _ _ ⟨rfl, rfl⟩
  show WLAW l Z n0 (PLAW r) 34 14040 44 [.val (.int p0), .val (.int p1), .val (.int p2), .val (.int p3), .val (.ref 0), .unset, .unset, .unset, .unset, .unset] [.int c5.1] (Hb 0 c5.2)
  refine WP.pop at_44 rfl ?_
  refine WP.aload at_45 rfl ?_
  refine WP.bipush (13 : Int32) at_47 rfl ?_
  refine WP.iconst (0 : Int32) at_49 rfl ?_
  obtain ⟨c6, hc6, h⟩ := Option.bind_eq_some_iff.mp h
  refine WP.callV (i := 0) (y := y2) (as := [.int (13 : Int32), .int (0 : Int32)]) (S := []) at_50 (hw _ m_99) (hw _ m_100) (hw _ m_102) (hw _ m_101) (hw _ m_103) (hw _ m_2) hy2 rfl (ok2 l Z a0 hw (13 : Int32) (0 : Int32) c5.2 _ hc6) rfl (lenOf pd2 rfl) (leb rfl) (leb rfl) (leb rfl) (leb rfl) ?_
  rintro _ _ ⟨rfl, rfl⟩
  show WLAW l Z n0 (PLAW r) 34 14040 53 [.val (.int p0), .val (.int p1), .val (.int p2), .val (.int p3), .val (.ref 0), .unset, .unset, .unset, .unset, .unset] [.int c6.1] (Hb 0 c6.2)
  refine WP.pop at_53 rfl ?_
  refine WP.aload at_54 rfl ?_
  refine WP.bipush (14 : Int32) at_56 rfl ?_
  refine WP.iconst (0 : Int32) at_58 rfl ?_
  obtain ⟨c7, hc7, h⟩ := Option.bind_eq_some_iff.mp h
  refine WP.callV (i := 0) (y := y2) (as := [.int (14 : Int32), .int (0 : Int32)]) (S := []) at_59 (hw _ m_99) (hw _ m_100) (hw _ m_102) (hw _ m_101) (hw _ m_103) (hw _ m_2) hy2 rfl (ok2 l Z a0 hw (14 : Int32) (0 : Int32) c6.2 _ hc7) rfl (lenOf pd2 rfl) (leb rfl) (leb rfl) (leb rfl) (leb rfl) ?_
  rintro _ _ ⟨rfl, rfl⟩
  show WLAW l Z n0 (PLAW r) 34 14040 62 [.val (.int p0), .val (.int p1), .val (.int p2), .val (.int p3), .val (.ref 0), .unset, .unset, .unset, .unset, .unset] [.int c7.1] (Hb 0 c7.2)
  refine WP.pop at_62 rfl ?_
  refine WP.aload at_63 rfl ?_
  obtain ⟨c8, hc8, h⟩ := Option.bind_eq_some_iff.mp h
  refine WP.callV (i := 0) (y := y3) (as := []) (S := []) at_65 (hw _ m_108) (hw _ m_109) (hw _ m_111) (hw _ m_110) (hw _ m_112) (hw _ m_2) hy3 rfl (ok3 l Z a0 hw n c7.2 _ hc8) rfl (lenOf pd3 rfl) (leb rfl) (leb rfl) (leb rfl) (leb rfl) ?_
  rintro _ _ ⟨rfl, rfl⟩
  show WLAW l Z n0 (PLAW r) 34 14040 68 [.val (.int p0), .val (.int p1), .val (.int p2), .val (.int p3), .val (.ref 0), .unset, .unset, .unset, .unset, .unset] [.int c8.1] (Hb 0 c8.2)
  refine WP.istore (L' := [.val (.int p0), .val (.int p1), .val (.int p2), .val (.int p3), .val (.ref 0), .val (.int c8.1), .unset, .unset, .unset, .unset]) at_68 (leb rfl) rfl ?_
  refine WP.aload at_70 rfl ?_
  refine WP.iloadN at_72 rfl ?_
  refine WP.iloadN at_73 rfl ?_
  obtain ⟨c9, hc9, h⟩ := Option.bind_eq_some_iff.mp h
  refine WP.callV (i := 0) (y := y2) (as := [.int p2, .int p3]) (S := []) at_74 (hw _ m_99) (hw _ m_100) (hw _ m_102) (hw _ m_101) (hw _ m_103) (hw _ m_2) hy2 rfl (ok2 l Z a0 hw p2 p3 c8.2 _ hc9) rfl (lenOf pd2 rfl) (leb rfl) (leb rfl) (leb rfl) (leb rfl) ?_
  rintro _ _ ⟨rfl, rfl⟩
  show WLAW l Z n0 (PLAW r) 34 14040 77 [.val (.int p0), .val (.int p1), .val (.int p2), .val (.int p3), .val (.ref 0), .val (.int c8.1), .unset, .unset, .unset, .unset] [.int c9.1] (Hb 0 c9.2)
  refine WP.istore (L' := [.val (.int p0), .val (.int p1), .val (.int p2), .val (.int p3), .val (.ref 0), .val (.int c8.1), .val (.int c9.1), .unset, .unset, .unset]) at_77 (leb rfl) rfl ?_
  refine WP.aload at_79 rfl ?_
  obtain ⟨c10, hc10, h⟩ := Option.bind_eq_some_iff.mp h
  refine WP.callV (i := 0) (y := y13) (as := []) (S := []) at_81 (hw _ m_155) (hw _ m_156) (hw _ m_158) (hw _ m_157) (hw _ m_159) (hw _ m_2) hy13 rfl (ok13 l Z a0 hw n c9.2 _ hc10) rfl (lenOf pd13 rfl) (leb rfl) (leb rfl) (leb rfl) (leb rfl) ?_
  rintro _ _ ⟨rfl, rfl⟩
  show WLAW l Z n0 (PLAW r) 34 14040 84 [.val (.int p0), .val (.int p1), .val (.int p2), .val (.int p3), .val (.ref 0), .val (.int c8.1), .val (.int c9.1), .unset, .unset, .unset] [.int c10.1] (Hb 0 c10.2)
  refine WP.istore (L' := [.val (.int p0), .val (.int p1), .val (.int p2), .val (.int p3), .val (.ref 0), .val (.int c8.1), .val (.int c9.1), .val (.int c10.1), .unset, .unset]) at_84 (leb rfl) rfl ?_
  refine WP.aload at_86 rfl ?_
  obtain ⟨c11, hc11, h⟩ := Option.bind_eq_some_iff.mp h
  refine WP.callV (i := 0) (y := y14) (as := []) (S := []) at_88 (hw _ m_160) (hw _ m_161) (hw _ m_163) (hw _ m_162) (hw _ m_164) (hw _ m_2) hy14 rfl (ok14 l Z a0 hw c10.2 _ hc11) rfl (lenOf pd14 rfl) (leb rfl) (leb rfl) (leb rfl) (leb rfl) ?_
  rintro _ _ ⟨rfl, rfl⟩
  show WLAW l Z n0 (PLAW r) 34 14040 91 [.val (.int p0), .val (.int p1), .val (.int p2), .val (.int p3), .val (.ref 0), .val (.int c8.1), .val (.int c9.1), .val (.int c10.1), .unset, .unset] [.int c11] (Hb 0 c10.2)
  refine WP.istore (L' := [.val (.int p0), .val (.int p1), .val (.int p2), .val (.int p3), .val (.ref 0), .val (.int c8.1), .val (.int c9.1), .val (.int c10.1), .val (.int c11), .unset]) at_91 (leb rfl) rfl ?_
  refine WP.iloadN at_93 rfl ?_
  refine WP.iconst (1 : Int32) at_94 rfl ?_
  rcases ite_e h with ⟨hc12, h⟩ | ⟨hc12, h⟩
  ·
    refine WP.icmpY (pc' := 137) at_95 (XT.ii_lt_t hc12) (by decide) rfl ?_
    exact WP.weak (L' := [.unset, .unset, .unset, .unset, .unset, .val (.int c8.1), .val (.int c9.1), .val (.int c10.1), .val (.int c11), .unset]) ⟨rfl, rfl, rfl, rfl, trivial⟩ (okLAW_137 l Z a0 hw n0 n c8.1 c9.1 c10.1 c11 c10.2 _ h)
  ·
    refine WP.icmpN at_95 (XT.ii_lt_f hc12) ?_
    refine WP.iloadN at_98 rfl ?_
    refine WP.bipush (25 : Int32) at_99 rfl ?_
    rcases ite_e h with ⟨hc13, h⟩ | ⟨hc13, h⟩
    ·
      refine WP.icmpY (pc' := 137) at_101 (XT.ii_gt_t hc13) (by decide) rfl ?_
      exact WP.weak (L' := [.unset, .unset, .unset, .unset, .unset, .val (.int c8.1), .val (.int c9.1), .val (.int c10.1), .val (.int c11), .unset]) ⟨rfl, rfl, rfl, rfl, trivial⟩ (okLAW_137 l Z a0 hw n0 n c8.1 c9.1 c10.1 c11 c10.2 _ h)
    ·
      refine WP.icmpN at_101 (XT.ii_gt_f hc13) ?_
      refine WP.iloadN at_104 rfl ?_
      refine WP.iconst (2 : Int32) at_105 rfl ?_
      rcases ite_e h with ⟨hc14, h⟩ | ⟨hc14, h⟩
      ·
        refine WP.icmpN at_106 (XT.ii_ne_f hc14) ?_
        refine WP.iloadN at_109 rfl ?_
        rcases ite_e h with ⟨hc15, h⟩ | ⟨hc15, h⟩
        ·
          refine WP.ifY (pc' := 137) at_110 (XT.i0_lt_t hc15) (by decide) rfl ?_
          exact WP.weak (L' := [.unset, .unset, .unset, .unset, .unset, .val (.int c8.1), .val (.int c9.1), .val (.int c10.1), .val (.int c11), .unset]) ⟨rfl, rfl, rfl, rfl, trivial⟩ (okLAW_137 l Z a0 hw n0 n c8.1 c9.1 c10.1 c11 c10.2 _ h)
        ·
          refine WP.ifN at_110 (XT.i0_lt_f hc15) ?_
          refine WP.iloadN at_113 rfl ?_
          refine WP.bipush (7 : Int32) at_114 rfl ?_
          rcases ite_e h with ⟨hc16, h⟩ | ⟨hc16, h⟩
          ·
            refine WP.icmpY (pc' := 137) at_116 (XT.ii_gt_t hc16) (by decide) rfl ?_
            exact WP.weak (L' := [.unset, .unset, .unset, .unset, .unset, .val (.int c8.1), .val (.int c9.1), .val (.int c10.1), .val (.int c11), .unset]) ⟨rfl, rfl, rfl, rfl, trivial⟩ (okLAW_137 l Z a0 hw n0 n c8.1 c9.1 c10.1 c11 c10.2 _ h)
          ·
            refine WP.icmpN at_116 (XT.ii_gt_f hc16) ?_
            exact WP.weak (L' := [.unset, .unset, .val (.int p2), .val (.int p3), .unset, .val (.int c8.1), .val (.int c9.1), .val (.int c10.1), .val (.int c11), .unset]) ⟨rfl, rfl, rfl, rfl, rfl, rfl, trivial⟩ (okLAW_119 l Z a0 hw n0 n p2 p3 c8.1 c9.1 c10.1 c11 c10.2 _ h)
      ·
        refine WP.icmpY (pc' := 119) at_106 (XT.ii_ne_t hc14) (by decide) rfl ?_
        exact WP.weak (L' := [.unset, .unset, .val (.int p2), .val (.int p3), .unset, .val (.int c8.1), .val (.int c9.1), .val (.int c10.1), .val (.int c11), .unset]) ⟨rfl, rfl, rfl, rfl, rfl, rfl, trivial⟩ (okLAW_119 l Z a0 hw n0 n p2 p3 c8.1 c9.1 c10.1 c11 c10.2 _ h)
theorem own_ex {α β : Type} {o : Option α} {g : α → Option β} {b : β} (h : o.bind g = some b) : ∃ c, o = some c ∧ g c = some b := by
  cases o with
  | none => cases h
  | some c => exact ⟨c, rfl, h⟩

def own_cl (s : St) : St := sI (sI (sI (sI (sI (sI (sI s 4 (-1)) 5 (-1)) 6 0) 7 (-1)) 8 0) 9 0) 10 0
theorem own_clr (s : St) : f_clearResults s = some (own_cl s) := rfl
def own_I (m d : Int32) : St := own_cl (sI (sI st0 0 m) 1 d)
theorem own_in (p0 p1 : Int32) : ∃ m d, f_init p0 p1 = some (own_I m d) ∧ ¬ m < 0 := by
  have h315 : ∀ d m, f_init_315 d (sI st0 0 m) = some (own_I m d) := fun d m => rfl
  have h304 : ∀ d m, ∃ d', f_init_304 d (sI st0 0 m) = some (own_I m d') := fun d m => by
    unfold f_init_304
    split
    · exact ⟨_, h315 _ _⟩
    · exact ⟨_, h315 _ _⟩
  have h287 : ∀ d m, ∃ d', f_init_287 d m st0 = some (own_I m d') := fun d m => by
    unfold f_init_287 lt
    split
    · exact h304 _ _
    · exact h304 _ _
  have h278 : ∀ d m, ¬ m < 8 → ∃ m' d', f_init_278 d m st0 = some (own_I m' d') ∧ ¬ m' < 0 := fun d m hm => by
    unfold f_init_278
    split
    · obtain ⟨d', e⟩ := h287 d 64
      exact ⟨_, d', e, by decide⟩
    · obtain ⟨d', e⟩ := h287 d m
      refine ⟨_, d', e, fun q => hm ?_⟩
      rw [x32_lt] at q ⊢
      have e0 : (0 : Int32).toInt = 0 := rfl
      have e8 : (8 : Int32).toInt = 8 := rfl
      omega
  unfold f_init lt
  split
  · exact h278 _ _ (by decide)
  · rename_i h; exact h278 _ _ h
def own_tk (k : Nat) (a b : Int32) (s : St) : St := own_cl (sI (sI (sA (sA s 0 ((gA s 0).set k a)) 1 ((gA s 1).set k b)) 2 (Int32.ofNat (k + 1))) 3 0)
theorem own_t77 {k : Nat} (a b : Int32) {s : St} (h2 : gI s 2 = Int32.ofNat k) (hk : k < 256) (l0 : (gA s 0).length = 256) (l1 : (gA s 1).length = 256) : f_tok_77 a b s = some (1, own_tk k a b s) := by
  unfold f_tok_77 lt
  rw [wrA_of (k := k) a (by rw [h2]; exact ofN_int (by omega)) (by omega), Option.bind_some]
  rw [wrA_of (k := k) b (by show (gI s 2).toInt = _; rw [h2]; exact ofN_int (by omega)) (by show k < (gA s 1).length; omega), Option.bind_some]
  dsimp only
  rw [own_clr, Option.bind_some]
  show some ((1 : Int32), own_cl (sI (sI (sA (sA s 0 ((gA s 0).set k a)) 1 ((gA s 1).set k b)) 2 (gI s 2 + 1)) 3 0)) = _
  rw [h2, ofN_succ]; rfl
theorem own_n256 {k : Nat} (hk : k < 256) : ¬ Int32.ofNat k = 256 := fun q => by
  have := (ofN_eqL (m := 256) (by omega) (by decide)).mp q
  omega
theorem own_tok4 {k : Nat} {s : St} (h2 : gI s 2 = Int32.ofNat k) (hk : k < 256) (l0 : (gA s 0).length = 256) (l1 : (gA s 1).length = 256) : f_tok 4 0 s = some (1, own_tk k 4 0 s) := by
  unfold f_tok
  rw [h2, if_neg (own_n256 hk), if_neg (by decide), if_neg (by decide), if_neg (by decide)]
  unfold f_tok_42 f_tok_58 f_tok_75
  rw [if_neg (by decide), if_neg (by decide), if_neg (by decide), if_neg (by decide)]
  exact own_t77 4 0 h2 hk l0 l1
theorem own_tok3 {k : Nat} {s : St} (h2 : gI s 2 = Int32.ofNat k) (hk : k < 256) (l0 : (gA s 0).length = 256) (l1 : (gA s 1).length = 256) : f_tok 3 0 s = some (1, own_tk k 3 0 s) := by
  unfold f_tok
  rw [h2, if_neg (own_n256 hk), if_neg (by decide), if_neg (by decide), if_neg (by decide)]
  unfold f_tok_42 f_tok_58 f_tok_75
  rw [if_pos rfl, if_neg (by decide), if_neg (by decide), if_neg (by decide), if_neg (by decide), if_pos rfl]
  exact own_t77 3 0 h2 hk l0 l1
theorem own_tok11 {k : Nat} {s : St} (h2 : gI s 2 = Int32.ofNat k) (hk : k < 256) (l0 : (gA s 0).length = 256) (l1 : (gA s 1).length = 256) : f_tok 11 0 s = some (1, own_tk k 11 0 s) := by
  unfold f_tok
  rw [h2, if_neg (own_n256 hk), if_neg (by decide), if_neg (by decide), if_neg (by decide)]
  unfold f_tok_42 f_tok_58 f_tok_75
  rw [if_neg (by decide), if_neg (by decide), if_neg (by decide), if_neg (by decide)]
  exact own_t77 11 0 h2 hk l0 l1
theorem own_tok12 {k : Nat} {s : St} (h2 : gI s 2 = Int32.ofNat k) (hk : k < 256) (l0 : (gA s 0).length = 256) (l1 : (gA s 1).length = 256) : f_tok 12 0 s = some (1, own_tk k 12 0 s) := by
  unfold f_tok
  rw [h2, if_neg (own_n256 hk), if_neg (by decide), if_neg (by decide), if_neg (by decide)]
  unfold f_tok_42 f_tok_58 f_tok_75
  rw [if_neg (by decide), if_neg (by decide), if_neg (by decide), if_neg (by decide)]
  exact own_t77 12 0 h2 hk l0 l1
theorem own_tok13 {k : Nat} {s : St} (h2 : gI s 2 = Int32.ofNat k) (hk : k < 256) (l0 : (gA s 0).length = 256) (l1 : (gA s 1).length = 256) : f_tok 13 0 s = some (1, own_tk k 13 0 s) := by
  unfold f_tok
  rw [h2, if_neg (own_n256 hk), if_neg (by decide), if_neg (by decide), if_neg (by decide)]
  unfold f_tok_42 f_tok_58 f_tok_75
  rw [if_neg (by decide), if_neg (by decide), if_neg (by decide), if_neg (by decide)]
  exact own_t77 13 0 h2 hk l0 l1
theorem own_tok14 {k : Nat} {s : St} (h2 : gI s 2 = Int32.ofNat k) (hk : k < 256) (l0 : (gA s 0).length = 256) (l1 : (gA s 1).length = 256) : f_tok 14 0 s = some (1, own_tk k 14 0 s) := by
  unfold f_tok
  rw [h2, if_neg (own_n256 hk), if_neg (by decide), if_neg (by decide), if_neg (by decide)]
  unfold f_tok_42 f_tok_58 f_tok_75
  rw [if_neg (by decide), if_neg (by decide), if_neg (by decide), if_neg (by decide)]
  exact own_t77 14 0 h2 hk l0 l1
def own_S1 (m d : Int32) : St := own_tk 0 4 0 (own_I m d)
def own_S2 (m d : Int32) : St := own_tk 1 3 0 (own_S1 m d)
def own_S3 (m d : Int32) : St := own_tk 2 11 0 (own_S2 m d)
def own_S4 (m d : Int32) : St := own_tk 3 12 0 (own_S3 m d)
def own_S5 (m d : Int32) : St := own_tk 4 13 0 (own_S4 m d)
def own_S6 (m d : Int32) : St := own_tk 5 14 0 (own_S5 m d)
theorem own_tkl (k : Nat) (a b : Int32) (s : St) (l0 : (gA s 0).length = 256) : (gA (own_tk k a b s) 0).length = 256 := by
  show ((gA s 0).set k a).length = 256; rw [set_len]; exact l0
theorem own_tkm (k : Nat) (a b : Int32) (s : St) (l0 : (gA s 1).length = 256) : (gA (own_tk k a b s) 1).length = 256 := by
  show ((gA s 1).set k b).length = 256; rw [set_len]; exact l0
theorem own_L0 (m d : Int32) : (gA (own_I m d) 0).length = 256 ∧ (gA (own_I m d) 1).length = 256 := ⟨List.length_replicate, List.length_replicate⟩
theorem own_L1 (m d : Int32) : (gA (own_S1 m d) 0).length = 256 ∧ (gA (own_S1 m d) 1).length = 256 := ⟨own_tkl _ _ _ _ (own_L0 m d).1, own_tkm _ _ _ _ (own_L0 m d).2⟩
theorem own_L2 (m d : Int32) : (gA (own_S2 m d) 0).length = 256 ∧ (gA (own_S2 m d) 1).length = 256 := ⟨own_tkl _ _ _ _ (own_L1 m d).1, own_tkm _ _ _ _ (own_L1 m d).2⟩
theorem own_L3 (m d : Int32) : (gA (own_S3 m d) 0).length = 256 ∧ (gA (own_S3 m d) 1).length = 256 := ⟨own_tkl _ _ _ _ (own_L2 m d).1, own_tkm _ _ _ _ (own_L2 m d).2⟩
theorem own_L4 (m d : Int32) : (gA (own_S4 m d) 0).length = 256 ∧ (gA (own_S4 m d) 1).length = 256 := ⟨own_tkl _ _ _ _ (own_L3 m d).1, own_tkm _ _ _ _ (own_L3 m d).2⟩
theorem own_L5 (m d : Int32) : (gA (own_S5 m d) 0).length = 256 ∧ (gA (own_S5 m d) 1).length = 256 := ⟨own_tkl _ _ _ _ (own_L4 m d).1, own_tkm _ _ _ _ (own_L4 m d).2⟩
theorem own_L6 (m d : Int32) : (gA (own_S6 m d) 0).length = 256 ∧ (gA (own_S6 m d) 1).length = 256 := ⟨own_tkl _ _ _ _ (own_L5 m d).1, own_tkm _ _ _ _ (own_L5 m d).2⟩
theorem own_T0 (m d : Int32) : f_tok 4 0 (own_I m d) = some (1, own_S1 m d) := own_tok4 rfl (by decide) (own_L0 m d).1 (own_L0 m d).2
theorem own_T1 (m d : Int32) : f_tok 3 0 (own_S1 m d) = some (1, own_S2 m d) := own_tok3 rfl (by decide) (own_L1 m d).1 (own_L1 m d).2
theorem own_T2 (m d : Int32) : f_tok 11 0 (own_S2 m d) = some (1, own_S3 m d) := own_tok11 rfl (by decide) (own_L2 m d).1 (own_L2 m d).2
theorem own_T3 (m d : Int32) : f_tok 12 0 (own_S3 m d) = some (1, own_S4 m d) := own_tok12 rfl (by decide) (own_L3 m d).1 (own_L3 m d).2
theorem own_T4 (m d : Int32) : f_tok 13 0 (own_S4 m d) = some (1, own_S5 m d) := own_tok13 rfl (by decide) (own_L4 m d).1 (own_L4 m d).2
theorem own_T5 (m d : Int32) : f_tok 14 0 (own_S5 m d) = some (1, own_S6 m d) := own_tok14 rfl (by decide) (own_L5 m d).1 (own_L5 m d).2
/-- the fill loops of the parse -/
theorem own_pp2 (s : St) (n : Nat) (h3 : gA s 3 = List.replicate 4 0) (h4 : gA s 4 = List.replicate 4 0) (h5 : gA s 5 = List.replicate 4 0) (h6 : gA s 6 = List.replicate 4 0) (h7 : gA s 7 = List.replicate 4 0) (h8 : gA s 8 = List.replicate 4 0) : ∀ (j k : Nat), j + k = 4 → f_parseProgram_2 (n + 1 + j) (Int32.ofNat k) s = f_parseProgram_57 n 0 s
  | 0, k, h => by
    have : k = 4 := by omega
    subst this
    show g_parseProgram_2 (f_parseProgram_2 n) n 4 s = _
    unfold g_parseProgram_2
    rw [if_neg (by decide)]
  | j + 1, k, h => by
    show g_parseProgram_2 (f_parseProgram_2 (n + 1 + j)) (n + 1 + j) (Int32.ofNat k) s = _
    unfold g_parseProgram_2 lt
    have hk : k < 4 := by omega
    rw [if_pos ((ofN_ltL (m := 4) (by omega) (by decide)).mpr hk), wrA_nop h3 hk (by decide), Option.bind_some, wrA_nop h5 hk (by decide), Option.bind_some, wrA_nop h6 hk (by decide), Option.bind_some, wrA_nop h7 hk (by decide), Option.bind_some, wrA_nop h8 hk (by decide), Option.bind_some, wrA_nop h4 hk (by decide), Option.bind_some, ofN_succ]
    exact own_pp2 s n h3 h4 h5 h6 h7 h8 j (k + 1) (by omega)
def own_F (k : Nat) : List Int32 := List.replicate k (-1) ++ List.replicate (256 - k) 0
theorem own_Fl (k : Nat) (hk : k ≤ 256) : (own_F k).length = 256 := by unfold own_F; rw [List.length_append, List.length_replicate, List.length_replicate]; omega
theorem own_Fs (k : Nat) (hk : k < 256) : (own_F k).set k (-1) = own_F (k + 1) := fill_set _ _ _ _ hk
def own_M (s : St) (k : Nat) : St := sA (sA (sA s 12 (own_F k)) 13 (own_F k)) 14 (own_F k)
theorem own_Ms (s : St) (k : Nat) : sA (sA (sA (own_M s k) 12 (own_F (k + 1))) 13 (own_F (k + 1))) 14 (own_F (k + 1)) = own_M s (k + 1) := by
  unfold own_M
  rw [sA_comm (s := sA (sA s 12 (own_F k)) 13 (own_F k)) (i := 14) (j := 12) (by decide), sA_comm (s := sA s 12 (own_F k)) (i := 13) (j := 12) (by decide), sA_sA, sA_comm (i := 14) (j := 13) (by decide), sA_sA, sA_sA]
theorem own_pp57 (s : St) (n : Nat) : ∀ (j k : Nat), j + k = 256 → f_parseProgram_57 (n + 1 + j) (Int32.ofNat k) (own_M s k) = if 0 < gI s 2 then f_parseProgram_104 n 1 (own_M s 256) else f_parseProgram_104 n 0 (own_M s 256)
  | 0, k, h => by
    have : k = 256 := by omega
    subst this
    show g_parseProgram_57 (f_parseProgram_57 n) n 256 (own_M s 256) = _
    unfold g_parseProgram_57
    rw [if_neg (by decide)]; rfl
  | j + 1, k, h => by
    show g_parseProgram_57 (f_parseProgram_57 (n + 1 + j)) (n + 1 + j) (Int32.ofNat k) (own_M s k) = _
    unfold g_parseProgram_57 lt
    have hk : k < 256 := by omega
    have hl : k < (own_F k).length := by rw [own_Fl k (by omega)]; exact hk
    rw [if_pos ((ofN_ltL (m := 256) (by omega) (by decide)).mpr hk)]
    rw [wrA_of (s := own_M s k) (k := k) (f := 12) (-1) (ofN_int (by omega)) hl, Option.bind_some]
    rw [wrA_of (s := sA (own_M s k) 12 _) (k := k) (f := 13) (-1) (ofN_int (by omega)) hl, Option.bind_some]
    rw [wrA_of (s := sA (sA (own_M s k) 12 _) 13 _) (k := k) (f := 14) (-1) (ofN_int (by omega)) hl, Option.bind_some]
    show f_parseProgram_57 (n + 1 + j) (Int32.ofNat k + 1) (sA (sA (sA (own_M s k) 12 ((own_F k).set k (-1))) 13 ((own_F k).set k (-1))) 14 ((own_F k).set k (-1))) = _
    rw [own_Fs k hk, own_Ms, ofN_succ]
    exact own_pp57 s n j (k + 1) (by omega)
theorem own_M0 (s : St) (h12 : gA s 12 = List.replicate 256 0) (h13 : gA s 13 = List.replicate 256 0) (h14 : gA s 14 = List.replicate 256 0) : own_M s 0 = s := by
  unfold own_M own_F
  rw [sA_self (s := s) (by rw [h12]; rfl), sA_self (s := s) (by rw [h13]; rfl), sA_self (s := s) (by rw [h14]; rfl)]
def own_N (s : St) : St := sA (sA (sA s 12 (List.replicate 256 (-1))) 13 (List.replicate 256 (-1))) 14 (List.replicate 256 (-1))
theorem own_MN (s : St) : own_M s 256 = own_N s := by
  unfold own_M own_N
  rw [show own_F 256 = List.replicate 256 (-1) from by unfold own_F; rw [Nat.sub_self]; exact List.append_nil _]
def own_C (s : St) : Option (Int32 × St) := (f_parseProgram_104 338 1 (own_N (own_cl s))).bind fun c2 => some ((gI (sI c2.2 3 (c2.1 &&& 1)) 3) &&& 1, sI c2.2 3 (c2.1 &&& 1))
theorem own_pp (s : St) (h3 : gA s 3 = List.replicate 4 0) (h4 : gA s 4 = List.replicate 4 0) (h5 : gA s 5 = List.replicate 4 0) (h6 : gA s 6 = List.replicate 4 0) (h7 : gA s 7 = List.replicate 4 0) (h8 : gA s 8 = List.replicate 4 0) (h12 : gA s 12 = List.replicate 256 0) (h13 : gA s 13 = List.replicate 256 0) (h14 : gA s 14 = List.replicate 256 0) (h2 : 0 < gI s 2) : f_parseProgram 600 s = f_parseProgram_104 338 1 (own_N s) := by
  have a := own_pp2 s 595 h3 h4 h5 h6 h7 h8 4 0 rfl
  have b := own_pp57 s 338 256 0 rfl
  rw [own_M0 s h12 h13 h14, if_pos h2, own_MN] at b
  exact a.trans b
theorem own_cp (s : St) (h3 : gA s 3 = List.replicate 4 0) (h4 : gA s 4 = List.replicate 4 0) (h5 : gA s 5 = List.replicate 4 0) (h6 : gA s 6 = List.replicate 4 0) (h7 : gA s 7 = List.replicate 4 0) (h8 : gA s 8 = List.replicate 4 0) (h12 : gA s 12 = List.replicate 256 0) (h13 : gA s 13 = List.replicate 256 0) (h14 : gA s 14 = List.replicate 256 0) (h2 : 0 < gI s 2) : f_compile 600 s = own_C s := by
  unfold f_compile
  rw [own_clr, Option.bind_some, own_pp (own_cl s) h3 h4 h5 h6 h7 h8 h12 h13 h14 h2]; rfl
def own_r0 (s : St) : St := sI (sI (sI (sI (sI (own_cl s) 15 0) 16 0) 14 0) 17 256) 18 1
def own_run (s : St) : Option (Int32 × St) := (f_pushFrame 600 (0 : Int32) (-1 : Int32) (-1 : Int32) (own_r0 s)).bind fun c11 => (rd (gA c11 8) (0 : Int32)).bind fun x12 => f_run_85 600 x12 (0 : Int32) c11
theorem own_rn (s : St) (h3 : gI s 3 = 1) (h7 : rd (gA s 7) 0 = some 0) (h0 : ¬ gI s 0 < 0) : f_run 600 s = own_run s := by
  unfold f_run lt
  rw [h3, if_neg (by decide), own_clr, Option.bind_some]
  dsimp only
  rw [show rd (gA (sI (sI (sI (sI (sI (own_cl s) 15 0) 16 0) 14 0) 17 256) 18 1) 7) 0 = some 0 from h7, Option.bind_some, if_neg (show ¬ gI (sI (sI (sI (sI (sI (own_cl s) 15 0) 16 0) 14 0) 17 256) 18 1) 0 < 0 from h0)]
  rfl
set_option maxRecDepth 100000
theorem own_e1 (m d : Int32) : ((own_C (own_S6 m d)).bind fun c8 => if c8.1 = 1 ∧ gI c8.2 2 = 6 ∧ gI c8.2 3 = 1 ∧ (gA c8.2 0).length = 256 ∧ (gA c8.2 1).length = 256 ∧ rd (gA c8.2 7) 0 = some 0 then some 1 else none) = some 1 := by cbv
theorem own_e2 (m d : Int32) : ((own_C (own_S6 m d)).bind fun c8 => some (gI c8.2 0)) = some m := by cbv
theorem own_e3 (m d : Int32) : ((own_C (own_S6 m d)).bind fun c8 => (own_run c8.2).bind fun c10 => if c10.1 = 0 ∧ gI c10.2 2 = 6 then some 1 else none) = some 1 := by cbv
/-- a last token that is taken -/
theorem own_acc (a b : Int32) {s : St} {c : Int32} (h2 : gI s 2 = 6) (l0 : (gA s 0).length = 256) (l1 : (gA s 1).length = 256) (hc : ¬ c = 0) : ((f_tok_77 a b s).bind fun c9 => (f_run 600 c9.2).bind fun c10 => (f_tokenCount c10.2).bind fun c11 => f_law_133 600 c c9.1 c10.1 c11 c10.2) = some 1 := by
  rw [own_t77 (k := 6) a b h2 (by decide) l0 l1, Option.bind_some]
  have r : f_run 600 (own_tk 6 a b s) = some (-1, own_tk 6 a b s) := by
    unfold f_run
    rw [show gI (own_tk 6 a b s) 3 = 0 from rfl, if_pos rfl]
  dsimp only
  rw [r, Option.bind_some]
  dsimp only
  unfold f_tokenCount
  rw [Option.bind_some, show gI (own_tk 6 a b s) 2 = 7 from rfl]
  unfold f_law_133 f_law_138 f_law_166 f_law_181 f_law_189
  rw [if_neg hc, if_pos rfl, if_neg (by decide), if_pos rfl, if_neg (by decide), if_pos rfl]; rfl
theorem owed (p0 p1 p2 p3 : Int32) : ∃ fu, f_law fu p0 p1 p2 p3 = some 1 := by
  refine ⟨600, ?_⟩
  obtain ⟨m, d, hi, hm⟩ := own_in p0 p1
  obtain ⟨c8, e8, k1⟩ := own_ex (own_e1 m d)
  have k2 := own_e2 m d
  have k3 := own_e3 m d
  rw [e8, Option.bind_some] at k2 k3
  have k2 : gI c8.2 0 = m := Option.some.inj k2
  by_cases hh : c8.1 = 1 ∧ gI c8.2 2 = 6 ∧ gI c8.2 3 = 1 ∧ (gA c8.2 0).length = 256 ∧ (gA c8.2 1).length = 256 ∧ rd (gA c8.2 7) 0 = some 0
  case neg => rw [if_neg hh] at k1; cases k1
  obtain ⟨g1, g2, g3, l0, l1, g7⟩ := hh
  obtain ⟨c10, e10, k3⟩ := own_ex k3
  have hr : f_run 600 c8.2 = some c10 := by rw [own_rn c8.2 g3 g7 (by rw [k2]; exact hm)]; exact e10
  by_cases hq : c10.1 = 0 ∧ gI c10.2 2 = 6
  case neg => rw [if_neg hq] at k3; cases k3
  have hc : ¬ c8.1 = 0 := by rw [g1]; decide
  -- a token that isn't taken
  have rej : ((some ((0 : Int32), c8.2)).bind fun c9 => (f_run 600 c9.2).bind fun c10 => (f_tokenCount c10.2).bind fun c11 => f_law_137 600 c8.1 c9.1 c10.1 c11 c10.2) = some 1 := by
    rw [Option.bind_some]
    dsimp only
    rw [hr, Option.bind_some]
    unfold f_tokenCount f_law_137 f_law_138 f_law_166 f_law_181 f_law_189
    rw [Option.bind_some, if_neg hc, if_pos rfl, if_pos rfl, hq.2, if_pos rfl, if_pos rfl, hq.1, if_pos rfl]; rfl
  have hl : f_law 600 p0 p1 p2 p3 = (f_tok p2 p3 c8.2).bind fun c9 => (f_run 600 c9.2).bind fun c10 => (f_tokenCount c10.2).bind fun c11 => if p2 < (1 : Int32) then f_law_137 600 c8.1 c9.1 c10.1 c11 c10.2 else if (25 : Int32) < p2 then f_law_137 600 c8.1 c9.1 c10.1 c11 c10.2 else if p2 = (2 : Int32) then if p3 < 0 then f_law_137 600 c8.1 c9.1 c10.1 c11 c10.2 else if (7 : Int32) < p3 then f_law_137 600 c8.1 c9.1 c10.1 c11 c10.2 else f_law_119 600 p2 p3 c8.1 c9.1 c10.1 c11 c10.2 else f_law_119 600 p2 p3 c8.1 c9.1 c10.1 c11 c10.2 := by
    unfold f_law
    rw [hi, Option.bind_some, own_T0, Option.bind_some]
    dsimp only
    rw [own_T1, Option.bind_some]
    dsimp only
    rw [own_T2, Option.bind_some]
    dsimp only
    rw [own_T3, Option.bind_some]
    dsimp only
    rw [own_T4, Option.bind_some]
    dsimp only
    rw [own_T5, Option.bind_some]
    dsimp only
    rw [own_cp (own_S6 m d) rfl rfl rfl rfl rfl rfl rfl rfl rfl (by show (0 : Int32) < 6; decide), e8, Option.bind_some]
  rw [hl]
  unfold f_tok
  rw [g2, if_neg (by decide)]
  by_cases a1 : p2 < 1
  · rw [if_pos a1]; simp only [if_pos a1]; exact rej
  · rw [if_neg a1]; simp only [if_neg a1]
    by_cases a2 : 25 < p2
    · rw [if_pos a2]; simp only [if_pos a2]; exact rej
    · rw [if_neg a2]; simp only [if_neg a2]
      -- behind the first fork
      have low : ((f_tok_42 p2 p3 c8.2).bind fun c9 => (f_run 600 c9.2).bind fun c10 => (f_tokenCount c10.2).bind fun c11 => f_law_119 600 p2 p3 c8.1 c9.1 c10.1 c11 c10.2) = some 1 := by
        unfold f_tok_42 f_law_119
        have low58 : ((f_tok_58 p2 p3 c8.2).bind fun c9 => (f_run 600 c9.2).bind fun c10 => (f_tokenCount c10.2).bind fun c11 => f_law_133 600 c8.1 c9.1 c10.1 c11 c10.2) = some 1 := by
          unfold f_tok_58 f_tok_75
          split
          · exact own_acc _ _ g2 l0 l1 hc
          · split
            · exact own_acc _ _ g2 l0 l1 hc
            · split
              · exact own_acc _ _ g2 l0 l1 hc
              · exact own_acc _ _ g2 l0 l1 hc
        by_cases b1 : p2 = 3
        · rw [if_pos b1]; simp only [if_pos b1]
          by_cases b2 : p3 < 0
          · rw [if_pos b2]; simp only [if_pos b2]; exact rej
          · rw [if_neg b2]; simp only [if_neg b2]
            by_cases b3 : 3 < p3
            · rw [if_pos b3]; simp only [if_pos b3]; exact rej
            · rw [if_neg b3]; simp only [if_neg b3]; exact low58
        · rw [if_neg b1]; simp only [if_neg b1]; exact low58
      by_cases a3 : p2 = 2
      · rw [if_pos a3]; simp only [if_pos a3]
        by_cases a4 : p3 < 0
        · rw [if_pos a4]; simp only [if_pos a4]; exact rej
        · rw [if_neg a4]; simp only [if_neg a4]
          by_cases a5 : 7 < p3
          · rw [if_pos a5]; simp only [if_pos a5]; exact rej
          · rw [if_neg a5]; simp only [if_neg a5]; exact low
      · rw [if_neg a3]; simp only [if_neg a3]; exact low

set_option maxRecDepth 65536 in
set_option maxHeartbeats 40000000 in
theorem comes_1 {Post : Tables → Env → Array Value → State → Outcome → State → Prop} (hpost : ∀ tb e args s v u, (limb_1_1.after args s (.returned v) u = true ∧ limb_1_2.after args s (.returned v) u = true ∧ True) → FrameEnd s (.returned v) u (Jvm.fieldLocs frame_1_writes args s ++ Jvm.arrayLocs frame_1_arrays args s ++ Jvm.staticLocs frame_1_statics s) 80 28160 → Post tb e args s (.returned v) u) :
    ArmFor flags0 classFile x code maxLocals ret World_1 tables_1 room_1 Calls_1 rest_1 Pre_1 Post := by
  intro l hfl _ _ p e ha hc hk s m args below hf hA hF happ hP
  obtain ⟨hcalls, hrest, hpre⟩ := hP
  obtain ⟨-, -, -, hnamed, -, -, -, hat⟩ := (Spec.applies_iff hf).mp happ
  obtain ⟨hg, hn⟩ := and_e (Cond.before_iff.mp (show (Jvm.Cond.and given_1 narrow_1).before args s = true from hpre))
  obtain ⟨g0, q0⟩ := and_e hg
  obtain ⟨w0, w1, w2, w3, rfl⟩ : ∃ w0 w1 w2 w3 : Value, args = #[w0, w1, w2, w3] := by
    have hs : args.size = 4 := by simpa [Cond.value, given_1] using g0
    obtain ⟨L⟩ := args
    match L, hs with
    | [w0, w1, w2, w3], _ => exact ⟨w0, w1, w2, w3, rfl⟩
  have hw := fun d (hd : d ∈ tables_1) => atoms_spec (ws := Jvm.Cond.code x code maxLocals ret :: tables_1) hat d (List.mem_cons_of_mem _ hd)
  obtain ⟨h0, q1⟩ := and_e q0
  obtain ⟨i0, e0⟩ := is_v h0
  obtain rfl : w0 = (.int i0) := Option.some.inj e0
  obtain ⟨h1, q2⟩ := and_e q1
  obtain ⟨i1, e1⟩ := is_v h1
  obtain rfl : w1 = (.int i1) := Option.some.inj e1
  obtain ⟨h2, q3⟩ := and_e q2
  obtain ⟨i2, e2⟩ := is_v h2
  obtain rfl : w2 = (.int i2) := Option.some.inj e2
  obtain ⟨i3, e3⟩ := is_v q3
  obtain rfl : w3 = (.int i3) := Option.some.inj e3
  obtain ⟨fu, hfu⟩ := owed i0 i1 i2 i3
  obtain ⟨n, o, h1, h2, h3, _, L, rfl, ⟨w, H', rfl, hv, -, -, N⟩, hq⟩ := okLAW l s _ hw fu i0 i1 i2 i3 1 hfu tables_1 s.heap.size _ s.heap (HR.start0 s CN lay) p e ha hc hk s m _ below hf ((Spec.applies_iff_loose hf).mp happ).1 ⟨rfl, State.Warmed39.refl s, rfl⟩ trivial
  obtain rfl : w = some (.int 1) := hv
  refine ⟨n, _, h1, h2, h3, hpost _ _ _ _ _ _ ⟨Cond.after_iff.mpr rfl, Cond.after_iff.mpr (eq_i res_at (Term.int_eval (1)) rfl), trivial⟩ ⟨hq.1, hq.2.1, (hq.2.2.sift fun y hy => Or.inr (N y hy)).mono (by decide) (by decide)⟩⟩
theorem main_1_1 : Claimed_1_1 := comes_1 fun _ _ _ _ _ _ h hF => ⟨h.1, hF⟩
theorem main_1_2 : Claimed_1_2 := comes_1 fun _ _ _ _ _ _ h hF => ⟨h.2.1, hF⟩

end Jvm.Pilot.@@N@@
namespace Jvm.Pilot.@@N@@
open Jvm Jvm.ClassFile Sem Op Lib Jvm.Free Jvm.Stand Jvm.Pilot.@@N@@.Jvm.D
/-! MADE BY PROGRAM (witnessworld.py) out of the Statement's table words and the real class files: 11 classes; the members and pool entries that the words name. The judged class is class 1, her method 1. -/
namespace start1
open Jvm.ClassFile
def u (s : String) : CpInfo := .utf8 (stringToUtf16 s)
/-- a pool by its gaps: so many unusable entries, then the entry; so many at the end -/
def gap : Nat → List CpInfo → List CpInfo
  | 0, r => r
  | n + 1, r => .unusable :: gap n r
def poolList (es : List (Nat × CpInfo)) (last : Nat) : List CpInfo := es.foldr (fun e r => gap e.1 (e.2 :: r)) (gap last [])
def pool (es : List (Nat × CpInfo)) (last : Nat) : Array CpInfo := ⟨poolList es last⟩
def fileOf (pool : Array CpInfo) (this : Nat) (attrs : Array Attribute := #[]) (ms : Array MethodInfo := #[]) (fl : Nat := 33) (sup : Nat := 0) (ifs : Array Nat := #[]) (fds : Array FieldInfo := #[]) : ClassFile where
  minorVersion := 0
  majorVersion := 65
  constantPool := pool
  accessFlags := fl
  thisClass := this
  superClass := sup
  interfaces := ifs
  fields := fds
  methods := ms
  attributes := attrs
def plain (name : String) (sup : Option ClassId) : Class where
  name := name
  kind := .ordinary
  loader := none
  accessFlags := 33
  super := sup
  interfaces := #[]
  cf := none
  fields := #[]
  methods := #[]
  instanceTypes := #[]
  staticTypes := #[]
  resolved := #[]
  callSites := []
  init := .initialized
  statics := none
  mirror := none

def pool0 : Array CpInfo := pool [(5, u "<init>"), (0, u "()V"), (1, .class_ 10), (1, u "java/lang/Object")] 113

def k0c0 : Code := { maxStack := 0, maxLocals := 1, code := object_method_1_code, exceptionTable := #[], attributes := #[] }
def k0m0 : Method := { name := "<init>", desc := "()V", sig := { parameters := [], returnType := none }, accessFlags := 1, code := some k0c0 }
/-- java/lang/Object -/
def k0 : Class := { plain "java/lang/Object" none with
  accessFlags := 33
  interfaces := #[]
  cf := some (fileOf pool0 8 #[] #[{ accessFlags := 1, nameIndex := 5, descriptorIndex := 6, attributes := #[] }] 33 0 #[] #[])
  fields := #[]
  methods := #[k0m0]
  instanceTypes := #[]
  staticTypes := #[]
  resolved := Array.replicate 124 none
  statics := none }

def pool1 : Array CpInfo := pool [(2, .class_ 4), (1, u "java/lang/Object"), (0, u "<init>"), (0, u "()V"), (0, .class_ 8), (0, u "FatPointerC"), (0, .methodref 7 10), (0, .nameAndType 5 11), (0, u "(II)V"), (0, .methodref 7 13), (0, .nameAndType 14 15), (0, u "tok"), (0, u "(II)Z"), (0, .methodref 7 17), (0, .nameAndType 18 19), (0, u "compile"), (0, u "()Z"), (0, .methodref 7 21), (0, .nameAndType 22 23), (0, u "run"), (0, u "()I"), (0, .methodref 7 25), (0, .nameAndType 26 23), (0, u "tokenCount"), (0, .class_ 28), (0, u "FatPointerCL2"), (2, u "law"), (0, u "(IIII)Z")] 3

def k1m0 : Method := { name := "<init>", desc := "()V", sig := { parameters := [], returnType := none }, accessFlags := 1, code := none }
def k1c1 : Code := { maxStack := 4, maxLocals := 10, code := code, exceptionTable := #[], attributes := #[] }
def k1m1 : Method := { name := "law", desc := "(IIII)Z", sig := { parameters := [.int, .int, .int, .int], returnType := some .boolean }, accessFlags := 9, code := some k1c1 }
/-- FatPointerCL2 -/
def k1 : Class := { plain "FatPointerCL2" (some 0) with
  accessFlags := 33
  interfaces := #[]
  cf := some (fileOf pool1 27 #[] #[{ accessFlags := 1, nameIndex := 5, descriptorIndex := 6, attributes := #[] }, { accessFlags := 9, nameIndex := 31, descriptorIndex := 32, attributes := #[] }] 33 2 #[] #[])
  fields := #[]
  methods := #[k1m0, k1m1]
  instanceTypes := #[]
  staticTypes := #[]
  resolved := Array.replicate 36 none
  statics := none }

def pool2 : Array CpInfo := pool [(1, .methodref 2 3), (0, .class_ 4), (0, .nameAndType 5 6), (0, u "java/lang/Object"), (0, u "<init>"), (0, u "()V"), (0, .fieldref 8 9), (0, .class_ 10), (0, .nameAndType 11 12), (0, u "FatPointerC"), (0, u "tokK"), (0, u "[I"), (0, .fieldref 8 14), (0, .nameAndType 15 12), (0, u "tokV"), (0, .fieldref 8 17), (0, .nameAndType 18 12), (0, u "outVals"), (0, .fieldref 8 20), (0, .nameAndType 21 22), (0, u "fnDef"), (0, u "[Z"), (0, .fieldref 8 24), (0, .nameAndType 25 12), (0, u "fnTok"), (0, .fieldref 8 27), (0, .nameAndType 28 12), (0, u "fnParams"), (0, .fieldref 8 30), (0, .nameAndType 31 12), (0, u "fnObjCount"), (0, .fieldref 8 33), (0, .nameAndType 34 12), (0, u "fnFrame"), (0, .fieldref 8 36), (0, .nameAndType 37 12), (0, u "fnBody"), (0, .fieldref 8 39), (0, .nameAndType 40 12), (0, u "nameIdx"), (0, .fieldref 8 42), (0, .nameAndType 43 22), (0, u "nameArr"), (0, .fieldref 8 45), (0, .nameAndType 46 12), (0, u "fnObjSize"), (0, .fieldref 8 48), (0, .nameAndType 49 12), (0, u "callArgs"), (0, .fieldref 8 51), (0, .nameAndType 52 12), (0, u "matchEnd"), (0, .fieldref 8 54), (0, .nameAndType 55 12), (0, u "braceOwner"), (0, .fieldref 8 57), (0, .nameAndType 58 12), (0, u "openStack"), (0, .fieldref 8 60), (0, .nameAndType 61 12), (0, u "cellK"), (0, .fieldref 8 63), (0, .nameAndType 64 12), (0, u "cellV"), (0, .fieldref 8 66), (0, .nameAndType 67 12), (0, u "cellO"), (0, .fieldref 8 69), (0, .nameAndType 70 12), (0, u "objBase"), (0, .fieldref 8 72), (0, .nameAndType 73 12), (0, u "objSize"), (0, .fieldref 8 75), (0, .nameAndType 76 22), (0, u "objAlive"), (0, .fieldref 8 78), (0, .nameAndType 79 12), (0, u "frFunc"), (0, .fieldref 8 81), (0, .nameAndType 82 12), (0, u "frFirst"), (0, .fieldref 8 84), (0, .nameAndType 85 12), (0, u "frBase"), (0, .fieldref 8 87), (0, .nameAndType 88 12), (0, u "frRetPc"), (0, .fieldref 8 90), (0, .nameAndType 91 12), (0, u "frTarget"), (0, .fieldref 8 93), (0, .nameAndType 94 12), (0, u "regK"), (0, .fieldref 8 96), (0, .nameAndType 97 12), (0, u "regV"), (0, .fieldref 8 99), (0, .nameAndType 100 12), (0, u "regO"), (0, .fieldref 8 102), (0, .nameAndType 103 12), (0, u "argK"), (0, .fieldref 8 105), (0, .nameAndType 106 12), (0, u "argV"), (0, .fieldref 8 108), (0, .nameAndType 109 12), (0, u "argO"), (0, .fieldref 8 111), (0, .nameAndType 112 113), (0, u "memCells"), (0, u "I"), (0, .fieldref 8 115), (0, .nameAndType 116 113), (0, u "maxDepth"), (0, .methodref 8 118), (0, .nameAndType 119 6), (0, u "clearResults"), (0, .fieldref 8 121), (0, .nameAndType 122 113), (0, u "nTok"), (0, .fieldref 8 124), (0, .nameAndType 125 126), (0, u "compiled"), (0, u "Z"), (0, .methodref 8 128), (0, .nameAndType 129 130), (0, u "parseProgram"), (0, u "()Z"), (0, .fieldref 8 132), (0, .nameAndType 133 113), (0, u "depth"), (0, .fieldref 8 135), (0, .nameAndType 136 113), (0, u "liveCells"), (0, .fieldref 8 138), (0, .nameAndType 139 113), (0, u "nextObj"), (0, .fieldref 8 141), (0, .nameAndType 142 113), (0, u "fuel"), (0, .fieldref 8 144), (0, .nameAndType 145 126), (0, u "running"), (3, u "(II)V"), (0, .fieldref 8 151), (0, .nameAndType 152 113), (0, u "status"), (0, .methodref 8 154), (0, .nameAndType 155 156), (0, u "pushFrame"), (0, u "(III)V"), (0, .integer 1048576), (0, .methodref 8 159), (0, .nameAndType 160 161), (0, u "step"), (0, u "(I)I"), (0, .fieldref 8 163), (0, .nameAndType 164 113), (0, u "trapSite"), (0, .fieldref 8 166), (0, .nameAndType 167 113), (0, u "framesAt"), (0, .fieldref 8 169), (0, .nameAndType 170 113), (0, u "resKind"), (0, .fieldref 8 172), (0, .nameAndType 173 113), (0, u "resVal"), (0, .fieldref 8 175), (0, .nameAndType 176 113), (0, u "resSize"), (0, .fieldref 8 178), (0, .nameAndType 179 113), (0, u "outN"), (0, .fieldref 8 181), (0, .nameAndType 182 126), (0, u "pok"), (0, .fieldref 8 184), (0, .nameAndType 185 113), (0, u "pp"), (0, .methodref 8 187), (0, .nameAndType 188 6), (0, u "parseFunc"), (0, .methodref 8 190), (0, .nameAndType 191 130), (0, u "checkCalls"), (0, .methodref 8 193), (0, .nameAndType 194 161), (0, u "kindAt"), (0, .methodref 8 196), (0, .nameAndType 197 198), (0, u "expect"), (0, u "(I)V"), (0, .methodref 8 200), (0, .nameAndType 201 161), (0, u "valAt"), (0, .fieldref 8 203), (0, .nameAndType 204 113), (0, u "curFn"), (0, .methodref 8 206), (0, .nameAndType 207 6), (0, u "parseParams"), (0, .methodref 8 209), (0, .nameAndType 210 6), (0, u "parseDecls"), (0, .methodref 8 212), (0, .nameAndType 213 6), (0, u "parseBody"), (7, u "()I"), (73, u "(III)I"), (24, .methodref 8 321), (0, .nameAndType 322 161), (0, u "execRbrace"), (12, .methodref 8 336), (0, .nameAndType 337 295), (0, u "doReturn"), (3, u "K_NUM"), (2, u "K_VAR"), (1, u "K_FUNC"), (1, u "K_FN"), (1, u "K_VARKW"), (1, u "K_ARR"), (1, u "K_WHILE"), (1, u "K_IF"), (1, u "K_RETURN"), (1, u "K_OUT"), (1, u "K_LPAR"), (1, u "K_RPAR"), (1, u "K_LBRACE"), (1, u "K_RBRACE"), (1, u "K_LBRACK"), (1, u "K_RBRACK"), (1, u "K_SEMI"), (1, u "K_COMMA"), (1, u "K_ASSIGN"), (1, u "K_PLUS"), (1, u "K_MINUS"), (1, u "K_STAR"), (1, u "K_AMP"), (1, u "K_LT"), (1, u "K_EQ"), (1, u "R_NONE"), (1, u "R_DONE"), (1, u "T_TYPE"), (0, u "T_BOUNDS"), (0, u "T_DANGLING"), (0, u "T_ARITH"), (0, u "T_STACK"), (0, u "T_OUTPUT"), (0, u "T_FUEL"), (0, u "RK_NONE"), (0, u "RK_INT"), (0, u "RK_PTR"), (0, u "MAX_TOKENS"), (1, u "MAX_OUT"), (0, u "FUEL"), (4, u "tok"), (0, u "(II)Z"), (0, u "tokenCount"), (0, u "compile"), (0, u "run")] 8

def k2c0 : Code := { maxStack := 2, maxLocals := 5, code := prog_1_method_1_code, exceptionTable := #[], attributes := #[] }
def k2m0 : Method := { name := "<init>", desc := "(II)V", sig := { parameters := [.int, .int], returnType := none }, accessFlags := 1, code := some k2c0 }
def k2c1 : Code := { maxStack := 3, maxLocals := 4, code := prog_1_method_3_code, exceptionTable := #[], attributes := #[] }
def k2m1 : Method := { name := "tok", desc := "(II)Z", sig := { parameters := [.int, .int], returnType := some .boolean }, accessFlags := 1, code := some k2c1 }
def k2c2 : Code := { maxStack := 1, maxLocals := 1, code := prog_1_method_4_code, exceptionTable := #[], attributes := #[] }
def k2m2 : Method := { name := "tokenCount", desc := "()I", sig := { parameters := [], returnType := some .int }, accessFlags := 1, code := some k2c2 }
def k2c3 : Code := { maxStack := 2, maxLocals := 1, code := prog_1_method_5_code, exceptionTable := #[], attributes := #[] }
def k2m3 : Method := { name := "compile", desc := "()Z", sig := { parameters := [], returnType := some .boolean }, accessFlags := 1, code := some k2c3 }
def k2c4 : Code := { maxStack := 4, maxLocals := 3, code := prog_1_method_6_code, exceptionTable := #[], attributes := #[] }
def k2m4 : Method := { name := "run", desc := "()I", sig := { parameters := [], returnType := some .int }, accessFlags := 1, code := some k2c4 }
def k2c5 : Code := { maxStack := 2, maxLocals := 1, code := prog_1_method_15_code, exceptionTable := #[], attributes := #[] }
def k2m5 : Method := { name := "clearResults", desc := "()V", sig := { parameters := [], returnType := none }, accessFlags := 2, code := some k2c5 }
def k2c6 : Code := { maxStack := 2, maxLocals := 2, code := prog_1_method_16_code, exceptionTable := #[], attributes := #[] }
def k2m6 : Method := { name := "kindAt", desc := "(I)I", sig := { parameters := [.int], returnType := some .int }, accessFlags := 2, code := some k2c6 }
def k2c7 : Code := { maxStack := 2, maxLocals := 2, code := prog_1_method_17_code, exceptionTable := #[], attributes := #[] }
def k2m7 : Method := { name := "valAt", desc := "(I)I", sig := { parameters := [.int], returnType := some .int }, accessFlags := 2, code := some k2c7 }
def k2c8 : Code := { maxStack := 3, maxLocals := 2, code := prog_1_method_18_code, exceptionTable := #[], attributes := #[] }
def k2m8 : Method := { name := "parseProgram", desc := "()Z", sig := { parameters := [], returnType := some .boolean }, accessFlags := 2, code := some k2c8 }
def k2c9 : Code := { maxStack := 2, maxLocals := 4, code := prog_1_method_19_code, exceptionTable := #[], attributes := #[] }
def k2m9 : Method := { name := "checkCalls", desc := "()Z", sig := { parameters := [], returnType := some .boolean }, accessFlags := 2, code := some k2c9 }
def k2c10 : Code := { maxStack := 3, maxLocals := 2, code := prog_1_method_20_code, exceptionTable := #[], attributes := #[] }
def k2m10 : Method := { name := "expect", desc := "(I)V", sig := { parameters := [.int], returnType := none }, accessFlags := 2, code := some k2c10 }
def k2c11 : Code := { maxStack := 3, maxLocals := 3, code := prog_1_method_21_code, exceptionTable := #[], attributes := #[] }
def k2m11 : Method := { name := "parseFunc", desc := "()V", sig := { parameters := [], returnType := none }, accessFlags := 2, code := some k2c11 }
def k2c12 : Code := { maxStack := 4, maxLocals := 2, code := prog_1_method_22_code, exceptionTable := #[], attributes := #[] }
def k2m12 : Method := { name := "parseParams", desc := "()V", sig := { parameters := [], returnType := none }, accessFlags := 2, code := some k2c12 }
def k2c13 : Code := { maxStack := 4, maxLocals := 5, code := prog_1_method_23_code, exceptionTable := #[], attributes := #[] }
def k2m13 : Method := { name := "parseDecls", desc := "()V", sig := { parameters := [], returnType := none }, accessFlags := 2, code := some k2c13 }
def k2c14 : Code := { maxStack := 3, maxLocals := 5, code := prog_1_method_27_code, exceptionTable := #[], attributes := #[] }
def k2m14 : Method := { name := "parseBody", desc := "()V", sig := { parameters := [], returnType := none }, accessFlags := 2, code := some k2c14 }
def k2c15 : Code := { maxStack := 3, maxLocals := 3, code := prog_1_method_56_code, exceptionTable := #[], attributes := #[] }
def k2m15 : Method := { name := "step", desc := "(I)I", sig := { parameters := [.int], returnType := some .int }, accessFlags := 2, code := some k2c15 }
def k2c16 : Code := { maxStack := 4, maxLocals := 3, code := prog_1_method_63_code, exceptionTable := #[], attributes := #[] }
def k2m16 : Method := { name := "execRbrace", desc := "(I)I", sig := { parameters := [.int], returnType := some .int }, accessFlags := 2, code := some k2c16 }
def k2c17 : Code := { maxStack := 4, maxLocals := 12, code := prog_1_method_65_code, exceptionTable := #[], attributes := #[] }
def k2m17 : Method := { name := "pushFrame", desc := "(III)V", sig := { parameters := [.int, .int, .int], returnType := none }, accessFlags := 2, code := some k2c17 }
def k2c18 : Code := { maxStack := 5, maxLocals := 7, code := prog_1_method_66_code, exceptionTable := #[], attributes := #[] }
def k2m18 : Method := { name := "doReturn", desc := "(III)I", sig := { parameters := [.int, .int, .int], returnType := some .int }, accessFlags := 2, code := some k2c18 }
/-- FatPointerC -/
def k2 : Class := { plain "FatPointerC" (some 0) with
  accessFlags := 49
  interfaces := #[]
  cf := some (fileOf pool2 8 #[] #[{ accessFlags := 1, nameIndex := 5, descriptorIndex := 149, attributes := #[] }, { accessFlags := 1, nameIndex := 414, descriptorIndex := 415, attributes := #[] }, { accessFlags := 1, nameIndex := 416, descriptorIndex := 221, attributes := #[] }, { accessFlags := 1, nameIndex := 417, descriptorIndex := 130, attributes := #[] }, { accessFlags := 1, nameIndex := 418, descriptorIndex := 221, attributes := #[] }, { accessFlags := 2, nameIndex := 119, descriptorIndex := 6, attributes := #[] }, { accessFlags := 2, nameIndex := 194, descriptorIndex := 161, attributes := #[] }, { accessFlags := 2, nameIndex := 201, descriptorIndex := 161, attributes := #[] }, { accessFlags := 2, nameIndex := 129, descriptorIndex := 130, attributes := #[] }, { accessFlags := 2, nameIndex := 191, descriptorIndex := 130, attributes := #[] }, { accessFlags := 2, nameIndex := 197, descriptorIndex := 198, attributes := #[] }, { accessFlags := 2, nameIndex := 188, descriptorIndex := 6, attributes := #[] }, { accessFlags := 2, nameIndex := 207, descriptorIndex := 6, attributes := #[] }, { accessFlags := 2, nameIndex := 210, descriptorIndex := 6, attributes := #[] }, { accessFlags := 2, nameIndex := 213, descriptorIndex := 6, attributes := #[] }, { accessFlags := 2, nameIndex := 160, descriptorIndex := 161, attributes := #[] }, { accessFlags := 2, nameIndex := 322, descriptorIndex := 161, attributes := #[] }, { accessFlags := 2, nameIndex := 155, descriptorIndex := 156, attributes := #[] }, { accessFlags := 2, nameIndex := 337, descriptorIndex := 295, attributes := #[] }] 49 2 #[] #[{ accessFlags := 25, nameIndex := 341, descriptorIndex := 113, attributes := #[] }, { accessFlags := 25, nameIndex := 344, descriptorIndex := 113, attributes := #[] }, { accessFlags := 25, nameIndex := 346, descriptorIndex := 113, attributes := #[] }, { accessFlags := 25, nameIndex := 348, descriptorIndex := 113, attributes := #[] }, { accessFlags := 25, nameIndex := 350, descriptorIndex := 113, attributes := #[] }, { accessFlags := 25, nameIndex := 352, descriptorIndex := 113, attributes := #[] }, { accessFlags := 25, nameIndex := 354, descriptorIndex := 113, attributes := #[] }, { accessFlags := 25, nameIndex := 356, descriptorIndex := 113, attributes := #[] }, { accessFlags := 25, nameIndex := 358, descriptorIndex := 113, attributes := #[] }, { accessFlags := 25, nameIndex := 360, descriptorIndex := 113, attributes := #[] }, { accessFlags := 25, nameIndex := 362, descriptorIndex := 113, attributes := #[] }, { accessFlags := 25, nameIndex := 364, descriptorIndex := 113, attributes := #[] }, { accessFlags := 25, nameIndex := 366, descriptorIndex := 113, attributes := #[] }, { accessFlags := 25, nameIndex := 368, descriptorIndex := 113, attributes := #[] }, { accessFlags := 25, nameIndex := 370, descriptorIndex := 113, attributes := #[] }, { accessFlags := 25, nameIndex := 372, descriptorIndex := 113, attributes := #[] }, { accessFlags := 25, nameIndex := 374, descriptorIndex := 113, attributes := #[] }, { accessFlags := 25, nameIndex := 376, descriptorIndex := 113, attributes := #[] }, { accessFlags := 25, nameIndex := 378, descriptorIndex := 113, attributes := #[] }, { accessFlags := 25, nameIndex := 380, descriptorIndex := 113, attributes := #[] }, { accessFlags := 25, nameIndex := 382, descriptorIndex := 113, attributes := #[] }, { accessFlags := 25, nameIndex := 384, descriptorIndex := 113, attributes := #[] }, { accessFlags := 25, nameIndex := 386, descriptorIndex := 113, attributes := #[] }, { accessFlags := 25, nameIndex := 388, descriptorIndex := 113, attributes := #[] }, { accessFlags := 25, nameIndex := 390, descriptorIndex := 113, attributes := #[] }, { accessFlags := 25, nameIndex := 392, descriptorIndex := 113, attributes := #[] }, { accessFlags := 25, nameIndex := 394, descriptorIndex := 113, attributes := #[] }, { accessFlags := 25, nameIndex := 396, descriptorIndex := 113, attributes := #[] }, { accessFlags := 25, nameIndex := 397, descriptorIndex := 113, attributes := #[] }, { accessFlags := 25, nameIndex := 398, descriptorIndex := 113, attributes := #[] }, { accessFlags := 25, nameIndex := 399, descriptorIndex := 113, attributes := #[] }, { accessFlags := 25, nameIndex := 400, descriptorIndex := 113, attributes := #[] }, { accessFlags := 25, nameIndex := 401, descriptorIndex := 113, attributes := #[] }, { accessFlags := 25, nameIndex := 402, descriptorIndex := 113, attributes := #[] }, { accessFlags := 25, nameIndex := 403, descriptorIndex := 113, attributes := #[] }, { accessFlags := 25, nameIndex := 404, descriptorIndex := 113, attributes := #[] }, { accessFlags := 25, nameIndex := 405, descriptorIndex := 113, attributes := #[] }, { accessFlags := 25, nameIndex := 406, descriptorIndex := 113, attributes := #[] }, { accessFlags := 25, nameIndex := 408, descriptorIndex := 113, attributes := #[] }, { accessFlags := 25, nameIndex := 409, descriptorIndex := 113, attributes := #[] }, { accessFlags := 2, nameIndex := 112, descriptorIndex := 113, attributes := #[] }, { accessFlags := 2, nameIndex := 116, descriptorIndex := 113, attributes := #[] }, { accessFlags := 2, nameIndex := 122, descriptorIndex := 113, attributes := #[] }, { accessFlags := 2, nameIndex := 11, descriptorIndex := 12, attributes := #[] }, { accessFlags := 2, nameIndex := 15, descriptorIndex := 12, attributes := #[] }, { accessFlags := 2, nameIndex := 125, descriptorIndex := 126, attributes := #[] }, { accessFlags := 2, nameIndex := 152, descriptorIndex := 113, attributes := #[] }, { accessFlags := 2, nameIndex := 164, descriptorIndex := 113, attributes := #[] }, { accessFlags := 2, nameIndex := 167, descriptorIndex := 113, attributes := #[] }, { accessFlags := 2, nameIndex := 170, descriptorIndex := 113, attributes := #[] }, { accessFlags := 2, nameIndex := 173, descriptorIndex := 113, attributes := #[] }, { accessFlags := 2, nameIndex := 176, descriptorIndex := 113, attributes := #[] }, { accessFlags := 2, nameIndex := 179, descriptorIndex := 113, attributes := #[] }, { accessFlags := 2, nameIndex := 18, descriptorIndex := 12, attributes := #[] }, { accessFlags := 2, nameIndex := 21, descriptorIndex := 22, attributes := #[] }, { accessFlags := 2, nameIndex := 25, descriptorIndex := 12, attributes := #[] }, { accessFlags := 2, nameIndex := 28, descriptorIndex := 12, attributes := #[] }, { accessFlags := 2, nameIndex := 31, descriptorIndex := 12, attributes := #[] }, { accessFlags := 2, nameIndex := 34, descriptorIndex := 12, attributes := #[] }, { accessFlags := 2, nameIndex := 37, descriptorIndex := 12, attributes := #[] }, { accessFlags := 2, nameIndex := 40, descriptorIndex := 12, attributes := #[] }, { accessFlags := 2, nameIndex := 43, descriptorIndex := 22, attributes := #[] }, { accessFlags := 2, nameIndex := 46, descriptorIndex := 12, attributes := #[] }, { accessFlags := 2, nameIndex := 49, descriptorIndex := 12, attributes := #[] }, { accessFlags := 2, nameIndex := 52, descriptorIndex := 12, attributes := #[] }, { accessFlags := 2, nameIndex := 55, descriptorIndex := 12, attributes := #[] }, { accessFlags := 2, nameIndex := 185, descriptorIndex := 113, attributes := #[] }, { accessFlags := 2, nameIndex := 182, descriptorIndex := 126, attributes := #[] }, { accessFlags := 2, nameIndex := 204, descriptorIndex := 113, attributes := #[] }, { accessFlags := 2, nameIndex := 58, descriptorIndex := 12, attributes := #[] }, { accessFlags := 2, nameIndex := 61, descriptorIndex := 12, attributes := #[] }, { accessFlags := 2, nameIndex := 64, descriptorIndex := 12, attributes := #[] }, { accessFlags := 2, nameIndex := 67, descriptorIndex := 12, attributes := #[] }, { accessFlags := 2, nameIndex := 70, descriptorIndex := 12, attributes := #[] }, { accessFlags := 2, nameIndex := 73, descriptorIndex := 12, attributes := #[] }, { accessFlags := 2, nameIndex := 76, descriptorIndex := 22, attributes := #[] }, { accessFlags := 2, nameIndex := 139, descriptorIndex := 113, attributes := #[] }, { accessFlags := 2, nameIndex := 79, descriptorIndex := 12, attributes := #[] }, { accessFlags := 2, nameIndex := 82, descriptorIndex := 12, attributes := #[] }, { accessFlags := 2, nameIndex := 85, descriptorIndex := 12, attributes := #[] }, { accessFlags := 2, nameIndex := 88, descriptorIndex := 12, attributes := #[] }, { accessFlags := 2, nameIndex := 91, descriptorIndex := 12, attributes := #[] }, { accessFlags := 2, nameIndex := 133, descriptorIndex := 113, attributes := #[] }, { accessFlags := 2, nameIndex := 136, descriptorIndex := 113, attributes := #[] }, { accessFlags := 2, nameIndex := 142, descriptorIndex := 113, attributes := #[] }, { accessFlags := 2, nameIndex := 145, descriptorIndex := 126, attributes := #[] }, { accessFlags := 2, nameIndex := 94, descriptorIndex := 12, attributes := #[] }, { accessFlags := 2, nameIndex := 97, descriptorIndex := 12, attributes := #[] }, { accessFlags := 2, nameIndex := 100, descriptorIndex := 12, attributes := #[] }, { accessFlags := 2, nameIndex := 103, descriptorIndex := 12, attributes := #[] }, { accessFlags := 2, nameIndex := 106, descriptorIndex := 12, attributes := #[] }, { accessFlags := 2, nameIndex := 109, descriptorIndex := 12, attributes := #[] }])
  fields := #[{ name := "K_NUM", type := .int, accessFlags := 25, slot := 0, constantValue := 0 }, { name := "K_VAR", type := .int, accessFlags := 25, slot := 1, constantValue := 0 }, { name := "K_FUNC", type := .int, accessFlags := 25, slot := 2, constantValue := 0 }, { name := "K_FN", type := .int, accessFlags := 25, slot := 3, constantValue := 0 }, { name := "K_VARKW", type := .int, accessFlags := 25, slot := 4, constantValue := 0 }, { name := "K_ARR", type := .int, accessFlags := 25, slot := 5, constantValue := 0 }, { name := "K_WHILE", type := .int, accessFlags := 25, slot := 6, constantValue := 0 }, { name := "K_IF", type := .int, accessFlags := 25, slot := 7, constantValue := 0 }, { name := "K_RETURN", type := .int, accessFlags := 25, slot := 8, constantValue := 0 }, { name := "K_OUT", type := .int, accessFlags := 25, slot := 9, constantValue := 0 }, { name := "K_LPAR", type := .int, accessFlags := 25, slot := 10, constantValue := 0 }, { name := "K_RPAR", type := .int, accessFlags := 25, slot := 11, constantValue := 0 }, { name := "K_LBRACE", type := .int, accessFlags := 25, slot := 12, constantValue := 0 }, { name := "K_RBRACE", type := .int, accessFlags := 25, slot := 13, constantValue := 0 }, { name := "K_LBRACK", type := .int, accessFlags := 25, slot := 14, constantValue := 0 }, { name := "K_RBRACK", type := .int, accessFlags := 25, slot := 15, constantValue := 0 }, { name := "K_SEMI", type := .int, accessFlags := 25, slot := 16, constantValue := 0 }, { name := "K_COMMA", type := .int, accessFlags := 25, slot := 17, constantValue := 0 }, { name := "K_ASSIGN", type := .int, accessFlags := 25, slot := 18, constantValue := 0 }, { name := "K_PLUS", type := .int, accessFlags := 25, slot := 19, constantValue := 0 }, { name := "K_MINUS", type := .int, accessFlags := 25, slot := 20, constantValue := 0 }, { name := "K_STAR", type := .int, accessFlags := 25, slot := 21, constantValue := 0 }, { name := "K_AMP", type := .int, accessFlags := 25, slot := 22, constantValue := 0 }, { name := "K_LT", type := .int, accessFlags := 25, slot := 23, constantValue := 0 }, { name := "K_EQ", type := .int, accessFlags := 25, slot := 24, constantValue := 0 }, { name := "R_NONE", type := .int, accessFlags := 25, slot := 25, constantValue := 0 }, { name := "R_DONE", type := .int, accessFlags := 25, slot := 26, constantValue := 0 }, { name := "T_TYPE", type := .int, accessFlags := 25, slot := 27, constantValue := 0 }, { name := "T_BOUNDS", type := .int, accessFlags := 25, slot := 28, constantValue := 0 }, { name := "T_DANGLING", type := .int, accessFlags := 25, slot := 29, constantValue := 0 }, { name := "T_ARITH", type := .int, accessFlags := 25, slot := 30, constantValue := 0 }, { name := "T_STACK", type := .int, accessFlags := 25, slot := 31, constantValue := 0 }, { name := "T_OUTPUT", type := .int, accessFlags := 25, slot := 32, constantValue := 0 }, { name := "T_FUEL", type := .int, accessFlags := 25, slot := 33, constantValue := 0 }, { name := "RK_NONE", type := .int, accessFlags := 25, slot := 34, constantValue := 0 }, { name := "RK_INT", type := .int, accessFlags := 25, slot := 35, constantValue := 0 }, { name := "RK_PTR", type := .int, accessFlags := 25, slot := 36, constantValue := 0 }, { name := "MAX_TOKENS", type := .int, accessFlags := 25, slot := 37, constantValue := 0 }, { name := "MAX_OUT", type := .int, accessFlags := 25, slot := 38, constantValue := 0 }, { name := "FUEL", type := .int, accessFlags := 25, slot := 39, constantValue := 0 }, { name := "memCells", type := .int, accessFlags := 2, slot := 0, constantValue := 0 }, { name := "maxDepth", type := .int, accessFlags := 2, slot := 1, constantValue := 0 }, { name := "nTok", type := .int, accessFlags := 2, slot := 2, constantValue := 0 }, { name := "tokK", type := (.array .int), accessFlags := 2, slot := 3, constantValue := 0 }, { name := "tokV", type := (.array .int), accessFlags := 2, slot := 4, constantValue := 0 }, { name := "compiled", type := .boolean, accessFlags := 2, slot := 5, constantValue := 0 }, { name := "status", type := .int, accessFlags := 2, slot := 6, constantValue := 0 }, { name := "trapSite", type := .int, accessFlags := 2, slot := 7, constantValue := 0 }, { name := "framesAt", type := .int, accessFlags := 2, slot := 8, constantValue := 0 }, { name := "resKind", type := .int, accessFlags := 2, slot := 9, constantValue := 0 }, { name := "resVal", type := .int, accessFlags := 2, slot := 10, constantValue := 0 }, { name := "resSize", type := .int, accessFlags := 2, slot := 11, constantValue := 0 }, { name := "outN", type := .int, accessFlags := 2, slot := 12, constantValue := 0 }, { name := "outVals", type := (.array .int), accessFlags := 2, slot := 13, constantValue := 0 }, { name := "fnDef", type := (.array .boolean), accessFlags := 2, slot := 14, constantValue := 0 }, { name := "fnTok", type := (.array .int), accessFlags := 2, slot := 15, constantValue := 0 }, { name := "fnParams", type := (.array .int), accessFlags := 2, slot := 16, constantValue := 0 }, { name := "fnObjCount", type := (.array .int), accessFlags := 2, slot := 17, constantValue := 0 }, { name := "fnFrame", type := (.array .int), accessFlags := 2, slot := 18, constantValue := 0 }, { name := "fnBody", type := (.array .int), accessFlags := 2, slot := 19, constantValue := 0 }, { name := "nameIdx", type := (.array .int), accessFlags := 2, slot := 20, constantValue := 0 }, { name := "nameArr", type := (.array .boolean), accessFlags := 2, slot := 21, constantValue := 0 }, { name := "fnObjSize", type := (.array .int), accessFlags := 2, slot := 22, constantValue := 0 }, { name := "callArgs", type := (.array .int), accessFlags := 2, slot := 23, constantValue := 0 }, { name := "matchEnd", type := (.array .int), accessFlags := 2, slot := 24, constantValue := 0 }, { name := "braceOwner", type := (.array .int), accessFlags := 2, slot := 25, constantValue := 0 }, { name := "pp", type := .int, accessFlags := 2, slot := 26, constantValue := 0 }, { name := "pok", type := .boolean, accessFlags := 2, slot := 27, constantValue := 0 }, { name := "curFn", type := .int, accessFlags := 2, slot := 28, constantValue := 0 }, { name := "openStack", type := (.array .int), accessFlags := 2, slot := 29, constantValue := 0 }, { name := "cellK", type := (.array .int), accessFlags := 2, slot := 30, constantValue := 0 }, { name := "cellV", type := (.array .int), accessFlags := 2, slot := 31, constantValue := 0 }, { name := "cellO", type := (.array .int), accessFlags := 2, slot := 32, constantValue := 0 }, { name := "objBase", type := (.array .int), accessFlags := 2, slot := 33, constantValue := 0 }, { name := "objSize", type := (.array .int), accessFlags := 2, slot := 34, constantValue := 0 }, { name := "objAlive", type := (.array .boolean), accessFlags := 2, slot := 35, constantValue := 0 }, { name := "nextObj", type := .int, accessFlags := 2, slot := 36, constantValue := 0 }, { name := "frFunc", type := (.array .int), accessFlags := 2, slot := 37, constantValue := 0 }, { name := "frFirst", type := (.array .int), accessFlags := 2, slot := 38, constantValue := 0 }, { name := "frBase", type := (.array .int), accessFlags := 2, slot := 39, constantValue := 0 }, { name := "frRetPc", type := (.array .int), accessFlags := 2, slot := 40, constantValue := 0 }, { name := "frTarget", type := (.array .int), accessFlags := 2, slot := 41, constantValue := 0 }, { name := "depth", type := .int, accessFlags := 2, slot := 42, constantValue := 0 }, { name := "liveCells", type := .int, accessFlags := 2, slot := 43, constantValue := 0 }, { name := "fuel", type := .int, accessFlags := 2, slot := 44, constantValue := 0 }, { name := "running", type := .boolean, accessFlags := 2, slot := 45, constantValue := 0 }, { name := "regK", type := (.array .int), accessFlags := 2, slot := 46, constantValue := 0 }, { name := "regV", type := (.array .int), accessFlags := 2, slot := 47, constantValue := 0 }, { name := "regO", type := (.array .int), accessFlags := 2, slot := 48, constantValue := 0 }, { name := "argK", type := (.array .int), accessFlags := 2, slot := 49, constantValue := 0 }, { name := "argV", type := (.array .int), accessFlags := 2, slot := 50, constantValue := 0 }, { name := "argO", type := (.array .int), accessFlags := 2, slot := 51, constantValue := 0 }]
  methods := #[k2m0, k2m1, k2m2, k2m3, k2m4, k2m5, k2m6, k2m7, k2m8, k2m9, k2m10, k2m11, k2m12, k2m13, k2m14, k2m15, k2m16, k2m17, k2m18]
  instanceTypes := #[.int, .int, .int, (.array .int), (.array .int), .boolean, .int, .int, .int, .int, .int, .int, .int, (.array .int), (.array .boolean), (.array .int), (.array .int), (.array .int), (.array .int), (.array .int), (.array .int), (.array .boolean), (.array .int), (.array .int), (.array .int), (.array .int), .int, .boolean, .int, (.array .int), (.array .int), (.array .int), (.array .int), (.array .int), (.array .int), (.array .boolean), .int, (.array .int), (.array .int), (.array .int), (.array .int), (.array .int), .int, .int, .int, .boolean, (.array .int), (.array .int), (.array .int), (.array .int), (.array .int), (.array .int)]
  staticTypes := #[.int, .int, .int, .int, .int, .int, .int, .int, .int, .int, .int, .int, .int, .int, .int, .int, .int, .int, .int, .int, .int, .int, .int, .int, .int, .int, .int, .int, .int, .int, .int, .int, .int, .int, .int, .int, .int, .int, .int, .int]
  resolved := Array.replicate 427 none
  statics := none }

def pool3 : Array CpInfo := pool [(1, u "java/lang/Cloneable"), (0, .class_ 1), (0, u "java/lang/Object"), (0, .class_ 3)] 3

/-- java/lang/Cloneable -/
def k3 : Class := { plain "java/lang/Cloneable" (some 0) with
  accessFlags := 1537
  interfaces := #[]
  cf := some (fileOf pool3 2 #[] #[] 1537 4 #[] #[])
  fields := #[]
  methods := #[]
  instanceTypes := #[]
  staticTypes := #[]
  resolved := Array.replicate 8 none
  statics := none }

def pool4 : Array CpInfo := pool [(1, u "java/io/Serializable"), (0, .class_ 1), (0, u "java/lang/Object"), (0, .class_ 3)] 3

/-- java/io/Serializable -/
def k4 : Class := { plain "java/io/Serializable" (some 0) with
  accessFlags := 1537
  interfaces := #[]
  cf := some (fileOf pool4 2 #[] #[] 1537 4 #[] #[])
  fields := #[]
  methods := #[]
  instanceTypes := #[]
  staticTypes := #[]
  resolved := Array.replicate 8 none
  statics := none }

/-- the primitive boolean -/
def k5 : Class := { plain "boolean" none with kind := .primitive 'Z', accessFlags := 0x411 }
/-- [Z -/
def k6 : Class := { plain "[Z" (some 0) with kind := .array 5 .boolean, interfaces := #[3, 4], accessFlags := 1041 }

/-- the primitive byte -/
def k7 : Class := { plain "byte" none with kind := .primitive 'B', accessFlags := 0x411 }
/-- [B -/
def k8 : Class := { plain "[B" (some 0) with kind := .array 7 .byte, interfaces := #[3, 4], accessFlags := 1041 }

/-- the primitive int -/
def k9 : Class := { plain "int" none with kind := .primitive 'I', accessFlags := 0x411 }
/-- [I -/
def k10 : Class := { plain "[I" (some 0) with kind := .array 9 .int, interfaces := #[3, 4], accessFlags := 1041 }

def heap : Heap := #[]
def classes : Array Class := #[k0, k1, k2, k3, k4, k5, k6, k7, k8, k9, k10]
def interned : List (Array UInt16 × Addr) := []
def slotsUsed : Nat := 0
def theMethod : MethodId := ⟨1, 1⟩
def args0 : Array Value := #[.int 1, .int 1, .int 1, .int 1]
def aboutOver (below : List Frame) : State where
  vm := { classes := classes, interned := interned.toArray }
  heap := heap
  slotsUsed := slotsUsed
  threads := #[{ frames := .invoking theMethod args0 :: below }]
def below0 : List Frame := [.native { method := ⟨0, 0⟩, args := #[] }]
def about1 : State := aboutOver below0
def p0 : Program := .bare "" "" ""
def e0 : Env := launch0.env 0 0 0
theorem w_frames : about1.frames = Frame.invoking theMethod args0 :: below0 := rfl
set_option maxRecDepth 65536 in
theorem w_args : argsFit about1.vm theMethod args0 = true := by decide +kernel
set_option maxRecDepth 65536 in
theorem w_heap : heapFits about1 = true := by decide +kernel
set_option maxRecDepth 65536 in
theorem w_runnable : about1.curStatus? = some .runnable := by decide +kernel
set_option maxRecDepth 65536 in
theorem w_alone : about1.alone = true := by decide +kernel
set_option maxRecDepth 65536 in
theorem w_named : about1.methodNamed? x = some theMethod := by decide +kernel
set_option maxRecDepth 65536 in
theorem w_hears : about1.hears theMethod below0 = true := by decide +kernel
set_option maxRecDepth 65536 in
theorem w_ripe : about1.ripe theMethod args0 below0 = true := by decide +kernel
theorem w_running : about1.status = .running := rfl
set_option maxRecDepth 65536 in
theorem w_room : about1.hasRoom e0.platform room_1 = true :=
  launch0.hasRoom_least _ room_1 (by decide +kernel) (by decide +kernel) (by decide +kernel) (by decide +kernel) (by decide +kernel) (by decide +kernel)
theorem allAtoms_all (ts : List Jvm.Cond) (a : Array Jvm.Value) (st : Jvm.State) : (allAtoms ts).before a st = ts.all (fun c => c.before a st) := by
  induction ts with
  | nil => rfl
  | cons c t ih =>
    show (Jvm.Cond.and c (allAtoms t)).before a st = _
    rw [Jvm.Cond.before_and, ih, List.all_cons]
def words1 : List Jvm.Cond := Jvm.Cond.code x code maxLocals ret :: tables_1
/-- a 'code' word, met by the world's own term for the bytes: nothing is compared byte by byte -/
theorem code_word {y : MethodName} {bytes : ByteArray} {mx : Nat} {rt : Option FieldType} {a : Array Value} {s : State} {m : MethodId} {meth : Method} {c : Code} (h1 : s.methodNamed? y = some m) (h2 : s.vm.method? m = some meth) (h3 : meth.code = some c) (h4 : c.code = bytes)
    (h5 : (c.maxLocals == mx && c.exceptionTable.isEmpty && decide (c.maxStack ≤ mostOperands) && decide (meth.sig.returnType = rt) && !meth.locks && decide (parseMethodDescriptor y.desc = some meth.sig)) = true) : (Jvm.Cond.code y bytes mx rt).before a s = true := by
  simp only [Bool.and_eq_true, beq_iff_eq, Bool.not_eq_true', decide_eq_true_eq] at h5
  obtain ⟨⟨⟨⟨⟨g1, g2⟩, g3⟩, g4⟩, g5⟩, g6⟩ := h5
  simp [Cond.before, Cond.holds, Cond.value, h1, h2, h3, h4, g1, g2, g3, g4, g5, g6]
def isCode : Jvm.Cond → Bool
  | .code _ _ _ _ => true
  | _ => false
theorem all_split {L : List Jvm.Cond} {P : Jvm.Cond → Bool} (h1 : L.all (fun c => isCode c || P c) = true) (h2 : ∀ c ∈ L.filter isCode, P c = true) : L.all P = true := by
  refine List.all_eq_true.mpr fun c hc => ?_
  have h := List.all_eq_true.mp h1 c hc
  rcases Bool.eq_false_or_eq_true (isCode c) with hi | hi
  · exact h2 c (List.mem_filter.mpr ⟨hc, hi⟩)
  · simpa [hi] using h
set_option maxRecDepth 65536 in
theorem w_c0 : (Jvm.Cond.code x code maxLocals ret).before args0 about1 = true := code_word (m := ⟨1, 1⟩) (meth := k1m1) (c := k1c1) (by decide +kernel) rfl rfl rfl (by decide +kernel)
set_option maxRecDepth 65536 in
theorem w_c1 : (Jvm.Cond.code ({ cls := "FatPointerC", name := "<init>", desc := "(II)V" } : Jvm.MethodName) prog_1_method_1_code (5 : Nat) (Option.none : Option Jvm.ClassFile.FieldType)).before args0 about1 = true := code_word (m := ⟨2, 0⟩) (meth := k2m0) (c := k2c0) (by decide +kernel) rfl rfl rfl (by decide +kernel)
set_option maxRecDepth 65536 in
theorem w_c2 : (Jvm.Cond.code ({ cls := "java/lang/Object", name := "<init>", desc := "()V" } : Jvm.MethodName) object_method_1_code (1 : Nat) (Option.none : Option Jvm.ClassFile.FieldType)).before args0 about1 = true := code_word (m := ⟨0, 0⟩) (meth := k0m0) (c := k0c0) (by decide +kernel) rfl rfl rfl (by decide +kernel)
set_option maxRecDepth 65536 in
theorem w_c3 : (Jvm.Cond.code ({ cls := "FatPointerC", name := "clearResults", desc := "()V" } : Jvm.MethodName) prog_1_method_15_code (1 : Nat) (Option.none : Option Jvm.ClassFile.FieldType)).before args0 about1 = true := code_word (m := ⟨2, 5⟩) (meth := k2m5) (c := k2c5) (by decide +kernel) rfl rfl rfl (by decide +kernel)
set_option maxRecDepth 65536 in
theorem w_c4 : (Jvm.Cond.code ({ cls := "FatPointerC", name := "tok", desc := "(II)Z" } : Jvm.MethodName) prog_1_method_3_code (4 : Nat) (Option.some Jvm.ClassFile.FieldType.boolean)).before args0 about1 = true := code_word (m := ⟨2, 1⟩) (meth := k2m1) (c := k2c1) (by decide +kernel) rfl rfl rfl (by decide +kernel)
set_option maxRecDepth 65536 in
theorem w_c5 : (Jvm.Cond.code ({ cls := "FatPointerC", name := "compile", desc := "()Z" } : Jvm.MethodName) prog_1_method_5_code (1 : Nat) (Option.some Jvm.ClassFile.FieldType.boolean)).before args0 about1 = true := code_word (m := ⟨2, 3⟩) (meth := k2m3) (c := k2c3) (by decide +kernel) rfl rfl rfl (by decide +kernel)
set_option maxRecDepth 65536 in
theorem w_c6 : (Jvm.Cond.code ({ cls := "FatPointerC", name := "parseProgram", desc := "()Z" } : Jvm.MethodName) prog_1_method_18_code (2 : Nat) (Option.some Jvm.ClassFile.FieldType.boolean)).before args0 about1 = true := code_word (m := ⟨2, 8⟩) (meth := k2m8) (c := k2c8) (by decide +kernel) rfl rfl rfl (by decide +kernel)
set_option maxRecDepth 65536 in
theorem w_c7 : (Jvm.Cond.code ({ cls := "FatPointerC", name := "parseFunc", desc := "()V" } : Jvm.MethodName) prog_1_method_21_code (3 : Nat) (Option.none : Option Jvm.ClassFile.FieldType)).before args0 about1 = true := code_word (m := ⟨2, 11⟩) (meth := k2m11) (c := k2c11) (by decide +kernel) rfl rfl rfl (by decide +kernel)
set_option maxRecDepth 65536 in
theorem w_c8 : (Jvm.Cond.code ({ cls := "FatPointerC", name := "expect", desc := "(I)V" } : Jvm.MethodName) prog_1_method_20_code (2 : Nat) (Option.none : Option Jvm.ClassFile.FieldType)).before args0 about1 = true := code_word (m := ⟨2, 10⟩) (meth := k2m10) (c := k2c10) (by decide +kernel) rfl rfl rfl (by decide +kernel)
set_option maxRecDepth 65536 in
theorem w_c9 : (Jvm.Cond.code ({ cls := "FatPointerC", name := "kindAt", desc := "(I)I" } : Jvm.MethodName) prog_1_method_16_code (2 : Nat) (Option.some Jvm.ClassFile.FieldType.int)).before args0 about1 = true := code_word (m := ⟨2, 6⟩) (meth := k2m6) (c := k2c6) (by decide +kernel) rfl rfl rfl (by decide +kernel)
set_option maxRecDepth 65536 in
theorem w_c10 : (Jvm.Cond.code ({ cls := "FatPointerC", name := "valAt", desc := "(I)I" } : Jvm.MethodName) prog_1_method_17_code (2 : Nat) (Option.some Jvm.ClassFile.FieldType.int)).before args0 about1 = true := code_word (m := ⟨2, 7⟩) (meth := k2m7) (c := k2c7) (by decide +kernel) rfl rfl rfl (by decide +kernel)
set_option maxRecDepth 65536 in
theorem w_c11 : (Jvm.Cond.code ({ cls := "FatPointerC", name := "parseParams", desc := "()V" } : Jvm.MethodName) prog_1_method_22_code (2 : Nat) (Option.none : Option Jvm.ClassFile.FieldType)).before args0 about1 = true := code_word (m := ⟨2, 12⟩) (meth := k2m12) (c := k2c12) (by decide +kernel) rfl rfl rfl (by decide +kernel)
set_option maxRecDepth 65536 in
theorem w_c12 : (Jvm.Cond.code ({ cls := "FatPointerC", name := "parseDecls", desc := "()V" } : Jvm.MethodName) prog_1_method_23_code (5 : Nat) (Option.none : Option Jvm.ClassFile.FieldType)).before args0 about1 = true := code_word (m := ⟨2, 13⟩) (meth := k2m13) (c := k2c13) (by decide +kernel) rfl rfl rfl (by decide +kernel)
set_option maxRecDepth 65536 in
theorem w_c13 : (Jvm.Cond.code ({ cls := "FatPointerC", name := "parseBody", desc := "()V" } : Jvm.MethodName) prog_1_method_27_code (5 : Nat) (Option.none : Option Jvm.ClassFile.FieldType)).before args0 about1 = true := code_word (m := ⟨2, 14⟩) (meth := k2m14) (c := k2c14) (by decide +kernel) rfl rfl rfl (by decide +kernel)
set_option maxRecDepth 65536 in
theorem w_c14 : (Jvm.Cond.code ({ cls := "FatPointerC", name := "checkCalls", desc := "()Z" } : Jvm.MethodName) prog_1_method_19_code (4 : Nat) (Option.some Jvm.ClassFile.FieldType.boolean)).before args0 about1 = true := code_word (m := ⟨2, 9⟩) (meth := k2m9) (c := k2c9) (by decide +kernel) rfl rfl rfl (by decide +kernel)
set_option maxRecDepth 65536 in
theorem w_c15 : (Jvm.Cond.code ({ cls := "FatPointerC", name := "run", desc := "()I" } : Jvm.MethodName) prog_1_method_6_code (3 : Nat) (Option.some Jvm.ClassFile.FieldType.int)).before args0 about1 = true := code_word (m := ⟨2, 4⟩) (meth := k2m4) (c := k2c4) (by decide +kernel) rfl rfl rfl (by decide +kernel)
set_option maxRecDepth 65536 in
theorem w_c16 : (Jvm.Cond.code ({ cls := "FatPointerC", name := "tokenCount", desc := "()I" } : Jvm.MethodName) prog_1_method_4_code (1 : Nat) (Option.some Jvm.ClassFile.FieldType.int)).before args0 about1 = true := code_word (m := ⟨2, 2⟩) (meth := k2m2) (c := k2c2) (by decide +kernel) rfl rfl rfl (by decide +kernel)
set_option maxRecDepth 65536 in
theorem w_c17 : (Jvm.Cond.code ({ cls := "FatPointerC", name := "pushFrame", desc := "(III)V" } : Jvm.MethodName) prog_1_method_65_code (12 : Nat) (Option.none : Option Jvm.ClassFile.FieldType)).before args0 about1 = true := code_word (m := ⟨2, 17⟩) (meth := k2m17) (c := k2c17) (by decide +kernel) rfl rfl rfl (by decide +kernel)
set_option maxRecDepth 65536 in
theorem w_c18 : (Jvm.Cond.code ({ cls := "FatPointerC", name := "step", desc := "(I)I" } : Jvm.MethodName) prog_1_method_56_code (3 : Nat) (Option.some Jvm.ClassFile.FieldType.int)).before args0 about1 = true := code_word (m := ⟨2, 15⟩) (meth := k2m15) (c := k2c15) (by decide +kernel) rfl rfl rfl (by decide +kernel)
set_option maxRecDepth 65536 in
theorem w_c19 : (Jvm.Cond.code ({ cls := "FatPointerC", name := "execRbrace", desc := "(I)I" } : Jvm.MethodName) prog_1_method_63_code (3 : Nat) (Option.some Jvm.ClassFile.FieldType.int)).before args0 about1 = true := code_word (m := ⟨2, 16⟩) (meth := k2m16) (c := k2c16) (by decide +kernel) rfl rfl rfl (by decide +kernel)
set_option maxRecDepth 65536 in
theorem w_c20 : (Jvm.Cond.code ({ cls := "FatPointerC", name := "doReturn", desc := "(III)I" } : Jvm.MethodName) prog_1_method_66_code (7 : Nat) (Option.some Jvm.ClassFile.FieldType.int)).before args0 about1 = true := code_word (m := ⟨2, 18⟩) (meth := k2m18) (c := k2c18) (by decide +kernel) rfl rfl rfl (by decide +kernel)
def codes1 : List Jvm.Cond := [Jvm.Cond.code x code maxLocals ret, Jvm.Cond.code ({ cls := "FatPointerC", name := "<init>", desc := "(II)V" } : Jvm.MethodName) prog_1_method_1_code (5 : Nat) (Option.none : Option Jvm.ClassFile.FieldType), Jvm.Cond.code ({ cls := "java/lang/Object", name := "<init>", desc := "()V" } : Jvm.MethodName) object_method_1_code (1 : Nat) (Option.none : Option Jvm.ClassFile.FieldType), Jvm.Cond.code ({ cls := "FatPointerC", name := "clearResults", desc := "()V" } : Jvm.MethodName) prog_1_method_15_code (1 : Nat) (Option.none : Option Jvm.ClassFile.FieldType), Jvm.Cond.code ({ cls := "FatPointerC", name := "tok", desc := "(II)Z" } : Jvm.MethodName) prog_1_method_3_code (4 : Nat) (Option.some Jvm.ClassFile.FieldType.boolean), Jvm.Cond.code ({ cls := "FatPointerC", name := "compile", desc := "()Z" } : Jvm.MethodName) prog_1_method_5_code (1 : Nat) (Option.some Jvm.ClassFile.FieldType.boolean), Jvm.Cond.code ({ cls := "FatPointerC", name := "parseProgram", desc := "()Z" } : Jvm.MethodName) prog_1_method_18_code (2 : Nat) (Option.some Jvm.ClassFile.FieldType.boolean), Jvm.Cond.code ({ cls := "FatPointerC", name := "parseFunc", desc := "()V" } : Jvm.MethodName) prog_1_method_21_code (3 : Nat) (Option.none : Option Jvm.ClassFile.FieldType), Jvm.Cond.code ({ cls := "FatPointerC", name := "expect", desc := "(I)V" } : Jvm.MethodName) prog_1_method_20_code (2 : Nat) (Option.none : Option Jvm.ClassFile.FieldType), Jvm.Cond.code ({ cls := "FatPointerC", name := "kindAt", desc := "(I)I" } : Jvm.MethodName) prog_1_method_16_code (2 : Nat) (Option.some Jvm.ClassFile.FieldType.int), Jvm.Cond.code ({ cls := "FatPointerC", name := "valAt", desc := "(I)I" } : Jvm.MethodName) prog_1_method_17_code (2 : Nat) (Option.some Jvm.ClassFile.FieldType.int), Jvm.Cond.code ({ cls := "FatPointerC", name := "parseParams", desc := "()V" } : Jvm.MethodName) prog_1_method_22_code (2 : Nat) (Option.none : Option Jvm.ClassFile.FieldType), Jvm.Cond.code ({ cls := "FatPointerC", name := "parseDecls", desc := "()V" } : Jvm.MethodName) prog_1_method_23_code (5 : Nat) (Option.none : Option Jvm.ClassFile.FieldType), Jvm.Cond.code ({ cls := "FatPointerC", name := "parseBody", desc := "()V" } : Jvm.MethodName) prog_1_method_27_code (5 : Nat) (Option.none : Option Jvm.ClassFile.FieldType), Jvm.Cond.code ({ cls := "FatPointerC", name := "checkCalls", desc := "()Z" } : Jvm.MethodName) prog_1_method_19_code (4 : Nat) (Option.some Jvm.ClassFile.FieldType.boolean), Jvm.Cond.code ({ cls := "FatPointerC", name := "run", desc := "()I" } : Jvm.MethodName) prog_1_method_6_code (3 : Nat) (Option.some Jvm.ClassFile.FieldType.int), Jvm.Cond.code ({ cls := "FatPointerC", name := "tokenCount", desc := "()I" } : Jvm.MethodName) prog_1_method_4_code (1 : Nat) (Option.some Jvm.ClassFile.FieldType.int), Jvm.Cond.code ({ cls := "FatPointerC", name := "pushFrame", desc := "(III)V" } : Jvm.MethodName) prog_1_method_65_code (12 : Nat) (Option.none : Option Jvm.ClassFile.FieldType), Jvm.Cond.code ({ cls := "FatPointerC", name := "step", desc := "(I)I" } : Jvm.MethodName) prog_1_method_56_code (3 : Nat) (Option.some Jvm.ClassFile.FieldType.int), Jvm.Cond.code ({ cls := "FatPointerC", name := "execRbrace", desc := "(I)I" } : Jvm.MethodName) prog_1_method_63_code (3 : Nat) (Option.some Jvm.ClassFile.FieldType.int), Jvm.Cond.code ({ cls := "FatPointerC", name := "doReturn", desc := "(III)I" } : Jvm.MethodName) prog_1_method_66_code (7 : Nat) (Option.some Jvm.ClassFile.FieldType.int)]
set_option maxRecDepth 65536 in
theorem codes_eq : words1.filter isCode = codes1 := rfl
theorem w_codes : ∀ c ∈ words1.filter isCode, c.before args0 about1 = true := by
  rw [codes_eq]
  intro c hc
  simp only [codes1, List.mem_cons, List.not_mem_nil, or_false] at hc
  rcases hc with rfl | rfl | rfl | rfl | rfl | rfl | rfl | rfl | rfl | rfl | rfl | rfl | rfl | rfl | rfl | rfl | rfl | rfl | rfl | rfl | rfl
  · exact w_c0
  · exact w_c1
  · exact w_c2
  · exact w_c3
  · exact w_c4
  · exact w_c5
  · exact w_c6
  · exact w_c7
  · exact w_c8
  · exact w_c9
  · exact w_c10
  · exact w_c11
  · exact w_c12
  · exact w_c13
  · exact w_c14
  · exact w_c15
  · exact w_c16
  · exact w_c17
  · exact w_c18
  · exact w_c19
  · exact w_c20
set_option maxRecDepth 65536 in
theorem w_t1 : (words1.take 24).all (fun c => isCode c || c.before args0 about1) = true := by decide +kernel
set_option maxRecDepth 65536 in
theorem w_t2 : ((words1.drop 24).take 24).all (fun c => isCode c || c.before args0 about1) = true := by decide +kernel
set_option maxRecDepth 65536 in
theorem w_t3 : (((words1.drop 24).drop 24).take 24).all (fun c => isCode c || c.before args0 about1) = true := by decide +kernel
set_option maxRecDepth 65536 in
theorem w_t4 : ((((words1.drop 24).drop 24).drop 24).take 24).all (fun c => isCode c || c.before args0 about1) = true := by decide +kernel
set_option maxRecDepth 65536 in
theorem w_t5 : (((((words1.drop 24).drop 24).drop 24).drop 24).take 24).all (fun c => isCode c || c.before args0 about1) = true := by decide +kernel
set_option maxRecDepth 65536 in
theorem w_t6 : ((((((words1.drop 24).drop 24).drop 24).drop 24).drop 24).take 24).all (fun c => isCode c || c.before args0 about1) = true := by decide +kernel
set_option maxRecDepth 65536 in
theorem w_t7 : (((((((words1.drop 24).drop 24).drop 24).drop 24).drop 24).drop 24).take 24).all (fun c => isCode c || c.before args0 about1) = true := by decide +kernel
set_option maxRecDepth 65536 in
theorem w_t8 : ((((((((words1.drop 24).drop 24).drop 24).drop 24).drop 24).drop 24).drop 24).take 24).all (fun c => isCode c || c.before args0 about1) = true := by decide +kernel
set_option maxRecDepth 65536 in
theorem w_t9 : ((((((((words1.drop 24).drop 24).drop 24).drop 24).drop 24).drop 24).drop 24).drop 24).all (fun c => isCode c || c.before args0 about1) = true := by decide +kernel
theorem w_tables : (allAtoms (Jvm.Cond.code x code maxLocals ret :: tables_1)).before args0 about1 = true := by
  rw [allAtoms_all]
  show words1.all (fun c => c.before args0 about1) = true
  refine all_split ?_ w_codes
  rw [← List.take_append_drop 24 words1, List.all_append, w_t1, ← List.take_append_drop 24 (words1.drop 24), List.all_append, w_t2, ← List.take_append_drop 24 ((words1.drop 24).drop 24), List.all_append, w_t3, ← List.take_append_drop 24 (((words1.drop 24).drop 24).drop 24), List.all_append, w_t4, ← List.take_append_drop 24 ((((words1.drop 24).drop 24).drop 24).drop 24), List.all_append, w_t5, ← List.take_append_drop 24 (((((words1.drop 24).drop 24).drop 24).drop 24).drop 24), List.all_append, w_t6, ← List.take_append_drop 24 ((((((words1.drop 24).drop 24).drop 24).drop 24).drop 24).drop 24), List.all_append, w_t7, ← List.take_append_drop 24 (((((((words1.drop 24).drop 24).drop 24).drop 24).drop 24).drop 24).drop 24), List.all_append, w_t8, w_t9]
  rfl
set_option maxRecDepth 65536 in
theorem w_case : (Jvm.Cond.and given_1 narrow_1).before args0 about1 = true := by decide +kernel
theorem w_applies : (headSpec (Jvm.Cond.code x code maxLocals ret :: tables_1) room_1).applies x e0.platform about1 = true :=
  (Spec.applies_iff w_frames).mpr ⟨w_running, w_runnable, w_alone, w_named, w_hears, w_ripe, w_room, w_tables⟩
theorem atStart : AtStart classFile x code maxLocals ret World_1 tables_1 room_1 Calls_1 rest_1 Pre_1 launch0 p0 e0 about1 theMethod args0 below0 :=
  ⟨lists_1, trivial, launch0.admits_env _ _ _, launch0.least_env, fairChoices_fair.cas, fairChoices_fair.clock, w_frames, w_args, w_heap, w_applies, trivial, trivial, w_case⟩
end start1
theorem witness_1 : WitnessClaimed_1 := ⟨start1.p0, start1.e0, start1.about1, start1.theMethod, start1.args0, start1.below0, start1.atStart⟩
end Jvm.Pilot.@@N@@
